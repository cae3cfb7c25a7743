import PyProof.Rows.All
import Wide.All
import OpenK.AllK
import Wide.FinOn
import HandS.ForMost
import HandS.ForExc
import KE.DataEq
import HandS.Wide
import HandS.TupAny
import HandS.TupMul
import HandS.Text
import HandS.Flow
import HandS.Style
import KE.GoesMore
import KE.GoesEnum
import HandS.Walk
import HandS.More
import HandS.WordsExc
import HandS.Defaults
import HandS.MakeKwOnly
import HandS.Comp
import HandS.IsInst
import HandS.RaiseMore
import HandS.Small
import HandS.StrMore
import HandS.SetFor
import HandS.Replace
import HandS.Steps
import KE.KCallOwn
import OpenK.KMeth
import OpenK.KOps
import HandS.ExcInit
import HandS.ExcField
import HandS.TryOnly
import HandS.GenList
import HandS.GenYield
import PyProof.GenComp
import HandS.Words
import PySem.Challenge.RW_lastrooms_k10_levels_and_rows
set_option Elab.async false
set_option linter.all false
set_option maxRecDepth 100000
set_option maxHeartbeats 4000000
/-! HD, part 1: data, what a value stands for, frames of data, the judgements. -/
namespace HD
open PySem PySem.Spec PyProof.Rows L2

abbrev Hep := Hp
def Ex (H H' : Hp) : Prop := ∀ a o, H a = some o → H' a = some o
theorem Ex.refl (H : Hp) : Ex H H := fun _ _ h => h
theorem Ex.trans {H H1 H2 : Hp} (a : Ex H H1) (b : Ex H1 H2) : Ex H H2 := fun x o h => b x o (a x o h)
theorem Ex.new {H : Hp} {p : Addr} {o : HO} (h : H p = none) : Ex H (upd H p o) := fun a u e => by
  rw [upd_ne (ne_of_none e h)]; exact e
theorem Ex.rd {H H' : Hp} {a : Addr} {u : HO} (e : Ex H H') (h : Rd H a u) : Rd H' a u := by
  rcases h with h | ⟨o, h⟩
  · exact .inl (e a _ h)
  · exact .inr ⟨o, e a _ h⟩
theorem Ex.sqL {K : PySem.W.Frag} {H H' : Hp} {a : Addr} {xs : List V} (e : Ex H H') (h : SqL K H a xs) : SqL K H' a xs := h.imp e.rd id
theorem Ex.sqT {K : PySem.W.Frag} {H H' : Hp} {a : Addr} {xs : List V} (e : Ex H H') (h : SqT K H a xs) : SqT K H' a xs := h.imp e.rd id
theorem Ex.none {H H' : Hp} {a : Addr} (e : Ex H H') (h : H' a = Option.none) : H a = Option.none := by
  cases q : H a with
  | none => rfl
  | some o => rw [e a o q] at h; cases h

/-- deep data -/
inductive D where
  | non | bl (b : Bool) | int (i : Int) | str (s : Str)
  | tup (xs : List D) | lst (xs : List D)
  | scr (ns : List Int)
  | dct (ks : List Key) (vs : List D)
  | ins (c : Str) (ns : List Str) (vs : List D)
  /-- a caught exception: its address, class, dict; its class's name and fields -/
  | exn (a : Addr) (cls : Value) (dx : Addr) (c : Str) (ns : List Str) (vs : List D)

section
variable (K : PySem.W.Frag) (mg : Str → Option Value)
mutual
/-- the value stands for the data, in the heap S -/
def Rep (S : Hp) : D → V → Prop
  | .non, v => v = .non
  | .bl b, v => v = .bl b
  | .int i, v => v = .int i
  | .str s, v => v = .str s
  | .tup ds, v => ∃ a vs, v = .ref a ∧ SqT K S a vs ∧ Reps S ds vs
  | .lst ds, v => ∃ a vs, v = .ref a ∧ S a = some (.lst vs) ∧ Reps S ds vs
  | .scr ns, v => ∃ a, v = .ref a ∧ SqL K S a (ns.map V.int)
  | .dct ks ds, v => ∃ a vs, v = .ref a ∧ ks.length = vs.length ∧ S a = some (.dK (ks.zip vs)) ∧ Reps S ds vs
  | .ins c ns ds, v => ∃ a C dx vs, v = .ref a ∧ mg c = some (.ref C) ∧ ns.length = vs.length ∧ S a = some (.ins C dx (ns.zip vs)) ∧ Reps S ds vs
  | .exn a cls dx c ns ds, v => v = .ref a ∧ mg c = some cls ∧ ∃ vs, ns.length = vs.length ∧ S dx = some (.xd (ns.zip vs)) ∧ Reps S ds vs
def Reps (S : Hp) : List D → List V → Prop
  | [], vs => vs = []
  | d :: ds, vs => ∃ v r, vs = v :: r ∧ Rep S d v ∧ Reps S ds r
end
end

section
variable {K : PySem.W.Frag} {mg : Str → Option Value} {S S' H H' : Hp}
mutual
theorem Rep.mono (e : Ex S S') : ∀ (d : D) (v : V), Rep K mg S d v → Rep K mg S' d v
  | .non, _, h => h
  | .bl _, _, h => h
  | .int _, _, h => h
  | .str _, _, h => h
  | .tup ds, _, h => by
    unfold Rep at h ⊢
    obtain ⟨a, vs, e1, h1, h2⟩ := h
    exact ⟨a, vs, e1, e.sqT h1, Reps.mono e ds vs h2⟩
  | .lst ds, _, h => by
    unfold Rep at h ⊢
    obtain ⟨a, vs, e1, h1, h2⟩ := h
    exact ⟨a, vs, e1, e a _ h1, Reps.mono e ds vs h2⟩
  | .scr ns, _, h => by
    unfold Rep at h ⊢
    obtain ⟨a, e1, h1⟩ := h
    exact ⟨a, e1, e.sqL h1⟩
  | .dct ks ds, _, h => by
    unfold Rep at h ⊢
    obtain ⟨a, vs, e1, l, h1, h2⟩ := h
    exact ⟨a, vs, e1, l, e a _ h1, Reps.mono e ds vs h2⟩
  | .ins c ns ds, _, h => by
    unfold Rep at h ⊢
    obtain ⟨a, C, dx, vs, e1, m, l, h1, h2⟩ := h
    exact ⟨a, C, dx, vs, e1, m, l, e a _ h1, Reps.mono e ds vs h2⟩
  | .exn a cls dx c ns ds, _, h => by
    unfold Rep at h ⊢
    obtain ⟨e1, m, vs, l, h1, h2⟩ := h
    exact ⟨e1, m, vs, l, e dx _ h1, Reps.mono e ds vs h2⟩
theorem Reps.mono (e : Ex S S') : ∀ (ds : List D) (vs : List V), Reps K mg S ds vs → Reps K mg S' ds vs
  | [], _, h => h
  | d :: ds, _, h => by
    unfold Reps at h ⊢
    obtain ⟨v, r, e1, h1, h2⟩ := h
    exact ⟨v, r, e1, Rep.mono e d v h1, Reps.mono e ds r h2⟩
end
theorem Reps.nil : Reps K mg S [] [] := by unfold Reps; rfl
theorem Reps.cons {d : D} {v : V} {ds : List D} {vs : List V} (h : Rep K mg S d v) (t : Reps K mg S ds vs) : Reps K mg S (d :: ds) (v :: vs) := by
  unfold Reps; exact ⟨v, vs, rfl, h, t⟩
theorem Reps.cons_of {d : D} {ds : List D} {vs : List V} (h : Reps K mg S (d :: ds) vs) : ∃ v r, vs = v :: r ∧ Rep K mg S d v ∧ Reps K mg S ds r := by
  unfold Reps at h; exact h
theorem Reps.nil_of {vs : List V} (h : Reps K mg S [] vs) : vs = [] := by unfold Reps at h; exact h
theorem Reps.len : ∀ {ds : List D} {vs : List V}, Reps K mg S ds vs → ds.length = vs.length
  | [], _, h => by cases h.nil_of; rfl
  | d :: ds, _, h => by
    obtain ⟨v, r, rfl, _, t⟩ := h.cons_of
    simp [t.len]
theorem Reps.app : ∀ {ds es : List D} {vs ws : List V}, Reps K mg S ds vs → Reps K mg S es ws → Reps K mg S (ds ++ es) (vs ++ ws)
  | [], _, _, _, h, t => by cases h.nil_of; exact t
  | d :: ds, _, _, _, h, t => by
    obtain ⟨v, r, rfl, h1, h2⟩ := h.cons_of
    exact Reps.cons h1 (Reps.app h2 t)
theorem Reps.get : ∀ {ds : List D} {vs : List V} {i : Nat} {d : D}, Reps K mg S ds vs → ds[i]? = some d → ∃ v, vs[i]? = some v ∧ Rep K mg S d v
  | [], _, _, _, _, e => by simp at e
  | d :: ds, _, 0, _, h, e => by
    obtain ⟨v, r, rfl, h1, _⟩ := h.cons_of
    simp at e; subst e
    exact ⟨v, rfl, h1⟩
  | d :: ds, _, i + 1, _, h, e => by
    obtain ⟨v, r, rfl, _, h2⟩ := h.cons_of
    simpa using Reps.get (i := i) h2 (by simpa using e)
theorem Reps.get' : ∀ {ds : List D} {vs : List V} {i : Nat} {v : V}, Reps K mg S ds vs → vs[i]? = some v → ∃ d, ds[i]? = some d ∧ Rep K mg S d v
  | [], _, _, _, h, e => by cases h.nil_of; simp at e
  | d :: ds, _, 0, _, h, e => by
    obtain ⟨v, r, rfl, h1, _⟩ := h.cons_of
    simp at e; subst e
    exact ⟨d, rfl, h1⟩
  | d :: ds, _, i + 1, _, h, e => by
    obtain ⟨v, r, rfl, _, h2⟩ := h.cons_of
    simpa using Reps.get' (i := i) h2 (by simpa using e)
theorem Reps.take : ∀ {ds : List D} {vs : List V} (n : Nat), Reps K mg S ds vs → Reps K mg S (ds.take n) (vs.take n)
  | _, _, 0, _ => by simpa using Reps.nil
  | [], _, _ + 1, h => by cases h.nil_of; simpa using Reps.nil
  | d :: ds, _, n + 1, h => by
    obtain ⟨v, r, rfl, h1, h2⟩ := h.cons_of
    exact Reps.cons h1 (Reps.take n h2)
theorem Reps.drop : ∀ {ds : List D} {vs : List V} (n : Nat), Reps K mg S ds vs → Reps K mg S (ds.drop n) (vs.drop n)
  | _, _, 0, h => h
  | [], _, _ + 1, h => by cases h.nil_of; simpa using Reps.nil
  | d :: ds, _, n + 1, h => by
    obtain ⟨v, r, rfl, _, h2⟩ := h.cons_of
    exact Reps.drop n h2
theorem Reps.set {d : D} {v : V} (hd : Rep K mg S d v) : ∀ {ds : List D} {vs : List V} (i : Nat), Reps K mg S ds vs → Reps K mg S (ds.set i d) (vs.set i v)
  | [], _, _, h => by cases h.nil_of; exact Reps.nil
  | e :: ds, _, 0, h => by
    obtain ⟨w, r, rfl, _, h2⟩ := h.cons_of
    exact Reps.cons hd h2
  | e :: ds, _, i + 1, h => by
    obtain ⟨w, r, rfl, h1, h2⟩ := h.cons_of
    exact Reps.cons h1 (Reps.set hd i h2)
theorem Reps.erase : ∀ {ds : List D} {vs : List V} (i : Nat), Reps K mg S ds vs → Reps K mg S (ds.eraseIdx i) (vs.eraseIdx i)
  | [], _, _, h => by cases h.nil_of; exact Reps.nil
  | e :: ds, _, 0, h => by
    obtain ⟨w, r, rfl, _, h2⟩ := h.cons_of
    exact h2
  | e :: ds, _, i + 1, h => by
    obtain ⟨w, r, rfl, h1, h2⟩ := h.cons_of
    exact Reps.cons h1 (Reps.erase i h2)
theorem Reps.rev {ds : List D} {vs : List V} (h : Reps K mg S ds vs) : Reps K mg S ds.reverse vs.reverse := by
  induction ds generalizing vs with
  | nil => cases h.nil_of; exact Reps.nil
  | cons d ds ih =>
    obtain ⟨v, r, rfl, h1, h2⟩ := h.cons_of
    rw [List.reverse_cons, List.reverse_cons]
    exact (ih h2).app (Reps.cons h1 Reps.nil)
theorem Reps.ints : ∀ (ns : List Int), Reps K mg S (ns.map D.int) (ns.map V.int)
  | [] => Reps.nil
  | n :: ns => Reps.cons (by unfold Rep; rfl) (Reps.ints ns)
theorem Reps.ints_of : ∀ {ns : List Int} {vs : List V}, Reps K mg S (ns.map D.int) vs → vs = ns.map V.int
  | [], _, h => h.nil_of
  | n :: ns, _, h => by
    obtain ⟨v, r, rfl, h1, h2⟩ := Reps.cons_of (d := D.int n) (ds := ns.map D.int) h
    unfold Rep at h1
    rw [h1, Reps.ints_of h2]; rfl
end

/-- what is still changed -/
inductive Cel where
  | lst (xs : List D)
  | dct (ks : List Key) (vs : List D)
  | ins (c : Str) (ns : List Str) (vs : List D)
  | gone (d : D)
def Cel.toD : Cel → D
  | .lst xs => .lst xs
  | .dct ks vs => .dct ks vs
  | .ins c ns vs => .ins c ns vs
  | .gone d => d
def Cel.own : Cel → Bool
  | .gone _ => false
  | _ => true

/-- what a slot holds: data, a thing of its own, the k-th argument -/
inductive Sv where
  | sh (d : D) | own (c : Cel) | ar (k : Nat)
/-- a frame -/
structure Fr where
  sl : List (Option Sv)
  ar : List Cel
/-- what an expression gives: data, a new thing, the thing of a slot, of an argument -/
inductive Ev where
  | sh (d : D) | tmp (c : Cel) | sl (i : Nat) | ar (k : Nat)

/-- a place of a thing -/
abbrev Pl := Sum Nat Nat
def celOf : Option (Option Sv) → Option Cel
  | some (some (.own c)) => some c
  | _ => none
def Fr.at (F : Fr) : Pl → Option Cel
  | .inl i => celOf F.sl[i]?
  | .inr k => F.ar[k]?
def Cel.sv : Cel → Sv
  | .gone d => .sh d
  | .lst xs => .own (.lst xs)
  | .dct ks vs => .own (.dct ks vs)
  | .ins c ns vs => .own (.ins c ns vs)
def Fr.put (F : Fr) (c : Cel) : Pl → Fr
  | .inl i => { F with sl := F.sl.set i (some c.sv) }
  | .inr k => { F with ar := F.ar.set k c }
/-- the value at a place -/
def vOf : Option (Option V) → Option V
  | some (some v) => some v
  | _ => none
def vAt (σ : L2.St) (av : List V) : Pl → Option V
  | .inl i => vOf σ[i]?
  | .inr k => av[k]?

section
variable (K : PySem.W.Frag) (mg : Str → Option Value)
/-- the object o is the thing, its parts in S -/
def ObjIs (S : Hp) (o : HO) : Cel → Prop
  | .lst ds => ∃ vs, o = .lst vs ∧ Reps K mg S ds vs
  | .dct ks ds => ∃ vs, ks.length = vs.length ∧ o = .dK (ks.zip vs) ∧ Reps K mg S ds vs
  | .ins c ns ds => ∃ C dx vs, mg c = some (.ref C) ∧ ns.length = vs.length ∧ o = .ins C dx (ns.zip vs) ∧ Reps K mg S ds vs
  | .gone _ => False
/-- the object at a is the thing -/
def CelAt (S P H : Hp) (a : Addr) (c : Cel) : Prop := S a = none ∧ P a = none ∧ ∃ o, H a = some o ∧ ObjIs K mg S o c
/-- the value is the thing (or, gone, stands for the data) -/
def CelOk (S P H : Hp) (v : V) : Cel → Prop
  | .gone d => Rep K mg S d v
  | c => ∃ a, v = .ref a ∧ CelAt K mg S P H a c
structure Rel (S P : Hp) (av : List V) (F : Fr) (σ : L2.St) (H : Hp) : Prop where
  sH : Ex S H
  pH : Ex P H
  sp : ∀ a o, S a = some o → P a = none
  alen : av.length = F.ar.length
  slen : F.sl.length = σ.length
  slo : ∀ (i : Nat) (s : Sv), F.sl[i]? = some (some s) → ∃ v, σ[i]? = some (some v) ∧ (∀ d, s = Sv.sh d → Rep K mg S d v) ∧ (∀ k, s = Sv.ar k → av[k]? = some v) ∧ (∀ c : Cel, s = Sv.own c → c.own = true)
  cel : ∀ (p : Pl) (c : Cel), F.at p = some c → ∃ v, vAt σ av p = some v ∧ CelOk K mg S P H v c
  apart : ∀ (p q : Pl) (c e : Cel) (v : V), F.at p = some c → c.own = true → F.at q = some e → e.own = true → vAt σ av p = some v → vAt σ av q = some v → p = q
/-- a is no thing's address -/
def Free (av : List V) (F : Fr) (σ : L2.St) (a : Addr) : Prop := ∀ (p : Pl) (e : Cel), F.at p = some e → e.own = true → vAt σ av p ≠ some (.ref a)
/-- an expression's value -/
def EvOk (S P : Hp) (av : List V) (F : Fr) (σ : L2.St) (H : Hp) (v : V) : Ev → Prop
  | .sh d => Rep K mg S d v
  | .tmp c => ∃ a, v = .ref a ∧ CelAt K mg S P H a c ∧ Free av F σ a
  | .sl i => σ[i]? = some (some v)
  | .ar k => av[k]? = some v
/-- the top in the heap, the parts in S -/
def RepT (S H : Hp) : D → V → Prop
  | .lst ds, v => ∃ a vs, v = .ref a ∧ H a = some (.lst vs) ∧ Reps K mg S ds vs
  | .dct ks ds, v => ∃ a vs, v = .ref a ∧ ks.length = vs.length ∧ H a = some (.dK (ks.zip vs)) ∧ Reps K mg S ds vs
  | .ins c ns ds, v => ∃ a C dx vs, v = .ref a ∧ mg c = some (.ref C) ∧ ns.length = vs.length ∧ H a = some (.ins C dx (ns.zip vs)) ∧ Reps K mg S ds vs
  | d, v => Rep K mg S d v
end

def slK : Option (Option Sv) → (D → Prop) → Prop
  | some (some (.sh d)), k => k d
  | some (some (.own c)), k => k c.toD
  | _, _ => False
def arK : Option Cel → (D → Prop) → Prop
  | some c, k => k c.toD
  | none, _ => False
def valK (F : Fr) : Ev → (D → Prop) → Prop
  | .sh d, k => k d
  | .tmp c, k => k c.toD
  | .sl i, k => slK F.sl[i]? k
  | .ar j, k => arK F.ar[j]? k
theorem slK_of {o : Option (Option Sv)} {k : D → Prop} (h : slK o k) : (∃ d, o = some (some (.sh d)) ∧ k d) ∨ ∃ c, o = some (some (.own c)) ∧ k c.toD := by
  match o, h with
  | some (some (.sh d)), h => exact .inl ⟨d, rfl, h⟩
  | some (some (.own c)), h => exact .inr ⟨c, rfl, h⟩
theorem arK_of {o : Option Cel} {k : D → Prop} (h : arK o k) : ∃ c, o = some c ∧ k c.toD := by
  match o, h with
  | some c, h => exact ⟨c, rfl, h⟩

section
variable {K : PySem.W.Frag} {mg : Str → Option Value} {S S' P H H' : Hp} {av : List V} {F : Fr} {σ : L2.St} {a : Addr} {c : Cel} {v : V} {d : D}
theorem Rep.top (e : Ex S H) : ∀ {d : D} {v : V}, Rep K mg S d v → RepT K mg S H d v
  | .non, _, h => h
  | .bl _, _, h => h
  | .int _, _, h => h
  | .str _, _, h => h
  | .tup _, _, h => h
  | .scr _, _, h => h
  | .exn .., _, h => h
  | .lst ds, _, h => by
    unfold Rep at h
    obtain ⟨a, vs, e1, h1, h2⟩ := h
    exact ⟨a, vs, e1, e a _ h1, h2⟩
  | .dct ks ds, _, h => by
    unfold Rep at h
    obtain ⟨a, vs, e1, l, h1, h2⟩ := h
    exact ⟨a, vs, e1, l, e a _ h1, h2⟩
  | .ins c ns ds, _, h => by
    unfold Rep at h
    obtain ⟨a, C, dx, vs, e1, m, l, h1, h2⟩ := h
    exact ⟨a, C, dx, vs, e1, m, l, e a _ h1, h2⟩
theorem ObjIs.mono (e : Ex S S') {o : HO} : ∀ {c : Cel}, ObjIs K mg S o c → ObjIs K mg S' o c
  | .lst ds, ⟨vs, h1, h2⟩ => ⟨vs, h1, Reps.mono e _ _ h2⟩
  | .dct ks ds, ⟨vs, l, h1, h2⟩ => ⟨vs, l, h1, Reps.mono e _ _ h2⟩
  | .ins c ns ds, ⟨C, dx, vs, m, l, h1, h2⟩ => ⟨C, dx, vs, m, l, h1, Reps.mono e _ _ h2⟩
/-- it is a thing, and in the heap it is its data -/
theorem ObjIs.top {o : HO} (ha : H a = some o) : ∀ {c : Cel}, ObjIs K mg S o c → RepT K mg S H c.toD (.ref a)
  | .lst ds, ⟨vs, h1, h2⟩ => ⟨a, vs, rfl, h1 ▸ ha, h2⟩
  | .dct ks ds, ⟨vs, l, h1, h2⟩ => ⟨a, vs, rfl, l, h1 ▸ ha, h2⟩
  | .ins c ns ds, ⟨C, dx, vs, m, l, h1, h2⟩ => ⟨a, C, dx, vs, rfl, m, l, h1 ▸ ha, h2⟩
theorem ObjIs.rep {o : HO} (ha : S a = some o) : ∀ {c : Cel}, ObjIs K mg S o c → Rep K mg S c.toD (.ref a)
  | .lst ds, ⟨vs, h1, h2⟩ => by show Rep K mg S (.lst ds) _; unfold Rep; exact ⟨a, vs, rfl, h1 ▸ ha, h2⟩
  | .dct ks ds, ⟨vs, l, h1, h2⟩ => by show Rep K mg S (.dct ks ds) _; unfold Rep; exact ⟨a, vs, rfl, l, h1 ▸ ha, h2⟩
  | .ins c ns ds, ⟨C, dx, vs, m, l, h1, h2⟩ => by show Rep K mg S (.ins c ns ds) _; unfold Rep; exact ⟨a, C, dx, vs, rfl, m, l, h1 ▸ ha, h2⟩
theorem ObjIs.own {o : HO} : ∀ {c : Cel}, ObjIs K mg S o c → c.own = true
  | .lst ds, _ => rfl
  | .dct ks ds, _ => rfl
  | .ins c ns ds, _ => rfl
theorem ObjIs.mut {o : HO} : ∀ {c : Cel}, ObjIs K mg S o c → Mut (some o)
  | .lst ds, ⟨vs, h1, h2⟩ => by rw [h1]; trivial
  | .dct ks ds, ⟨vs, l, h1, h2⟩ => by rw [h1]; trivial
  | .ins c ns ds, ⟨C, dx, vs, m, l, h1, h2⟩ => by rw [h1]; trivial
theorem CelOk.of_own : ∀ {c : Cel}, CelOk K mg S P H v c → c.own = true → ∃ a, v = .ref a ∧ CelAt K mg S P H a c
  | .lst ds, h, _ => h
  | .dct ks ds, h, _ => h
  | .ins c ns ds, h, _ => h
theorem CelOk.to_own : ∀ {c : Cel}, CelAt K mg S P H a c → CelOk K mg S P H (.ref a) c
  | .lst ds, h => ⟨a, rfl, h⟩
  | .dct ks ds, h => ⟨a, rfl, h⟩
  | .ins c ns ds, h => ⟨a, rfl, h⟩
  | .gone d, h => by obtain ⟨_, _, o, _, z⟩ := h; exact z.elim
theorem CelOk.top (e : Ex S H) : ∀ {c : Cel}, CelOk K mg S P H v c → RepT K mg S H c.toD v
  | .gone d, h => Rep.top e h
  | .lst ds, h => by obtain ⟨a, rfl, _, _, o, h1, h2⟩ := h; exact h2.top h1
  | .dct ks ds, h => by obtain ⟨a, rfl, _, _, o, h1, h2⟩ := h; exact h2.top h1
  | .ins c ns ds, h => by obtain ⟨a, rfl, _, _, o, h1, h2⟩ := h; exact h2.top h1

/-- what is at an own place -/
theorem Rel.ownAt (R : Rel K mg S P av F σ H) {p : Pl} (h : F.at p = some c) (o : c.own = true) : ∃ a, vAt σ av p = some (.ref a) ∧ CelAt K mg S P H a c := by
  obtain ⟨v, h1, h2⟩ := R.cel p c h
  obtain ⟨a, rfl, h3⟩ := h2.of_own o
  exact ⟨a, h1, h3⟩
/-- what the heap does not know yet is free -/
theorem Rel.free (R : Rel K mg S P av F σ H) (h : H a = none) : Free av F σ a := fun p e he o hv => by
  obtain ⟨b, h1, _, _, u, h2, _⟩ := R.ownAt he o
  rw [hv] at h1
  cases h1
  rw [h] at h2; cases h2
theorem Rel.sNone (R : Rel K mg S P av F σ H) (h : H a = none) : S a = none := R.sH.none h
theorem Rel.pNone (R : Rel K mg S P av F σ H) (h : H a = none) : P a = none := R.pH.none h

/-- S grows -/
theorem Rel.grow (R : Rel K mg S P av F σ H) (e : Ex S S') (eH : Ex S' H) (sp : ∀ a o, S' a = some o → P a = none) (fr : ∀ a o, S' a = some o → S a = none → Free av F σ a) : Rel K mg S' P av F σ H where
  sH := eH
  pH := R.pH
  sp := sp
  alen := R.alen
  slen := R.slen
  slo := fun i s h => by
    obtain ⟨v, h1, h2, h3⟩ := R.slo i s h
    exact ⟨v, h1, fun d hd => Rep.mono e _ _ (h2 d hd), h3⟩
  cel := fun p c h => by
    obtain ⟨v, h1, h2⟩ := R.cel p c h
    refine ⟨v, h1, ?_⟩
    cases hc : c.own with
    | true =>
      obtain ⟨a, rfl, s0, p0, o, h3, h4⟩ := h2.of_own hc
      refine CelOk.to_own ⟨?_, p0, o, h3, h4.mono e⟩
      cases q : S' a with
      | none => rfl
      | some u => exact absurd h1 (fr a u q s0 p c h hc)
    | false =>
      cases c with
      | gone d => exact Rep.mono e _ _ h2
      | _ => cases hc
  apart := R.apart
/-- the heap changes beside what is known -/
theorem Rel.heap (R : Rel K mg S P av F σ H) (eS : Ex S H') (eP : Ex P H') (own : ∀ (p : Pl) (c : Cel) (a : Addr) (o : HO), F.at p = some c → c.own = true → vAt σ av p = some (.ref a) → H a = some o → H' a = some o) : Rel K mg S P av F σ H' where
  sH := eS
  pH := eP
  sp := R.sp
  alen := R.alen
  slen := R.slen
  slo := R.slo
  cel := fun p c h => by
    obtain ⟨v, h1, h2⟩ := R.cel p c h
    refine ⟨v, h1, ?_⟩
    cases hc : c.own with
    | true =>
      obtain ⟨a, rfl, s0, p0, o, h3, h4⟩ := h2.of_own hc
      exact CelOk.to_own ⟨s0, p0, o, own p c a o h hc h1 h3, h4⟩
    | false =>
      cases c with
      | gone d => exact h2
      | _ => cases hc
  apart := R.apart
theorem Rel.ex (R : Rel K mg S P av F σ H) (e : Ex H H') : Rel K mg S P av F σ H' :=
  R.heap (R.sH.trans e) (R.pH.trans e) fun _ _ a o _ _ _ h => e a o h
theorem Rel.fresh (R : Rel K mg S P av F σ H) {p : Addr} {o : HO} (h : H p = none) : Rel K mg S P av F σ (upd H p o) := R.ex (Ex.new h)
/-- a new thing -/
theorem Rel.tmp (R : Rel K mg S P av F σ H) {p : Addr} {o : HO} (h : H p = none) (ho : ObjIs K mg S o c) : EvOk K mg S P av F σ (upd H p o) (.ref p) (.tmp c) :=
  ⟨p, rfl, ⟨R.sNone h, R.pNone h, o, upd_same, ho⟩, R.free h⟩
/-- a free object is known from now on -/
theorem Rel.know (R : Rel K mg S P av F σ H) {o : HO} (s0 : S a = none) (p0 : P a = none) (ha : H a = some o) (fr : Free av F σ a) : Ex S (upd S a o) ∧ Rel K mg (upd S a o) P av F σ H := by
  refine ⟨Ex.new s0, R.grow (Ex.new s0) (fun b u h => ?_) (fun b u h => ?_) fun b u h h0 => ?_⟩
  · by_cases hb : b = a
    · subst hb; rw [upd_same] at h; cases h; exact ha
    · rw [upd_ne hb] at h; exact R.sH b u h
  · by_cases hb : b = a
    · subst hb; exact p0
    · rw [upd_ne hb] at h; exact R.sp b u h
  · by_cases hb : b = a
    · subst hb; exact fr
    · rw [upd_ne hb, h0] at h; cases h
/-- a new thing is data from now on -/
theorem Rel.frzTmp (R : Rel K mg S P av F σ H) (h : EvOk K mg S P av F σ H v (.tmp c)) : ∃ S', Ex S S' ∧ Rel K mg S' P av F σ H ∧ Rep K mg S' c.toD v := by
  obtain ⟨a, rfl, ⟨s0, p0, o, h1, h2⟩, fr⟩ := h
  obtain ⟨e, R'⟩ := R.know s0 p0 h1 fr
  exact ⟨_, e, R', (h2.mono e).rep upd_same⟩
/-- the value of an expression as data -/
theorem Rel.val (R : Rel K mg S P av F σ H) {ev : Ev} {k : D → Prop} (h : EvOk K mg S P av F σ H v ev) (q : valK F ev k) : ∃ d, k d ∧ RepT K mg S H d v := by
  cases ev with
  | sh d => exact ⟨d, q, Rep.top R.sH h⟩
  | tmp c =>
    obtain ⟨a, rfl, ⟨s0, p0, o, h1, h2⟩, fr⟩ := h
    exact ⟨_, q, h2.top h1⟩
  | sl i =>
    have h' : σ[i]? = some (some v) := h
    rcases slK_of q with ⟨d, hs, q⟩ | ⟨c, hs, q⟩
    · obtain ⟨w, h1, h2, _⟩ := R.slo i _ hs
      rw [h'] at h1; cases h1
      exact ⟨d, q, Rep.top R.sH (h2 d rfl)⟩
    · obtain ⟨w, h1, h2⟩ := R.cel (.inl i) c (by show celOf F.sl[i]? = _; rw [hs]; rfl)
      have h1' : vOf σ[i]? = some w := h1
      rw [h'] at h1'; cases h1'
      exact ⟨_, q, h2.top R.sH⟩
  | ar j =>
    have h' : av[j]? = some v := h
    obtain ⟨c, hs, q⟩ := arK_of q
    obtain ⟨w, h1, h2⟩ := R.cel (.inr j) c hs
    have h1' : av[j]? = some w := h1
    rw [h'] at h1'; cases h1'
    exact ⟨_, q, h2.top R.sH⟩
end
end HD
set_option Elab.async false
set_option linter.all false
set_option maxRecDepth 100000
set_option maxHeartbeats 4000000
/-! HD, part 2: stores into frames; the judgements. -/
namespace HD
open PySem PySem.Spec PyProof.Rows L2

section
variable {K : PySem.W.Frag} {mg : Str → Option Value} {S S' P H H' : Hp} {av : List V} {F : Fr} {σ : L2.St} {a : Addr} {c e : Cel} {v : V} {d : D} {p q : Pl}
theorem celOf_sv : ∀ {c : Cel}, celOf (some (some c.sv)) = if c.own = true then some c else none
  | .gone _ => rfl
  | .lst _ => rfl
  | .dct _ _ => rfl
  | .ins _ _ _ => rfl
theorem celOf_some {o : Option (Option Sv)} (h : celOf o = some c) : o = some (some (.own c)) := by
  match o, h with
  | some (some (.own c)), rfl => rfl
theorem vOf_some {o : Option (Option V)} {v : V} (h : vOf o = some v) : o = some (some v) := by
  match o, h with
  | some (some v), rfl => rfl
theorem Fr.at_put_ne (h : q ≠ p) : (F.put c p).at q = F.at q := by
  match p, q with
  | .inl i, .inl j =>
    have : i ≠ j := fun z => h (by rw [z])
    show celOf (F.sl.set i (some c.sv))[j]? = celOf F.sl[j]?
    rw [List.getElem?_set_ne this]
  | .inl i, .inr j => rfl
  | .inr i, .inl j => rfl
  | .inr i, .inr j =>
    have : i ≠ j := fun z => h (by rw [z])
    show (F.ar.set i c)[j]? = F.ar[j]?
    rw [List.getElem?_set_ne this]
theorem Fr.at_put (h : F.at p = some e) : (F.put c p).at p = some c ∨ ((F.put c p).at p = none ∧ c.own = false) := by
  match p with
  | .inl i =>
    have hi : i < F.sl.length := by
      have := celOf_some h
      exact (List.getElem?_eq_some_iff.mp this).1
    show celOf (F.sl.set i (some c.sv))[i]? = some c ∨ (celOf (F.sl.set i (some c.sv))[i]? = none ∧ _)
    rw [List.getElem?_set_self hi, celOf_sv]
    cases hc : c.own with
    | true => left; simp
    | false => right; simp
  | .inr k =>
    have hk : k < F.ar.length := (List.getElem?_eq_some_iff.mp (show F.ar[k]? = some e from h)).1
    left
    show (F.ar.set k c)[k]? = some c
    rw [List.getElem?_set_self hk]
theorem Fr.put_own (h : F.at p = some e) (o : c.own = true) : (F.put c p).at p = some c := by
  rcases Fr.at_put (c := c) h with h | ⟨_, h⟩
  · exact h
  · rw [o] at h; cases h
theorem Cel.sv_own (o : c.own = true) : c.sv = .own c := by
  cases c <;> first | rfl | cases o

/-- a thing at a place is exchanged, together with its object -/
theorem Rel.put (R : Rel K mg S P av F σ H) (hp : F.at p = some e) (he : e.own = true) (hv : vAt σ av p = some (.ref a)) (hk : ∀ b o, b ≠ a → H b = some o → H' b = some o) {o : HO} (ha : H' a = some o) (ho : ObjIs K mg S o c) : Rel K mg S P av (F.put c p) σ H' := by
  obtain ⟨a', h1, s0, p0, o0, h2, h3⟩ := R.ownAt hp he
  rw [hv] at h1; cases h1
  have nS : ∀ b u, S b = some u → b ≠ a := fun b u q z => by rw [z, s0] at q; cases q
  have nP : ∀ b u, P b = some u → b ≠ a := fun b u q z => by rw [z, p0] at q; cases q
  have oc := ho.own
  refine ⟨fun b u q => hk b u (nS b u q) (R.sH b u q), fun b u q => hk b u (nP b u q) (R.pH b u q), R.sp, ?_, ?_, fun i s h => ?_, fun q f h => ?_, fun q r f g v hq fq hr gr vq vr => ?_⟩
  · cases p with
    | inl i => exact R.alen
    | inr k => show _ = (F.ar.set k c).length; rw [List.length_set]; exact R.alen
  · cases p with
    | inl i => show (F.sl.set i _).length = _; rw [List.length_set]; exact R.slen
    | inr k => exact R.slen
  · cases p with
    | inl j =>
      have h : (F.sl.set j (some c.sv))[i]? = some (some s) := h
      by_cases hj : j = i
      · subst hj
        have hi : j < F.sl.length := (List.getElem?_eq_some_iff.mp (celOf_some hp)).1
        rw [List.getElem?_set_self hi] at h
        cases h
        refine ⟨.ref a, vOf_some hv, fun d hd => ?_, fun k hd => ?_, fun f hf => ?_⟩
        · rw [Cel.sv_own oc] at hd; cases hd
        · rw [Cel.sv_own oc] at hd; cases hd
        · rw [Cel.sv_own oc] at hf; cases hf; exact oc
      · rw [List.getElem?_set_ne hj] at h
        exact R.slo i s h
    | inr k => exact R.slo i s h
  · by_cases hq : q = p
    · subst hq
      rw [Fr.put_own hp oc] at h; cases h
      exact ⟨.ref a, hv, CelOk.to_own ⟨s0, p0, o, ha, ho⟩⟩
    · rw [Fr.at_put_ne hq] at h
      obtain ⟨w, h1, h2⟩ := R.cel q f h
      refine ⟨w, h1, ?_⟩
      cases hf : f.own with
      | true =>
        obtain ⟨b, rfl, x0, y0, u, h4, h5⟩ := h2.of_own hf
        refine CelOk.to_own ⟨x0, y0, u, hk b u (fun z => ?_) h4, h5⟩
        subst z
        exact hq (R.apart q p f e _ h hf hp he h1 hv)
      | false =>
        cases f with
        | gone d => exact h2
        | _ => cases hf
  · have nt : ∀ {q : Pl} {f : Cel}, (F.put c p).at q = some f → ∃ f', F.at q = some f' ∧ (f.own = true → f'.own = true) := fun {q f} h => by
      by_cases hq : q = p
      · subst hq; exact ⟨e, hp, fun _ => he⟩
      · rw [Fr.at_put_ne hq] at h; exact ⟨f, h, id⟩
    obtain ⟨f', h1, h2⟩ := nt hq
    obtain ⟨g', h3, h4⟩ := nt hr
    exact R.apart q r f' g' v h1 (h2 fq) h3 (h4 gr) vq vr

/-- a thing becomes data -/
theorem Rel.frz (R : Rel K mg S P av F σ H) (hp : F.at p = some e) (he : e.own = true) (hv : vAt σ av p = some v) : ∃ S', Ex S S' ∧ Rel K mg S' P av (F.put (.gone e.toD) p) σ H ∧ Rep K mg S' e.toD v := by
  obtain ⟨a, h1, s0, p0, o, h2, h3⟩ := R.ownAt hp he
  rw [hv] at h1; cases h1
  have ex : Ex S (upd S a o) := Ex.new s0
  have rp : Rep K mg (upd S a o) e.toD (.ref a) := (h3.mono ex).rep upd_same
  refine ⟨_, ex, ⟨fun b u q => ?_, R.pH, fun b u q => ?_, ?_, ?_, fun i s h => ?_, fun q f h => ?_, fun q r f g v hq fq hr gr vq vr => ?_⟩, rp⟩
  · by_cases hb : b = a
    · subst hb; rw [upd_same] at q; cases q; exact h2
    · rw [upd_ne hb] at q; exact R.sH b u q
  · by_cases hb : b = a
    · subst hb; exact p0
    · rw [upd_ne hb] at q; exact R.sp b u q
  · cases p with
    | inl i => exact R.alen
    | inr k => show _ = (F.ar.set k _).length; rw [List.length_set]; exact R.alen
  · cases p with
    | inl i => show (F.sl.set i _).length = _; rw [List.length_set]; exact R.slen
    | inr k => exact R.slen
  · have old : F.sl[i]? = some (some s) → ∃ v, σ[i]? = some (some v) ∧ (∀ d, s = Sv.sh d → Rep K mg (upd S a o) d v) ∧ (∀ k, s = Sv.ar k → av[k]? = some v) ∧ (∀ c : Cel, s = Sv.own c → c.own = true) := fun h => by
      obtain ⟨v, h1, h2, h3⟩ := R.slo i s h
      exact ⟨v, h1, fun d hd => Rep.mono ex _ _ (h2 d hd), h3⟩
    cases p with
    | inl j =>
      have h : (F.sl.set j (some (Cel.gone e.toD).sv))[i]? = some (some s) := h
      by_cases hj : j = i
      · subst hj
        have hi : j < F.sl.length := (List.getElem?_eq_some_iff.mp (celOf_some hp)).1
        rw [List.getElem?_set_self hi] at h
        cases h
        refine ⟨.ref a, vOf_some hv, fun d hd => ?_, fun k hd => ?_, fun f hf => ?_⟩
        · cases hd; exact rp
        · cases hd
        · cases hf
      · rw [List.getElem?_set_ne hj] at h
        exact old h
    | inr k => exact old h
  · by_cases hq : q = p
    · subst hq
      rcases Fr.at_put (c := .gone e.toD) hp with z | ⟨z, _⟩
      · rw [z] at h; cases h
        exact ⟨_, hv, rp⟩
      · rw [z] at h; cases h
    · rw [Fr.at_put_ne hq] at h
      obtain ⟨w, h1, h2⟩ := R.cel q f h
      refine ⟨w, h1, ?_⟩
      cases hf : f.own with
      | true =>
        obtain ⟨b, rfl, x0, y0, u, h4, h5⟩ := h2.of_own hf
        refine CelOk.to_own ⟨?_, y0, u, h4, h5.mono ex⟩
        by_cases hb : b = a
        · subst hb; exact absurd (R.apart q p f e _ h hf hp he h1 hv) hq
        · rw [upd_ne hb]; exact x0
      | false =>
        cases f with
        | gone d => exact Rep.mono ex _ _ h2
        | _ => cases hf
  · have nt : ∀ {q : Pl} {f : Cel}, (F.put (.gone e.toD) p).at q = some f → f.own = true → F.at q = some f := fun {q f} h o => by
      by_cases hq : q = p
      · subst hq
        rcases Fr.at_put (c := .gone e.toD) hp with z | ⟨z, _⟩
        · rw [z] at h; cases h; cases o
        · rw [z] at h; cases h
      · rwa [Fr.at_put_ne hq] at h
    exact R.apart q r f g v (nt hq fq) fq (nt hr gr) gr vq vr

def Fr.set (F : Fr) (i : Nat) (s : Option Sv) : Fr := { F with sl := F.sl.set i s }
theorem Fr.at_set_ne {i : Nat} {s : Option Sv} (h : q ≠ .inl i) : (F.set i s).at q = F.at q := by
  match q with
  | .inl j =>
    have : i ≠ j := fun z => h (by rw [z])
    show celOf (F.sl.set i s)[j]? = celOf F.sl[j]?
    rw [List.getElem?_set_ne this]
  | .inr j => rfl
/-- a slot is stored (or forgotten) -/
theorem Rel.set (R : Rel K mg S P av F σ H) (i : Nat) {s : Option Sv} {w : Option V} (h0 : s = none ∨ w = some v) (h1 : ∀ d, s = some (.sh d) → Rep K mg S d v) (h2 : ∀ k, s = some (.ar k) → av[k]? = some v)
    (h3 : ∀ c : Cel, s = some (.own c) → ∃ a, v = .ref a ∧ CelAt K mg S P H a c ∧ Free av F σ a) : Rel K mg S P av (F.set i s) (σ.set i w) H := by
  have at_i : ∀ {f : Cel}, (F.set i s).at (.inl i) = some f → i < F.sl.length ∧ s = some (.own f) := fun {f} h => by
    have h : (F.sl.set i s)[i]? = some (some (.own f)) := celOf_some h
    by_cases hi : i < F.sl.length
    · rw [List.getElem?_set_self hi] at h
      exact ⟨hi, Option.some.inj h⟩
    · rw [List.getElem?_eq_none (by rw [List.length_set]; omega)] at h
      cases h
  have v_ne : ∀ {q : Pl}, q ≠ .inl i → vAt (σ.set i w) av q = vAt σ av q := fun {q} hq => by
    match q with
    | .inl j =>
      have : i ≠ j := fun z => hq (by rw [z])
      show vOf (σ.set i w)[j]? = vOf σ[j]?
      rw [List.getElem?_set_ne this]
    | .inr j => rfl
  have v_i : ∀ {f : Cel}, (F.set i s).at (.inl i) = some f → vAt (σ.set i w) av (.inl i) = some v := fun {f} h => by
    obtain ⟨hi, hs⟩ := at_i h
    rcases h0 with h0 | h0
    · rw [h0] at hs; cases hs
    · show vOf (σ.set i w)[i]? = _
      rw [List.getElem?_set_self (by rw [← R.slen]; exact hi), h0]
      rfl
  refine ⟨R.sH, R.pH, R.sp, R.alen, ?_, fun j t h => ?_, fun q f h => ?_, fun q r f g x hq fq hr gr vq vr => ?_⟩
  · show (F.sl.set i s).length = _
    rw [List.length_set, List.length_set]; exact R.slen
  · have h : (F.sl.set i s)[j]? = some (some t) := h
    by_cases hj : i = j
    · subst hj
      by_cases hi : i < F.sl.length
      · rw [List.getElem?_set_self hi] at h
        cases h
        have hw : w = some v := by rcases h0 with h0 | h0; cases h0; exact h0
        refine ⟨v, by rw [List.getElem?_set_self (by rw [← R.slen]; exact hi), hw], fun d hd => h1 d (by rw [hd]), fun k hd => h2 k (by rw [hd]), fun f hf => ?_⟩
        obtain ⟨a, _, ⟨_, _, o, _, z⟩, _⟩ := h3 f (by rw [hf])
        exact z.own
      · rw [List.getElem?_eq_none (by rw [List.length_set]; omega)] at h
        cases h
    · rw [List.getElem?_set_ne hj] at h
      obtain ⟨x, y1, y2⟩ := R.slo j t h
      exact ⟨x, by rw [List.getElem?_set_ne hj]; exact y1, y2⟩
  · by_cases hq : q = .inl i
    · subst hq
      obtain ⟨hi, hs⟩ := at_i h
      obtain ⟨a, rfl, z, _⟩ := h3 f hs
      exact ⟨.ref a, v_i h, CelOk.to_own z⟩
    · rw [Fr.at_set_ne hq] at h
      obtain ⟨x, y1, y2⟩ := R.cel q f h
      exact ⟨x, by rw [v_ne hq]; exact y1, y2⟩
  · by_cases hqi : q = .inl i
    · by_cases hri : r = .inl i
      · rw [hqi, hri]
      · subst hqi
        obtain ⟨hi, hs⟩ := at_i hq
        obtain ⟨a, rfl, _, fr⟩ := h3 f hs
        rw [v_i hq] at vq; cases vq
        rw [Fr.at_set_ne hri] at hr
        rw [v_ne hri] at vr
        exact absurd vr (fr r g hr gr)
    · by_cases hri : r = .inl i
      · subst hri
        obtain ⟨hi, hs⟩ := at_i hr
        obtain ⟨a, rfl, _, fr⟩ := h3 g hs
        rw [v_i hr] at vr; cases vr
        rw [Fr.at_set_ne hqi] at hq
        rw [v_ne hqi] at vq
        exact absurd vq (fr q f hq fq)
      · rw [Fr.at_set_ne hqi] at hq
        rw [v_ne hqi] at vq
        rw [Fr.at_set_ne hri] at hr
        rw [v_ne hri] at vr
        exact R.apart q r f g x hq fq hr gr vq vr
end
end HD
set_option Elab.async false
set_option linter.all false
set_option maxRecDepth 100000
set_option maxHeartbeats 4000000
/-! HD, part 3: the judgements; names, constants, operators, comparisons, truth. -/
namespace HD
open PySem PySem.Spec PyProof.Rows L2

/-- where a piece of text stands -/
structure Tx where
  P : Program
  w : World
  K : PySem.W.Frag
  mg : Str → Option Value
  base : Heap
  N : List Str
  sc : Scope
  lv : Nat
  raw : Scope
  hot : Bool := false
  exc : Option (Addr × Value × Addr) := none
def locC (sc : Scope) (x : Str) : Bool := match sc.names.lookup x with
  | some .local => true
  | some .cell => true
  | _ => false
structure Fits (T : Tx) (X : Cx) : Prop where
  prog : X.prog = T.P
  w : X.w = T.w
  K : X.K = T.K
  mg : X.mg = T.mg
  base : X.base = T.base
  N : X.N = T.N
  sc : X.env.scope = T.sc
  un : X.A.units + 16 * T.lv + 200 < cLine
  roomy : T.hot = false → Room T.lv X.A ∧ X.calm = true
  exc : ∀ a cls dx, T.exc = some (a, cls, dx) → ∃ (X' : Cx) (oe : Obj) (pn : List (Addr × Obj)), X = X'.suite a ((a, oe) :: pn) ∧ Zc cls (some dx) oe ∧ ∃ vs, oe.data = .fields vs
  nd : X.N.Nodup
  fn : ∀ x, locC T.raw x = true → Loc X.env.scope x ∧ (X.fn x = true ∨ X.env.scope.names.lookup x = some .local)

theorem Fits.room {T : Tx} {X : Cx} (fx : Fits T X) (hh : T.hot = false) : Room T.lv X.A := (fx.roomy hh).1
theorem Fits.calm {T : Tx} {X : Cx} (fx : Fits T X) (hh : T.hot = false) : X.calm = true := (fx.roomy hh).2
theorem Fits.units {T : Tx} {X : Cx} (fx : Fits T X) : X.A.units + 64 < cLine := by have := fx.un; omega

/-- an exception: its class, its fields -/
structure Exn where
  c : Str
  ns : List Str
  vs : List D
def ExnOk (K : PySem.W.Frag) (mg : Str → Option Value) (S : Hp) (cls : Value) (d : Option Addr) (x : Exn) : Prop :=
  ∃ C dx vs, mg x.c = some (.ref C) ∧ cls = .ref C ∧ d = some dx ∧ x.ns.length = vs.length ∧ S dx = some (.xd (x.ns.zip vs)) ∧ Reps K mg S x.vs vs

section
variable (X : Cx) (S P : Hp) (av : List V)
def UpX (E : Exn → Fr → Prop) : WX := fun cls d σ' H' => ∃ S' F' x, E x F' ∧ Ex S S' ∧ Rel X.K X.mg S' P av F' σ' H' ∧ ExnOk X.K X.mg S' cls d x
def UpE (σ : L2.St) (Q : Ev → Fr → Prop) : VK := fun v H' => ∃ S' F' ev, Q ev F' ∧ Ex S S' ∧ Rel X.K X.mg S' P av F' σ H' ∧ EvOk X.K X.mg S' P av F' σ H' v ev
def UpT (σ : L2.St) (Q : Bool → Fr → Prop) : Bool → Hp → Prop := fun b H' => ∃ S' F', Q b F' ∧ Ex S S' ∧ Rel X.K X.mg S' P av F' σ H'
def UpO (F : Fr) (σ : L2.St) (q : Ev → Prop) : VK := fun v H' => ∃ S' ev, q ev ∧ Ex S S' ∧ Rel X.K X.mg S' P av F σ H' ∧ EvOk X.K X.mg S' P av F σ H' v ev
end
theorem UpX.mono {X : Cx} {S S' P : Hp} {av : List V} {E E' : Exn → Fr → Prop} (e : Ex S S') (h : ∀ x F, E x F → E' x F) {cls d σ H} (u : UpX X S' P av E cls d σ H) : UpX X S P av E' cls d σ H := by
  obtain ⟨S2, F2, x, q, e2, r⟩ := u
  exact ⟨S2, F2, x, h _ _ q, e.trans e2, r⟩
theorem takes_mono {X : Cx} {S S' P : Hp} {av : List V} {E : Exn → Fr → Prop} (e : Ex S S') (tk : Takes X (UpX X S P av E)) : Takes X (UpX X S' P av E) :=
  tk.imp fun _ _ _ _ u => u.mono e fun _ _ h => h

/-- the text's own reading -/
def tW (X : Cx) (e : Expr) : TE := fun σ H Q => ∀ (pins : List (Addr × Obj)) (s : Shared), Inv X pins σ H s → wpAny (model X.prog X.w) X.A (eval e X.env) (EP X pins σ Q) X.xe s
theorem pe_tW {X : Cx} {e : Expr} : PE X e (tW X e) := ⟨fun pins s σ H Q I h => h pins s I⟩
theorem tW_of {X : Cx} {e : Expr} {t : TE} (h : PE X e t) {σ : L2.St} {H : Hp} {Q : VK} (q : t σ H Q) : tW X e σ H Q := fun pins s I => h.run pins s σ H Q I q
theorem tW_mono {X : Cx} {e : Expr} {σ : L2.St} {H : Hp} {Q Q' : VK} (h : tW X e σ H Q) (m : ∀ v H', Q v H' → Q' v H') : tW X e σ H Q' := fun pins s I =>
  thn (h pins s I) fun v s' ⟨x, H', I', r, q⟩ => ⟨x, H', I', r, m x H' q⟩
def tWT (X : Cx) (e : Expr) : TT := fun σ H Q => ∀ (pins : List (Addr × Obj)) (s : Shared), Inv X pins σ H s → wpAny (model X.prog X.w) X.A (isTrue e X.env (eval e X.env)) (TP X pins σ Q) X.xe s
theorem pt_tWT {X : Cx} {e : Expr} : PT X e (tWT X e) := ⟨fun pins s σ H Q I h => h pins s I⟩
theorem tWT_of {X : Cx} {e : Expr} {t : TT} (h : PT X e t) {σ : L2.St} {H : Hp} {Q : Bool → Hp → Prop} (q : t σ H Q) : tWT X e σ H Q := fun pins s I => h.run pins s σ H Q I q
theorem tWT_mono {X : Cx} {e : Expr} {σ : L2.St} {H : Hp} {Q Q' : Bool → Hp → Prop} (h : tWT X e σ H Q) (m : ∀ v H', Q v H' → Q' v H') : tWT X e σ H Q' := fun pins s I =>
  thn (h pins s I) fun v s' ⟨H', I', q⟩ => ⟨H', I', m v H' q⟩

abbrev EX := Exn → Fr → Prop
abbrev ME := Fr → (Ev → Fr → Prop) → EX → Prop
abbrev MT := Fr → (Bool → Fr → Prop) → EX → Prop
abbrev MA := Fr → (List Ev → Fr → Prop) → EX → Prop
def SE (T : Tx) (e : Expr) (m : ME) : Prop := ∀ (X : Cx), Fits T X → ∀ (S P : Hp) (av : List V) (F : Fr) (σ : L2.St) (H : Hp) (Q : Ev → Fr → Prop) (E : EX),
  Rel X.K X.mg S P av F σ H → m F Q E → Takes X (UpX X S P av E) → tW X e σ H (UpE X S P av σ Q)
def SB (T : Tx) (e : Expr) (m : MT) : Prop := ∀ (X : Cx), Fits T X → ∀ (S P : Hp) (av : List V) (F : Fr) (σ : L2.St) (H : Hp) (Q : Bool → Fr → Prop) (E : EX),
  Rel X.K X.mg S P av F σ H → m F Q E → Takes X (UpX X S P av E) → tWT X e σ H (UpT X S P av σ Q)

/-- a value that is kept while more is evaluated: a new thing becomes data -/
def hold : Ev → Ev
  | .tmp c => .sh c.toD
  | x => x
theorem valK_hold {F : Fr} {x : Ev} {k : D → Prop} : valK F (hold x) k = valK F x k := by cases x <;> rfl
section
variable {K : PySem.W.Frag} {mg : Str → Option Value} {S S' P H H' : Hp} {av : List V} {F F' : Fr} {σ : L2.St} {v : V} {ev : Ev}
theorem Rel.hold (R : Rel K mg S P av F σ H) (h : EvOk K mg S P av F σ H v ev) : ∃ S', Ex S S' ∧ Rel K mg S' P av F σ H ∧ EvOk K mg S' P av F σ H v (hold ev) := by
  cases ev with
  | tmp c =>
    obtain ⟨S', e, R', r⟩ := R.frzTmp h
    exact ⟨S', e, R', r⟩
  | sh d => exact ⟨S, Ex.refl S, R, h⟩
  | sl i => exact ⟨S, Ex.refl S, R, h⟩
  | ar k => exact ⟨S, Ex.refl S, R, h⟩
theorem EvOk.held (e : Ex S S') (h : EvOk K mg S P av F σ H v (HD.hold ev)) : EvOk K mg S' P av F' σ H' v (HD.hold ev) := by
  cases ev with
  | tmp c => exact Rep.mono e _ _ h
  | sh d => exact Rep.mono e _ _ h
  | sl i => exact h
  | ar k => exact h
end

/-! ### names and constants -/
section
variable {T : Tx} {pos : Pos}
def mSh (d : D) : ME := fun F Q _ => Q (.sh d) F
theorem se_c {e : Expr} {v : V} {d : D} (h : ∀ X, PE X e (tC v)) (r : ∀ K mg S, Rep K mg S d v) : SE T e (mSh d) := fun X fx S P av F σ H Q E R q tk =>
  tW_of (h X) ⟨S, F, .sh d, q, Ex.refl S, R, r _ _ _⟩
theorem se_int {i j} : SE T (.Constant (.int i) j pos) (mSh (.int i)) := se_c (fun _ => pe_int) fun _ _ _ => by unfold Rep; rfl
theorem se_bl {b j} : SE T (.Constant (.bool b) j pos) (mSh (.bl b)) := se_c (fun _ => pe_bl) fun _ _ _ => by unfold Rep; rfl
theorem se_non {j} : SE T (.Constant .none j pos) (mSh .non) := se_c (fun _ => pe_non) fun _ _ _ => by unfold Rep; rfl
theorem se_str {x j} : SE T (.Constant (.str x) j pos) (mSh (.str x)) := se_c (fun _ => pe_str) fun _ _ _ => by unfold Rep; rfl
/-- a name's value -/
def svK (i : Nat) : Option (Option Sv) → (Ev → Prop) → Prop
  | some (some (.sh d)), k => k (.sh d)
  | some (some (.own _)), k => k (.sl i)
  | some (some (.ar j)), k => k (.ar j)
  | _, _ => False
def mVar (i : Nat) : ME := fun F Q _ => svK i F.sl[i]? fun ev => Q ev F
def visC (sc : Scope) (x : Str) : Bool := match sc.names.lookup x with
  | some .local => true
  | some .cell => true
  | some .free => true
  | _ => false
theorem vis_of {sc : Scope} {x : Str} (h : visC sc x = true) : Vis sc x := by
  unfold visC at h
  split at h
  · exact .inl (by assumption)
  · exact .inr (.inl (by assumption))
  · exact .inr (.inr (by assumption))
  · cases h
theorem se_var {i : Nat} {x : Str} (hN : T.N[i]? = some x) (hv : visC T.sc x = true) (hd : (x == ("__debug__" : Str)) = false := by decide +kernel) (hcd : (x == ("__classdict__" : Str)) = false := by decide +kernel) : SE T (.Name x pos) (mVar i) := fun X fx S P av F σ H Q E R q tk => by
  refine tW_of (pe_var (i := i) (by rw [fx.N]; exact hN) (by rw [fx.sc]; exact vis_of hv) hd hcd) ?_
  have q : svK i F.sl[i]? fun ev => Q ev F := q
  match hs : F.sl[i]?, q with
  | some (some (.sh d)), q =>
    obtain ⟨v, h1, h2, _⟩ := R.slo i _ hs
    exact ⟨v, h1, S, F, _, q, Ex.refl S, R, h2 d rfl⟩
  | some (some (.own c)), q =>
    obtain ⟨v, h1, h2, _⟩ := R.slo i _ hs
    exact ⟨v, h1, S, F, _, q, Ex.refl S, R, h1⟩
  | some (some (.ar j)), q =>
    obtain ⟨v, h1, h2, h3, _⟩ := R.slo i _ hs
    exact ⟨v, h1, S, F, _, q, Ex.refl S, R, h3 j rfl⟩
/-- a global name -/
def glC (sc : Scope) (x : Str) : Bool := match sc.names.lookup x with
  | some .globalImplicit => true
  | _ => false
theorem gl_of {X : Cx} {x : Str} (fx : Fits T X) (h : glC T.sc x = true) : Gl X x := by
  show X.env.scope.names.lookup x = _
  rw [fx.sc]
  unfold glC at h
  split at h
  · assumption
  · cases h
/-- a constant of the module -/
def GlobD (K : PySem.W.Frag) (mg : Str → Option Value) (x : Str) (d : D) : Prop := ∃ u v, mg x = some u ∧ RelV v u ∧ ∀ S, Rep K mg S d v
theorem se_glob {x : Str} {d : D} (hg : glC T.sc x = true) (h : GlobD T.K T.mg x d) (hd : (x == ("__debug__" : Str)) = false := by decide +kernel) : SE T (.Name x pos) (mSh d) := fun X fx S P av F σ H Q E R q tk => by
  obtain ⟨u, v, hm, r, rp⟩ := h
  rw [← fx.K, ← fx.mg] at rp
  exact tW_of (pe_glob (gl_of fx hg) (by rw [fx.mg]; exact hm) r hd) ⟨S, F, .sh d, q, Ex.refl S, R, rp S⟩
end

/-! ### two-place operations -/
section
variable {T : Tx} {pos : Pos} {a b : Expr} {ma mb : ME}
def rSem (X : Cx) (f : Value → Value → Sem Value) : R2 := fun x y H Q => ∀ (pins : List (Addr × Obj)) (s : Shared) (σ : L2.St) (v u : Value), Inv X pins σ H s → RelV x v → RelV y u → wpAny (model X.prog X.w) X.A (f v u) (EP X pins σ Q) X.xe s
theorem opR_sem {X : Cx} (f : Value → Value → Sem Value) : OpR X f (rSem X f) := fun pins s σ H x y v u Q I r1 r2 h => h pins s σ v u I r1 r2
theorem rSem_mono {X : Cx} {f : Value → Value → Sem Value} {x y : V} {H : Hp} {Q Q' : VK} (h : rSem X f x y H Q) (m : ∀ v H', Q v H' → Q' v H') : rSem X f x y H Q' := fun pins s σ v u I r1 r2 =>
  thn (h pins s σ v u I r1 r2) fun v s' ⟨x, H', I', r, q⟩ => ⟨x, H', I', r, m x H' q⟩
/-- an operation on data; it leaves the frame as it is -/
def OpD (T : Tx) (f : Value → Value → Sem Value) (g : D → D → (Ev → Prop) → Prop) : Prop := ∀ (X : Cx), Fits T X → ∀ (S P : Hp) (av : List V) (F : Fr) (σ : L2.St) (H : Hp) (x y : V) (d e : D) (q : Ev → Prop),
  Rel X.K X.mg S P av F σ H → RepT X.K X.mg S H d x → RepT X.K X.mg S H e y → g d e q → rSem X f x y H (UpO X S P av F σ q)
theorem opD_of {f : Value → Value → Sem Value} {g : D → D → (Ev → Prop) → Prop} {r : Cx → R2} (ho : ∀ X, Fits T X → OpR X f (r X))
    (h : ∀ (X : Cx), Fits T X → ∀ (S P : Hp) (av : List V) (F : Fr) (σ : L2.St) (H : Hp) (x y : V) (d e : D) (q : Ev → Prop), Rel X.K X.mg S P av F σ H → RepT X.K X.mg S H d x → RepT X.K X.mg S H e y → g d e q → r X x y H (UpO X S P av F σ q)) : OpD T f g :=
  fun X fx S P av F σ H x y d e q R rx ry hg pins s σ' v u I r1 r2 => ho X fx pins s σ' H x y v u _ I r1 r2 (h X fx S P av F σ H x y d e q R rx ry hg)
theorem OpD.or {f : Value → Value → Sem Value} {g g' : D → D → (Ev → Prop) → Prop} (h : OpD T f g) (h' : OpD T f g') : OpD T f fun d e q => g d e q ∨ g' d e q :=
  fun X fx S P av F σ H x y d e q R rx ry hg => hg.elim (h X fx S P av F σ H x y d e q R rx ry) (h' X fx S P av F σ H x y d e q R rx ry)
/-- another way to say it -/
theorem OpD.imp {f : Value → Value → Sem Value} {g g' : D → D → (Ev → Prop) → Prop} (h : OpD T f g) (i : ∀ d e q, g' d e q → g d e q) : OpD T f g' :=
  fun X fx S P av F σ H x y d e q R rx ry hg => h X fx S P av F σ H x y d e q R rx ry (i d e q hg)
def mBin (g : D → D → (Ev → Prop) → Prop) (ma mb : ME) : ME := fun F Q E => ma F (fun x F1 => mb F1 (fun y F2 => valK F2 x fun d => valK F2 y fun e => g d e fun r => Q r F2) E) E
/-- both operands, then what is done with them -/
theorem two {X : Cx} (fx : Fits T X) (ha : SE T a ma) (hb : SE T b mb) {S P : Hp} {av : List V} {F : Fr} {σ : L2.St} {H : Hp} {E : EX} {Q2 : Ev → Ev → Fr → Prop} {Q0 : V → V → Hp → Prop}
    (R : Rel X.K X.mg S P av F σ H) (tk : Takes X (UpX X S P av E)) (h : ma F (fun x F1 => mb F1 (fun y F2 => Q2 (hold x) y F2) E) E)
    (k : ∀ (S2 : Hp) (F2 : Fr) (H2 : Hp) (x y : V) (ex ey : Ev), Ex S S2 → Rel X.K X.mg S2 P av F2 σ H2 → EvOk X.K X.mg S2 P av F2 σ H2 x ex → EvOk X.K X.mg S2 P av F2 σ H2 y ey → Q2 ex ey F2 → Q0 x y H2) :
    tW X a σ H fun x H1 => tW X b σ H1 fun y H2 => Q0 x y H2 := by
  refine tW_mono (ha X fx S P av F σ H _ E R h tk) fun x H1 ⟨S1, F1, ev1, q1, e1, R1, k1⟩ => ?_
  obtain ⟨S1', e1', R1', k1'⟩ := R1.hold k1
  refine tW_mono (hb X fx S1' P av F1 σ H1 _ E R1' q1 (takes_mono (e1.trans e1') tk)) fun y H2 ⟨S2, F2, ev2, q2, e2, R2, k2⟩ => ?_
  exact k S2 F2 H2 x y _ _ ((e1.trans e1').trans e2) R2 (EvOk.held e2 k1') k2 q2
theorem se_bin {op : Operator} {g : D → D → (Ev → Prop) → Prop} (ho : OpD T (binaryOp op) g) (ha : SE T a ma) (hb : SE T b mb) : SE T (.BinOp a op b pos) (mBin g ma mb) := fun X fx S P av F σ H Q E R q tk => by
  refine tW_of (pe_op (opR_sem _) pe_tW pe_tW) (two fx ha hb (Q2 := fun x y F2 => valK F2 x fun d => valK F2 y fun e => g d e fun r => Q r F2) R tk ?_ fun S2 F2 H2 x y ex ey e2 R2 k1 k2 q2 => ?_)
  · simp only [valK_hold]; exact q
  · obtain ⟨d, q2, t1⟩ := R2.val k1 q2
    obtain ⟨e, q2, t2⟩ := R2.val k2 q2
    exact rSem_mono (ho X fx S2 P av F2 σ H2 x y d e _ R2 t1 t2 q2) fun z H3 ⟨S3, ev, q3, e3, R3, k3⟩ => ⟨S3, F2, ev, q3, e2.trans e3, R3, k3⟩
end
end HD
set_option Elab.async false
set_option linter.all false
set_option maxRecDepth 100000
set_option maxHeartbeats 4000000
/-! HD, part 4: arithmetic, comparisons, and, or, not, if. -/
namespace HD
open PySem PySem.Spec PyProof.Rows L2

section
variable {K : PySem.W.Frag} {mg : Str → Option Value} {S S' P H H' : Hp} {av : List V} {F F' : Fr} {σ : L2.St} {v : V} {ev : Ev} {X : Cx} {T : Tx}
theorem Rel.newSh (R : Rel K mg S P av F σ H) {p : Addr} (h : H p = none) (o : HO) : Ex S (upd S p o) ∧ Rel K mg (upd S p o) P av F σ (upd H p o) :=
  (R.fresh h).know (R.sNone h) (R.pNone h) upd_same (R.free h)
/-- the usual ends of an operation -/
theorem upO_sh {q : Ev → Prop} {d : D} (R : Rel X.K X.mg S P av F σ H) (h : q (.sh d)) (r : Rep X.K X.mg S d v) : UpO X S P av F σ q v H := ⟨S, .sh d, h, Ex.refl S, R, r⟩
theorem upO_int {q : Ev → Prop} {i : Int} (R : Rel X.K X.mg S P av F σ H) (h : q (.sh (.int i))) : UpO X S P av F σ q (.int i) H := upO_sh R h (by unfold Rep; rfl)
theorem upO_bl {q : Ev → Prop} {b : Bool} (R : Rel X.K X.mg S P av F σ H) (h : q (.sh (.bl b))) : UpO X S P av F σ q (.bl b) H := upO_sh R h (by unfold Rep; rfl)
theorem upO_str {q : Ev → Prop} {b : Str} (R : Rel X.K X.mg S P av F σ H) (h : q (.sh (.str b))) : UpO X S P av F σ q (.str b) H := upO_sh R h (by unfold Rep; rfl)
theorem upO_lst {q : Ev → Prop} {ds : List D} {vs : List V} (R : Rel X.K X.mg S P av F σ H) (h : q (.tmp (.lst ds))) (r : Reps X.K X.mg S ds vs) {p : Addr} (hp : H p = none) : UpO X S P av F σ q (.ref p) (upd H p (.lst vs)) :=
  ⟨S, .tmp (.lst ds), h, Ex.refl S, R.fresh hp, R.tmp hp ⟨vs, rfl, r⟩⟩
theorem upO_tup {q : Ev → Prop} {ds : List D} {vs : List V} (R : Rel X.K X.mg S P av F σ H) (h : q (.sh (.tup ds))) (r : Reps X.K X.mg S ds vs) {p : Addr} (hp : H p = none) : UpO X S P av F σ q (.ref p) (upd H p (.tup vs)) := by
  obtain ⟨e, R'⟩ := R.newSh hp (.tup vs)
  refine ⟨_, .sh (.tup ds), h, e, R', ?_⟩
  show Rep _ _ _ _ _
  unfold Rep
  exact ⟨p, vs, rfl, .inl (.inl upd_same), Reps.mono e _ _ r⟩

theorem repT_int {i : Int} (h : RepT K mg S H (.int i) v) : v = .int i := by unfold RepT Rep at h; exact h
theorem repT_bl {b : Bool} (h : RepT K mg S H (.bl b) v) : v = .bl b := by unfold RepT Rep at h; exact h
theorem repT_str {s : Str} (h : RepT K mg S H (.str s) v) : v = .str s := by unfold RepT Rep at h; exact h
theorem repT_non (h : RepT K mg S H .non v) : v = .non := by unfold RepT Rep at h; exact h
theorem repT_lst {ds : List D} (h : RepT K mg S H (.lst ds) v) : ∃ a vs, v = .ref a ∧ H a = some (.lst vs) ∧ Reps K mg S ds vs := by unfold RepT at h; exact h
theorem repT_tup {ds : List D} (h : RepT K mg S H (.tup ds) v) : ∃ a vs, v = .ref a ∧ SqT K S a vs ∧ Reps K mg S ds vs := by unfold RepT Rep at h; exact h
theorem repT_scr {ns : List Int} (h : RepT K mg S H (.scr ns) v) : ∃ a, v = .ref a ∧ SqL K S a (ns.map V.int) := by unfold RepT Rep at h; exact h
end

/-! ### arithmetic -/
def dInt (C : Int → Int → Prop) (f : Int → Int → Int) : D → D → (Ev → Prop) → Prop
  | .int i, .int j, q => C i j ∧ q (.sh (.int (f i j)))
  | _, _, _ => False
def dInt0 (f : Int → Int → Int) : D → D → (Ev → Prop) → Prop
  | .int i, .int j, q => q (.sh (.int (f i j)))
  | _, _, _ => False
def dCmpI (f : Int → Int → Bool) : D → D → (Ev → Prop) → Prop
  | .int i, .int j, q => q (.sh (.bl (f i j)))
  | _, _, _ => False
def dAdd : D → D → (Ev → Prop) → Prop
  | .int i, .int j, q => q (.sh (.int (i + j)))
  | .str a, .str b, q => a.length + b.length ≤ sizeLine ∧ q (.sh (.str (a ++ b)))
  | .lst a, .lst b, q => a.length + b.length ≤ sizeLine ∧ q (.tmp (.lst (a ++ b)))
  | .tup a, .tup b, q => a.length + b.length ≤ sizeLine ∧ q (.sh (.tup (a ++ b)))
  | _, _, _ => False
def dMul : D → D → (Ev → Prop) → Prop
  | .int i, .int j, q => CMul i j ∧ q (.sh (.int (i * j)))
  | .lst a, .int k, q => -(2 ^ 63) ≤ k ∧ k < 2 ^ 63 ∧ a.length * k.toNat ≤ sizeLine ∧ q (.tmp (.lst (List.replicate k.toNat a).flatten))
  | .tup a, .int k, q => a ≠ [] ∧ 1 ≤ k ∧ k ≤ 1000 ∧ a.length ≤ 1000 ∧ q (.sh (.tup (List.replicate k.toNat a).flatten))
  | .str x, .int k, q => 0 ≤ k ∧ x.length * k.toNat ≤ 1000000 ∧ k ≤ 1000000 ∧ q (.sh (.str ⟨(List.replicate k.toNat x.cps.toList).flatten.toArray⟩))
  | _, _, _ => False
section
variable {T : Tx}
theorem opD_int {f : Value → Value → Sem Value} {C : Int → Int → Prop} {g : Int → Int → Int} (h : ∀ X, OpR X f (rI C fun i j => .int (g i j))) : OpD T f (dInt C g) := opD_of (fun X _ => h X) fun X fx S P av F σ H x y d e q R rx ry hg => by
  match d, e, hg with
  | .int i, .int j, ⟨c, hq⟩ => exact ⟨i, j, repT_int rx, repT_int ry, c, upO_int R hq⟩
theorem opD_int0 {f : Value → Value → Sem Value} {g : Int → Int → Int} (h : ∀ X, OpR X f (rI0 fun i j => .int (g i j))) : OpD T f (dInt0 g) := opD_of (fun X _ => h X) fun X fx S P av F σ H x y d e q R rx ry hg => by
  match d, e, hg with
  | .int i, .int j, hq => exact ⟨i, j, repT_int rx, repT_int ry, upO_int R hq⟩
theorem opD_cmpI {f : Value → Value → Sem Value} {g : Int → Int → Bool} (h : ∀ X, OpR X f (rI0 fun i j => .bl (g i j))) : OpD T f (dCmpI g) := opD_of (fun X _ => h X) fun X fx S P av F σ H x y d e q R rx ry hg => by
  match d, e, hg with
  | .int i, .int j, hq => exact ⟨i, j, repT_int rx, repT_int ry, upO_bl R hq⟩
theorem od_sub : OpD T (binaryOp .Sub) (dInt0 fun i j => i - j) := opD_int0 fun _ => op_sub
theorem od_fdiv : OpD T (binaryOp .FloorDiv) (dInt CDiv fun i j => i / j) := opD_int fun _ => op_fdiv
theorem od_mod : OpD T (binaryOp .Mod) (dInt (fun _ j => 0 < j) fun i j => i % j) := opD_int fun _ => op_mod
theorem od_pow : OpD T (binaryOp .Pow) (dInt CPow fun i j => i ^ j.toNat) := opD_int fun _ => op_pow
theorem od_shl : OpD T (binaryOp .LShift) (dInt CPow fun i j => i * 2 ^ j.toNat) := opD_int fun _ => op_shl
theorem od_shr : OpD T (binaryOp .RShift) (dInt (fun _ j => 0 ≤ j) fun i j => i / 2 ^ j.toNat) := opD_int fun _ => op_shr
theorem od_and : OpD T (binaryOp .BitAnd) (dInt0 Builtin.bitAnd) := opD_int0 fun _ => op_and
theorem od_or : OpD T (binaryOp .BitOr) (dInt0 Builtin.bitOr) := opD_int0 fun _ => op_or
theorem od_xor : OpD T (binaryOp .BitXor) (dInt0 Builtin.bitXor) := opD_int0 fun _ => op_xor
theorem od_ltI : OpD T (compareOp .Lt) (dCmpI fun i j => decide (i < j)) := opD_cmpI fun _ => op_lt
theorem od_leI : OpD T (compareOp .LtE) (dCmpI fun i j => decide (i ≤ j)) := opD_cmpI fun _ => op_le
theorem od_gtI : OpD T (compareOp .Gt) (dCmpI fun i j => decide (j < i)) := opD_cmpI fun _ => op_gt
theorem od_geI : OpD T (compareOp .GtE) (dCmpI fun i j => decide (j ≤ i)) := opD_cmpI fun _ => op_ge

theorem od_add : OpD T (binaryOp .Add) dAdd := by
  have h1 : OpD T (binaryOp .Add) (dInt0 fun i j => i + j) := opD_int0 fun _ => op_add
  have h2 : OpD T (binaryOp .Add) fun d e q => ∃ a b, d = .str a ∧ e = .str b ∧ a.length + b.length ≤ sizeLine ∧ q (.sh (.str (a ++ b))) := opD_of (fun _ _ => op_add_str) fun X fx S P av F σ H x y d e q R rx ry ⟨a, b, hd, he, hl, hq⟩ => by
    subst hd he
    exact ⟨a, b, repT_str rx, repT_str ry, hl, upO_str R hq⟩
  have h3 : OpD T (binaryOp .Add) fun d e q => ∃ a b, d = .lst a ∧ e = .lst b ∧ a.length + b.length ≤ sizeLine ∧ q (.tmp (.lst (a ++ b))) := opD_of (fun _ _ => op_cat) fun X fx S P av F σ H x y d e q R rx ry ⟨a, b, hd, he, hl, hq⟩ => by
    subst hd he
    obtain ⟨p, vs, rfl, h1, r1⟩ := repT_lst rx
    obtain ⟨p2, ws, rfl, h2, r2⟩ := repT_lst ry
    exact ⟨p, p2, vs, ws, rfl, rfl, h1, h2, by rw [← r1.len, ← r2.len]; exact hl, fun z hz => upO_lst R hq (r1.app r2) hz⟩
  have h4 : OpD T (binaryOp .Add) fun d e q => ∃ a b, d = .tup a ∧ e = .tup b ∧ a.length + b.length ≤ sizeLine ∧ q (.sh (.tup (a ++ b))) := opD_of (fun _ _ => op_catA) fun X fx S P av F σ H x y d e q R rx ry ⟨a, b, hd, he, hl, hq⟩ => by
    subst hd he
    obtain ⟨p, vs, rfl, h1, r1⟩ := repT_tup rx
    obtain ⟨p2, ws, rfl, h2, r2⟩ := repT_tup ry
    refine ⟨p, p2, vs, ws, rfl, rfl, R.sH.sqT h1, R.sH.sqT h2, by rw [← r1.len, ← r2.len]; exact hl, fun hx => ?_, fun hx hy => ?_, fun hx hy z hz => upO_tup R hq (r1.app r2) hz⟩
    · subst hx
      have e0 : a = [] := List.length_eq_zero_iff.mp r1.len
      subst e0
      exact upO_sh R hq (by unfold Rep; exact ⟨p2, ws, rfl, h2, r2⟩)
    · subst hy
      have e0 : b = [] := List.length_eq_zero_iff.mp r2.len
      subst e0
      rw [List.append_nil] at hq
      exact upO_sh R hq (by unfold Rep; exact ⟨p, vs, rfl, h1, r1⟩)
  refine (h1.or (h2.or (h3.or h4))).imp fun d e q h => ?_
  match d, e, h with
  | .int i, .int j, h => exact .inl h
  | .str a, .str b, ⟨h, hq⟩ => exact .inr (.inl ⟨a, b, rfl, rfl, h, hq⟩)
  | .lst a, .lst b, ⟨h, hq⟩ => exact .inr (.inr (.inl ⟨a, b, rfl, rfl, h, hq⟩))
  | .tup a, .tup b, ⟨h, hq⟩ => exact .inr (.inr (.inr ⟨a, b, rfl, rfl, h, hq⟩))
end

theorem Reps.rep {K : PySem.W.Frag} {mg : Str → Option Value} {S : Hp} {ds : List D} {vs : List V} (h : Reps K mg S ds vs) : ∀ k : Nat, Reps K mg S (List.replicate k ds).flatten (List.replicate k vs).flatten
  | 0 => Reps.nil
  | k + 1 => by
    rw [List.replicate_succ, List.replicate_succ, List.flatten_cons, List.flatten_cons]
    exact h.app (Reps.rep h k)
end HD
set_option Elab.async false
set_option linter.all false
set_option maxRecDepth 100000
set_option maxHeartbeats 4000000
/-! HD, part 5: products; comparisons; and, or, not, if. -/
namespace L2
open PySem PySem.Spec PyProof.Rows
theorem tuple_mul1 (l : Addr) (items : Array Value) (n : Nat) (dd : Option Addr) (sl : Array (Option Value)) (u : Tok) :
    Meets (Builtin.«tuple.__mul__» ⟨[.ref l, .int 1 u], []⟩) (fun _ R s => s.heap.get? l = some { cls := .type "tuple", dict := dd, data := .seq items n, slots := sl } ∧ R (.ok (.ret (Value.ref l))) s) :=
  .of_wp fun prog w A R s h => by
    obtain ⟨hp, g, d, tk, os⟩ := s
    obtain ⟨hl, h⟩ := h
    have f1 := AutoSeq1.idx_int
    wp_walk using wpAny_loadPart' hl
    exact ⟨_, rfl, h⟩
theorem op_rep1 {X : Cx} : OpR X (binaryOp .Mult) (fun x y H Q => ∃ l xs, x = .ref l ∧ y = .int 1 ∧ SqT X.K H l xs ∧ Q (.ref l) H) := by
  intro pins s σ H x y v u Q I rx ry h
  obtain ⟨l, xs, rfl, rfl, hT, q⟩ := h
  cases rx
  obtain ⟨t, rfl⟩ := ry
  obtain ⟨its, r, ⟨⟨cls, dd, data, sl⟩, ho, hc, n, hd⟩, hs⟩ := I.tuple hT
  simp only at hc hd
  subst hc hd
  exact wpAny_binaryOp_repeat_ref (T := "tuple") (U := "int") (by decide) ⟨_, ho, rfl⟩ (fun s' => typeIs_int s' 1 t) noFill_tuple_mul F.fills_int_mul F.slot_int_rmul repeat_tuple F.slot_int_index.lookup
    (call_meets F.slot_int_rmul (typeIs_int s 1 t) F.entry_int_rmul (F.args_int_rmul_2 _ _) (int_rmul_tuple 1 t l its.toArray n dd sl)
      ⟨ho, rfl, ⟨_, ho, rfl⟩, call_meets F.slot_tuple_mul ⟨_, ho, rfl⟩ F.entry_tuple_mul (F.args_tuple_mul_2 _ _) (tuple_mul1 l its.toArray n dd sl t) ⟨ho, ⟨.ref l, H, I, rfl, q⟩⟩⟩)
/-- a text times a number -/
def repS (x : Str) (k : Nat) : Str := ⟨(List.replicate k x.cps.toList).flatten.toArray⟩
theorem foldl_repA (a : Array Nat) : ∀ (k : Nat) (acc : List Nat), (List.replicate k a).foldl (· ++ ·) acc.toArray = (acc ++ (List.replicate k a.toList).flatten).toArray
  | 0, acc => by simp
  | k + 1, acc => by
    rw [List.replicate_succ, List.foldl_cons, show acc.toArray ++ a = (acc ++ a.toList).toArray by simp, foldl_repA a k, List.replicate_succ, List.flatten_cons, List.append_assoc]
theorem op_repS {X : Cx} : OpR X (binaryOp .Mult) (fun x y H Q => ∃ (z : Str) (k : Int), x = .str z ∧ y = .int k ∧ 0 ≤ k ∧ k ≤ 1000000 ∧ z.length * k.toNat ≤ 1000000 ∧ Q (.str (repS z k.toNat)) H) := by
  intro pins s σ H x y v u Q I rx ry h
  obtain ⟨z, k, rfl, rfl, h0, h1, hz, q⟩ := h
  obtain ⟨t, rfl⟩ := rx
  obtain ⟨t', rfl⟩ := ry
  have e : (List.replicate k.toNat z.cps).foldl (· ++ ·) #[] = (repS z k.toNat).cps := by
    have := foldl_repA z.cps k.toNat []
    rw [List.nil_append] at this
    exact this
  refine PySem.P.mul_str ?_ ?_ ?_ ?_
  · rw [decide_eq_false (by omega), decide_eq_false (by omega)]; rfl
  · intro hk _ hg
    have hk' : 0 < k := by omega
    have : (z.length : Int) * k ≤ 1000000 := by
      have : ((z.length * k.toNat : Nat) : Int) ≤ 1000000 := by omega
      rw [Int.natCast_mul] at this
      have e2 : ((k.toNat : Nat) : Int) = k := by omega
      rwa [e2] at this
    have h3 : (z.length : Int) ≤ (2 ^ 63 - 1) / k := by
      refine Int.le_ediv_of_mul_le hk' ?_
      omega
    omega
  · intro hk _
    unfold Builtin.Str.tooLong
    rw [decide_eq_false]
    rw [sizeLine_eq]
    omega
  · by_cases hk : k < 1
    · have : k = 0 := by omega
      subst this
      rw [if_pos hk]
      exact ⟨by decide, ⟨.str Str.empty, H, I.tok _, ⟨_, rfl⟩, q⟩⟩
    · rw [if_neg hk]
      by_cases hone : (k == 1 || z.length == 0) = true
      · rw [if_pos hone]
        have e3 : repS z k.toNat = z := by
          rw [Bool.or_eq_true] at hone
          rcases hone with z1 | z0
          · have : k = 1 := by simpa using z1
            subst this
            show (⟨_⟩ : Str) = z
            simp [repS]
          · have z0 : z.length = 0 := by simpa using z0
            have z1 : z.cps = #[] := Array.eq_empty_of_size_eq_zero z0
            obtain ⟨c⟩ := z
            have : c = #[] := z1
            subst this
            show (⟨_⟩ : Str) = _
            simp [repS]
        rw [e3] at q
        exact ⟨.str z, H, I, ⟨_, rfl⟩, q⟩
      · rw [if_neg hone, e]
        refine ⟨?_, ⟨.str (repS z k.toNat), H, I.tok _, ⟨_, rfl⟩, q⟩⟩
        show ((List.replicate k.toNat z.cps.toList).flatten.toArray).size ≤ sizeLine
        rw [List.size_toArray, PyProof.Rows.lm_len_rep_flat, sizeLine_eq]
        have : z.cps.toList.length = z.length := by rfl
        rw [this, Nat.mul_comm]
        omega
end L2

namespace HD
open PySem PySem.Spec PyProof.Rows L2
section
variable {T : Tx}
theorem od_mul : OpD T (binaryOp .Mult) dMul := by
  have h1 : OpD T (binaryOp .Mult) (dInt CMul fun i j => i * j) := opD_int fun _ => op_mul
  have h2 : OpD T (binaryOp .Mult) fun d e q => ∃ a k, d = .lst a ∧ e = .int k ∧ -(2 ^ 63) ≤ k ∧ k < 2 ^ 63 ∧ a.length * k.toNat ≤ sizeLine ∧ q (.tmp (.lst (List.replicate k.toNat a).flatten)) := opD_of (fun _ _ => op_rep) fun X fx S P av F σ H x y d e q R rx ry ⟨a, k, hd, he, l1, l2, l3, hq⟩ => by
    subst hd he
    obtain ⟨p, vs, rfl, h1, r1⟩ := repT_lst rx
    exact ⟨p, k, vs, rfl, repT_int ry, h1, l1, l2, by rw [← r1.len]; exact l3, fun z hz => upO_lst R hq (r1.rep _) hz⟩
  have h3 : OpD T (binaryOp .Mult) fun d e q => ∃ a k, d = .tup a ∧ e = .int k ∧ a ≠ [] ∧ 2 ≤ k ∧ k ≤ 1000 ∧ a.length ≤ 1000 ∧ q (.sh (.tup (List.replicate k.toNat a).flatten)) := opD_of (fun _ _ => op_repT) fun X fx S P av F σ H x y d e q R rx ry ⟨a, k, hd, he, hn, l1, l2, l3, hq⟩ => by
    subst hd he
    obtain ⟨p, vs, rfl, h1, r1⟩ := repT_tup rx
    refine ⟨p, k, vs, rfl, repT_int ry, R.sH.sqT h1, fun z => hn ?_, l1, l2, by rw [← r1.len]; exact l3, fun z hz => upO_tup R hq (r1.rep _) hz⟩
    have := r1.len
    rw [z] at this
    exact List.length_eq_zero_iff.mp this
  have h4 : OpD T (binaryOp .Mult) fun d e q => ∃ a, d = .tup a ∧ e = .int 1 ∧ q (.sh (.tup a)) := opD_of (fun _ _ => op_rep1) fun X fx S P av F σ H x y d e q R rx ry ⟨a, hd, he, hq⟩ => by
    subst hd he
    obtain ⟨p, vs, rfl, h1, r1⟩ := repT_tup rx
    exact ⟨p, vs, rfl, repT_int ry, R.sH.sqT h1, upO_sh R hq (by unfold Rep; exact ⟨p, vs, rfl, h1, r1⟩)⟩
  have h5 : OpD T (binaryOp .Mult) fun d e q => ∃ z k, d = .str z ∧ e = .int k ∧ 0 ≤ k ∧ k ≤ 1000000 ∧ z.length * k.toNat ≤ 1000000 ∧ q (.sh (.str (repS z k.toNat))) := opD_of (fun _ _ => op_repS) fun X fx S P av F σ H x y d e q R rx ry ⟨z, k, hd, he, l1, l2, l3, hq⟩ => by
    subst hd he
    exact ⟨z, k, repT_str rx, repT_int ry, l1, l2, l3, upO_str R hq⟩
  refine (h1.or (h2.or (h3.or (h4.or h5)))).imp fun d e q h => ?_
  match d, e, h with
  | .int i, .int j, h => exact .inl h
  | .lst a, .int k, ⟨l1, l2, l3, hq⟩ => exact .inr (.inl ⟨a, k, rfl, rfl, l1, l2, l3, hq⟩)
  | .tup a, .int k, ⟨hn, l1, l2, l3, hq⟩ =>
    by_cases hk : k = 1
    · subst hk
      refine .inr (.inr (.inr (.inl ⟨a, rfl, rfl, ?_⟩)))
      have : (List.replicate (1 : Int).toNat a).flatten = a := by
        show (List.replicate 1 a).flatten = a
        simp
      rw [this] at hq; exact hq
    · exact .inr (.inr (.inl ⟨a, k, rfl, rfl, hn, by omega, l2, l3, hq⟩))
  | .str z, .int k, ⟨l1, l2, l3, hq⟩ => exact .inr (.inr (.inr (.inr ⟨z, k, rfl, rfl, l1, l3, l2, hq⟩)))
end

/-! ### equality of data -/
mutual
def D.toPy : D → PyData
  | .non => .none
  | .bl b => .bool b
  | .int i => .int i
  | .str s => .str s
  | .tup xs => .tuple (D.toPys xs)
  | .lst xs => .list (D.toPys xs)
  | .scr ns => .list (ns.map .int)
  | .dct _ _ => .dict []
  | .ins _ _ _ => .dict []
  | .exn _ _ _ _ _ _ => .dict []
def D.toPys : List D → List PyData
  | [] => []
  | d :: ds => D.toPy d :: D.toPys ds
end
/-- a == b as data -/
def deq (d e : D) : Bool := PyData.eqv d.toPy e.toPy
/-- no dicts, no instances, of small depth -/
def D.pl (d : D) : Bool := d.toPy.plain && decide (d.toPy.depth ≤ 60)
section
variable {K : PySem.W.Frag} {mg : Str → Option Value} {S H : Hp} {v : V} {d : D} {T : Tx}
theorem dpInts (ns : List Int) : DpAll K H (ns.map V.int) (ns.map PyData.int) := by
  induction ns with
  | nil => exact .nil
  | cons n ns ih => exact .cons (.int n) ih
mutual
theorem dp_of (e : Ex S H) : ∀ (d : D) (v : V), Rep K mg S d v → d.toPy.plain = true → Dp K H v d.toPy
  | .non, v, h, _ => by unfold Rep at h; subst h; unfold D.toPy; exact .non
  | .bl b, v, h, _ => by unfold Rep at h; subst h; unfold D.toPy; exact .bl b
  | .int b, v, h, _ => by unfold Rep at h; subst h; unfold D.toPy; exact .int b
  | .str b, v, h, _ => by unfold Rep at h; subst h; unfold D.toPy; exact .str b
  | .tup ds, v, h, p => by
    unfold Rep at h
    obtain ⟨a, vs, rfl, h1, h2⟩ := h
    unfold D.toPy at p ⊢
    exact .tup (e.sqT h1) (dps_of e ds vs h2 (by simpa [PyData.plain] using p))
  | .lst ds, v, h, p => by
    unfold Rep at h
    obtain ⟨a, vs, rfl, h1, h2⟩ := h
    unfold D.toPy at p ⊢
    exact .lst (SqL.of (e a _ h1)) (dps_of e ds vs h2 (by simpa [PyData.plain] using p))
  | .scr ns, v, h, p => by
    unfold Rep at h
    obtain ⟨a, rfl, h1⟩ := h
    unfold D.toPy
    exact .lst (e.sqL h1) (dpInts ns)
  | .dct _ _, v, h, p => by unfold D.toPy at p; cases p
  | .ins _ _ _, v, h, p => by unfold D.toPy at p; cases p
  | .exn _ _ _ _ _ _, v, h, p => by unfold D.toPy at p; cases p
theorem dps_of (e : Ex S H) : ∀ (ds : List D) (vs : List V), Reps K mg S ds vs → PyData.plainAll (D.toPys ds) = true → DpAll K H vs (D.toPys ds)
  | [], vs, h, _ => by unfold Reps at h; subst h; unfold D.toPys; exact .nil
  | d :: ds, vs, h, p => by
    unfold Reps at h
    obtain ⟨v, r, rfl, h1, h2⟩ := h
    unfold D.toPys at p ⊢
    simp only [PyData.plainAll, Bool.and_eq_true] at p
    exact .cons (dp_of e d v h1 p.1) (dps_of e ds r h2 p.2)
end
theorem dpT (e : Ex S H) (h : RepT K mg S H d v) (p : d.toPy.plain = true) : Dp K H v d.toPy := by
  cases d with
  | lst ds =>
    obtain ⟨a, vs, rfl, h1, h2⟩ := h
    unfold D.toPy at p ⊢
    exact .lst (SqL.of h1) (dps_of e ds vs h2 (by simpa [PyData.plain] using p))
  | dct _ _ => unfold D.toPy at p; cases p
  | ins _ _ _ => unfold D.toPy at p; cases p
  | exn _ _ _ _ _ _ => unfold D.toPy at p; cases p
  | _ => exact dp_of (mg := mg) e _ _ h p
theorem pl_of (h : d.pl = true) : d.toPy.plain = true ∧ d.toPy.depth ≤ 60 := by
  unfold D.pl at h
  rw [Bool.and_eq_true] at h
  exact ⟨h.1, of_decide_eq_true h.2⟩
def dEq (f : Bool → Bool) : D → D → (Ev → Prop) → Prop := fun d e q => d.pl = true ∧ e.pl = true ∧ q (.sh (.bl (f (deq d e))))
theorem od_eq : OpD T (compareOp .Eq) (dEq id) := fun X fx S P av F σ H x y d e q R rx ry ⟨p1, p2, hq⟩ pins s σ' v u I r1 r2 => by
  obtain ⟨a1, a2⟩ := pl_of p1
  obtain ⟨b1, b2⟩ := pl_of p2
  obtain ⟨as, k1⟩ := Dp.reads I _ x v (dpT R.sH rx a1) r1
  obtain ⟨bs, k2⟩ := Dp.reads I _ y u (dpT R.sH ry b1) r2
  have hu := fx.units
  exact PySem.SeqAt.eq_plain k1 k2 a1 b1 (by omega) ⟨.bl _, H, I, rfl, upO_bl R hq⟩
theorem od_ne : OpD T (compareOp .NotEq) (dEq not) := fun X fx S P av F σ H x y d e q R rx ry ⟨p1, p2, hq⟩ pins s σ' v u I r1 r2 => by
  obtain ⟨a1, a2⟩ := pl_of p1
  obtain ⟨b1, b2⟩ := pl_of p2
  obtain ⟨as, k1⟩ := Dp.reads I _ x v (dpT R.sH rx a1) r1
  obtain ⟨bs, k2⟩ := Dp.reads I _ y u (dpT R.sH ry b1) r2
  have hu := fx.units
  exact PySem.SeqAt.ne_plain k1 k2 a1 b1 (by omega) ⟨.bl _, H, I, rfl, upO_bl R hq⟩
/-- is None -/
def isNonD : D → Bool
  | .non => true
  | _ => false
theorem isNon_of {K : PySem.W.Frag} {mg : Str → Option Value} (h : RepT K mg S H d v) : decide (v = .non) = isNonD d := by
  cases d with
  | non => rw [repT_non h]; rfl
  | bl b => rw [repT_bl h]; rfl
  | int b => rw [repT_int h]; rfl
  | str b => rw [repT_str h]; exact decide_eq_false (by intro z; cases z)
  | tup b => obtain ⟨a, vs, rfl, _⟩ := repT_tup h; exact decide_eq_false (by intro z; cases z)
  | lst b => obtain ⟨a, vs, rfl, _⟩ := repT_lst h; exact decide_eq_false (by intro z; cases z)
  | scr b => obtain ⟨a, rfl, _⟩ := repT_scr h; exact decide_eq_false (by intro z; cases z)
  | dct _ _ => obtain ⟨a, vs, rfl, _⟩ := h; exact decide_eq_false (by intro z; cases z)
  | ins _ _ _ => obtain ⟨a, C, dx, vs, rfl, _⟩ := h; exact decide_eq_false (by intro z; cases z)
  | exn a cls dx c ns vs => unfold RepT Rep at h; rw [h.1]; exact decide_eq_false (by intro z; cases z)
def dIsN (f : Bool → Bool) : D → D → (Ev → Prop) → Prop := fun d e q => e = .non ∧ q (.sh (.bl (f (isNonD d))))
theorem od_isN : OpD T (compareOp .Is) (dIsN id) := opD_of (fun _ _ => op_isN) fun X fx S P av F σ H x y d e q R rx ry ⟨he, hq⟩ => by
  subst he
  exact ⟨repT_non ry, upO_bl R (by rw [isNon_of rx]; exact hq)⟩
theorem od_notN : OpD T (compareOp .IsNot) (dIsN not) := opD_of (fun _ _ => op_notN) fun X fx S P av F σ H x y d e q R rx ry ⟨he, hq⟩ => by
  subst he
  exact ⟨repT_non ry, upO_bl R (by rw [isNon_of rx]; exact hq)⟩

/-! ### x in c -/
def anyEq (d : D) (xs : List D) : Bool := xs.any fun y => deq y d
def inStr (a b : Str) : Bool := match a.cps.toList with
  | [c] => decide (c ∈ b.cps.toList)
  | _ => !(Builtin.Str.occurrences b a 0 b.length 1).isEmpty
theorem inStr_eq (a b : Str) : (!(Builtin.Str.occurrences b a 0 b.length 1).isEmpty) = inStr a b := by
  unfold inStr
  split
  · rename_i c h
    have : a = ⟨#[c]⟩ := by
      obtain ⟨z⟩ := a
      have h : z.toList = [c] := h
      congr 1
      exact Array.toList_inj.mp h
    subst this
    exact PySem.StrLaws.found_one b c
  · rfl
def dIn (f : Bool → Bool) : D → D → (Ev → Prop) → Prop
  | d, .lst xs, q => d.pl = true ∧ (D.lst xs).pl = true ∧ q (.sh (.bl (f (anyEq d xs))))
  | d, .tup xs, q => d.pl = true ∧ (D.tup xs).pl = true ∧ q (.sh (.bl (f (anyEq d xs))))
  | .str a, .str b, q => q (.sh (.bl (f (inStr a b))))
  | _, _, _ => False
theorem any_toPys (d : D) : ∀ xs : List D, (D.toPys xs).any (fun y => PyData.eqv y d.toPy) = anyEq d xs
  | [] => rfl
  | x :: xs => by
    unfold D.toPys anyEq
    rw [List.any_cons, List.any_cons, any_toPys d xs]
    rfl
theorem od_in : OpD T (compareOp .In) (dIn id) := by
  have h1 : OpD T (compareOp .In) fun d e q => ∃ xs, (e = .lst xs ∨ e = .tup xs) ∧ d.pl = true ∧ e.pl = true ∧ q (.sh (.bl (anyEq d xs))) := fun X fx S P av F σ H x y d e q R rx ry ⟨xs, he, p1, p2, hq⟩ pins s σ' v u I r1 r2 => by
    obtain ⟨a1, a2⟩ := pl_of p1
    obtain ⟨b1, b2⟩ := pl_of p2
    obtain ⟨as, k1⟩ := Dp.reads I _ x v (dpT R.sH rx a1) r1
    obtain ⟨bs, k2⟩ := Dp.reads I _ y u (dpT R.sH ry b1) r2
    have hu := fx.units
    rcases he with rfl | rfl
    · unfold D.toPy at k2 b1
      exact PySem.SeqAt.in_list_data k2 k1 (by simpa [PyData.plain] using b1) a1 (by omega) ⟨.bl _, H, I, rfl, upO_bl R (by rw [any_toPys]; exact hq)⟩
    · unfold D.toPy at k2 b1
      exact PySem.SeqAt.in_tuple_data k2 k1 (by simpa [PyData.plain] using b1) a1 (by omega) ⟨.bl _, H, I, rfl, upO_bl R (by rw [any_toPys]; exact hq)⟩
  have h2 : OpD T (compareOp .In) fun d e q => ∃ a b, d = .str a ∧ e = .str b ∧ q (.sh (.bl (inStr a b))) := opD_of (fun _ _ => op_in_str) fun X fx S P av F σ H x y d e q R rx ry ⟨a, b, hd, he, hq⟩ => by
    subst hd he
    exact ⟨a, b, repT_str rx, repT_str ry, upO_bl R (by rw [inStr_eq]; exact hq)⟩
  refine (h1.or h2).imp fun d e q h => ?_
  unfold dIn at h
  split at h
  · exact .inl ⟨_, .inl rfl, h.1, h.2.1, h.2.2⟩
  · exact .inl ⟨_, .inr rfl, h.1, h.2.1, h.2.2⟩
  · exact .inr ⟨_, _, rfl, rfl, h⟩
  · exact h.elim
theorem od_notIn : OpD T (compareOp .NotIn) (dIn not) := by
  have h1 : OpD T (compareOp .NotIn) fun d e q => ∃ xs, (e = .lst xs ∨ e = .tup xs) ∧ d.pl = true ∧ e.pl = true ∧ q (.sh (.bl (!anyEq d xs))) := fun X fx S P av F σ H x y d e q R rx ry ⟨xs, he, p1, p2, hq⟩ pins s σ' v u I r1 r2 => by
    obtain ⟨a1, a2⟩ := pl_of p1
    obtain ⟨b1, b2⟩ := pl_of p2
    obtain ⟨as, k1⟩ := Dp.reads I _ x v (dpT R.sH rx a1) r1
    obtain ⟨bs, k2⟩ := Dp.reads I _ y u (dpT R.sH ry b1) r2
    have hu := fx.units
    rcases he with rfl | rfl
    · unfold D.toPy at k2 b1
      exact PySem.SeqAt.notIn_list_data k2 k1 (by simpa [PyData.plain] using b1) a1 (by omega) ⟨.bl _, H, I, rfl, upO_bl R (by rw [any_toPys]; exact hq)⟩
    · unfold D.toPy at k2 b1
      exact PySem.SeqAt.notIn_tuple_data k2 k1 (by simpa [PyData.plain] using b1) a1 (by omega) ⟨.bl _, H, I, rfl, upO_bl R (by rw [any_toPys]; exact hq)⟩
  have h2 : OpD T (compareOp .NotIn) fun d e q => ∃ a b, d = .str a ∧ e = .str b ∧ q (.sh (.bl (!inStr a b))) := opD_of (fun _ _ => op_notin_str) fun X fx S P av F σ H x y d e q R rx ry ⟨a, b, hd, he, hq⟩ => by
    subst hd he
    exact ⟨a, b, repT_str rx, repT_str ry, upO_bl R (by rw [inStr_eq]; exact hq)⟩
  refine (h1.or h2).imp fun d e q h => ?_
  unfold dIn at h
  split at h
  · exact .inl ⟨_, .inl rfl, h.1, h.2.1, h.2.2⟩
  · exact .inl ⟨_, .inr rfl, h.1, h.2.1, h.2.2⟩
  · exact .inr ⟨_, _, rfl, rfl, h⟩
  · exact h.elim
end
end HD
set_option Elab.async false
set_option linter.all false
set_option maxRecDepth 100000
set_option maxHeartbeats 4000000
/-! HD, part 6: comparisons, truth, and, or, not, if; displays; subscripts, slices. -/
namespace HD
open PySem PySem.Spec PyProof.Rows L2

section
variable {T : Tx} {pos : Pos} {a b c e : Expr} {ma mb mc m : ME} {rest : List Expr}
theorem RepT.mono {K : PySem.W.Frag} {mg : Str → Option Value} {S S' H : Hp} (e : Ex S S') : ∀ {d : D} {v : V}, RepT K mg S H d v → RepT K mg S' H d v
  | .non, _, h => h
  | .bl _, _, h => h
  | .int _, _, h => h
  | .str _, _, h => h
  | .tup _, _, h => Rep.mono e (.tup _) _ h
  | .scr _, _, h => Rep.mono (mg := mg) e (.scr _) _ h
  | .exn a cls dx c ns ds, _, h => Rep.mono (mg := mg) e (.exn a cls dx c ns ds) _ h
  | .lst ds, _, ⟨a, vs, e1, h1, h2⟩ => ⟨a, vs, e1, h1, Reps.mono e _ _ h2⟩
  | .dct ks ds, _, ⟨a, vs, e1, l, h1, h2⟩ => ⟨a, vs, e1, l, h1, Reps.mono e _ _ h2⟩
  | .ins c ns ds, _, ⟨a, C, dx, vs, e1, m, l, h1, h2⟩ => ⟨a, C, dx, vs, e1, m, l, h1, Reps.mono e _ _ h2⟩
theorem se_cmp {op : CmpOp} {g : D → D → (Ev → Prop) → Prop} (ho : OpD T (compareOp op) g) (ha : SE T a ma) (hb : SE T b mb) (hm : behindInMarks op b = false) : SE T (.Compare a [op] [b] pos) (mBin g ma mb) := fun X fx S P av F σ H Q E R q tk => by
  refine tW_of (pe_cmpR (opR_sem _) pe_tW pe_tW hm) (two fx ha hb (Q2 := fun x y F2 => valK F2 x fun d => valK F2 y fun e => g d e fun r => Q r F2) R tk ?_ fun S2 F2 H2 x y ex ey e2 R2 k1 k2 q2 => ?_)
  · simp only [valK_hold]; exact q
  · obtain ⟨d, q2, t1⟩ := R2.val k1 q2
    obtain ⟨e, q2, t2⟩ := R2.val k2 q2
    exact rSem_mono (ho X fx S2 P av F2 σ H2 x y d e _ R2 t1 t2 q2) fun z H3 ⟨S3, ev, q3, e3, R3, k3⟩ => ⟨S3, F2, ev, q3, e2.trans e3, R3, k3⟩

/-! ### truth -/
def truK : D → (Bool → Prop) → Prop
  | .non, k => k false
  | .bl b, k => k b
  | .int i, k => k (i != 0)
  | .str s, k => s.length ≤ sizeLine ∧ k ((s.length : Int) != 0)
  | .tup xs, k => k (!xs.isEmpty)
  | .lst xs, k => k (!xs.isEmpty)
  | .dct ks _, k => k (!ks.isEmpty)
  | _, _ => False
theorem Reps.isEmpty {K : PySem.W.Frag} {mg : Str → Option Value} {S : Hp} {ds : List D} {vs : List V} (h : Reps K mg S ds vs) : vs.isEmpty = ds.isEmpty := by
  cases ds with
  | nil => rw [h.nil_of]; rfl
  | cons d ds => obtain ⟨v, r, rfl, _⟩ := h.cons_of; rfl
theorem tru_rep {K : PySem.W.Frag} {mg : Str → Option Value} {S H : Hp} {d : D} {v : V} {k : Bool → Prop} (e : Ex S H) (h : RepT K mg S H d v) (q : truK d k) : ∃ b, TruV K v H b ∧ k b := by
  match d, q with
  | .non, q => rw [repT_non h]; exact ⟨_, rfl, q⟩
  | .bl b, q => rw [repT_bl h]; exact ⟨_, rfl, q⟩
  | .int b, q => rw [repT_int h]; exact ⟨_, rfl, q⟩
  | .str b, ⟨q1, q2⟩ => rw [repT_str h]; exact ⟨_, ⟨q1, rfl⟩, q2⟩
  | .tup ds, q =>
    obtain ⟨a, vs, rfl, h1, h2⟩ := repT_tup h
    exact ⟨_, .inr (.inl ⟨vs, e.sqT h1, rfl⟩), by rw [h2.isEmpty]; exact q⟩
  | .lst ds, q =>
    obtain ⟨a, vs, rfl, h1, h2⟩ := repT_lst h
    exact ⟨_, .inl ⟨vs, SqL.of h1, rfl⟩, by rw [h2.isEmpty]; exact q⟩
  | .dct ks ds, q =>
    obtain ⟨a, vs, rfl, l, h1, h2⟩ := h
    refine ⟨_, .inr (.inr ⟨_, h1, rfl⟩), ?_⟩
    have : (ks.zip vs).isEmpty = ks.isEmpty := by
      cases ks with
      | nil => rfl
      | cons k ks =>
        cases vs with
        | nil => simp at l
        | cons v vs => rfl
    rw [this]; exact q
/-- both ways -/
def brK (b : Bool) (p q : Prop) : Prop := (b = true → p) ∧ (b = false → q)
theorem brK_tt {p q : Prop} : brK true p q = p := by simp [brK]
theorem brK_ff {p q : Prop} : brK false p q = q := by simp [brK]
theorem brK_if {b : Bool} {p q : Prop} (h : brK b p q) : if b = true then p else q := by
  cases b with
  | true => exact h.1 rfl
  | false => exact h.2 rfl
def mTru (m : ME) : MT := fun F Q E => m F (fun x F1 => valK F1 x fun d => truK d fun b => Q b F1) E
theorem sb_truth (h : SE T a m) (he : ∀ env whole, isTrue a env whole = (do let v ← whole; standAt a.pos; holding [v] (truthy v)) := by intros; rfl) : SB T a (mTru m) := fun X fx S P av F σ H Q E R q tk => by
  refine tWT_of (pt_truth pe_tW (he X.env)) ?_
  refine tW_mono (h X fx S P av F σ H _ E R q tk) fun x H1 ⟨S1, F1, ev1, q1, e1, R1, k1⟩ => ?_
  obtain ⟨d, q2, t1⟩ := R1.val k1 q1
  obtain ⟨b, h1, h2⟩ := tru_rep R1.sH t1 q2
  exact ⟨b, h1, S1, F1, h2, e1, R1⟩
/-- a comparison as a test -/
def blK : Ev → (Bool → Prop) → Prop
  | .sh (.bl b), k => k b
  | _, _ => False
def mTst (m : ME) : MT := fun F Q E => m F (fun x F1 => blK x fun b => Q b F1) E
theorem sb_cmp {op : CmpOp} {g : D → D → (Ev → Prop) → Prop} (ho : OpD T (compareOp op) g) (ha : SE T a ma) (hb : SE T b mb) (hm : behindInMarks op b = false) : SB T (.Compare a [op] [b] pos) (mTst (mBin g ma mb)) := fun X fx S P av F σ H Q E R q tk => by
  refine tWT_of (pt_cmpR (opR_sem _) pe_tW pe_tW hm) (two fx ha hb (Q2 := fun x y F2 => valK F2 x fun d => valK F2 y fun e => g d e fun r => blK r fun b => Q b F2) R tk ?_ fun S2 F2 H2 x y ex ey e2 R2 k1 k2 q2 => ?_)
  · simp only [valK_hold]; exact q
  · obtain ⟨d, q2, t1⟩ := R2.val k1 q2
    obtain ⟨e, q2, t2⟩ := R2.val k2 q2
    refine rSem_mono (ho X fx S2 P av F2 σ H2 x y d e _ R2 t1 t2 q2) fun z H3 ⟨S3, ev, q3, e3, R3, k3⟩ => ?_
    match ev, q3, k3 with
    | .sh (.bl b), q3, k3 =>
      have k3 : Rep X.K X.mg S3 (.bl b) z := k3
      unfold Rep at k3
      exact ⟨b, k3, S3, F2, q3, e2.trans e3, R3⟩
/-- a op1 b op2 c -/
def mChain (g g' : D → D → (Ev → Prop) → Prop) (ma mb mc : ME) : ME := fun F Q E => ma F (fun x F1 => mb F1 (fun y F2 => valK F2 x fun d => valK F2 y fun e => g d e fun r => blK r fun k =>
  brK k (mc F2 (fun z F3 => valK F3 y fun e' => valK F3 z fun f => g' e' f fun r => Q r F3) E) (Q (.sh (.bl false)) F2)) E) E
theorem se_chain {op op' : CmpOp} {g g' : D → D → (Ev → Prop) → Prop} (ho : OpD T (compareOp op) g) (ho' : OpD T (compareOp op') g') (ha : SE T a ma) (hb : SE T b mb) (hc : SE T c mc) (hm : lastMarks [op, op'] [b, c] = false) :
    SE T (.Compare a [op, op'] [b, c] pos) (mChain g g' ma mb mc) := fun X fx S P av F σ H Q E R q tk => by
  refine tW_of (pe_chain (opR_sem _) (opR_sem _) pe_tW pe_tW pe_tW hm) (two fx ha hb (Q2 := fun x y F2 => valK F2 x fun d => valK F2 y fun e => g d e fun r => blK r fun k =>
    brK k (mc F2 (fun z F3 => valK F3 (hold y) fun e' => valK F3 z fun f => g' e' f fun r => Q r F3) E) (Q (.sh (.bl false)) F2)) R tk ?_ fun S2 F2 H2 x y ex ey e2 R2 k1 k2 q2 => ?_)
  · simp only [valK_hold]; exact q
  · obtain ⟨d, q2, t1⟩ := R2.val k1 q2
    obtain ⟨e, q2, t2⟩ := R2.val k2 q2
    obtain ⟨S2', e2', R2', k2'⟩ := R2.hold k2
    refine rSem_mono (ho X fx S2' P av F2 σ H2 x y d e _ R2' (t1.mono e2') (t2.mono e2') q2) fun z H3 ⟨S3, ev, q3, e3, R3, k3⟩ => ?_
    match ev, q3, k3 with
    | .sh (.bl b), q3, k3 =>
      have k3 : Rep X.K X.mg S3 (.bl b) z := k3
      unfold Rep at k3
      refine ⟨b, k3, brK_if ⟨fun hb => ?_, fun hb => ?_⟩⟩
      · refine tW_mono (hc X fx S3 P av F2 σ H3 _ E R3 (q3.1 hb) (takes_mono (e2.trans (e2'.trans e3)) tk)) fun w' H4 ⟨S4, F4, ev4, q4, e4, R4, k4⟩ => ?_
        obtain ⟨d', q4, s1⟩ := R4.val (EvOk.held (e3.trans e4) k2') q4
        obtain ⟨f', q4, s2⟩ := R4.val k4 q4
        exact rSem_mono (ho' X fx S4 P av F4 σ H4 y w' d' f' _ R4 s1 s2 q4) fun z5 H5 ⟨S5, ev5, q5, e5, R5, k5⟩ => ⟨S5, F4, ev5, q5, e2.trans (e2'.trans (e3.trans (e4.trans e5))), R5, k5⟩
      · exact ⟨S3, F2, _, q3.2 hb, e2.trans (e2'.trans e3), R3, by show Rep _ _ _ _ _; unfold Rep; rfl⟩

/-! ### and, or, not as tests -/
def mAnd (ma mb : MT) : MT := fun F Q E => ma F (fun b F1 => brK b (mb F1 Q E) (Q false F1)) E
def mOr (ma mb : MT) : MT := fun F Q E => ma F (fun b F1 => brK b (Q true F1) (mb F1 Q E)) E
def mNot (ma : MT) : MT := fun F Q E => ma F (fun b F1 => Q (!b) F1) E
/-- a test whatever its whole is -/
def tWW (X : Cx) (e : Expr) : TT := fun σ H Q => ∀ (whole : Sem Value) (pins : List (Addr × Obj)) (s : Shared), Inv X pins σ H s → wpAny (model X.prog X.w) X.A (isTrue e X.env whole) (TP X pins σ Q) X.xe s
theorem pw_tWW {X : Cx} {e : Expr} : PW X e (tWW X e) := ⟨fun wh pins s σ H Q I h => h wh pins s I⟩
theorem tWW_of {X : Cx} {e : Expr} {t : TT} (h : PW X e t) {σ : L2.St} {H : Hp} {Q : Bool → Hp → Prop} (q : t σ H Q) : tWW X e σ H Q := fun wh pins s I => h.run wh pins s σ H Q I q
def SW (T : Tx) (e : Expr) (m : MT) : Prop := ∀ (X : Cx), Fits T X → ∀ (S P : Hp) (av : List V) (F : Fr) (σ : L2.St) (H : Hp) (Q : Bool → Fr → Prop) (E : EX),
  Rel X.K X.mg S P av F σ H → m F Q E → Takes X (UpX X S P av E) → tWW X e σ H (UpT X S P av σ Q)
variable {na nb nc : MT}
theorem sb_w (h : SW T e na) : SB T e na := fun X fx S P av F σ H Q E R q tk pins s I => h X fx S P av F σ H Q E R q tk _ pins s I
theorem sw_and1 (h : SB T a na) : SW T (.BoolOp .And [a] pos) na := fun X fx S P av F σ H Q E R q tk => tWW_of (pw_and1 pt_tWT) (h X fx S P av F σ H Q E R q tk)
theorem sw_or1 (h : SB T a na) : SW T (.BoolOp .Or [a] pos) na := fun X fx S P av F σ H Q E R q tk => tWW_of (pw_or1 pt_tWT) (h X fx S P av F σ H Q E R q tk)
theorem UpT.mono {X : Cx} {S S' P : Hp} {av : List V} {σ : L2.St} {Q : Bool → Fr → Prop} (e : Ex S S') {b : Bool} {H : Hp} (u : UpT X S' P av σ Q b H) : UpT X S P av σ Q b H := by
  obtain ⟨S2, F2, q, e2, R⟩ := u
  exact ⟨S2, F2, q, e.trans e2, R⟩
theorem UpE.mono {X : Cx} {S S' P : Hp} {av : List V} {σ : L2.St} {Q : Ev → Fr → Prop} (e : Ex S S') {v : V} {H : Hp} (u : UpE X S' P av σ Q v H) : UpE X S P av σ Q v H := by
  obtain ⟨S2, F2, ev, q, e2, R⟩ := u
  exact ⟨S2, F2, ev, q, e.trans e2, R⟩
theorem tWW_mono {X : Cx} {e : Expr} {σ : L2.St} {H : Hp} {Q Q' : Bool → Hp → Prop} (h : tWW X e σ H Q) (m : ∀ v H', Q v H' → Q' v H') : tWW X e σ H Q' := fun wh pins s I =>
  thn (h wh pins s I) fun v s' ⟨H', I', q⟩ => ⟨H', I', m v H' q⟩
theorem sw_and (ha : SB T a na) (hb : SW T (.BoolOp .And (b :: rest) pos) nb) : SW T (.BoolOp .And (a :: b :: rest) pos) (mAnd na nb) := fun X fx S P av F σ H Q E R q tk => by
  refine tWW_of (pw_and pt_tWT pw_tWW) (tWT_mono (ha X fx S P av F σ H _ E R q tk) fun k H1 ⟨S1, F1, q1, e1, R1⟩ => brK_if ⟨fun h => ?_, fun h => ?_⟩)
  · exact tWW_mono (hb X fx S1 P av F1 σ H1 Q E R1 (q1.1 h) (takes_mono e1 tk)) fun _ _ u => u.mono e1
  · exact ⟨S1, F1, q1.2 h, e1, R1⟩
theorem sw_or (ha : SB T a na) (hb : SW T (.BoolOp .Or (b :: rest) pos) nb) : SW T (.BoolOp .Or (a :: b :: rest) pos) (mOr na nb) := fun X fx S P av F σ H Q E R q tk => by
  refine tWW_of (pw_or pt_tWT pw_tWW) (tWT_mono (ha X fx S P av F σ H _ E R q tk) fun k H1 ⟨S1, F1, q1, e1, R1⟩ => brK_if ⟨fun h => ?_, fun h => ?_⟩)
  · exact ⟨S1, F1, q1.1 h, e1, R1⟩
  · exact tWW_mono (hb X fx S1 P av F1 σ H1 Q E R1 (q1.2 h) (takes_mono e1 tk)) fun _ _ u => u.mono e1
theorem sb_not (ha : SB T a na) : SB T (.UnaryOp .Not a pos) (mNot na) := fun X fx S P av F σ H Q E R q tk =>
  tWT_of (pt_not pt_tWT) (tWT_mono (ha X fx S P av F σ H _ E R q tk) fun k H1 u => u)

/-! ### .. as values -/
def mAndV (ma mb : ME) : ME := fun F Q E => ma F (fun x F1 => valK F1 x fun d => truK d fun b => brK b (mb F1 Q E) (Q x F1)) E
def mOrV (ma mb : ME) : ME := fun F Q E => ma F (fun x F1 => valK F1 x fun d => truK d fun b => brK b (Q x F1) (mb F1 Q E)) E
def mNotV (ma : ME) : ME := fun F Q E => ma F (fun x F1 => valK F1 x fun d => truK d fun b => Q (.sh (.bl (!b))) F1) E
theorem se_one {op} (h : SE T a ma) : SE T (.BoolOp op [a] pos) ma := fun X fx S P av F σ H Q E R q tk => tW_of (pe_one pe_tW) (h X fx S P av F σ H Q E R q tk)
theorem se_and (ha : SE T a ma) (hb : SE T (.BoolOp .And (b :: rest) pos) mb) : SE T (.BoolOp .And (a :: b :: rest) pos) (mAndV ma mb) := fun X fx S P av F σ H Q E R q tk => by
  refine tW_of (pe_andT pe_tW pe_tW) (tW_mono (ha X fx S P av F σ H _ E R q tk) fun x H1 ⟨S1, F1, ev1, q1, e1, R1, k1⟩ => ?_)
  obtain ⟨d, q2, t1⟩ := R1.val k1 q1
  obtain ⟨k, h1, h2⟩ := tru_rep R1.sH t1 q2
  refine ⟨k, h1, brK_if ⟨fun h => ?_, fun h => ?_⟩⟩
  · exact tW_mono (hb X fx S1 P av F1 σ H1 Q E R1 (h2.1 h) (takes_mono e1 tk)) fun _ _ u => u.mono e1
  · exact ⟨S1, F1, ev1, h2.2 h, e1, R1, k1⟩
theorem se_or (ha : SE T a ma) (hb : SE T (.BoolOp .Or (b :: rest) pos) mb) : SE T (.BoolOp .Or (a :: b :: rest) pos) (mOrV ma mb) := fun X fx S P av F σ H Q E R q tk => by
  refine tW_of (pe_orT pe_tW pe_tW) (tW_mono (ha X fx S P av F σ H _ E R q tk) fun x H1 ⟨S1, F1, ev1, q1, e1, R1, k1⟩ => ?_)
  obtain ⟨d, q2, t1⟩ := R1.val k1 q1
  obtain ⟨k, h1, h2⟩ := tru_rep R1.sH t1 q2
  refine ⟨k, h1, brK_if ⟨fun h => ?_, fun h => ?_⟩⟩
  · exact ⟨S1, F1, ev1, h2.1 h, e1, R1, k1⟩
  · exact tW_mono (hb X fx S1 P av F1 σ H1 Q E R1 (h2.2 h) (takes_mono e1 tk)) fun _ _ u => u.mono e1
theorem se_not (ha : SE T a ma) : SE T (.UnaryOp .Not a pos) (mNotV ma) := fun X fx S P av F σ H Q E R q tk => by
  refine tW_of (pe_notT pe_tW) (tW_mono (ha X fx S P av F σ H _ E R q tk) fun x H1 ⟨S1, F1, ev1, q1, e1, R1, k1⟩ => ?_)
  obtain ⟨d, q2, t1⟩ := R1.val k1 q1
  obtain ⟨k, h1, h2⟩ := tru_rep R1.sH t1 q2
  exact ⟨k, h1, S1, F1, _, h2, e1, R1, by show Rep _ _ _ _ _; unfold Rep; rfl⟩
def mIf (mt : MT) (ma mb : ME) : ME := fun F Q E => mt F (fun b F1 => brK b (ma F1 Q E) (mb F1 Q E)) E
theorem se_ife (hc : SB T c nc) (ha : SE T a ma) (hb : SE T b mb) : SE T (.IfExp c a b pos) (mIf nc ma mb) := fun X fx S P av F σ H Q E R q tk => by
  refine tW_of (pe_ifExp pt_tWT pe_tW pe_tW) (tWT_mono (hc X fx S P av F σ H _ E R q tk) fun k H1 ⟨S1, F1, q1, e1, R1⟩ => brK_if ⟨fun h => ?_, fun h => ?_⟩)
  · exact tW_mono (ha X fx S1 P av F1 σ H1 Q E R1 (q1.1 h) (takes_mono e1 tk)) fun _ _ u => u.mono e1
  · exact tW_mono (hb X fx S1 P av F1 σ H1 Q E R1 (q1.2 h) (takes_mono e1 tk)) fun _ _ u => u.mono e1

/-! ### minus, ~ -/
def mUn (f : D → (Ev → Prop) → Prop) (m : ME) : ME := fun F Q E => m F (fun x F1 => valK F1 x fun d => f d fun r => Q r F1) E
def dNeg : D → (Ev → Prop) → Prop
  | .int i, q => q (.sh (.int (-i)))
  | _, _ => False
def dInv : D → (Ev → Prop) → Prop
  | .int i, q => q (.sh (.int (Builtin.bitNot i)))
  | _, _ => False
theorem se_neg (ha : SE T a ma) : SE T (.UnaryOp .USub a pos) (mUn dNeg ma) := fun X fx S P av F σ H Q E R q tk => by
  refine tW_of (pe_un un_neg pe_tW) (tW_mono (ha X fx S P av F σ H _ E R q tk) fun x H1 ⟨S1, F1, ev1, q1, e1, R1, k1⟩ => ?_)
  obtain ⟨d, q2, t1⟩ := R1.val k1 q1
  match d, q2 with
  | .int i, q2 => exact ⟨i, repT_int t1, S1, F1, _, q2, e1, R1, by show Rep _ _ _ _ _; unfold Rep; rfl⟩
theorem se_inv (ha : SE T a ma) : SE T (.UnaryOp .Invert a pos) (mUn dInv ma) := fun X fx S P av F σ H Q E R q tk => by
  refine tW_of (pe_un un_inv pe_tW) (tW_mono (ha X fx S P av F σ H _ E R q tk) fun x H1 ⟨S1, F1, ev1, q1, e1, R1, k1⟩ => ?_)
  obtain ⟨d, q2, t1⟩ := R1.val k1 q1
  match d, q2 with
  | .int i, q2 => exact ⟨i, repT_int t1, S1, F1, _, q2, e1, R1, by show Rep _ _ _ _ _; unfold Rep; rfl⟩
end
end HD
set_option Elab.async false
set_option linter.all false
set_option maxRecDepth 100000
set_option maxHeartbeats 4000000
/-! HD, part 7: argument lists, displays, subscripts, slices, attributes. -/
namespace HD
open PySem PySem.Spec PyProof.Rows L2

/-- several values -/
def EvsOk (K : PySem.W.Frag) (mg : Str → Option Value) (S P : Hp) (av : List V) (F : Fr) (σ : L2.St) (H : Hp) : List V → List Ev → Prop
  | [], [] => True
  | v :: vs, e :: es => EvOk K mg S P av F σ H v (hold e) ∧ EvsOk K mg S P av F σ H vs es
  | _, _ => False
theorem EvsOk.held {K : PySem.W.Frag} {mg : Str → Option Value} {S S' P H H' : Hp} {av : List V} {F F' : Fr} {σ : L2.St} (e : Ex S S') : ∀ {vs : List V} {es : List Ev}, EvsOk K mg S P av F σ H vs es → EvsOk K mg S' P av F' σ H' vs es
  | [], [], h => h
  | v :: vs, x :: es, h => ⟨EvOk.held e h.1, EvsOk.held e h.2⟩
def UpA (X : Cx) (S P : Hp) (av : List V) (σ : L2.St) (Q : List Ev → Fr → Prop) : List V → Hp → Prop := fun vs H' => ∃ S' F' es, Q es F' ∧ Ex S S' ∧ Rel X.K X.mg S' P av F' σ H' ∧ EvsOk X.K X.mg S' P av F' σ H' vs es
def tWA (X : Cx) (es : List Expr) : TA := fun σ H Q => ∀ (pos : Pos) (pins : List (Addr × Obj)) (s : Shared), Inv X pins σ H s → wpAny (model X.prog X.w) X.A (spliced (backTo pos (starEach es X.env))) (AP X pins σ Q) X.xe s
theorem pa_tWA {X : Cx} {es : List Expr} : PA X es (tWA X es) := ⟨fun pos pins s σ H Q I h => h pos pins s I⟩
theorem tWA_of {X : Cx} {es : List Expr} {t : TA} (h : PA X es t) {σ : L2.St} {H : Hp} {Q : List V → Hp → Prop} (q : t σ H Q) : tWA X es σ H Q := fun pos pins s I => h.run pos pins s σ H Q I q
theorem tWA_mono {X : Cx} {es : List Expr} {σ : L2.St} {H : Hp} {Q Q' : List V → Hp → Prop} (h : tWA X es σ H Q) (m : ∀ v H', Q v H' → Q' v H') : tWA X es σ H Q' := fun pos pins s I =>
  thn (h pos pins s I) fun v s' ⟨x, H', I', r, q⟩ => ⟨x, H', I', r, m x H' q⟩
def SA (T : Tx) (es : List Expr) (m : MA) : Prop := ∀ (X : Cx), Fits T X → ∀ (S P : Hp) (av : List V) (F : Fr) (σ : L2.St) (H : Hp) (Q : List Ev → Fr → Prop) (E : EX),
  Rel X.K X.mg S P av F σ H → m F Q E → Takes X (UpX X S P av E) → tWA X es σ H (UpA X S P av σ Q)
def mNil : MA := fun F Q _ => Q [] F
def mCons (ma : ME) (mr : MA) : MA := fun F Q E => ma F (fun x F1 => mr F1 (fun xs F2 => Q (hold x :: xs) F2) E) E
theorem hold_hold (x : Ev) : hold (hold x) = hold x := by cases x <;> rfl
section
variable {T : Tx} {pos : Pos} {a b e : Expr} {es : List Expr} {ma mb m : ME} {ms : MA}
theorem sa_nil : SA T [] mNil := fun X fx S P av F σ H Q E R q tk => tWA_of pa_nil ⟨S, F, [], q, Ex.refl S, R, trivial⟩
theorem sa_cons (ha : SE T e ma) (hr : SA T es ms) (hs : ∀ env, starEach (e :: es) env = (false, eval e env) :: starEach es env := by intros; rfl) : SA T (e :: es) (mCons ma ms) := fun X fx S P av F σ H Q E R q tk => by
  refine tWA_of (pa_cons pe_tW pa_tWA (hs X.env)) (tW_mono (ha X fx S P av F σ H _ E R q tk) fun x H1 ⟨S1, F1, ev1, q1, e1, R1, k1⟩ => ?_)
  obtain ⟨S1', e1', R1', k1'⟩ := R1.hold k1
  refine tWA_mono (hr X fx S1' P av F1 σ H1 _ E R1' q1 (takes_mono (e1.trans e1') tk)) fun xs H2 ⟨S2, F2, evs, q2, e2, R2, k2⟩ => ?_
  exact ⟨S2, F2, hold ev1 :: evs, q2, (e1.trans e1').trans e2, R2, by rw [hold_hold]; exact EvOk.held e2 k1', k2⟩

/-! ### a value becomes data -/
def frzS (F : Fr) (i : Nat) : Option (Option Sv) → (D → Fr → Prop) → Prop
  | some (some (.sh d)), k => k d F
  | some (some (.own c)), k => k c.toD (F.put (.gone c.toD) (.inl i))
  | _, _ => False
def frzA (F : Fr) (j : Nat) : Option Cel → (D → Fr → Prop) → Prop
  | some c, k => k c.toD (F.put (.gone c.toD) (.inr j))
  | none, _ => False
def frzK (F : Fr) : Ev → (D → Fr → Prop) → Prop
  | .sh d, k => k d F
  | .tmp c, k => k c.toD F
  | .sl i, k => frzS F i F.sl[i]? k
  | .ar j, k => frzA F j F.ar[j]? k
def frzAll (F : Fr) : List Ev → (List D → Fr → Prop) → Prop
  | [], k => k [] F
  | e :: es, k => frzK F e fun d F1 => frzAll F1 es fun ds F2 => k (d :: ds) F2
section
variable {K : PySem.W.Frag} {mg : Str → Option Value} {S S' P H H' : Hp} {av : List V} {F F' : Fr} {σ : L2.St} {v : V} {ev : Ev}
theorem frzS_of {i : Nat} {o : Option (Option Sv)} {k : D → Fr → Prop} (h : frzS F i o k) : (∃ d, o = some (some (.sh d)) ∧ k d F) ∨ ∃ c, o = some (some (.own c)) ∧ k c.toD (F.put (.gone c.toD) (.inl i)) := by
  match o, h with
  | some (some (.sh d)), h => exact .inl ⟨d, rfl, h⟩
  | some (some (.own c)), h => exact .inr ⟨c, rfl, h⟩
theorem Rel.frzEv (R : Rel K mg S P av F σ H) {k : D → Fr → Prop} (h : EvOk K mg S P av F σ H v (HD.hold ev)) (q : frzK F ev k) : ∃ S' F' d, k d F' ∧ Ex S S' ∧ Rel K mg S' P av F' σ H ∧ Rep K mg S' d v := by
  cases ev with
  | sh d => exact ⟨S, F, d, q, Ex.refl S, R, h⟩
  | tmp c => exact ⟨S, F, _, q, Ex.refl S, R, h⟩
  | sl i =>
    have h' : σ[i]? = some (some v) := h
    rcases frzS_of q with ⟨d, hs, q⟩ | ⟨c, hs, q⟩
    · obtain ⟨w, h1, h2, _⟩ := R.slo i _ hs
      rw [h'] at h1; cases h1
      exact ⟨S, F, d, q, Ex.refl S, R, h2 d rfl⟩
    · obtain ⟨w, h1, _, _, h4⟩ := R.slo i _ hs
      obtain ⟨S', e, R', r⟩ := R.frz (p := .inl i) (e := c) (by show celOf F.sl[i]? = _; rw [hs]; rfl) (h4 c rfl) (by show vOf σ[i]? = some v; rw [h']; rfl)
      exact ⟨S', _, _, q, e, R', r⟩
  | ar j =>
    have h' : av[j]? = some v := h
    match hs : F.ar[j]?, (show frzA F j F.ar[j]? k from q) with
    | some c, q =>
      cases ho : c.own with
      | true =>
        obtain ⟨S', e, R', r⟩ := R.frz (p := .inr j) (e := c) hs ho h'
        exact ⟨S', _, _, q, e, R', r⟩
      | false =>
        cases c with
        | gone d =>
          obtain ⟨w, h1, h2⟩ := R.cel (.inr j) _ hs
          have h1' : av[j]? = some w := h1
          rw [h'] at h1'; cases h1'
          have e0 : F.put (.gone (Cel.gone d).toD) (.inr j) = F := by
            show { F with ar := F.ar.set j (.gone d) } = F
            have : F.ar.set j (.gone d) = F.ar := by
              obtain ⟨hj, he⟩ := List.getElem?_eq_some_iff.mp hs
              rw [← he]
              exact List.set_getElem_self hj
            rw [this]
          have q : k d (F.put (.gone (Cel.gone d).toD) (.inr j)) := q
          rw [e0] at q
          exact ⟨S, F, d, q, Ex.refl S, R, h2⟩
        | _ => cases ho
theorem Rel.frzEvs {k : List D → Fr → Prop} : ∀ {evs : List Ev} {vs : List V} {S : Hp} {F : Fr} {k : List D → Fr → Prop}, Rel K mg S P av F σ H → EvsOk K mg S P av F σ H vs evs → frzAll F evs k → ∃ S' F' ds, k ds F' ∧ Ex S S' ∧ Rel K mg S' P av F' σ H ∧ Reps K mg S' ds vs
  | [], [], S, F, k, R, _, q => ⟨S, F, [], q, Ex.refl S, R, Reps.nil⟩
  | ev :: evs, v :: vs, S, F, k, R, h, q => by
    obtain ⟨S1, F1, d, q1, e1, R1, r1⟩ := R.frzEv h.1 q
    obtain ⟨S2, F2, ds, q2, e2, R2, r2⟩ := Rel.frzEvs (k := k) (evs := evs) R1 (EvsOk.held e1 h.2) q1
    exact ⟨S2, F2, _, q2, e1.trans e2, R2, Reps.cons (Rep.mono e2 _ _ r1) r2⟩
end

/-! ### displays -/
def mTup (ms : MA) : ME := fun F Q E => ms F (fun xs F1 => frzAll F1 xs fun ds F2 => ds.length ≤ sizeLine ∧ Q (.sh (.tup ds)) F2) E
def mLst (ms : MA) : ME := fun F Q E => ms F (fun xs F1 => frzAll F1 xs fun ds F2 => ds.length ≤ sizeLine ∧ Q (.tmp (.lst ds)) F2) E
theorem se_tup {x1} (h : SA T es ms) : SE T (.Tuple es x1 pos) (mTup ms) := fun X fx S P av F σ H Q E R q tk => by
  refine tW_of (pe_tup pa_tWA) (tWA_mono (h X fx S P av F σ H _ E R q tk) fun xs H1 ⟨S1, F1, evs, q1, e1, R1, k1⟩ => ?_)
  obtain ⟨S2, F2, ds, ⟨hl, q2⟩, e2, R2, r2⟩ := Rel.frzEvs (k := fun _ _ => True) R1 k1 q1
  refine ⟨by rw [← r2.len]; exact hl, fun p hp => ?_⟩
  obtain ⟨e3, R3⟩ := R2.newSh hp (.tup xs)
  refine ⟨_, F2, _, q2, e1.trans (e2.trans e3), R3, ?_⟩
  show Rep _ _ _ _ _
  unfold Rep
  exact ⟨p, xs, rfl, .inl (.inl upd_same), Reps.mono e3 _ _ r2⟩
theorem se_lst (h : SA T es ms) : SE T (.List es pos) (mLst ms) := fun X fx S P av F σ H Q E R q tk => by
  refine tW_of (pe_lst pa_tWA) (tWA_mono (h X fx S P av F σ H _ E R q tk) fun xs H1 ⟨S1, F1, evs, q1, e1, R1, k1⟩ => ?_)
  obtain ⟨S2, F2, ds, ⟨hl, q2⟩, e2, R2, r2⟩ := Rel.frzEvs (k := fun _ _ => True) R1 k1 q1
  exact ⟨by rw [← r2.len]; exact hl, fun p hp => ⟨S2, F2, _, q2, e1.trans e2, R2.fresh hp, R2.tmp hp ⟨xs, rfl, r2⟩⟩⟩

/-! ### subscripts -/
def dIx : D → D → (Ev → Prop) → Prop
  | .lst xs, .int i, q => ∃ d, atI xs i = some d ∧ q (.sh d)
  | .tup xs, .int i, q => ∃ d, atI xs i = some d ∧ q (.sh d)
  | .str s, .int i, q => ∃ c, s.length ≤ sizeLine ∧ atI s.cps.toList i = some c ∧ q (.sh (.str ⟨#[c]⟩))
  | _, _, _ => False
theorem Reps.atI {K : PySem.W.Frag} {mg : Str → Option Value} {S : Hp} {ds : List D} {vs : List V} {i : Int} {d : D} (h : Reps K mg S ds vs) (e : L2.atI ds i = some d) : ∃ v, L2.atI vs i = some v ∧ Rep K mg S d v := by
  unfold L2.atI at e ⊢
  rw [← h.len]
  cases q : ixN ds.length i with
  | none => rw [q] at e; cases e
  | some j =>
    rw [q] at e
    exact h.get (i := j) e
def rIxSem (X : Cx) : R2 := fun x y H Q => rIx X.K x y H Q
theorem se_ix (ha : SE T a ma) (hb : SE T b mb) (hs : PlainIx b) : SE T (.Subscript a b pos) (mBin dIx ma mb) := fun X fx S P av F σ H Q E R q tk => by
  refine tW_of (pe_ix ix_seq pe_tW pe_tW hs) (two fx ha hb (Q2 := fun x y F2 => valK F2 x fun d => valK F2 y fun e => dIx d e fun r => Q r F2) R tk ?_ fun S2 F2 H2 x y ex ey e2 R2 k1 k2 q2 => ?_)
  · simp only [valK_hold]; exact q
  · obtain ⟨d, q2, t1⟩ := R2.val k1 q2
    obtain ⟨e, q2, t2⟩ := R2.val k2 q2
    match d, e, q2 with
    | .lst xs, .int i, ⟨d, h1, q3⟩ =>
      obtain ⟨p, vs, rfl, h2, r2⟩ := repT_lst t1
      obtain ⟨v, h3, r3⟩ := r2.atI h1
      exact .inl ⟨p, vs, i, v, rfl, repT_int t2, SqL.of h2, h3, S2, F2, _, q3, e2, R2, r3⟩
    | .tup xs, .int i, ⟨d, h1, q3⟩ =>
      obtain ⟨p, vs, rfl, h2, r2⟩ := repT_tup t1
      obtain ⟨v, h3, r3⟩ := r2.atI h1
      exact .inr (.inl ⟨p, vs, i, v, rfl, repT_int t2, R2.sH.sqT h2, h3, S2, F2, _, q3, e2, R2, r3⟩)
    | .str s, .int i, ⟨c, h0, h1, q3⟩ =>
      exact .inr (.inr ⟨s, i, c, repT_str t1, repT_int t2, h0, h1, S2, F2, _, q3, e2, R2, by show Rep _ _ _ _ _; unfold Rep; rfl⟩)
end
end HD
set_option Elab.async false
set_option linter.all false
set_option maxRecDepth 100000
set_option maxHeartbeats 4000000
/-! HD, part 8: slices, attributes. -/
namespace HD
open PySem PySem.Spec PyProof.Rows L2

def cutL {α : Type} (xs : List α) (lo hi : Option Int) : List α := (xs.drop (HT.sIx xs.length 0 lo)).take (HT.sIx xs.length xs.length hi - HT.sIx xs.length 0 lo)
theorem cutL_len {α : Type} (xs : List α) (lo hi : Option Int) : (cutL xs lo hi).length ≤ xs.length := by
  unfold cutL
  rw [List.length_take, List.length_drop]; omega
theorem cutL_whole {α : Type} {xs : List α} {lo hi : Option Int} (h : HT.sIx xs.length 0 lo = 0 ∧ HT.sIx xs.length xs.length hi = xs.length) : cutL xs lo hi = xs := by
  unfold cutL
  rw [h.1, h.2]; simp
theorem Reps.cut {K : PySem.W.Frag} {mg : Str → Option Value} {S : Hp} {ds : List D} {vs : List V} (h : Reps K mg S ds vs) (lo hi : Option Int) : Reps K mg S (cutL ds lo hi) (cutL vs lo hi) := by
  unfold cutL
  rw [← h.len]
  exact (h.drop _).take _
abbrev MO := Fr → (Option Int → Fr → Prop) → EX → Prop

def SO (T : Tx) (e : Option Expr) (m : MO) : Prop := ∀ (X : Cx), Fits T X → ∃ t : TO, PO X e t ∧ ∀ (S P : Hp) (av : List V) (F : Fr) (σ : L2.St) (H : Hp) (Q : Option Int → Fr → Prop) (E : EX),
  Rel X.K X.mg S P av F σ H → m F Q E → Takes X (UpX X S P av E) → ∀ Q' : Option Int → Hp → Prop, (∀ o S' F' H', Q o F' → Ex S S' → Rel X.K X.mg S' P av F' σ H' → Q' o H') → t σ H Q'
def mNoPart : MO := fun F Q _ => Q none F
def intK : D → (Int → Prop) → Prop
  | .int i, k => k i
  | _, _ => False
def mPart (m : ME) : MO := fun F Q E => m F (fun x F1 => valK F1 x fun d => intK d fun i => Q (some i) F1) E
def dSl (lo hi : Option Int) : D → (Ev → Prop) → Prop
  | .lst xs, q => q (.tmp (.lst (cutL xs lo hi)))
  | .tup xs, q => q (.sh (.tup (cutL xs lo hi)))
  | .scr ns, q => q (.tmp (.lst ((cutL ns lo hi).map .int)))
  | .str s, q => s.length ≤ sizeLine ∧ q (.sh (.str (cutS s lo hi)))
  | _, _ => False
def mSl (ma : ME) (ml mh : MO) : ME := fun F Q E => ma F (fun x F1 => ml F1 (fun lo F2 => mh F2 (fun hi F3 => valK F3 x fun d => dSl lo hi d fun r => Q r F3) E) E) E
section
variable {T : Tx} {pos p2 : Pos} {a b e : Expr} {es : List Expr} {ma mb m : ME} {ms : MA} {lo hi : Option Expr} {ml mh : MO}
theorem so_none : SO T none mNoPart := fun X fx => ⟨_, po_none, fun S P av F σ H Q E R q tk Q' k => k none S F H q (Ex.refl S) R⟩
theorem so_some (h : SE T e m) : SO T (some e) (mPart m) := fun X fx => ⟨_, po_some pe_tW, fun S P av F σ H Q E R q tk Q' k => by
  refine tW_mono (h X fx S P av F σ H _ E R q tk) fun x H1 ⟨S1, F1, ev1, q1, e1, R1, k1⟩ => ?_
  obtain ⟨d, q2, t1⟩ := R1.val k1 q1
  match d, q2 with
  | .int i, q2 => exact ⟨i, repT_int t1, k _ S1 F1 H1 q2 e1 R1⟩⟩
theorem map_cut (ns : List Int) (lo hi : Option Int) : cutV (ns.map V.int) lo hi = (cutL ns lo hi).map V.int := by
  show ((ns.map V.int).drop _).take _ = ((ns.drop _).take _).map V.int
  rw [List.length_map, List.map_take, List.map_drop]
theorem se_sl (ha : SE T a ma) (hl : SO T lo ml) (hh : SO T hi mh) : SE T (.Subscript a (.Slice lo hi none p2) pos) (mSl ma ml mh) := fun X fx S P av F σ H Q E R q tk => by
  obtain ⟨tl, pl, kl⟩ := hl X fx
  obtain ⟨th, ph, kh⟩ := hh X fx
  refine tW_of (pe_slice (sl_list.or (sl_tupA.or sl_str)) pe_tW pl ph) (tW_mono (ha X fx S P av F σ H _ E R q tk) fun x H1 ⟨S1, F1, ev1, q1, e1, R1, k1⟩ => ?_)
  obtain ⟨S1', e1', R1', k1'⟩ := R1.hold k1
  refine kl S1' P av F1 σ H1 _ E R1' q1 (takes_mono (e1.trans e1') tk) _ fun l S2 F2 H2 q2 e2 R2 => ?_
  refine kh S2 P av F2 σ H2 _ E R2 q2 (takes_mono (e1.trans (e1'.trans e2)) tk) _ fun u S3 F3 H3 q3 e3 R3 => ?_
  have e0 : Ex S S3 := e1.trans (e1'.trans (e2.trans e3))
  obtain ⟨d, q4, t1⟩ := R3.val (EvOk.held (e2.trans e3) k1') (by rw [valK_hold]; exact q3)
  match d, q4 with
  | .lst xs, q4 =>
    obtain ⟨p, vs, rfl, h2, r2⟩ := repT_lst t1
    exact .inl ⟨p, vs, rfl, SqL.of h2, fun z hz => ⟨S3, F3, _, q4, e0, R3.fresh hz, R3.tmp hz ⟨cutV vs l u, rfl, r2.cut l u⟩⟩⟩
  | .scr ns, q4 =>
    obtain ⟨p, rfl, h2⟩ := repT_scr t1
    refine .inl ⟨p, _, rfl, R3.sH.sqL h2, fun z hz => ⟨S3, F3, _, q4, e0, R3.fresh hz, R3.tmp hz ⟨_, rfl, ?_⟩⟩⟩
    rw [map_cut]; exact Reps.ints _
  | .tup xs, q4 =>
    obtain ⟨p, vs, rfl, h2, r2⟩ := repT_tup t1
    refine .inr (.inl ⟨p, vs, rfl, R3.sH.sqT h2, fun hw => ⟨S3, F3, _, q4, e0, R3, ?_⟩, fun hw z hz => ?_⟩)
    · rw [← r2.len] at hw
      rw [cutL_whole hw]
      show Rep _ _ _ _ _
      unfold Rep
      exact ⟨p, vs, rfl, h2, r2⟩
    · obtain ⟨e4, R4⟩ := R3.newSh hz (.tup (cutV vs l u))
      refine ⟨_, F3, _, q4, e0.trans e4, R4, ?_⟩
      show Rep _ _ _ _ _
      unfold Rep
      exact ⟨z, _, rfl, .inl (.inl upd_same), Reps.mono e4 _ _ (r2.cut l u)⟩
  | .str s, ⟨hz, q4⟩ => exact .inr (.inr ⟨s, repT_str t1, hz, S3, F3, _, q4, e0, R3, by show Rep _ _ _ _ _; unfold Rep; rfl⟩)

/-! ### attributes -/
/-- what of a class's text the attributes ask -/
def lookD (f : Str) : List Str → List D → Option D
  | n :: ns, d :: ds => if n = f then some d else lookD f ns ds
  | _, _ => none
theorem lookD_rep {K : PySem.W.Frag} {mg : Str → Option Value} {S : Hp} {f : Str} {d : D} : ∀ {ns : List Str} {ds : List D} {vs : List V}, Reps K mg S ds vs → ns.length = vs.length → lookD f ns ds = some d → ∃ v, (ns.zip vs).lookup f = some v ∧ Rep K mg S d v
  | [], _, _, _, _, h => by cases h
  | n :: ns, [], _, _, _, h => by cases h
  | n :: ns, e :: ds, _, r, l, h => by
    obtain ⟨v, w, rfl, h1, h2⟩ := r.cons_of
    unfold lookD at h
    by_cases hn : n = f
    · rw [if_pos hn] at h
      cases h
      subst hn
      exact ⟨v, by rw [List.zip_cons_cons]; simp [List.lookup], h1⟩
    · rw [if_neg hn] at h
      obtain ⟨v', h3, h4⟩ := lookD_rep h2 (by simpa using l) h
      refine ⟨v', ?_, h4⟩
      rw [List.zip_cons_cons]
      have : (f == n) = false := beq_eq_false_iff_ne.mpr (Ne.symm hn)
      simp only [List.lookup, this]
      exact h3
/-- a class whose instances have plain attributes -/
def ClsD (K : PySem.W.Frag) (mg : Str → Option Value) (c : Str) : Prop := ∀ C, mg c = some (.ref C) → Cls K C
/-- no class attribute of that name -/
def NoA (K : PySem.W.Frag) (mg : Str → Option Value) (c f : Str) : Prop := ∀ C, mg c = some (.ref C) → NoAttr K C f
/-- o.f, o an instance of one of the classes cs -/
def dFld (cs : List Str) (f : Str) : D → (Ev → Prop) → Prop
  | .ins c ns ds, q => c ∈ cs ∧ ∃ d, lookD f ns ds = some d ∧ q (.sh d)
  | _, _ => False
def mFld (cs : List Str) (f : Str) (m : ME) : ME := fun F Q E => m F (fun x F1 => valK F1 x fun d => dFld cs f d fun r => Q r F1) E
theorem se_fld {cs : List Str} {f : Str} (hc : ∀ c ∈ cs, ClsD T.K T.mg c ∧ NoA T.K T.mg c f) (ha : SE T a ma) (hb : ∀ env, attributeBase a f env (eval a env) = eval a env := by intros; rfl) : SE T (.Attribute a f pos) (mFld cs f ma) := fun X fx S P av F σ H Q E R q tk => by
  refine tW_of (pe_fld pe_tW (hb X.env)) (tW_mono (ha X fx S P av F σ H _ E R q tk) fun x H1 ⟨S1, F1, ev1, q1, e1, R1, k1⟩ => ?_)
  obtain ⟨d, q2, t1⟩ := R1.val k1 q1
  match d, q2 with
  | .ins c ns ds, ⟨hm, d, h1, q3⟩ =>
    obtain ⟨p, C, dx, vs, rfl, hC, hl, h2, r2⟩ := t1
    obtain ⟨v, h3, r3⟩ := lookD_rep r2 hl h1
    have hC' : T.mg c = some (.ref C) := by rw [← fx.mg]; exact hC
    exact ⟨p, C, dx, _, v, rfl, h2, by rw [fx.K]; exact (hc c hm).1 C hC', by rw [fx.K]; exact (hc c hm).2 C hC', h3, S1, F1, _, q3, e1, R1, r3⟩
end
end HD
set_option Elab.async false
set_option linter.all false
set_option maxRecDepth 100000
set_option maxHeartbeats 4000000
/-! HD, part 9: statements. -/
namespace HD
open PySem PySem.Spec PyProof.Rows L2

structure FitS (T : Tx) (X : Cx) : Prop extends Fits T X where
  hp : PassesOwn (model X.prog X.w) X.A X.env X.xe
  hs : X.stack = X.env :: X.outer
  hf : X.env.frame = some X.env.locals
/-- what is wanted behind a statement -/
structure DE where
  nx : Fr → Prop
  rt : Ev → Fr → Prop
  bk : Fr → Prop
  ct : Fr → Prop
  ex : EX
abbrev MS := DE → Fr → Prop
section
variable (X : Cx) (S P : Hp) (av : List V)
def UpS (p : Fr → Prop) : L2.St → Hp → Prop := fun σ' H' => ∃ S' F', p F' ∧ Ex S S' ∧ Rel X.K X.mg S' P av F' σ' H'
def UpR (Q : Ev → Fr → Prop) : VK := fun v H' => ∃ S' F' σ' ev, Q ev F' ∧ Ex S S' ∧ Rel X.K X.mg S' P av F' σ' H' ∧ EvOk X.K X.mg S' P av F' σ' H' v ev
def ends (D : DE) : Ends := { nx := UpS X S P av D.nx, rt := UpR X S P av D.rt, bk := UpS X S P av D.bk, ct := UpS X S P av D.ct }
end
theorem UpS.mono {X : Cx} {S S' P : Hp} {av : List V} {p p' : Fr → Prop} (e : Ex S S') (h : ∀ F, p F → p' F) {σ H} (u : UpS X S' P av p σ H) : UpS X S P av p' σ H := by
  obtain ⟨S2, F2, q, e2, R⟩ := u
  exact ⟨S2, F2, h _ q, e.trans e2, R⟩
theorem UpR.mono {X : Cx} {S S' P : Hp} {av : List V} {Q : Ev → Fr → Prop} (e : Ex S S') {v H} (u : UpR X S' P av Q v H) : UpR X S P av Q v H := by
  obtain ⟨S2, F2, σ2, ev, q, e2, R⟩ := u
  exact ⟨S2, F2, σ2, ev, q, e.trans e2, R⟩
/-- the ends are weakened -/
structure EndsLe (D D' : Ends) : Prop where
  nx : ∀ σ H, D.nx σ H → D'.nx σ H
  rt : ∀ v H, D.rt v H → D'.rt v H
  bk : ∀ σ H, D.bk σ H → D'.bk σ H
  ct : ∀ σ H, D.ct σ H → D'.ct σ H
theorem ends_mono {X : Cx} {S S' P : Hp} {av : List V} (e : Ex S S') (D : DE) : EndsLe (ends X S' P av D) (ends X S P av D) :=
  ⟨fun _ _ u => u.mono e fun _ h => h, fun _ _ u => u.mono e, fun _ _ u => u.mono e fun _ h => h, fun _ _ u => u.mono e fun _ h => h⟩
def tWS (X : Cx) (st : Stmt) : TS := fun D σ H => ∀ (pins : List (Addr × Obj)) (s : Shared), Inv X pins σ H s → wpAny (model X.prog X.w) X.A (exec st X.env) (SP X pins D) X.xe s
theorem ps_tWS {X : Cx} {st : Stmt} : PS X st (tWS X st) := ⟨fun pins s σ H D I h => h pins s I⟩
theorem tWS_of {X : Cx} {st : Stmt} {t : TS} (h : PS X st t) {D : Ends} {σ : L2.St} {H : Hp} (q : t D σ H) : tWS X st D σ H := fun pins s I => h.run pins s σ H D I q
theorem SP.le {X : Cx} {pins : List (Addr × Obj)} {D D' : Ends} (l : EndsLe D D') {f : Flow} {s : Shared} (h : SP X pins D f s) : SP X pins D' f s := by
  cases f with
  | next => obtain ⟨σ', H', I, q⟩ := h; exact ⟨σ', H', I, l.nx _ _ q⟩
  | brk => obtain ⟨σ', H', I, q⟩ := h; exact ⟨σ', H', I, l.bk _ _ q⟩
  | cont => obtain ⟨σ', H', I, q⟩ := h; exact ⟨σ', H', I, l.ct _ _ q⟩
  | ret u => obtain ⟨v, σ', H', I, r, q⟩ := h; exact ⟨v, σ', H', I, r, l.rt _ _ q⟩
theorem tWS_le {X : Cx} {st : Stmt} {D D' : Ends} {σ : L2.St} {H : Hp} (h : tWS X st D σ H) (l : EndsLe D D') : tWS X st D' σ H := fun pins s I => thn (h pins s I) fun f s' q => SP.le l q
def tWB (X : Cx) (st : List Stmt) : TS := fun D σ H => ∀ (pins : List (Addr × Obj)) (s : Shared), Inv X pins σ H s → wpAny (model X.prog X.w) X.A (execs st X.env) (SP X pins D) X.xe s
theorem pss_tWB {X : Cx} {st : List Stmt} : PSs X st (tWB X st) := ⟨fun pins s σ H D I h => h pins s I⟩
theorem tWB_of {X : Cx} {st : List Stmt} {t : TS} (h : PSs X st t) {D : Ends} {σ : L2.St} {H : Hp} (q : t D σ H) : tWB X st D σ H := fun pins s I => h.run pins s σ H D I q
theorem tWB_le {X : Cx} {st : List Stmt} {D D' : Ends} {σ : L2.St} {H : Hp} (h : tWB X st D σ H) (l : EndsLe D D') : tWB X st D' σ H := fun pins s I => thn (h pins s I) fun f s' q => SP.le l q

def SS (T : Tx) (st : Stmt) (m : MS) : Prop := ∀ (X : Cx), FitS T X → ∀ (S P : Hp) (av : List V) (F : Fr) (σ : L2.St) (H : Hp) (D : DE),
  Rel X.K X.mg S P av F σ H → m D F → Takes X (UpX X S P av D.ex) → tWS X st (ends X S P av D) σ H
def SSs (T : Tx) (st : List Stmt) (m : MS) : Prop := ∀ (X : Cx), FitS T X → ∀ (S P : Hp) (av : List V) (F : Fr) (σ : L2.St) (H : Hp) (D : DE),
  Rel X.K X.mg S P av F σ H → m D F → Takes X (UpX X S P av D.ex) → tWB X st (ends X S P av D) σ H

section
variable {T : Tx} {pos : Pos} {st : Stmt} {rest : List Stmt} {a b c e : Expr} {es : List Expr} {ma mb m : ME} {mr ms mt mu : MS} {nc : MT}
def mNext : MS := fun D F => D.nx F
def mSeq (m mr : MS) : MS := fun D F => m { D with nx := mr D } F
theorem sss_nil : SSs T [] mNext := fun X fx S P av F σ H D R q tk => tWB_of pss_nil ⟨S, F, q, Ex.refl S, R⟩
theorem sss_cons (h : SS T st ms) (hr : SSs T rest mr) : SSs T (st :: rest) (mSeq ms mr) := fun X fx S P av F σ H D R q tk => by
  refine tWB_of (pss_cons ps_tWS pss_tWB) (tWS_le (h X fx S P av F σ H { D with nx := mr D } R q tk) ⟨fun σ1 H1 ⟨S1, F1, q1, e1, R1⟩ => ?_, fun _ _ u => u, fun _ _ u => u, fun _ _ u => u⟩)
  exact tWB_le (hr X fx S1 P av F1 σ1 H1 D R1 q1 (takes_mono e1 tk)) (ends_mono e1 D)
theorem sss_one (h : SS T st ms) : SSs T [st] ms := fun X fx S P av F σ H D R q tk => tWB_of (pss_one ps_tWS) (h X fx S P av F σ H D R q tk)
theorem ss_pass : SS T (.Pass pos) mNext := fun X fx S P av F σ H D R q tk => tWS_of ps_pass ⟨S, F, q, Ex.refl S, R⟩
def mBreak : MS := fun D F => D.bk F
def mCont : MS := fun D F => D.ct F
theorem ss_break : SS T (.Break pos) mBreak := fun X fx S P av F σ H D R q tk => tWS_of ps_break ⟨S, F, q, Ex.refl S, R⟩
theorem ss_cont : SS T (.Continue pos) mCont := fun X fx S P av F σ H D R q tk => tWS_of ps_continue ⟨S, F, q, Ex.refl S, R⟩
theorem ss_doc {x j} {pos' : Pos} : SS T (.Expr (.Constant (.str x) j pos) pos') mNext := fun X fx S P av F σ H D R q tk => tWS_of ps_doc ⟨S, F, q, Ex.refl S, R⟩
def mDrop (m : ME) : MS := fun D F => m F (fun _ F1 => D.nx F1) D.ex
theorem ss_expr (he : SE T e m) (hs : ∀ env, swapsWith e none pos.line env = pure false := by intros; rfl) : SS T (.Expr e pos) (mDrop m) := fun X fx S P av F σ H D R q tk =>
  tWS_of (ps_expr pe_tW (hs X.env)) (tW_mono (he X fx.toFits S P av F σ H _ D.ex R q tk) fun v H1 ⟨S1, F1, ev, q1, e1, R1, k1⟩ => ⟨S1, F1, q1, e1, R1⟩)
def mRet (m : ME) : MS := fun D F => m F D.rt D.ex
theorem ss_ret (he : SE T e m) : SS T (.Return (some e) pos) (mRet m) := fun X fx S P av F σ H D R q tk =>
  tWS_of (ps_ret pe_tW) (tW_mono (he X fx.toFits S P av F σ H _ D.ex R q tk) fun v H1 ⟨S1, F1, ev, q1, e1, R1, k1⟩ => ⟨S1, F1, σ, ev, q1, e1, R1, k1⟩)
def mRetN : MS := fun D F => D.rt (.sh .non) F
theorem ss_retN : SS T (.Return none pos) mRetN := fun X fx S P av F σ H D R q tk => tWS_of ps_retN ⟨S, F, σ, _, q, Ex.refl S, R, by show Rep _ _ _ _ _; unfold Rep; rfl⟩
def mIfS (nc : MT) (mt mu : MS) : MS := fun D F => nc F (fun b F1 => brK b (mt D F1) (mu D F1)) D.ex
theorem ss_if {p r : List Stmt} (hc : SB T c nc) (hp : SSs T p mt) (hr : SSs T r mu) : SS T (.If c p r pos) (mIfS nc mt mu) := fun X fx S P av F σ H D R q tk => by
  refine tWS_of (ps_if pt_tWT pss_tWB pss_tWB) (tWT_mono (hc X fx.toFits S P av F σ H _ D.ex R q tk) fun k H1 ⟨S1, F1, q1, e1, R1⟩ => brK_if ⟨fun h => ?_, fun h => ?_⟩)
  · exact tWB_le (hp X fx S1 P av F1 σ H1 D R1 (q1.1 h) (takes_mono e1 tk)) (ends_mono e1 D)
  · exact tWB_le (hr X fx S1 P av F1 σ H1 D R1 (q1.2 h) (takes_mono e1 tk)) (ends_mono e1 D)

/-! ### stores to names -/
theorem loc_of {X : Cx} {x : Str} (fx : Fits T X) (h : locC T.raw x = true) : Loc X.env.scope x ∧ (X.fn x = true ∨ X.env.scope.names.lookup x = some .local) := fx.fn x h
def asgK (F : Fr) (i : Nat) : Ev → (Fr → Prop) → Prop
  | .sh d, k => k (F.set i (some (.sh d)))
  | .tmp c, k => k (F.set i (some (.own c)))
  | .ar j, k => k (F.set i (some (.ar j)))
  | .sl j, k => frzK F (.sl j) fun d F1 => k (F1.set i (some (.sh d)))
theorem Rel.asg {K : PySem.W.Frag} {mg : Str → Option Value} {S P H : Hp} {av : List V} {F : Fr} {σ : L2.St} {v : V} {ev : Ev} {k : Fr → Prop} {i : Nat} (R : Rel K mg S P av F σ H) (h : EvOk K mg S P av F σ H v ev) (q : asgK F i ev k) :
    ∃ S' F', k F' ∧ Ex S S' ∧ Rel K mg S' P av F' (σ.set i (some v)) H := by
  cases ev with
  | sh d => exact ⟨S, _, q, Ex.refl S, R.set i (v := v) (.inr rfl) (fun d' hd => by cases hd; exact h) (fun k hk => by cases hk) (fun c hc => by cases hc)⟩
  | tmp c => exact ⟨S, _, q, Ex.refl S, R.set i (v := v) (.inr rfl) (fun d' hd => by cases hd) (fun k hk => by cases hk) (fun c hc => by cases hc; exact h)⟩
  | ar j => exact ⟨S, _, q, Ex.refl S, R.set i (v := v) (.inr rfl) (fun d' hd => by cases hd) (fun k hk => by cases hk; exact h) (fun c hc => by cases hc)⟩
  | sl j =>
    obtain ⟨S', F', d, q1, e1, R1, r1⟩ := R.frzEv (ev := .sl j) h q
    exact ⟨S', _, q1, e1, R1.set i (v := v) (.inr rfl) (fun d' hd => by cases hd; exact r1) (fun k hk => by cases hk) (fun c hc => by cases hc)⟩
def mAsg (i : Nat) (m : ME) : MS := fun D F => m F (fun x F1 => asgK F1 i x D.nx) D.ex
theorem ss_set {i : Nat} {x : Str} {pos' : Pos} (hN : T.N[i]? = some x) (hl : locC T.raw x = true) (he : SE T e m) (hs : ∀ env, swapsWith e (some (.Name x pos')) pos.line env = pure false := by intros; rfl) : SS T (.Assign [.Name x pos'] e pos) (mAsg i m) := fun X fx S P av F σ H D R q tk => by
  obtain ⟨l1, l2⟩ := loc_of fx.toFits hl
  refine tWS_of (ps_set fx.nd (by rw [fx.N]; exact hN) l1 pe_tW (hs X.env) l2) (tW_mono (he X fx.toFits S P av F σ H _ D.ex R q tk) fun v H1 ⟨S1, F1, ev, q1, e1, R1, k1⟩ => ?_)
  obtain ⟨S2, F2, q2, e2, R2⟩ := R1.asg k1 q1
  exact ⟨S2, F2, q2, e1.trans e2, R2⟩

/-! ### targets -/
abbrev MG := D → Fr → (Fr → Prop) → Prop
abbrev MGs := List D → Fr → (Fr → Prop) → Prop
def tWG (X : Cx) (tg : Expr) : TG := fun v σ H Q => ∀ (pins : List (Addr × Obj)) (s : Shared) (u : Value), Inv X pins σ H s → RelV v u →
  wpAny (model X.prog X.w) X.A (assign tg X.env u) (fun _ s' => ∃ σ' H', Inv X pins σ' H' s' ∧ Q σ' H') X.xe s
theorem pg_tWG {X : Cx} {tg : Expr} : PG X tg (tWG X tg) := ⟨fun pins s σ H v u Q I r h => h pins s u I r⟩
theorem tWG_of {X : Cx} {tg : Expr} {t : TG} (h : PG X tg t) {v : V} {σ : L2.St} {H : Hp} {Q : L2.St → Hp → Prop} (q : t v σ H Q) : tWG X tg v σ H Q := fun pins s u I r => h.run pins s σ H v u Q I r q
theorem tWG_mono {X : Cx} {tg : Expr} {v : V} {σ : L2.St} {H : Hp} {Q Q' : L2.St → Hp → Prop} (h : tWG X tg v σ H Q) (m : ∀ σ' H', Q σ' H' → Q' σ' H') : tWG X tg v σ H Q' := fun pins s u I r =>
  thn (h pins s u I r) fun _ s' ⟨σ', H', I', q⟩ => ⟨σ', H', I', m _ _ q⟩
def tWGs (X : Cx) (tgs : List Expr) : TGs := fun vs σ H Q => ∀ (pins : List (Addr × Obj)) (s : Shared) (us : List Value), Inv X pins σ H s → Vals vs us →
  wpAny (model X.prog X.w) X.A (assignInOrder ((assignEach tgs X.env).map (·.2)) us) (fun _ s' => ∃ σ' H', Inv X pins σ' H' s' ∧ Q σ' H') X.xe s
theorem pgs_tWGs {X : Cx} {tgs : List Expr} : PGs X tgs (tWGs X tgs) := ⟨fun pins s σ H vs us Q I r h => h pins s us I r⟩
theorem tWGs_of {X : Cx} {tgs : List Expr} {t : TGs} (h : PGs X tgs t) {vs : List V} {σ : L2.St} {H : Hp} {Q : L2.St → Hp → Prop} (q : t vs σ H Q) : tWGs X tgs vs σ H Q := fun pins s us I r => h.run pins s σ H vs us Q I r q
theorem tWGs_mono {X : Cx} {tgs : List Expr} {vs : List V} {σ : L2.St} {H : Hp} {Q Q' : L2.St → Hp → Prop} (h : tWGs X tgs vs σ H Q) (m : ∀ σ' H', Q σ' H' → Q' σ' H') : tWGs X tgs vs σ H Q' := fun pins s us I r =>
  thn (h pins s us I r) fun _ s' ⟨σ', H', I', q⟩ => ⟨σ', H', I', m _ _ q⟩
theorem wipe_get (σ : L2.St) : ∀ (vs : List Nat) (j : Nat), (wipe σ vs)[j]? = if j ∈ vs then σ[j]?.map (fun _ => none) else σ[j]?
  | [], j => by simp [wipe]
  | v :: vs, j => by
    unfold wipe
    by_cases hj : v = j
    · subst hj
      by_cases hl : v < σ.length
      · rw [List.getElem?_set_self (by rw [wipe_length]; exact hl)]
        simp [hl]
      · rw [List.getElem?_eq_none (by rw [List.length_set, wipe_length]; omega), List.getElem?_eq_none (by omega)]
        simp
    · rw [List.getElem?_set_ne hj, wipe_get σ vs j]
      simp [Ne.symm hj]
theorem wipe_set (σ : L2.St) (vs : List Nat) (i : Nat) (x : Option V) (h : i ∈ vs) : wipe (σ.set i x) vs = wipe σ vs := by
  apply List.ext_getElem?
  intro j
  rw [wipe_get, wipe_get]
  by_cases hj : i = j
  · subst hj
    rw [if_pos h, if_pos h]
    by_cases hl : i < σ.length
    · rw [List.getElem?_set_self hl]; simp [hl]
    · rw [List.getElem?_eq_none (by rw [List.length_set]; omega), List.getElem?_eq_none (by omega)]
  · rw [List.getElem?_set_ne hj]
/-- but for these slots nothing is stored -/
def OnlyAt (is : List Nat) (σ σ' : L2.St) : Prop := ∀ vs : List Nat, (∀ i ∈ is, i ∈ vs) → wipe σ' vs = wipe σ vs
def SG (T : Tx) (tg : Expr) (is : List Nat) (g : MG) : Prop := ∀ (X : Cx), Fits T X → ∀ (S P : Hp) (av : List V) (F : Fr) (σ : L2.St) (H : Hp) (d : D) (v : V) (Q : Fr → Prop),
  Rel X.K X.mg S P av F σ H → Rep X.K X.mg S d v → g d F Q → tWG X tg v σ H fun σ' H' => UpS X S P av Q σ' H' ∧ OnlyAt is σ σ'
def SGs (T : Tx) (tgs : List Expr) (is : List Nat) (g : MGs) : Prop := ∀ (X : Cx), Fits T X → ∀ (S P : Hp) (av : List V) (F : Fr) (σ : L2.St) (H : Hp) (ds : List D) (vs : List V) (Q : Fr → Prop),
  Rel X.K X.mg S P av F σ H → Reps X.K X.mg S ds vs → g ds F Q → tWGs X tgs vs σ H fun σ' H' => UpS X S P av Q σ' H' ∧ OnlyAt is σ σ'
def dName (i : Nat) : MG := fun d F Q => Q (F.set i (some (.sh d)))
theorem sg_name {i : Nat} {x : Str} (hN : T.N[i]? = some x) (hl : locC T.raw x = true) : SG T (.Name x pos) [i] (dName i) := fun X fx S P av F σ H d v Q R r q => by
  obtain ⟨l1, l2⟩ := loc_of fx hl
  exact tWG_of (pg_name (i := i) fx.nd (by rw [fx.N]; exact hN) l1 l2) ⟨⟨S, _, q, Ex.refl S, R.set i (v := v) (.inr rfl) (fun d' hd => by cases hd; exact r) (fun k hk => by cases hk) (fun c hc => by cases hc)⟩, fun vs h => wipe_set σ vs i _ (h i (by simp))⟩
def dNil : MGs := fun ds F Q => ds = [] ∧ Q F
def dCons (g : MG) (gs : MGs) : MGs := fun ds F Q => match ds with
  | d :: ds => g d F fun F1 => gs ds F1 Q
  | [] => False
theorem sgs_nil : SGs T [] [] dNil := fun X fx S P av F σ H ds vs Q R r ⟨h, q⟩ => by
  subst h
  exact tWGs_of pgs_nil ⟨r.nil_of, ⟨S, F, q, Ex.refl S, R⟩, fun _ _ => rfl⟩
theorem sgs_cons {g : MG} {gs : MGs} {is js : List Nat} (h : SG T e is g) (hr : SGs T es js gs) (hs : ∀ env, (assignEach (e :: es) env).map (·.2) = assign e env :: (assignEach es env).map (·.2) := by intros; rfl) : SGs T (e :: es) (is ++ js) (dCons g gs) := fun X fx S P av F σ H ds vs Q R r q => by
  match ds, q with
  | d :: ds, q =>
    obtain ⟨v, w, rfl, r1, r2⟩ := r.cons_of
    refine tWGs_of (pgs_cons pg_tWG pgs_tWGs (hs X.env)) ⟨v, w, rfl, tWG_mono (h X fx S P av F σ H d v _ R r1 q) fun σ1 H1 ⟨⟨S1, F1, q1, e1, R1⟩, o1⟩ => ?_⟩
    exact tWGs_mono (hr X fx S1 P av F1 σ1 H1 ds w Q R1 (Reps.mono e1 _ _ r2) q1) fun _ _ u => ⟨u.1.mono e1 fun _ h => h, fun vs h => (u.2 vs fun i hi => h i (List.mem_append_right _ hi)).trans (o1 vs fun i hi => h i (List.mem_append_left _ hi))⟩
def dTup (n : Nat) (gs : MGs) : MG := fun d F Q => match d with
  | .tup ds => ds.length = n ∧ gs ds F Q
  | _ => False
theorem sg_tup {k n : Nat} {gs : MGs} {is : List Nat} (h : SGs T es is gs) (hh : T.hot = false := by rfl) (hn : ∀ env, (assignEach es env).length = n := by intros; rfl) (hst : ∀ env, (assignEach es env).findIdx? (·.1) = none := by intros; rfl) : SG T (.Tuple es k pos) is (dTup n gs) := fun X fx S P av F σ H d v Q R r q => by
  match d, q with
  | .tup ds, ⟨hl, q⟩ =>
    unfold Rep at r
    obtain ⟨a, vs, rfl, h1, r1⟩ := r
    exact tWG_of (pg_tup (fx.calm hh) pgs_tWGs (hn X.env) (hst X.env)) ⟨a, vs, rfl, R.sH.sqT h1, by rw [← r1.len]; exact hl, h X fx S P av F σ H ds vs Q R r1 q⟩
/-- target = e, the value as data -/
def mAsgG (g : MG) (m : ME) : MS := fun D F => m F (fun x F1 => frzK F1 x fun d F2 => g d F2 D.nx) D.ex
theorem ss_asg {tg : Expr} {g : MG} {is : List Nat} (he : SE T e m) (hg : SG T tg is g) (hs : ∀ env, swapsWithSole [tg] e pos.line env = pure false := by intros; rfl) (hw : ∀ env, swappedStores [tg] e env = pure none := by intros; rfl)
    (h1 : ∀ env, (assignEach [tg] env).map (·.2) = [assign tg env] := by intros; rfl) : SS T (.Assign [tg] e pos) (mAsgG g m) := fun X fx S P av F σ H D R q tk => by
  refine tWS_of (ps_asg pe_tW pg_tWG (hs X.env) (hw X.env) (h1 X.env)) (tW_mono (he X fx.toFits S P av F σ H _ D.ex R q tk) fun v H1 ⟨S1, F1, ev, q1, e1, R1, k1⟩ => ?_)
  obtain ⟨S1', e1', R1', k1'⟩ := R1.hold k1
  have q1' : frzK F1 (hold ev) fun d F2 => g d F2 D.nx := by cases ev <;> exact q1
  obtain ⟨S2, F2, d, q2, e2, R2, r2⟩ := R1'.frzEv (by rw [hold_hold]; exact k1') q1'
  exact tWG_mono (hg X fx.toFits S2 P av F2 σ H1 d v _ R2 r2 q2) fun _ _ u => u.1.mono (e1.trans (e1'.trans e2)) fun _ h => h

/-! ### a, b = x, y -/
section
variable {K : PySem.W.Frag} {mg : Str → Option Value} {S S' P P' H H' : Hp} {av : List V} {F F' : Fr} {σ : L2.St} {v : V} {ev : Ev}
theorem Rel.weaken (R : Rel K mg S P' av F σ H) (e : Ex P P') : Rel K mg S P av F σ H :=
  { R with
    pH := e.trans R.pH
    sp := fun a o h => e.none (R.sp a o h)
    cel := fun p c h => by
      obtain ⟨v, h1, h2⟩ := R.cel p c h
      refine ⟨v, h1, ?_⟩
      cases hc : c.own with
      | true =>
        obtain ⟨a, rfl, s0, p0, r⟩ := h2.of_own hc
        exact CelOk.to_own ⟨s0, e.none p0, r⟩
      | false =>
        cases c with
        | gone d => exact h2
        | _ => cases hc }
/-- a new thing is kept from what follows -/
theorem Rel.protect (R : Rel K mg S P av F σ H) {a : Addr} {c : Cel} (h : CelAt K mg S P H a c) (fr : Free av F σ a) : ∃ o, H a = some o ∧ ObjIs K mg S o c ∧ Ex P (upd P a o) ∧ Rel K mg S (upd P a o) av F σ H := by
  obtain ⟨s0, p0, o, h1, h2⟩ := h
  refine ⟨o, h1, h2, Ex.new p0, { R with pH := fun b u q => ?_, sp := fun b u q => ?_, cel := fun p c h => ?_ }⟩
  · by_cases hb : b = a
    · subst hb; rw [upd_same] at q; cases q; exact h1
    · rw [upd_ne hb] at q; exact R.pH b u q
  · by_cases hb : b = a
    · subst hb; rw [s0] at q; cases q
    · rw [upd_ne hb]; exact R.sp b u q
  · obtain ⟨v, h3, h4⟩ := R.cel p c h
    refine ⟨v, h3, ?_⟩
    cases hc : c.own with
    | true =>
      obtain ⟨b, rfl, x0, y0, r⟩ := h4.of_own hc
      refine CelOk.to_own ⟨x0, ?_, r⟩
      by_cases hb : b = a
      · subst hb; exact absurd h3 (fr p c h hc)
      · rw [upd_ne hb]; exact y0
    | false =>
      cases c with
      | gone d => exact h4
      | _ => cases hc
theorem Rel.unprotect {a : Addr} {o : HO} {c : Cel} (R : Rel K mg S (upd P a o) av F σ H) (p0 : P a = none) (h : ObjIs K mg S o c) : Rel K mg S P av F σ H ∧ CelAt K mg S P H a c ∧ Free av F σ a := by
  refine ⟨R.weaken (Ex.new p0), ⟨?_, p0, o, R.pH a o upd_same, h⟩, fun p e he ho hv => ?_⟩
  · cases q : S a with
    | none => rfl
    | some u => have := R.sp a u q; rw [upd_same] at this; cases this
  · obtain ⟨b, h1, _, y0, _⟩ := R.ownAt he ho
    rw [hv] at h1; cases h1
    rw [upd_same] at y0; cases y0
end
theorem takes_P {X : Cx} {S P P' : Hp} {av : List V} {E : EX} (e : Ex P P') (tk : Takes X (UpX X S P av E)) : Takes X (UpX X S P' av E) :=
  tk.imp fun _ _ _ _ ⟨S2, F2, x, q, e2, R, r⟩ => ⟨S2, F2, x, q, e2, R.weaken e, r⟩
/-- a new thing stays one, all else becomes data -/
def st1 (F : Fr) : Ev → (Ev → Fr → Prop) → Prop
  | .tmp c, k => k (.tmp c) F
  | x, k => frzK F x fun d F1 => k (.sh d) F1
/-- values and new things, each kept from the others -/
def EvsT (K : PySem.W.Frag) (mg : Str → Option Value) (S : Hp) (av : List V) (F : Fr) (σ : L2.St) (H : Hp) : Hp → List V → List Ev → Prop
  | P, [], [] => Rel K mg S P av F σ H
  | P, v :: vs, .sh d :: xs => Rep K mg S d v ∧ EvsT K mg S av F σ H P vs xs
  | P, v :: vs, .tmp c :: xs => ∃ a o, v = .ref a ∧ ObjIs K mg S o c ∧ P a = none ∧ EvsT K mg S av F σ H (upd P a o) vs xs
  | _, _, _ => False
def SAT (T : Tx) (es : List Expr) (m : MA) : Prop := ∀ (X : Cx), Fits T X → ∀ (S P : Hp) (av : List V) (F : Fr) (σ : L2.St) (H : Hp) (Q : List Ev → Fr → Prop) (E : EX),
  Rel X.K X.mg S P av F σ H → m F Q E → Takes X (UpX X S P av E) → tWA X es σ H fun vs H' => ∃ S' F' evs, Q evs F' ∧ Ex S S' ∧ EvsT X.K X.mg S' av F' σ H' P vs evs
def mConsT (ma : ME) (mr : MA) : MA := fun F Q E => ma F (fun x F1 => st1 F1 x fun x F2 => mr F2 (fun xs F3 => Q (x :: xs) F3) E) E
theorem sat_nil : SAT T [] mNil := fun X fx S P av F σ H Q E R q tk => tWA_of pa_nil ⟨S, F, [], q, Ex.refl S, R⟩
theorem sat_cons {ms : MA} (ha : SE T e ma) (hr : SAT T es ms) (hs : ∀ env, starEach (e :: es) env = (false, eval e env) :: starEach es env := by intros; rfl) : SAT T (e :: es) (mConsT ma ms) := fun X fx S P av F σ H Q E R q tk => by
  refine tWA_of (pa_cons pe_tW pa_tWA (hs X.env)) (tW_mono (ha X fx S P av F σ H _ E R q tk) fun x H1 ⟨S1, F1, ev1, q1, e1, R1, k1⟩ => ?_)
  have other : (frzK F1 ev1 fun d F2 => ms F2 (fun xs F3 => Q (.sh d :: xs) F3) E) → EvOk X.K X.mg S1 P av F1 σ H1 x (hold ev1) →
      tWA X es σ H1 fun vs H' => ∃ S' F' evs, Q evs F' ∧ Ex S S' ∧ EvsT X.K X.mg S' av F' σ H' P (x :: vs) evs := fun q k1 => by
    obtain ⟨S2, F2, d, q2, e2, R2, r2⟩ := R1.frzEv k1 q
    refine tWA_mono (hr X fx S2 P av F2 σ H1 _ E R2 q2 (takes_mono (e1.trans e2) tk)) fun vs H3 ⟨S3, F3, evs, q3, e3, k3⟩ => ?_
    exact ⟨S3, F3, _, q3, e1.trans (e2.trans e3), Rep.mono e3 _ _ r2, k3⟩
  cases ev1 with
  | tmp c =>
    obtain ⟨a, rfl, ca, fr⟩ := k1
    obtain ⟨o, h1, h2, eP, R2⟩ := R1.protect ca fr
    refine tWA_mono (hr X fx S1 (upd P a o) av F1 σ H1 _ E R2 q1 (takes_P eP (takes_mono e1 tk))) fun vs H3 ⟨S3, F3, evs, q3, e3, k3⟩ => ?_
    exact ⟨S3, F3, _, q3, e1.trans e3, a, o, rfl, h2.mono e3, ca.2.1, k3⟩
  | sh d => exact other q1 k1
  | sl i => exact other q1 k1
  | ar j => exact other q1 k1
def Ev.sv : Ev → Option Sv
  | .sh d => some (.sh d)
  | .tmp c => some (.own c)
  | _ => none
def setEach (F : Fr) : List Nat → List Ev → Fr
  | i :: is, x :: xs => (setEach F is xs).set i x.sv
  | _, _ => F
def setEachV (σ : L2.St) : List Nat → List V → L2.St
  | i :: is, v :: vs => (setEachV σ is vs).set i (some v)
  | _, _ => σ
theorem evsT_set {K : PySem.W.Frag} {mg : Str → Option Value} {S : Hp} {av : List V} {F : Fr} {σ : L2.St} {H : Hp} : ∀ {is : List Nat} {vs : List V} {xs : List Ev} {P : Hp}, is.length = vs.length → EvsT K mg S av F σ H P vs xs → Rel K mg S P av (setEach F is xs) (setEachV σ is vs) H
  | [], [], [], P, _, h => h
  | i :: is, v :: vs, .sh d :: xs, P, l, ⟨h1, h2⟩ =>
    (evsT_set (by simpa using l) h2).set i (v := v) (.inr rfl) (fun d' hd => by cases hd; exact h1) (fun k hk => by cases hk) (fun c hc => by cases hc)
  | i :: is, v :: vs, .tmp c :: xs, P, l, ⟨a, o, hv, ho, p0, h2⟩ => by
    subst hv
    obtain ⟨R, ca, fr⟩ := (evsT_set (is := is) (by simpa using l) h2).unprotect p0 ho
    exact R.set i (v := .ref a) (.inr rfl) (fun d' hd => by cases hd) (fun k hk => by cases hk) (fun c' hc => by cases hc; exact ⟨a, rfl, ca, fr⟩)
theorem evsT_len {K : PySem.W.Frag} {mg : Str → Option Value} {S : Hp} {av : List V} {F : Fr} {σ : L2.St} {H : Hp} : ∀ {vs : List V} {xs : List Ev} {P : Hp}, EvsT K mg S av F σ H P vs xs → vs.length = xs.length
  | [], [], P, h => rfl
  | v :: vs, .sh d :: xs, P, ⟨h1, h2⟩ => by simp [evsT_len h2]
  | v :: vs, .tmp c :: xs, P, ⟨a, o, hv, ho, p0, h2⟩ => by simp [evsT_len h2]
def mPar (is : List Nat) (ms : MA) : MS := fun D F => ms F (fun xs F1 => xs.length = is.length ∧ D.nx (setEach F1 is xs)) D.ex
theorem ss_par2 {i j : Nat} {x y : Str} {px py pt : Pos} {kt k2 pt2} {ms : MA} (hi : T.N[i]? = some x) (hj : T.N[j]? = some y) (hij : i ≠ j) (hx : T.sc.names.lookup x = some .local) (hy : T.sc.names.lookup y = some .local) (ha : SAT T [a, b] ms)
    (hw : ∀ X : Cx, X.env.scope = T.sc → swappedStores [.Tuple [.Name x px, .Name y py] kt pt] (.Tuple [a, b] k2 pt2) X.env = pure (some [x, y]))
    (hs : ∀ env, swapsWithSole [.Tuple [.Name x px, .Name y py] kt pt] (.Tuple [a, b] k2 pt2) pos.line env = pure false := by intros; rfl)
    (hh : T.hot = false := by rfl) : SS T (.Assign [.Tuple [.Name x px, .Name y py] kt pt] (.Tuple [a, b] k2 pt2) pos) (mPar [i, j] ms) := fun X fx S P av F σ H D R q tk => by
  refine tWS_of (ps_par (i := i) (j := j) (fx.calm hh) fx.nd (by rw [fx.N]; exact hi) (by rw [fx.N]; exact hj) hij (by rw [fx.sc]; exact hx) (by rw [fx.sc]; exact hy) pa_tWA (hw X fx.sc) (hs X.env)) (tWA_mono (ha X fx.toFits S P av F σ H _ D.ex R q tk) fun vs H1 ⟨S1, F1, evs, ⟨ql, q1⟩, e1, k1⟩ => ?_)
  have hl := evsT_len k1
  rw [ql] at hl
  match vs, hl with
  | [v, w], hl =>
    refine ⟨v, w, rfl, S1, _, q1, e1, ?_⟩
    have := evsT_set (is := [i, j]) hl.symm k1
    have e0 : setEachV σ [i, j] [v, w] = (σ.set i (some v)).set j (some w) := by
      show (σ.set j (some w)).set i (some v) = _
      rw [List.set_comm _ _ hij.symm]
    rw [e0] at this
    exact this
theorem ss_par3 {i j l : Nat} {x y z : Str} {px py pz pt : Pos} {kt k2 pt2} {ms : MA} (hi : T.N[i]? = some x) (hj : T.N[j]? = some y) (hl : T.N[l]? = some z) (hij : i ≠ j) (hil : i ≠ l) (hjl : j ≠ l) (hx : T.sc.names.lookup x = some .local) (hy : T.sc.names.lookup y = some .local) (hz : T.sc.names.lookup z = some .local) (ha : SAT T [a, b, c] ms)
    (hw : ∀ X : Cx, X.env.scope = T.sc → swappedStores [.Tuple [.Name x px, .Name y py, .Name z pz] kt pt] (.Tuple [a, b, c] k2 pt2) X.env = pure (some [x, y, z]))
    (hs : ∀ env, swapsWithSole [.Tuple [.Name x px, .Name y py, .Name z pz] kt pt] (.Tuple [a, b, c] k2 pt2) pos.line env = pure false := by intros; rfl)
    (hh : T.hot = false := by rfl) : SS T (.Assign [.Tuple [.Name x px, .Name y py, .Name z pz] kt pt] (.Tuple [a, b, c] k2 pt2) pos) (mPar [i, j, l] ms) := fun X fx S P av F σ H D R q tk => by
  refine tWS_of (ps_par3 (i := i) (j := j) (l := l) (fx.calm hh) fx.nd (by rw [fx.N]; exact hi) (by rw [fx.N]; exact hj) (by rw [fx.N]; exact hl) hij hil hjl (by rw [fx.sc]; exact hx) (by rw [fx.sc]; exact hy) (by rw [fx.sc]; exact hz) pa_tWA (hw X fx.sc) (hs X.env)) (tWA_mono (ha X fx.toFits S P av F σ H _ D.ex R q tk) fun vs H1 ⟨S1, F1, evs, ⟨ql, q1⟩, e1, k1⟩ => ?_)
  have hl := evsT_len k1
  rw [ql] at hl
  match vs, hl with
  | [v, w, u], hl =>
    refine ⟨v, w, u, rfl, S1, _, q1, e1, ?_⟩
    have := evsT_set (is := [i, j, l]) hl.symm k1
    have e0 : setEachV σ [i, j, l] [v, w, u] = ((σ.set i (some v)).set j (some w)).set l (some u) := by
      show ((σ.set l (some u)).set j (some w)).set i (some v) = _
      rw [List.set_comm _ _ hij.symm, List.set_comm _ _ hil.symm, List.set_comm _ _ hjl.symm]
    rw [e0] at this
    exact this
end
end HD
set_option Elab.async false
set_option linter.all false
set_option maxRecDepth 100000
set_option maxHeartbeats 4000000
/-! HD, part 10: what is walked: lists, tuples, texts; enumerate and zip of these. -/
namespace HD
open PySem PySem.Spec PyProof.Rows L2

set_option maxHeartbeats 1000000 in
theorem enum_newB {v : Value} {o : Obj} {H : Heap → Prop} (B : Begins v o H) :
    Meets (Builtin.«enumerate.__new__» ⟨[.type "enumerate", v], []⟩) (fun _ R s => H s.heap ∧
      R (.ok (.ret (.ref (s.heap.push o).objs.size))) { s with heap := (s.heap.push o).push { cls := .type "enumerate", data := .fields #[.none, .bool false, .ref s.heap.objs.size, rawInt 0, .none, .none] } }) :=
  .of_wp fun prog w A R s h => by
    obtain ⟨hp, g, d, tk, os⟩ := s; obtain ⟨h1, h⟩ := h
    have hsub := sub_enumerate
    have q1 : ∀ {A' : Around} {E : Value → Shared → Prop} {Q : Value → Shared → Prop}, Q (.ref hp.objs.size) ⟨hp.push o, g, d, tk, os⟩ → wpAny (model prog w) A' (pyIter v) Q E ⟨hp, g, d, tk, os⟩ :=
      fun q => B.iter prog w _ _ ⟨hp, g, d, tk, os⟩ _ h1 q
    wp_walk using q1
    refine wpAny_stack_any fun st => wpAny_pure ?_
    split
    · rename_i c _ _ _ _ _
      cases (c == Value.type "enumerate")
      · wp_walk using q1
        exact ⟨_, rfl, h⟩
      · wp_walk using q1
        exact ⟨_, rfl, h⟩
    · wp_walk using q1
      exact ⟨_, rfl, h⟩
section
variable {prog : Program} {w : World} {A : Around} {E : Value → Shared → Prop} {s : Shared}
theorem enum_begins1 {v : Value} {o : Obj} {H : Heap → Prop} {Q : Value → Shared → Prop} (B : Begins v o H) (h1 : H s.heap)
    (h : ∀ h', IsEnum h' (s.heap.objs.size + 1) s.heap.objs.size 0 .none → h'.get? s.heap.objs.size = some o → h'.objs.size = s.heap.objs.size + 2 →
      (∀ b o, s.heap.get? b = some o → h'.get? b = some o) → Q (.ref (s.heap.objs.size + 1)) { s with heap := h' }) :
    wpAny (model prog w) A (call (.type "enumerate") [v]) Q E s := by
  refine callType_new F.called_enumerate (by decide) (F.typeCall_enumerate_1 _) (F.newCall_enumerate_1 _) (fun obj => F.args_object_init_2 obj _) F.entry_enumerate_new
    (enum_newB B) ⟨h1, ?_⟩
  have hz : (s.heap.push o).objs.size = s.heap.objs.size + 1 := Heap.size_push ..
  show _ ∧ _
  rw [hz]
  have he : IsEnum ((s.heap.push o).push { cls := .type "enumerate", data := .fields #[.none, .bool false, .ref s.heap.objs.size, rawInt 0, .none, .none] }) (s.heap.objs.size + 1) s.heap.objs.size 0 .none := by
    have := Heap.get?_push_size (s.heap.push o) (o := { cls := .type "enumerate", data := .fields #[.none, .bool false, .ref s.heap.objs.size, rawInt 0, .none, .none] }) rfl
    rw [hz] at this; exact this
  refine ⟨⟨_, he, rfl⟩, h _ he (Heap.get?_push_of_some _ (Heap.get?_push_size _ B.free)) (by rw [Heap.size_push, hz]) fun b o x => Heap.get?_push_of_some _ (Heap.get?_push_of_some _ x)⟩
end

/-- a source: a list, a tuple, a text -/
inductive Src where
  | lst (a : Addr) | tup (a : Addr) | str (z : Str)
def signs (z : Str) : List V := z.cps.toList.map fun c => .str ⟨#[c]⟩
def Src.val : Src → V
  | .lst a => .ref a
  | .tup a => .ref a
  | .str z => .str z
def SrcAt (K : PySem.W.Frag) (H : Hp) : Src → List V → Prop
  | .lst a, xs => SqL K H a xs
  | .tup a, xs => SqT K H a xs
  | .str z, xs => xs = signs z
/-- its iterator at turn i -/
def IterAt (it : Addr) (i : Nat) (h : Heap) : Src → Prop
  | .lst a => h.IsListIter it a i
  | .tup a => h.IsTupleIter it a i
  | .str z => ∃ t, h.IsStrIter it (strIterType z) z t i
theorem IterAt.at {it : Addr} {i : Nat} {h h' : Heap} {c : Src} (x : IterAt it i h c) (k : ∀ o, h.get? it = some o → h'.get? it = some o) : IterAt it i h' c := by
  cases c with
  | lst a => exact Heap.IsListIter.at x k
  | tup a => exact Heap.IsTupleIter.at x k
  | str z => obtain ⟨t, o, ho, r⟩ := x; exact ⟨t, o, k o ho, r⟩
theorem IterAt.obj {it : Addr} {i : Nat} {h : Heap} {c : Src} (x : IterAt it i h c) : ∃ o, h.get? it = some o ∧ ∀ v, o.data ≠ .cell v := by
  cases c with
  | lst a => obtain ⟨o, e, _, d⟩ := x; exact ⟨o, e, fun v z => by rw [d] at z; cases z⟩
  | tup a => obtain ⟨o, e, _, d⟩ := x; exact ⟨o, e, fun v z => by rw [d] at z; cases z⟩
  | str z => obtain ⟨t, o, e, _, d⟩ := x; exact ⟨o, e, fun v z => by rw [d] at z; cases z⟩
section
variable {X : Cx} {pins : List (Addr × Obj)} {σ : L2.St} {H : Hp} {s : Shared} {a b it : Addr} {xs ys : List V} {c : Src}
theorem src_neL (I : Inv X pins σ H s) (h : SqL X.K H a xs) (hb : FpOk X pins H b) : a ≠ b := by
  intro e; subst e
  rcases h with h | ⟨o, its, n, hk, _⟩
  · rcases h with h | ⟨o, h⟩
    · rw [hb.1] at h; cases h
    · rw [hb.1] at h; cases h
  · have hbase := I.ok.mod.kin a o hk
    rcases hb.2.2.2.1 with z | z
    · exact I.ok.noex a o hbase z
    · exact absurd (Nat.lt_of_lt_of_le (Heap.lt_size hbase) (Nat.le_trans I.ok.bsz z)) (Nat.lt_irrefl _)
theorem src_neT (I : Inv X pins σ H s) (h : SqT X.K H a xs) (hb : FpOk X pins H b) : a ≠ b := by
  intro e; subst e
  rcases h with h | ⟨o, its, n, hk, _⟩
  · rcases h with h | ⟨o, h⟩
    · rw [hb.1] at h; cases h
    · rw [hb.1] at h; cases h
  · have hbase := I.ok.mod.kin a o hk
    rcases hb.2.2.2.1 with z | z
    · exact I.ok.noex a o hbase z
    · exact absurd (Nat.lt_of_lt_of_le (Heap.lt_size hbase) (Nat.le_trans I.ok.bsz z)) (Nat.lt_irrefl _)
theorem src_inj (I : Inv X pins σ H s) (h : SrcAt X.K H c xs) (h' : SrcAt X.K H c ys) : xs = ys := by
  cases c with
  | lst a => exact I.list_inj h h'
  | tup a => exact I.tuple_inj h h'
  | str z => exact h.trans h'.symm
/-- what its iterator draws -/
theorem src_draws (I : Inv X pins σ H s) {A : Around} (hh : A.handled = none) (h : SrcAt X.K H c xs) {i : Nat} (hi : IterAt it i s.heap c) (hit : FpOk X pins H it) :
    ∃ (fp : List Addr) (P : Nat → Value → Prop) (St : Nat → Heap → Prop), Draws X.prog X.w A it fp xs.length P St ∧ it ∈ fp ∧ St i s.heap ∧ (∀ j v, P j v → ∃ x, xs[j]? = some x ∧ RelV x v) ∧ (∀ j h', St j h' → IterAt it j h' c) ∧
      ∀ b, b ≠ it → FpOk X pins H b → b ∉ fp := by
  cases c with
  | lst a =>
    obtain ⟨its, rv, p, hz⟩ := I.list h
    have hne := src_neL I h hit
    have hl : its.toArray.size = xs.length := by rw [List.size_toArray, rv.length]
    refine ⟨[it, a], _, _, hl ▸ Draws.list hh it a hne its.toArray, by simp, ⟨hi, p.isList⟩, fun j v hv => ?_, fun j h' st => st.1, fun b hb hf hm => ?_⟩
    · have hv : its[j]? = some v := by simpa using hv
      have hj : j < xs.length := by rw [rv.length]; exact (List.getElem?_eq_some_iff.mp hv).1
      obtain ⟨u, hu, ru⟩ := rv.get (i := j) (x := xs[j]) (by simp [hj])
      rw [hv] at hu; cases hu
      exact ⟨xs[j], by simp [hj], ru⟩
    · have e' : b = it ∨ b = a := by simpa using hm
      rcases e' with z | z
      · exact hb z
      · exact src_neL I h hf z.symm
  | tup a =>
    obtain ⟨its, rv, p, hz⟩ := I.tuple h
    have hne := src_neT I h hit
    have hl : its.toArray.size = xs.length := by rw [List.size_toArray, rv.length]
    refine ⟨[it, a], _, _, hl ▸ Draws.tuple hh it a hne its.toArray, by simp, ⟨hi, p⟩, fun j v hv => ?_, fun j h' st => st.1, fun b hb hf hm => ?_⟩
    · have hv : its[j]? = some v := by simpa using hv
      have hj : j < xs.length := by rw [rv.length]; exact (List.getElem?_eq_some_iff.mp hv).1
      obtain ⟨u, hu, ru⟩ := rv.get (i := j) (x := xs[j]) (by simp [hj])
      rw [hv] at hu; cases hu
      exact ⟨xs[j], by simp [hj], ru⟩
    · have e' : b = it ∨ b = a := by simpa using hm
      rcases e' with z | z
      · exact hb z
      · exact src_neT I h hf z.symm
  | str z =>
    obtain ⟨t, hi⟩ := hi
    have h : xs = signs z := h
    have hl : z.cps.size = xs.length := by rw [h]; simp [signs]
    refine ⟨[it], _, _, hl ▸ Draws.text hh it z t, by simp, hi, fun j v ⟨cc, u, hc, hv⟩ => ?_, fun j h' st => ⟨t, st⟩, fun b hb hf hm => hb (by simpa using hm)⟩
    subst hv
    exact ⟨.str ⟨#[cc]⟩, by rw [h]; simp [signs, hc], u, rfl⟩
theorem begins_src (I : Inv X pins σ H s) (h : SrcAt X.K H c xs) {u : Value} (r : RelV c.val u) : ∃ (o : Obj) (G : Heap → Prop), Begins u o G ∧ G s.heap ∧ ∀ it h', h'.get? it = some o → IterAt it 0 h' c := by
  cases c with
  | lst a =>
    cases r
    obtain ⟨its, rv, p, hz⟩ := I.list h
    exact ⟨_, _, begins_list a its.toArray, p.isList, fun it h' e => ⟨_, e, rfl, rfl⟩⟩
  | tup a =>
    cases r
    obtain ⟨its, rv, p, hz⟩ := I.tuple h
    exact ⟨_, _, begins_tuple a its.toArray, p, fun it h' e => ⟨_, e, rfl, rfl⟩⟩
  | str z =>
    obtain ⟨t, rfl⟩ := r
    exact ⟨_, _, begins_text z t, trivial, fun it h' e => ⟨t, _, e, rfl, rfl⟩⟩
end

/-! ### enumerate -/
def IteS (K : PySem.W.Frag) (c : Src) : It :=
  ⟨fun i H => ∃ xs, SrcAt K H c xs ∧ i < xs.length, fun i H v H' => ∃ Tp x, v = .ref Tp ∧ H Tp = none ∧ H' = upd H Tp (.tup [.int (i : Nat), x]) ∧ ∀ xs, SrcAt K H c xs → xs[i]? = some x, fun i H => ∃ xs, SrcAt K H c xs ∧ xs.length = i⟩
theorem turn_enumS {P : Program} {w : World} {K : PySem.W.Frag} {elts : List Expr} {kk : Nat} {tpos : Pos} (c : Src) (e it : Addr) :
    Turn P w K (.Tuple elts kk tpos) (IteS K c) [e, it] e (fun i h => (∃ old, IsEnum h e it ((i : Nat) : Int) old) ∧ IterAt it i h c ∧ e ≠ it) where
  mem := by simp
  obj := fun i h st b hb => by
    obtain ⟨⟨old, he⟩, hit, _⟩ := st
    have e' : b = e ∨ b = it := by simpa using hb
    rcases e' with z | z
    · rw [z]; exact ⟨_, he, fun v q => nomatch q⟩
    · rw [z]; exact hit.obj
  keep := fun i h h' st k => let ⟨⟨old, he⟩, hi, hne⟩ := st; ⟨⟨old, k e (by simp) _ he⟩, hi.at fun o q => k it (by simp) o q, hne⟩
  item := by
    intro X hP hw hK hc i pins s σ H E I hf st hg
    subst hP hw hK
    obtain ⟨⟨old, he⟩, hit, hne⟩ := st
    obtain ⟨xs, hq, hx⟩ := hg
    have fe := hf e (by simp)
    have fi := hf it (by simp)
    obtain ⟨fp, P, St, D, hm, st0, hP, hS, hn⟩ := src_draws I (A := X.A.in1) (I.ok.hd hc) hq hit fi
    have hel : e < s.heap.objs.size := Heap.lt_size he
    have hil : it < s.heap.objs.size := by obtain ⟨_, q, _⟩ := hit.obj; exact Heap.lt_size q
    refine wpAny_pyNext_enum_itemD D he st0 hx hne (hn e hne fe) fun u h' tk hu ho hit' hT hsz hk => ?_
    obtain ⟨x, hxx, ru⟩ := hP i u hu
    refine ⟨_, rfl, wpAny_letOwnedTupleGo_enum (s := { s with heap := h', toks := tk + 1 }) ho fun h'' he' sb => ?_⟩
    have hT2 : h''.get? s.heap.objs.size = some { cls := .type "tuple", data := .seq #[.int i tk, u] } := (sb.2 _ (Nat.ne_of_gt hel)).trans hT
    have new : ObjOk X.prog X.w (upd H s.heap.objs.size (.tup [.int (i : Nat), x])) h'' s.heap.objs.size (.tup [.int (i : Nat), x]) :=
      ⟨by show 2 ≤ sizeLine; decide, [.int i tk, u], .cons ⟨_, rfl⟩ (.cons ru .nil), ⟨_, hT2, rfl, _, rfl⟩⟩
    have I1 : Inv X pins σ (upd H s.heap.objs.size (.tup [.int (i : Nat), x])) { s with heap := h'', toks := tk + 1 } :=
      I.turnedNew (ch := [e, it]) (fun b ob hb q => (sb.2 b (fun z => hb (by simp [z]))).trans (hk b ob (fun z => hb (by simp [z])) (fun z => hb (by simp [z])) q)) hf (Nat.le_refl _) new
    refine ⟨.ref s.heap.objs.size, _, I1, rfl, ⟨_, x, rfl, I.hok.fresh (Nat.le_refl _), rfl, fun ys hy => by rw [src_inj I hy hq]; exact hxx⟩, ⟨⟨u, ?_⟩, (hS _ _ hit').at fun o q => (sb.2 it (Ne.symm hne)).trans q, hne⟩, fun b hb => ?_⟩
    · have e1 : ((i + 1 : Nat) : Int) = (i : Int) + 1 := by omega
      rw [e1]; exact he'
    · have hb' : b < s.heap.objs.size := by
        have e' : b = e ∨ b = it := by simpa using hb
        rcases e' with z | z
        · rw [z]; exact hel
        · rw [z]; exact hil
      rw [upd_ne (Nat.ne_of_lt hb')]
      exact (hf b hb).1
  done := by
    intro X hP hw hK hc i pins s σ H E I hf st hg
    subst hP hw hK
    obtain ⟨⟨old, he⟩, hit, hne⟩ := st
    obtain ⟨xs, hq, hx⟩ := hg
    subst hx
    have fe := hf e (by simp)
    have fi := hf it (by simp)
    obtain ⟨fp, P, St, D, hm, st0, hP, hS, hn⟩ := src_draws I (A := X.A.in1) (I.ok.hd hc) hq hit fi
    obtain ⟨f0, f1, f2, f3, f4, f5⟩ := fi
    exact wpAny_pyNext_enum_endD D he st0 fun h' eb => ⟨rfl, I.turned (t' := s.toks) (fun b o hb q => eb b o hb q) f0 f1 f3 f4 f5⟩
  self := fun A i s Q E st h => let ⟨⟨_, he⟩, _⟩ := st; wpAny_pyIter_enum he h
def iEnumS (K : PySem.W.Frag) (ta : TA) : TI := fun σ H R => ta σ H fun vs H1 => ∃ c xs, vs = [Src.val c] ∧ SrcAt K H1 c xs ∧ R (IteS K c) H1
theorem pi_enumS {X : Cx} {e : Expr} {ta : TA} {p pos tpos : Pos} {elts : List Expr} {kk : Nat} (hg : Gl X "enumerate") (hm : X.mg "enumerate" = none) (ha : PA X [e] ta) (hs : starEach [e] X.env = [(false, eval e X.env)]) :
    PI X (.Tuple elts kk tpos) (.Call (.Name "enumerate" p) [e] [] pos) (iEnumS X.K ta) := by
  refine ⟨fun pins s σ H R I h => ?_⟩
  refine Call_ (ld_blt I hg hm boot_enumerate (PyProof.Rows.callWith_type1 (thn (ha.run pos pins s σ H _ I h) fun us s1 ⟨vs, H1, I1, r1, q1⟩ => ?_) hs rfl))
  obtain ⟨c, xs, ex, hq, q⟩ := q1
  subst ex
  obtain ⟨u, rfl, r⟩ := vals1 r1
  obtain ⟨o, G, B, hG, hI⟩ := begins_src I1 hq r
  refine enum_begins1 B hG fun h' he hit hsz hk => wpAny_pyIter_enum he ?_
  have I2 : Inv X pins σ H1 { s1 with heap := h' } := I1.kept (t' := s1.toks) hk
  refine ⟨s1.heap.objs.size + 1, [s1.heap.objs.size + 1, s1.heap.objs.size], _, _, H1, rfl, I2, turn_enumS c (s1.heap.objs.size + 1) s1.heap.objs.size, ⟨⟨.none, he⟩, hI _ _ hit, Nat.succ_ne_self _⟩, fun b hb => ?_, q⟩
  have e' : b = s1.heap.objs.size + 1 ∨ b = s1.heap.objs.size := by simpa using hb
  have hle : s1.heap.objs.size ≤ b := by
    rcases e' with z | z
    · rw [z]; exact Nat.le_add_right _ _
    · rw [z]; exact Nat.le_refl _
  exact I1.fpOk hle (I1.hok.fresh hle)
end HD
set_option Elab.async false
set_option linter.all false
set_option maxRecDepth 100000
set_option maxHeartbeats 4000000
/-! HD, part 11: zip. -/
namespace HD
open PySem PySem.Spec PyProof.Rows L2

theorem nd5 (n : Nat) : List.Nodup [n + 4, n + 2, n + 3, n, n + 1] := by
  simp only [List.nodup_cons, List.mem_cons, List.not_mem_nil, or_false, not_or, not_false_eq_true, List.nodup_nil, and_true]
  refine ⟨⟨?_, ?_, ?_, ?_⟩, ⟨?_, ?_, ?_⟩, ⟨?_, ?_⟩, ?_⟩ <;> omega
def ItzS (K : PySem.W.Frag) (c d : Src) : It :=
  ⟨fun i H => ∃ xs ys, SrcAt K H c xs ∧ SrcAt K H d ys ∧ i < xs.length ∧ i < ys.length,
    fun i H v H' => ∃ Tp x y, v = .ref Tp ∧ H Tp = none ∧ H' = upd H Tp (.tup [x, y]) ∧ (∀ xs, SrcAt K H c xs → xs[i]? = some x) ∧ ∀ ys, SrcAt K H d ys → ys[i]? = some y,
    fun i H => ∃ xs ys, SrcAt K H c xs ∧ SrcAt K H d ys ∧ i ≤ xs.length ∧ i ≤ ys.length ∧ (i = xs.length ∨ i = ys.length)⟩
theorem turn_zipS {P : Program} {w : World} {K : PySem.W.Frag} {elts : List Expr} {kk : Nat} {tpos : Pos} {c d : Src} {z TI TO i1 i2 : Addr} (n : List.Nodup [z, TI, TO, i1, i2]) :
    Turn P w K (.Tuple elts kk tpos) (ItzS K c d) [z, TI, TO, i1, i2] z (fun i h => IsZip h z TI TO .none ∧ IsTupOf2 h TI (.ref i1) (.ref i2) ∧ (∃ x y, IsTupOf2 h TO x y) ∧ IterAt i1 i h c ∧ IterAt i2 i h d) where
  mem := by simp
  obj := fun i h st b hb => by
    obtain ⟨hz, hTI, ⟨x, y, hTO⟩, h1, h2⟩ := st
    have e' : b = z ∨ b = TI ∨ b = TO ∨ b = i1 ∨ b = i2 := by simpa using hb
    rcases e' with q | q | q | q | q
    · rw [q]; exact ⟨_, hz, fun v q => nomatch q⟩
    · rw [q]; exact ⟨_, hTI, fun v q => nomatch q⟩
    · rw [q]; exact ⟨_, hTO, fun v q => nomatch q⟩
    · rw [q]; exact h1.obj
    · rw [q]; exact h2.obj
  keep := fun i h h' st k => by
    obtain ⟨hz, hTI, ⟨x, y, hTO⟩, h1, h2⟩ := st
    exact ⟨k z (by simp) _ hz, k TI (by simp) _ hTI, ⟨x, y, k TO (by simp) _ hTO⟩, h1.at fun o q => k i1 (by simp) o q, h2.at fun o q => k i2 (by simp) o q⟩
  item := by
    intro X hP hw hK hc i pins s σ H E I hf st hg
    subst hP hw hK
    obtain ⟨hz, hTI, ⟨x0, y0, hTO⟩, h1, h2⟩ := st
    obtain ⟨xs, ys, hqx, hqy, lx, ly⟩ := hg
    have nn : z ≠ TI ∧ z ≠ TO ∧ z ≠ i1 ∧ z ≠ i2 ∧ TI ≠ TO ∧ TI ≠ i1 ∧ TI ≠ i2 ∧ TO ≠ i1 ∧ TO ≠ i2 ∧ i1 ≠ i2 := by
      simp only [List.nodup_cons, List.mem_cons, List.not_mem_nil, or_false, not_or] at n
      exact ⟨n.1.1, n.1.2.1, n.1.2.2.1, n.1.2.2.2, n.2.1.1, n.2.1.2.1, n.2.1.2.2, n.2.2.1.1, n.2.2.1.2, n.2.2.2.1⟩
    obtain ⟨n1, n2, n3, n4, n5, n6, n7, n8, n9, n10⟩ := nn
    have fz := hf z (by simp)
    have fT := hf TO (by simp)
    have f1 := hf i1 (by simp)
    have f2 := hf i2 (by simp)
    obtain ⟨fp1, P1, St1, D1, m1, st1, hP1, hS1, hn1⟩ := src_draws I (A := X.A.in1) (I.ok.hd hc) hqx h1 f1
    obtain ⟨fp2, P2, St2, D2, m2, st2, hP2, hS2, hn2⟩ := src_draws I (A := X.A.in1) (I.ok.hd hc) hqy h2 f2
    have sep : ZipSep2 z TI TO i1 i2 fp1 fp2 := ⟨n1.symm, n2.symm, n5, n6, m1, hn1 z n3 fz, hn1 TO n8 fT, n7, m2, hn2 z n4 fz, hn2 TO n9 fT, hn2 i1 n10 f1, hn1 i2 n10.symm f2⟩
    have hzl : z < s.heap.objs.size := Heap.lt_size hz
    refine wpAny_pyNext_zipD2_item sep D1 D2 hz hTI hTO st1 st2 lx ly fun u u2 h' tk y1 y2 z' TO' h1' h2' hT hsz hk => ?_
    obtain ⟨x, hx, ru⟩ := hP1 i u y1
    obtain ⟨y, hy, ru2⟩ := hP2 i u2 y2
    refine ⟨_, rfl, wpAny_letOwnedTupleGo_zip (s := { s with heap := h', toks := tk }) z' fun h'' z'' sb => ?_⟩
    have hT2 : h''.get? s.heap.objs.size = some { cls := .type "tuple", data := .seq #[u, u2] } := (sb.2 _ (Nat.ne_of_gt hzl)).trans hT
    have new : ObjOk X.prog X.w (upd H s.heap.objs.size (.tup [x, y])) h'' s.heap.objs.size (.tup [x, y]) :=
      ⟨by show 2 ≤ sizeLine; decide, [u, u2], .cons ru (.cons ru2 .nil), ⟨_, hT2, rfl, _, rfl⟩⟩
    have I1 : Inv X pins σ (upd H s.heap.objs.size (.tup [x, y])) { s with heap := h'', toks := tk } :=
      I.turnedNew (t' := tk) (ch := [z, TI, TO, i1, i2]) (fun c o hb q => (sb.2 c (fun q' => hb (by simp [q']))).trans (hk c o (fun q' => hb (by simp [q'])) (fun q' => hb (by simp [q'])) (fun q' => hb (by simp [q'])) (fun q' => hb (by simp [q'])) q)) hf (Nat.le_refl _) new
    refine ⟨.ref s.heap.objs.size, _, I1, rfl, ⟨_, x, y, rfl, I.hok.fresh (Nat.le_refl _), rfl, fun l hl => by rw [src_inj I hl hqx]; exact hx, fun l hl => by rw [src_inj I hl hqy]; exact hy⟩, ⟨z'', ?_, ⟨u, u2, ?_⟩, ?_, ?_⟩, fun b hcm => ?_⟩
    · exact (sb.2 _ n1.symm).trans (hk _ _ n1.symm n5 n6 n7 hTI)
    · exact (sb.2 _ n2.symm).trans TO'
    · exact (hS1 _ _ h1').at fun o q => (sb.2 _ n3.symm).trans q
    · exact (hS2 _ _ h2').at fun o q => (sb.2 _ n4.symm).trans q
    · have hlt : b < s.heap.objs.size := by
        have e' : b = z ∨ b = TI ∨ b = TO ∨ b = i1 ∨ b = i2 := by simpa using hcm
        rcases e' with q | q | q | q | q
        · rw [q]; exact hzl
        · rw [q]; exact Heap.lt_size hTI
        · rw [q]; exact Heap.lt_size hTO
        · rw [q]; obtain ⟨_, e1, _⟩ := h1.obj; exact Heap.lt_size e1
        · rw [q]; obtain ⟨_, e2, _⟩ := h2.obj; exact Heap.lt_size e2
      rw [upd_ne (Nat.ne_of_lt hlt)]
      exact (hf b hcm).1
  done := by
    intro X hP hw hK hc i pins s σ H E I hf st hg
    subst hP hw hK
    obtain ⟨hz, hTI, ⟨x0, y0, hTO⟩, h1, h2⟩ := st
    obtain ⟨xs, ys, hqx, hqy, lx, ly, hend⟩ := hg
    have nn : z ≠ TI ∧ z ≠ TO ∧ z ≠ i1 ∧ z ≠ i2 ∧ TI ≠ TO ∧ TI ≠ i1 ∧ TI ≠ i2 ∧ TO ≠ i1 ∧ TO ≠ i2 ∧ i1 ≠ i2 := by
      simp only [List.nodup_cons, List.mem_cons, List.not_mem_nil, or_false, not_or] at n
      exact ⟨n.1.1, n.1.2.1, n.1.2.2.1, n.1.2.2.2, n.2.1.1, n.2.1.2.1, n.2.1.2.2, n.2.2.1.1, n.2.2.1.2, n.2.2.2.1⟩
    obtain ⟨n1, n2, n3, n4, n5, n6, n7, n8, n9, n10⟩ := nn
    have fz := hf z (by simp)
    have fT := hf TO (by simp)
    have f1 := hf i1 (by simp)
    have f2 := hf i2 (by simp)
    obtain ⟨fp1, P1, St1, D1, m1, st1, hP1, hS1, hn1⟩ := src_draws I (A := X.A.in1) (I.ok.hd hc) hqx h1 f1
    obtain ⟨fp2, P2, St2, D2, m2, st2, hP2, hS2, hn2⟩ := src_draws I (A := X.A.in1) (I.ok.hd hc) hqy h2 f2
    have sep : ZipSep2 z TI TO i1 i2 fp1 fp2 := ⟨n1.symm, n2.symm, n5, n6, m1, hn1 z n3 fz, hn1 TO n8 fT, n7, m2, hn2 z n4 fz, hn2 TO n9 fT, hn2 i1 n10 f1, hn1 i2 n10.symm f2⟩
    exact wpAny_pyNext_zipD2_end sep D1 D2 hz hTI hTO st1 st2 lx ly hend fun h' tk hk => ⟨rfl, I.turnedL (t' := tk) (ch := [z, TI, TO, i1, i2]) (fun c o hb q =>
      hk c o (fun q' => hb (by simp [q'])) (fun q' => hb (by simp [q'])) (fun q' => hb (by simp [q'])) (fun q' => hb (by simp [q'])) q) hf⟩
  self := fun A i s Q E st h => wpAny_pyIter_zip st.1 h
def iZipS (K : PySem.W.Frag) (ta : TA) : TI := fun σ H R => ta σ H fun vs H1 => ∃ c d xs ys, vs = [Src.val c, Src.val d] ∧ SrcAt K H1 c xs ∧ SrcAt K H1 d ys ∧ R (ItzS K c d) H1
theorem pi_zipS {X : Cx} {e e2 : Expr} {ta : TA} {p pos tpos : Pos} {elts : List Expr} {kk : Nat} (hg : Gl X "zip") (hm : X.mg "zip" = none) (ha : PA X [e, e2] ta)
    (hs : starEach [e, e2] X.env = (false, eval e X.env) :: starEach [e2] X.env) (hpl : (backTo pos (starEach [e2] X.env)).any (·.1) = false) :
    PI X (.Tuple elts kk tpos) (.Call (.Name "zip" p) [e, e2] [] pos) (iZipS X.K ta) := by
  refine ⟨fun pins s σ H R I h => ?_⟩
  refine Call_ (ld_blt I hg hm PyProof.Rows.boot_zip (PyProof.Rows.callWith_type1 (thn (ha.run pos pins s σ H _ I h) fun us s1 ⟨vs, H1, I1, r1, q1⟩ => ?_) hs hpl))
  obtain ⟨c, d, xs, ys, ex, hqx, hqy, q⟩ := q1
  subst ex
  obtain ⟨u, u2, rfl, r, r2⟩ := vals2 r1
  obtain ⟨o, G, B, hG, hI⟩ := begins_src I1 hqx r
  obtain ⟨o2, G2, B2, hG2, hI2⟩ := begins_src I1 hqy r2
  refine zip_begins2 B B2 hG hG2 fun h' hz hTI hTO h1 h2 hsz hk => wpAny_pyIter_zip hz ?_
  have I2 : Inv X pins σ H1 { s1 with heap := h' } := I1.kept (t' := s1.toks) hk
  refine ⟨s1.heap.objs.size + 4, [s1.heap.objs.size + 4, s1.heap.objs.size + 2, s1.heap.objs.size + 3, s1.heap.objs.size, s1.heap.objs.size + 1], _, _, H1, rfl, I2, turn_zipS (c := c) (d := d) ?_, ⟨hz, hTI, ⟨_, _, hTO⟩, hI _ _ h1, hI2 _ _ h2⟩, fun b hcm => ?_, q⟩
  · exact nd5 _
  · have e' : b = s1.heap.objs.size + 4 ∨ b = s1.heap.objs.size + 2 ∨ b = s1.heap.objs.size + 3 ∨ b = s1.heap.objs.size ∨ b = s1.heap.objs.size + 1 := by simpa using hcm
    have hle : s1.heap.objs.size ≤ b := by
      rcases e' with z | z | z | z | z
      · rw [z]; exact Nat.le_add_right _ _
      · rw [z]; exact Nat.le_add_right _ _
      · rw [z]; exact Nat.le_add_right _ _
      · rw [z]; exact Nat.le_refl _
      · rw [z]; exact Nat.le_add_right _ _
    exact I1.fpOk hle (I1.hok.fresh hle)
end HD
set_option Elab.async false
set_option linter.all false
set_option maxRecDepth 100000
set_option maxHeartbeats 4000000
/-! HD, part 12: iterables; for. -/
namespace HD
open PySem PySem.Spec PyProof.Rows L2

def signsD (z : Str) : List D := z.cps.toList.map fun c => .str ⟨#[c]⟩
def itemsD : D → (List D → Prop) → Prop
  | .lst xs, k => k xs
  | .tup xs, k => k xs
  | .scr ns, k => k (ns.map D.int)
  | .str z, k => k (signsD z)
  | _, _ => False
/-- what is walked, and what must stay so -/
def itA (j : Nat) (F : Fr) : Option Cel → (List D → (Fr → Prop) → Fr → Prop) → Prop
  | some c, k => itemsD c.toD fun ds => k ds (fun F' => F'.ar[j]? = some c) F
  | none, _ => False
def itemsK (F : Fr) : Ev → (List D → (Fr → Prop) → Fr → Prop) → Prop
  | .ar j, k => itA j F F.ar[j]? k
  | x, k => frzK F x fun d F1 => itemsD d fun ds => k ds (fun _ => True) F1
/-- the source's items -/
def SrcD (X : Cx) (S : Hp) (av : List V) (c : Src) (items : List D) (ok : Fr → Prop) : Prop := ∀ (S2 P2 : Hp) (F2 : Fr) (σ2 : L2.St) (H2 : Hp), Rel X.K X.mg S2 P2 av F2 σ2 H2 → Ex S S2 → ok F2 → ∃ xs, SrcAt X.K H2 c xs ∧ Reps X.K X.mg S2 items xs
section
variable {X : Cx} {S P H : Hp} {av : List V} {F : Fr} {σ : L2.St} {v : V} {ev : Ev}
theorem Reps.signs {K : PySem.W.Frag} {mg : Str → Option Value} {S : Hp} (z : Str) : Reps K mg S (signsD z) (HD.signs z) := by
  unfold signsD HD.signs
  induction z.cps.toList with
  | nil => exact Reps.nil
  | cons c cs ih => exact Reps.cons (by unfold Rep; rfl) ih
/-- data as a source -/
theorem src_of {d : D} {k : List D → Prop} (h : Rep X.K X.mg S d v) (q : itemsD d k) : ∃ c items, k items ∧ v = Src.val c ∧ SrcD X S av c items fun _ => True := by
  match d, q with
  | .lst ds, q =>
    unfold Rep at h
    obtain ⟨a, vs, rfl, h1, h2⟩ := h
    exact ⟨.lst a, ds, q, rfl, fun S2 P2 F2 σ2 H2 R e _ => ⟨vs, SqL.of (R.sH a _ (e a _ h1)), Reps.mono e _ _ h2⟩⟩
  | .tup ds, q =>
    unfold Rep at h
    obtain ⟨a, vs, rfl, h1, h2⟩ := h
    exact ⟨.tup a, ds, q, rfl, fun S2 P2 F2 σ2 H2 R e _ => ⟨vs, R.sH.sqT (e.sqT h1), Reps.mono e _ _ h2⟩⟩
  | .scr ns, q =>
    unfold Rep at h
    obtain ⟨a, rfl, h1⟩ := h
    exact ⟨.lst a, _, q, rfl, fun S2 P2 F2 σ2 H2 R e _ => ⟨_, R.sH.sqL (e.sqL h1), Reps.ints ns⟩⟩
  | .str z, q =>
    unfold Rep at h
    exact ⟨.str z, _, q, h, fun S2 P2 F2 σ2 H2 R e _ => ⟨_, rfl, Reps.signs z⟩⟩
theorem itA_of {j : Nat} {o : Option Cel} {k : List D → (Fr → Prop) → Fr → Prop} (h : itA j F o k) : ∃ c, o = some c ∧ itemsD c.toD fun ds => k ds (fun F' => F'.ar[j]? = some c) F := by
  match o, h with
  | some c, h => exact ⟨c, rfl, h⟩
theorem Rel.items (R : Rel X.K X.mg S P av F σ H) {k : List D → (Fr → Prop) → Fr → Prop} (h : EvOk X.K X.mg S P av F σ H v (HD.hold ev)) (q : itemsK F ev k) :
    ∃ S' F' c items ok, k items ok F' ∧ Ex S S' ∧ Rel X.K X.mg S' P av F' σ H ∧ v = Src.val c ∧ SrcD X S' av c items ok ∧ ok F' := by
  have other : ∀ {ev}, EvOk X.K X.mg S P av F σ H v (HD.hold ev) → (frzK F ev fun d F1 => itemsD d fun ds => k ds (fun _ => True) F1) → ∃ S' F' c items ok, k items ok F' ∧ Ex S S' ∧ Rel X.K X.mg S' P av F' σ H ∧ v = Src.val c ∧ SrcD X S' av c items ok ∧ ok F' := fun {ev} h q => by
    obtain ⟨S1, F1, d, q1, e1, R1, r1⟩ := R.frzEv h q
    obtain ⟨c, items, q2, hv, hs⟩ := src_of (av := av) r1 q1
    exact ⟨S1, F1, c, items, _, q2, e1, R1, hv, hs, trivial⟩
  cases ev with
  | sh d => exact other h q
  | tmp c => exact other h q
  | sl i => exact other h q
  | ar j =>
    obtain ⟨c, hs, q⟩ := itA_of q
    have h' : av[j]? = some v := h
    obtain ⟨w, h1, h2⟩ := R.cel (.inr j) c hs
    have h1' : av[j]? = some w := h1
    rw [h'] at h1'; cases h1'
    cases ho : c.own with
    | false =>
      cases c with
      | gone d =>
        obtain ⟨c, items, q2, hv, hs2⟩ := src_of (av := av) (show Rep X.K X.mg S d v from h2) q
        exact ⟨S, F, c, items, _, q2, Ex.refl S, R, hv, fun S2 P2 F2 σ2 H2 R2 e o => hs2 S2 P2 F2 σ2 H2 R2 e trivial, hs⟩
      | _ => cases ho
    | true =>
      cases c with
      | gone d => cases ho
      | lst ds =>
        obtain ⟨a, rfl, s0, p0, o, h3, vs, rfl, h4⟩ := h2
        refine ⟨S, F, .lst a, ds, _, q, Ex.refl S, R, rfl, fun S2 P2 F2 σ2 H2 R2 e o => ?_, hs⟩
        obtain ⟨w, z1, z2⟩ := R2.cel (.inr j) _ o
        have z1' : av[j]? = some w := z1
        rw [h'] at z1'; cases z1'
        obtain ⟨b, hb, _, _, u, z3, vs2, rfl, z4⟩ := z2
        cases hb
        exact ⟨vs2, SqL.of z3, z4⟩
      | dct ks ds => cases q
      | ins c ns ds => cases q
end

/-! ### a walk -/
def WalkD (X : Cx) (S : Hp) (av : List V) (J : It) (items : List D) (ok : Fr → Prop) : Prop := ∀ (S2 P2 : Hp) (F2 : Fr) (σ2 : L2.St) (H2 : Hp), Rel X.K X.mg S2 P2 av F2 σ2 H2 → Ex S S2 → ok F2 →
  (∀ i, i < items.length → J.go i H2 ∧ ∀ x H3, J.yld i H2 x H3 → ∃ S3 d, Ex S2 S3 ∧ Rel X.K X.mg S3 P2 av F2 σ2 H3 ∧ items[i]? = some d ∧ Rep X.K X.mg S3 d x) ∧ J.stop items.length H2
def ItS (K : PySem.W.Frag) : Src → It
  | .lst a => Itl K a
  | .tup a => Itt K a
  | .str z => Its z
abbrev MI := Fr → (List D → (Fr → Prop) → Fr → Prop) → EX → Prop
def SI (T : Tx) (tg iter : Expr) (mi : MI) : Prop := ∀ (X : Cx), Fits T X → ∃ wi : TI, PI X tg iter wi ∧ ∀ (S P : Hp) (av : List V) (F : Fr) (σ : L2.St) (H : Hp) (Q : List D → (Fr → Prop) → Fr → Prop) (E : EX),
  Rel X.K X.mg S P av F σ H → mi F Q E → Takes X (UpX X S P av E) → ∀ R : It → Hp → Prop,
    (∀ J items ok S1 F1 H1, Q items ok F1 → Ex S S1 → Rel X.K X.mg S1 P av F1 σ H1 → WalkD X S1 av J items ok → R J H1) → wi σ H R
section
variable {T : Tx} {tg e a b : Expr} {m ma mb : ME} {X : Cx} {pos p : Pos}
def iAny (X : Cx) (t : TE) : TI := fun σ H R => t σ H fun v H1 => ∃ c xs, v = Src.val c ∧ SrcAt X.K H1 c xs ∧ R (ItS X.K c) H1
theorem pi_any {t : TE} (h : PE X e t) : PI X tg e (iAny X t) := by
  refine ⟨fun pins s σ H R I hw => ?_⟩
  refine thn (h.run pins s σ H _ I hw) fun u s1 ⟨v, H1, I1, r1, c, xs, ev, hq, q⟩ => ?_
  subst ev
  cases c with
  | lst a =>
    cases r1
    obtain ⟨its, rv, p, hz⟩ := I1.list hq
    refine wpAny_pyIter_list p.isList ?_
    refine ⟨s1.heap.objs.size, [s1.heap.objs.size], _, _, H1, rfl, I1.kept (t' := s1.toks) fun b o e => Heap.get?_push_of_some _ e, turn_list a _, ⟨_, Heap.get?_push_size _ rfl, rfl, rfl⟩, fun b hb => ?_, q⟩
    have e : b = s1.heap.objs.size := by simpa using hb
    subst e
    exact I1.fpOk (Nat.le_refl _) (I1.hok.fresh (Nat.le_refl _))
  | tup a =>
    cases r1
    obtain ⟨its, rv, p, hz⟩ := I1.tuple hq
    refine wpAny_pyIter_tuple (show s1.heap.IsTuple a its.toArray from p) ?_
    refine ⟨s1.heap.objs.size, [s1.heap.objs.size], _, _, H1, rfl, I1.kept (t' := s1.toks) fun b o e => Heap.get?_push_of_some _ e, turn_tuple a _, ⟨_, Heap.get?_push_size _ rfl, rfl, rfl⟩, fun b hb => ?_, q⟩
    have e : b = s1.heap.objs.size := by simpa using hb
    subst e
    exact I1.fpOk (Nat.le_refl _) (I1.hok.fresh (Nat.le_refl _))
  | str x =>
    obtain ⟨t, rfl⟩ := r1
    cases ha : x.cps.all (· < 128)
    · exact wpAny_pyIter_wide ha (pi_one (tk := s1.toks) I1 _ (turn_str _ x t "str_iterator" (.inr rfl)) ⟨_, Heap.get?_push_size _ rfl, rfl, rfl⟩ q)
    · exact wpAny_pyIter_ascii ha (pi_one (tk := s1.toks) I1 _ (turn_str _ x t "str_ascii_iterator" (.inl rfl)) ⟨_, Heap.get?_push_size _ rfl, rfl, rfl⟩ q)
theorem walkD_src {S : Hp} {av : List V} {c : Src} {items : List D} {ok : Fr → Prop} (h : SrcD X S av c items ok) : WalkD X S av (ItS X.K c) items ok := fun S2 P2 F2 σ2 H2 R e o => by
  obtain ⟨xs, h1, h2⟩ := h S2 P2 F2 σ2 H2 R e o
  have hl := h2.len
  cases c with
  | lst a =>
    refine ⟨fun i hi => ⟨⟨xs, xs[i], h1, by simp⟩, fun x H3 y => ?_⟩, ⟨xs, h1, Nat.le_of_eq hl.symm⟩⟩
    obtain ⟨e3, y⟩ := y
    subst e3
    obtain ⟨d, hd, rd⟩ := h2.get' (y xs h1)
    exact ⟨S2, d, Ex.refl S2, R, hd, rd⟩
  | tup a =>
    refine ⟨fun i hi => ⟨⟨xs, xs[i], h1, by simp⟩, fun x H3 y => ?_⟩, ⟨xs, h1, Nat.le_of_eq hl.symm⟩⟩
    obtain ⟨e3, y⟩ := y
    subst e3
    obtain ⟨d, hd, rd⟩ := h2.get' (y xs h1)
    exact ⟨S2, d, Ex.refl S2, R, hd, rd⟩
  | str z =>
    have h1 : xs = signs z := h1
    have hz : items.length = z.cps.size := by rw [hl, h1]; simp [signs]
    refine ⟨fun i hi => ⟨by show i < z.cps.size; omega, fun x H3 y => ?_⟩, by show z.cps.size ≤ _; omega⟩
    obtain ⟨e3, cc, hc, hx⟩ := y
    subst e3 hx
    obtain ⟨d, hd, rd⟩ := h2.get' (i := i) (v := .str ⟨#[cc]⟩) (by rw [h1]; simp [signs, hc])
    exact ⟨S2, d, Ex.refl S2, R, hd, rd⟩
def mIter (m : ME) : MI := fun F Q E => m F (fun x F1 => itemsK F1 x Q) E
theorem itemsK_hold {F : Fr} {x : Ev} {k} (h : itemsK F x k) : itemsK F (hold x) k := by cases x <;> exact h
theorem si_any (h : SE T e m) : SI T tg e (mIter m) := fun X fx => ⟨_, pi_any pe_tW, fun S P av F σ H Q E R q tk Rr k => by
  refine tW_mono (h X fx S P av F σ H _ E R q tk) fun x H1 ⟨S1, F1, ev1, q1, e1, R1, k1⟩ => ?_
  obtain ⟨S1', e1', R1', k1'⟩ := R1.hold k1
  obtain ⟨S2, F2, c, items, ok, q2, e2, R2, hv, hs, o2⟩ := R1'.items (ev := hold ev1) (by rw [hold_hold]; exact k1') (itemsK_hold q1)
  subst hv
  obtain ⟨xs, h1, _⟩ := hs S2 P F2 σ H1 R2 (Ex.refl S2) o2
  exact ⟨c, xs, rfl, h1, k _ items ok S2 F2 H1 q2 (e1.trans (e1'.trans e2)) R2 (walkD_src hs)⟩⟩
/-! ### enumerate, zip, range -/
def enumFrom : Nat → List D → List D
  | _, [] => []
  | n, d :: ds => .tup [.int (n : Nat), d] :: enumFrom (n + 1) ds
def enumD (ds : List D) : List D := enumFrom 0 ds
theorem enumFrom_len : ∀ (n : Nat) (ds : List D), (enumFrom n ds).length = ds.length
  | _, [] => rfl
  | n, d :: ds => by unfold enumFrom; simp [enumFrom_len (n + 1) ds]
theorem enumFrom_get : ∀ (n : Nat) (ds : List D) (i : Nat) (d : D), ds[i]? = some d → (enumFrom n ds)[i]? = some (.tup [.int ((n + i : Nat) : Int), d])
  | _, [], _, _, h => by simp at h
  | n, e :: ds, 0, d, h => by simp at h; subst h; unfold enumFrom; simp
  | n, e :: ds, i + 1, d, h => by
    unfold enumFrom
    rw [List.getElem?_cons_succ, enumFrom_get (n + 1) ds i d (by simpa using h)]
    have : n + 1 + i = n + (i + 1) := by omega
    rw [this]
def zipD : List D → List D → List D
  | d :: ds, e :: es => .tup [d, e] :: zipD ds es
  | _, _ => []
theorem zipD_len : ∀ (ds es : List D), (zipD ds es).length = min ds.length es.length
  | [], _ => by simp [zipD]
  | _ :: _, [] => by simp [zipD]
  | d :: ds, e :: es => by simp [zipD, zipD_len ds es]
theorem zipD_get : ∀ (ds es : List D) (i : Nat) (d e : D), ds[i]? = some d → es[i]? = some e → (zipD ds es)[i]? = some (.tup [d, e])
  | [], _, _, _, _, h, _ => by simp at h
  | _ :: _, [], _, _, _, _, h => by simp at h
  | d :: ds, e :: es, 0, x, y, h, h' => by simp at h h'; subst h h'; simp [zipD]
  | d :: ds, e :: es, i + 1, x, y, h, h' => by
    unfold zipD
    rw [List.getElem?_cons_succ]
    exact zipD_get ds es i x y (by simpa using h) (by simpa using h')
theorem pair_rep {K : PySem.W.Frag} {mg : Str → Option Value} {S P H : Hp} {av : List V} {F : Fr} {σ : L2.St} (R : Rel K mg S P av F σ H) {Tp : Addr} (hT : H Tp = none) {d e : D} {x y : V} (hx : Rep K mg S d x) (hy : Rep K mg S e y) :
    ∃ S', Ex S S' ∧ Rel K mg S' P av F σ (upd H Tp (.tup [x, y])) ∧ Rep K mg S' (.tup [d, e]) (.ref Tp) := by
  obtain ⟨ex, R'⟩ := R.newSh hT (.tup [x, y])
  refine ⟨_, ex, R', ?_⟩
  unfold Rep
  exact ⟨Tp, _, rfl, .inl (.inl upd_same), Reps.cons (Rep.mono ex _ _ hx) (Reps.cons (Rep.mono ex _ _ hy) Reps.nil)⟩
def mEnum (m : ME) : MI := fun F Q E => m F (fun x F1 => itemsK F1 x fun ds ok F2 => Q (enumD ds) ok F2) E
theorem si_enum {elts : List Expr} {kk : Nat} {tpos : Pos} (hg : glC T.sc "enumerate" = true) (hm : T.mg "enumerate" = none) (h : SE T e m) (hs : ∀ env, starEach [e] env = [(false, eval e env)] := by intros; rfl) :
    SI T (.Tuple elts kk tpos) (.Call (.Name "enumerate" p) [e] [] pos) (mEnum m) := fun X fx => ⟨_, pi_enumS (gl_of fx hg) (by rw [fx.mg]; exact hm) (pa_cons pe_tW pa_nil (hs X.env)) (hs X.env), fun S P av F σ H Q E R q tk Rr k => by
  refine tW_mono (h X fx S P av F σ H _ E R q tk) fun x H1 ⟨S1, F1, ev1, q1, e1, R1, k1⟩ => ?_
  obtain ⟨S1', e1', R1', k1'⟩ := R1.hold k1
  obtain ⟨S2, F2, c, items, ok, q2, e2, R2, hv, hsD, o2⟩ := R1'.items (ev := hold ev1) (by rw [hold_hold]; exact k1') (itemsK_hold q1)
  subst hv
  obtain ⟨xs, h1, _⟩ := hsD S2 P F2 σ H1 R2 (Ex.refl S2) o2
  refine ⟨c, xs, rfl, h1, k _ (enumD items) ok S2 F2 H1 q2 (e1.trans (e1'.trans e2)) R2 fun S3 P3 F3 σ3 H3 R3 e3 o3 => ?_⟩
  obtain ⟨ys, hy, ry⟩ := hsD S3 P3 F3 σ3 H3 R3 e3 o3
  have hl := ry.len
  have hn : (enumD items).length = ys.length := by unfold enumD; rw [enumFrom_len]; exact hl
  refine ⟨fun i hi => ⟨⟨ys, hy, by omega⟩, fun z H4 y => ?_⟩, ⟨ys, hy, hn.symm⟩⟩
  obtain ⟨Tp, x, rfl, hT, rfl, hx⟩ := y
  obtain ⟨d, hd, rd⟩ := ry.get' (hx ys hy)
  obtain ⟨S4, e4, R4, r4⟩ := pair_rep R3 hT (d := .int (i : Nat)) (x := .int (i : Nat)) (by unfold Rep; rfl) rd
  have hg := enumFrom_get 0 items i d hd
  rw [Nat.zero_add] at hg
  exact ⟨S4, _, e4, R4, hg, r4⟩⟩
def mZip (ma mb : ME) : MI := fun F Q E => ma F (fun x F1 => mb F1 (fun y F2 => itemsK F2 (hold x) fun ds ok F3 => itemsK F3 y fun es ok' F4 => ok F4 ∧ Q (zipD ds es) (fun F5 => ok F5 ∧ ok' F5) F4) E) E
theorem si_zip {elts : List Expr} {kk : Nat} {tpos : Pos} (hg : glC T.sc "zip" = true) (hm : T.mg "zip" = none) (ha : SE T a ma) (hb : SE T b mb) (hs : ∀ env, starEach [a, b] env = (false, eval a env) :: starEach [b] env := by intros; rfl)
    (hs2 : ∀ env, starEach [b] env = [(false, eval b env)] := by intros; rfl) (hpl : ∀ env, (backTo pos (starEach [b] env)).any (·.1) = false := by intros; rfl) :
    SI T (.Tuple elts kk tpos) (.Call (.Name "zip" p) [a, b] [] pos) (mZip ma mb) := fun X fx => ⟨_, pi_zipS (gl_of fx hg) (by rw [fx.mg]; exact hm) (pa_cons pe_tW (pa_cons pe_tW pa_nil (hs2 X.env)) (hs X.env)) (hs X.env) (hpl X.env), fun S P av F σ H Q E R q tk Rr k => by
  refine tW_mono (ha X fx S P av F σ H _ E R q tk) fun x H1 ⟨S1, F1, ev1, q1, e1, R1, k1⟩ => ?_
  obtain ⟨S1', e1', R1', k1'⟩ := R1.hold k1
  refine tW_mono (hb X fx S1' P av F1 σ H1 _ E R1' q1 (takes_mono (e1.trans e1') tk)) fun y H2 ⟨S2, F2, ev2, q2, e2, R2, k2⟩ => ?_
  obtain ⟨S2', e2', R2', k2'⟩ := R2.hold k2
  obtain ⟨S3, F3, c, items, ok, q3, e3, R3, hv, hsD, o3⟩ := R2'.items (ev := hold ev1) (by rw [hold_hold]; exact EvOk.held (e2.trans e2') k1') q2
  obtain ⟨S4, F4, c', items', ok', ⟨o3', q4⟩, e4, R4, hv', hsD', o4⟩ := R3.items (ev := hold ev2) (by rw [hold_hold]; exact EvOk.held e3 k2') (itemsK_hold q3)
  subst hv hv'
  obtain ⟨xs, h1, _⟩ := hsD S4 P F4 σ H2 R4 e4 o3'
  obtain ⟨xs', h1', _⟩ := hsD' S4 P F4 σ H2 R4 (Ex.refl S4) o4
  refine ⟨c, c', xs, xs', rfl, h1, h1', k _ _ _ S4 F4 H2 q4 (e1.trans (e1'.trans (e2.trans (e2'.trans (e3.trans e4))))) R4 fun S5 P5 F5 σ5 H5 R5 e5 o5 => ?_⟩
  obtain ⟨ys, hy, ry⟩ := hsD S5 P5 F5 σ5 H5 R5 (e4.trans e5) o5.1
  obtain ⟨zs, hz, rz⟩ := hsD' S5 P5 F5 σ5 H5 R5 e5 o5.2
  have l1 := ry.len
  have l2 := rz.len
  have hn := zipD_len items items'
  refine ⟨fun i hi => ⟨⟨ys, zs, hy, hz, by omega, by omega⟩, fun z H6 y => ?_⟩, ⟨ys, zs, hy, hz, by omega, by omega, by omega⟩⟩
  obtain ⟨Tp, x, y, rfl, hT, rfl, hx, hyy⟩ := y
  obtain ⟨d, hd, rd⟩ := ry.get' (hx ys hy)
  obtain ⟨d', hd', rd'⟩ := rz.get' (hyy zs hz)
  obtain ⟨S6, e6, R6, r6⟩ := pair_rep R5 hT rd rd'
  exact ⟨S6, _, e6, R6, zipD_get items items' i d d' hd hd', r6⟩⟩
def rangeD (lo : Int) (n : Nat) : List D := (List.range n).map fun i => .int (lo + (i : Nat))
theorem walkD_range {S : Hp} {av : List V} (lo : Int) (n : Nat) : WalkD X S av (Itr lo n) (rangeD lo n) fun _ => True := fun S2 P2 F2 σ2 H2 R e o => by
  have hl : (rangeD lo n).length = n := by simp [rangeD]
  refine ⟨fun i hi => ⟨by show i < n; omega, fun x H3 y => ?_⟩, by show n ≤ _; omega⟩
  obtain ⟨rfl, rfl⟩ := y
  exact ⟨S2, .int (lo + (i : Nat)), Ex.refl S2, R, by have hi' : i < n := by omega
                                                      simp [rangeD, hi'], by unfold Rep; rfl⟩
def mRange1 (m : ME) : MI := fun F Q E => m F (fun x F1 => valK F1 x fun d => intK d fun n => -(2 ^ 62) ≤ n ∧ n < 2 ^ 62 ∧ Q (rangeD 0 n.toNat) (fun _ => True) F1) E
theorem si_range1 (hg : glC T.sc "range" = true) (hm : T.mg "range" = none) (h : SE T e m) (hs : ∀ env, starEach [e] env = [(false, eval e env)] := by intros; rfl) : SI T tg (.Call (.Name "range" p) [e] [] pos) (mRange1 m) :=
  fun X fx => ⟨_, pi_range1 (gl_of fx hg) (by rw [fx.mg]; exact hm) (pa_cons pe_tW pa_nil (hs X.env)) (hs X.env), fun S P av F σ H Q E R q tk Rr k => by
  refine tW_mono (h X fx S P av F σ H _ E R q tk) fun x H1 ⟨S1, F1, ev1, q1, e1, R1, k1⟩ => ?_
  obtain ⟨d, q2, t1⟩ := R1.val k1 q1
  match d, q2 with
  | .int n, ⟨l1, l2, q2⟩ =>
    cases repT_int t1
    exact ⟨n, rfl, l1, l2, k _ _ _ S1 F1 H1 q2 e1 R1 (walkD_range 0 n.toNat)⟩⟩
def mRange2 (ma mb : ME) : MI := fun F Q E => ma F (fun x F1 => mb F1 (fun y F2 => valK F2 x fun d => valK F2 y fun e => intK d fun lo => intK e fun n => (-(2 ^ 62) ≤ lo ∧ lo < 2 ^ 62 ∧ -(2 ^ 62) ≤ n ∧ n < 2 ^ 62) ∧ Q (rangeD lo (n - lo).toNat) (fun _ => True) F2) E) E
theorem si_range2 (hg : glC T.sc "range" = true) (hm : T.mg "range" = none) (ha : SE T a ma) (hb : SE T b mb) (hs : ∀ env, starEach [a, b] env = [(false, eval a env), (false, eval b env)] := by intros; rfl) (hs2 : ∀ env, starEach [b] env = [(false, eval b env)] := by intros; rfl) :
    SI T tg (.Call (.Name "range" p) [a, b] [] pos) (mRange2 ma mb) :=
  fun X fx => ⟨_, pi_range2 (gl_of fx hg) (by rw [fx.mg]; exact hm) (pa_cons pe_tW (pa_cons pe_tW pa_nil (hs2 X.env)) (by rw [hs, hs2])) (hs X.env) (hs2 X.env), fun S P av F σ H Q E R q tk Rr k => by
  refine two fx ha hb (Q2 := fun x y F2 => valK F2 x fun d => valK F2 y fun e => intK d fun lo => intK e fun n => (-(2 ^ 62) ≤ lo ∧ lo < 2 ^ 62 ∧ -(2 ^ 62) ≤ n ∧ n < 2 ^ 62) ∧ Q (rangeD lo (n - lo).toNat) (fun _ => True) F2) R tk ?_ fun S2 F2 H2 x y ex ey e2 R2 k1 k2 q2 => ?_
  · simp only [valK_hold]; exact q
  · obtain ⟨d, q2, t1⟩ := R2.val k1 q2
    obtain ⟨e, q2, t2⟩ := R2.val k2 q2
    match d, e, q2 with
    | .int lo, .int n, ⟨l, q2⟩ =>
      cases repT_int t1
      cases repT_int t2
      exact ⟨lo, n, rfl, l, k _ _ _ S2 F2 H2 q2 e2 R2 (walkD_range lo _)⟩⟩

/-! ### for -/
def loopD (g : MG) (mb : MS) (ok : Fr → Prop) : List D → DE → Fr → Prop
  | [], D, F => ok F ∧ D.nx F
  | d :: ds, D, F => ok F ∧ g d F fun F1 => mb { D with nx := loopD g mb ok ds D, ct := loopD g mb ok ds D, bk := D.nx } F1
def mFor (mi : MI) (g : MG) (mb : MS) : MS := fun D F => mi F (fun items ok F1 => loopD g mb ok items D F1) D.ex
theorem ss_for {iter : Expr} {body : List Stmt} {mi : MI} {g : MG} {is : List Nat} {mb : MS} (hi : SI T tg iter mi) (hg : SG T tg is g) (hb : SSs T body mb) (hs : ∀ env x, foldedSetIterable iter env x = pure x := by intros; rfl) (hh : T.hot = false := by rfl) :
    SS T (.For tg iter body [] pos) (mFor mi g mb) := fun X fx S P av F σ H D R q tk => by
  obtain ⟨wi, pw, kw⟩ := hi X fx.toFits
  refine tWS_of (ps_for fx.hp (fx.calm hh) pw pg_tWG pss_tWB (hs X.env)) (kw S P av F σ H _ D.ex R q tk _ fun J items ok S1 F1 H1 q1 e1 R1 w1 => ?_)
  have len : ∀ {ds : List HD.D} {D : DE} {F : Fr}, loopD g mb ok ds D F → ok F := fun {ds D F} h => by cases ds <;> exact h.1
  refine ⟨fun i m σ' H' => m = items.length - i ∧ i ≤ items.length ∧ ∃ S' F', Ex S1 S' ∧ Rel X.K X.mg S' P av F' σ' H' ∧ loopD g mb ok (items.drop i) D F', ⟨_, rfl, Nat.zero_le _, S1, F1, Ex.refl S1, R1, q1⟩, ?_⟩
  rintro i m σ2 H2 ⟨rfl, hi, S2, F2, e2, R2, q2⟩
  obtain ⟨wg, ws⟩ := w1 S2 P F2 σ2 H2 R2 e2 (len q2)
  by_cases hlt : i < items.length
  · obtain ⟨go, yl⟩ := wg i hlt
    refine .inr ⟨go, fun σ' H' => ∃ S' F', Ex S1 S' ∧ Rel X.K X.mg S' P av F' σ' H' ∧ loopD g mb ok (items.drop (i + 1)) D F', fun σ' H' p => ⟨_, by omega, rfl, hlt, p⟩, fun x H3 y => ?_⟩
    obtain ⟨S3, d, e3, R3, hd, rd⟩ := yl x H3 y
    rw [List.drop_eq_getElem_cons hlt] at q2
    have hd' : items[i] = d := by rw [List.getElem?_eq_getElem hlt] at hd; exact Option.some.inj hd
    rw [hd'] at q2
    refine tWG_mono (hg X fx.toFits S3 P av F2 σ2 H3 d x _ R3 rd q2.2) fun σ4 H4 ⟨⟨S4, F4, q4, e4, R4⟩, _⟩ => ?_
    have e14 : Ex S1 S4 := e2.trans (e3.trans e4)
    refine tWB_le (hb X fx S4 P av F4 σ4 H4 _ R4 q4 (takes_mono (e1.trans e14) tk)) ⟨fun σ5 H5 ⟨S5, F5, q5, e5, R5⟩ => ⟨S5, F5, e14.trans e5, R5, q5⟩, fun v H5 u => u.mono (e1.trans e14), fun σ5 H5 u => u.mono (e1.trans e14) fun _ h => h, fun σ5 H5 ⟨S5, F5, q5, e5, R5⟩ => ⟨S5, F5, e14.trans e5, R5, q5⟩⟩
  · have e : i = items.length := by omega
    subst e
    rw [List.drop_length] at q2
    exact .inl ⟨ws, S2, F2, q2.2, e1.trans e2, R2⟩
end
end HD
set_option Elab.async false
set_option linter.all false
set_option maxRecDepth 100000
set_option maxHeartbeats 4000000
/-! HD, part 13: what a def promises; a def's body keeps it; the cells that a call hands on. -/
namespace HD
open PySem PySem.Spec PyProof.Rows L2

abbrev EXc := Exn → List Cel → Prop
/-- a promise: the arguments' cells, what is wanted of the result and the cells behind it, of an exception -/
abbrev DSp := List Cel → (Ev → List Cel → Prop) → EXc → Prop
def Lift (K : PySem.W.Frag) (mg : Str → Option Value) (n : Nat) (sp : DSp) : Sp := fun vs H Q E => vs.length = n ∧ ∃ (S P : Hp) (cs : List Cel) (QD : Ev → List Cel → Prop) (ED : EXc), Rel K mg S P vs ⟨[], cs⟩ [] H ∧ sp cs QD ED ∧
  (∀ v H' S' ev cs', QD ev cs' → Ex S S' → Rel K mg S' P vs ⟨[], cs'⟩ [] H' → EvOk K mg S' P vs ⟨[], cs'⟩ [] H' v ev → Q v H') ∧
  (∀ x cls d H' S' cs', ED x cs' → Ex S S' → Rel K mg S' P vs ⟨[], cs'⟩ [] H' → ExnOk K mg S' cls d x → E cls d H')
def FnD (P : Program) (w : World) (K : PySem.W.Frag) (mg : Str → Option Value) (base : Heap) (k : Nat) (f : Addr) (fd : FuncData) (ps : List Str) (sp : DSp) : Prop :=
  FnOk P w K mg base (L2.CX P w) k f fd ps (Lift K mg ps.length sp)

section
variable {K : PySem.W.Frag} {mg : Str → Option Value} {S S' P H H' : Hp} {av : List V} {F : Fr} {σ : L2.St} {v : V} {ev : Ev}
/-- without its slots -/
theorem Rel.bare (R : Rel K mg S P av F σ H) : Rel K mg S P av ⟨[], F.ar⟩ [] H where
  sH := R.sH
  pH := R.pH
  sp := R.sp
  alen := R.alen
  slen := rfl
  slo := fun i s h => by simp at h
  cel := fun p c h => by
    match p, h with
    | .inl i, h => have h : celOf (([] : List (Option Sv))[i]?) = some c := h
                   simp [celOf] at h
    | .inr k, h => exact R.cel (.inr k) c h
  apart := fun p q c e v hp co hq eo vp vq => by
    match p, q, hp, hq, vp, vq with
    | .inl i, _, hp, _, _, _ => have h : celOf (([] : List (Option Sv))[i]?) = some c := hp
                                simp [celOf] at h
    | .inr k, .inl i, _, hq, _, _ => have h : celOf (([] : List (Option Sv))[i]?) = some e := hq
                                     simp [celOf] at h
    | .inr k, .inr l, hp, hq, vp, vq => exact R.apart (.inr k) (.inr l) c e v hp co hq eo vp vq
def startF (n : Nat) (cs : List Cel) : Fr := ⟨(List.range cs.length).map (fun k => some (.ar k)) ++ List.replicate (n - cs.length) none, cs⟩
theorem startF_sl {n : Nat} {cs : List Cel} {i : Nat} {s : Sv} (h : (startF n cs).sl[i]? = some (some s)) : i < cs.length ∧ s = .ar i := by
  have h : ((List.range cs.length).map (fun k => some (Sv.ar k)) ++ List.replicate (n - cs.length) none)[i]? = some (some s) := h
  by_cases hi : i < cs.length
  · rw [List.getElem?_append_left (by simpa using hi)] at h
    simp [hi] at h
    exact ⟨hi, h.symm⟩
  · rw [List.getElem?_append_right (by simpa using hi), List.getElem?_replicate] at h
    split at h <;> cases h
theorem Rel.start {N : List Str} {cs : List Cel} (R : Rel K mg S P av ⟨[], cs⟩ [] H) (hn : cs.length ≤ N.length) : Rel K mg S P av (startF N.length cs) (L2.start N av) H := by
  have al : av.length = cs.length := R.alen
  have noc : ∀ i : Nat, celOf (startF N.length cs).sl[i]? = none := fun i => by
    cases q : celOf (startF N.length cs).sl[i]? with
    | none => rfl
    | some c => have := (startF_sl (celOf_some q)).2; cases this
  refine ⟨R.sH, R.pH, R.sp, R.alen, ?_, fun i s h => ?_, fun p c h => ?_, fun p q c e v hp co hq eo vp vq => ?_⟩
  · show ((List.range cs.length).map (fun k => some (Sv.ar k)) ++ List.replicate (N.length - cs.length) none).length = (av.map some ++ List.replicate (N.length - av.length) none).length
    simp; omega
  · obtain ⟨hi, rfl⟩ := startF_sl h
    have hv : av[i]? = some av[i] := List.getElem?_eq_getElem (by omega)
    have h0 : (L2.start N av)[i]? = some (some av[i]) := by
      unfold L2.start
      rw [List.getElem?_append_left (by simpa using (by omega : i < av.length)), List.getElem?_map, hv]; rfl
    exact ⟨av[i], h0, ⟨fun d hd => (by cases hd), fun k hk => (by cases hk; exact hv), fun c hc => (by cases hc)⟩⟩
  · match p, h with
    | .inl i, h => have h : celOf (startF N.length cs).sl[i]? = some c := h
                   rw [noc] at h; cases h
    | .inr k, h => exact R.cel (.inr k) c h
  · match p, q, hp, hq, vp, vq with
    | .inl i, _, hp, _, _, _ => have h : celOf (startF N.length cs).sl[i]? = some c := hp
                                rw [noc] at h; cases h
    | .inr k, .inl i, _, hq, _, _ => have h : celOf (startF N.length cs).sl[i]? = some e := hq
                                     rw [noc] at h; cases h
    | .inr k, .inr l, hp, hq, vp, vq => exact R.apart (.inr k) (.inr l) c e v hp co hq eo vp vq
/-- a result leaves the frame -/
def retS : Option (Option Sv) → (Ev → Prop) → Prop
  | some (some (.sh d)), k => k (.sh d)
  | some (some (.own c)), k => k (.tmp c)
  | some (some (.ar j)), k => k (.ar j)
  | _, _ => False
def retK (F : Fr) : Ev → (Ev → Prop) → Prop
  | .sl i, k => retS F.sl[i]? k
  | x, k => k x
theorem Rel.ret (R : Rel K mg S P av F σ H) {k : Ev → Prop} (h : EvOk K mg S P av F σ H v ev) (q : retK F ev k) : ∃ ev', k ev' ∧ EvOk K mg S P av ⟨[], F.ar⟩ [] H v ev' := by
  have fr : ∀ {a : Addr}, Free av F σ a → Free av ⟨[], F.ar⟩ [] a := fun {a} h p e hp eo vp => by
    match p, hp, vp with
    | .inl i, hp, _ => have h : celOf (([] : List (Option Sv))[i]?) = some e := hp
                       simp [celOf] at h
    | .inr k, hp, vp => exact h (.inr k) e hp eo vp
  cases ev with
  | sh d => exact ⟨_, q, h⟩
  | tmp c =>
    obtain ⟨a, rfl, ca, f⟩ := h
    exact ⟨_, q, a, rfl, ca, fr f⟩
  | ar j => exact ⟨_, q, h⟩
  | sl i =>
    have h' : σ[i]? = some (some v) := h
    have q : retS F.sl[i]? k := q
    match hs : F.sl[i]?, q with
    | some (some (.sh d)), q =>
      obtain ⟨w, h1, h2, _⟩ := R.slo i _ hs
      rw [h'] at h1; cases h1
      exact ⟨_, q, h2 d rfl⟩
    | some (some (.ar j)), q =>
      obtain ⟨w, h1, _, h3, _⟩ := R.slo i _ hs
      rw [h'] at h1; cases h1
      exact ⟨_, q, h3 j rfl⟩
    | some (some (.own c)), q =>
      obtain ⟨w, h1, _, _, h4⟩ := R.slo i _ hs
      have co := h4 c rfl
      have hc : F.at (.inl i) = some c := by show celOf F.sl[i]? = _; rw [hs]; rfl
      have hv : vAt σ av (.inl i) = some v := by show vOf σ[i]? = _; rw [h']; rfl
      obtain ⟨w, h1, h2⟩ := R.cel (.inl i) c hc
      rw [hv] at h1; cases h1
      obtain ⟨a, rfl, ca⟩ := h2.of_own co
      refine ⟨_, q, a, rfl, ca, fun p e hp eo vp => ?_⟩
      match p, hp, vp with
      | .inl i, hp, _ => have h : celOf (([] : List (Option Sv))[i]?) = some e := hp
                         simp [celOf] at h
      | .inr l, hp, vp =>
        have := R.apart (.inl i) (.inr l) c e _ hc co hp eo hv vp
        cases this

/-! ### what a call hands on -/
def celS : Option (Option Sv) → Option Cel
  | some (some (.own c)) => some c
  | some (some (.sh d)) => some (.gone d)
  | _ => none
def celEv (F : Fr) : Ev → Option Cel
  | .sh d => some (.gone d)
  | .tmp c => if c.own then some c else none
  | .sl i => celS F.sl[i]?
  | .ar k => F.ar[k]?
def plS (i : Nat) : Option (Option Sv) → Option Pl
  | some (some (.own _)) => some (.inl i)
  | _ => none
def plB (k : Nat) : Bool → Option Pl
  | true => some (.inr k)
  | false => none
def plA (k : Nat) : Option Cel → Option Pl
  | some c => plB k c.own
  | none => none
def plEv (F : Fr) : Ev → Option Pl
  | .sl i => plS i F.sl[i]?
  | .ar k => plA k F.ar[k]?
  | _ => none
theorem plA_some {k : Nat} {o : Option Cel} {p : Pl} (h : plA k o = some p) : p = .inr k := by
  cases o with
  | none => cases h
  | some c =>
    have h : plB k c.own = some p := h
    cases hc : c.own with
    | true => rw [hc] at h; cases h; rfl
    | false => rw [hc] at h; cases h
def isTmp : Ev → Bool
  | .tmp _ => true
  | _ => false
def cellsOf (F : Fr) : List Ev → Option (List Cel)
  | [] => some []
  | x :: xs => match celEv F x, cellsOf F xs with
    | some c, some cs => some (c :: cs)
    | _, _ => none
def backF (F : Fr) : List Ev → List Cel → Fr
  | x :: xs, c :: cs => match plEv F x with
    | some p => (backF F xs cs).put c p
    | none => backF F xs cs
  | _, _ => F
def goodPl (F : Fr) (xs : List Ev) : Prop := (xs.filterMap (plEv F)).Nodup ∧ xs.countP isTmp ≤ 1
def celRet : Option Cel → Ev
  | some (.gone d) => .sh d
  | some c => .tmp c
  | none => .sh .non
def evRet (c : Option Cel) : Option Ev → Ev
  | some (.tmp _) => celRet c
  | some x => x
  | none => .sh .non
def retE (xs : List Ev) (cs' : List Cel) : Ev → Ev
  | .ar k => evRet cs'[k]? xs[k]?
  | x => x
theorem cellsOf_get {F : Fr} : ∀ {xs : List Ev} {cs : List Cel}, cellsOf F xs = some cs → xs.length = cs.length ∧ ∀ (i : Nat) (x : Ev), xs[i]? = some x → ∃ c, cs[i]? = some c ∧ celEv F x = some c
  | [], cs, h => by
    cases h
    exact ⟨rfl, fun i x h => by simp at h⟩
  | x :: xs, cs, h => by
    unfold cellsOf at h
    match hx : celEv F x, hr : cellsOf F xs, h with
    | some c, some r, h =>
      simp only [hx, hr] at h
      cases h
      obtain ⟨l, g⟩ := cellsOf_get hr
      refine ⟨by simp [l], fun i y hy => ?_⟩
      match i, hy with
      | 0, hy => simp at hy; subst hy; exact ⟨c, rfl, hx⟩
      | i + 1, hy =>
        obtain ⟨c', h1, h2⟩ := g i y (by simpa using hy)
        exact ⟨c', by simpa using h1, h2⟩
    | some c, none, h => simp only [hx, hr] at h; cases h
    | none, _, h => simp only [hx] at h; cases h
theorem Fr.put_at {F : Fr} {c e : Cel} {p : Pl} (h : (F.put c p).at p = some e) : e = c := by
  match p, h with
  | .inl i, h =>
    have h : celOf (F.sl.set i (some c.sv))[i]? = some e := h
    by_cases hi : i < F.sl.length
    · rw [List.getElem?_set_self hi, celOf_sv] at h
      split at h
      · cases h; rfl
      · cases h
    · rw [List.getElem?_eq_none (by rw [List.length_set]; omega)] at h; cases h
  | .inr k, h =>
    have h : (F.ar.set k c)[k]? = some e := h
    by_cases hi : k < F.ar.length
    · rw [List.getElem?_set_self hi] at h; cases h; rfl
    · rw [List.getElem?_eq_none (by rw [List.length_set]; omega)] at h; cases h
theorem back_at {F : Fr} {p : Pl} {c : Cel} : ∀ {xs : List Ev} {cs : List Cel}, xs.length = cs.length → (backF F xs cs).at p = some c → (∃ (k : Nat) (x : Ev), xs[k]? = some x ∧ plEv F x = some p ∧ cs[k]? = some c) ∨ (F.at p = some c ∧ p ∉ xs.filterMap (plEv F))
  | [], cs, l, h => .inr ⟨by cases cs <;> exact h, by simp⟩
  | x :: xs, [], l, h => by simp at l
  | x :: xs, e :: cs, l, h => by
    have l' : xs.length = cs.length := by simpa using l
    unfold backF at h
    cases hx : plEv F x with
    | none =>
      rw [hx] at h
      rcases back_at l' h with ⟨k, y, h1, h2, h3⟩ | ⟨h1, h2⟩
      · exact .inl ⟨k + 1, y, by simpa using h1, h2, by simpa using h3⟩
      · exact .inr ⟨h1, by rw [List.filterMap_cons_none hx]; exact h2⟩
    | some q =>
      rw [hx] at h
      by_cases hq : p = q
      · subst hq
        have := Fr.put_at h
        subst this
        exact .inl ⟨0, x, rfl, hx, rfl⟩
      · rw [Fr.at_put_ne hq] at h
        rcases back_at l' h with ⟨k, y, h1, h2, h3⟩ | ⟨h1, h2⟩
        · exact .inl ⟨k + 1, y, by simpa using h1, h2, by simpa using h3⟩
        · exact .inr ⟨h1, by rw [List.filterMap_cons_some hx]; simp [hq, h2]⟩
theorem back_sl {F : Fr} {i : Nat} {s : Sv} : ∀ {xs : List Ev} {cs : List Cel}, xs.length = cs.length → (backF F xs cs).sl[i]? = some (some s) → (∃ (k : Nat) (x : Ev) (c : Cel), xs[k]? = some x ∧ plEv F x = some (.inl i) ∧ cs[k]? = some c ∧ s = c.sv) ∨ F.sl[i]? = some (some s)
  | [], cs, l, h => .inr (by cases cs <;> exact h)
  | x :: xs, [], l, h => by simp at l
  | x :: xs, e :: cs, l, h => by
    have l' : xs.length = cs.length := by simpa using l
    unfold backF at h
    have up : (backF F xs cs).sl[i]? = some (some s) → (∃ (k : Nat) (y : Ev) (c : Cel), (x :: xs)[k]? = some y ∧ plEv F y = some (.inl i) ∧ (e :: cs)[k]? = some c ∧ s = c.sv) ∨ F.sl[i]? = some (some s) := fun h => by
      rcases back_sl l' h with ⟨k, y, c, h1, h2, h3, h4⟩ | h1
      · exact .inl ⟨k + 1, y, c, by simpa using h1, h2, by simpa using h3, h4⟩
      · exact .inr h1
    cases hx : plEv F x with
    | none => rw [hx] at h; exact up h
    | some q =>
      rw [hx] at h
      match q, hx, h with
      | .inr k, hx, h => exact up h
      | .inl j, hx, h =>
        have h : ((backF F xs cs).sl.set j (some e.sv))[i]? = some (some s) := h
        by_cases hj : j = i
        · subst hj
          by_cases hi : j < (backF F xs cs).sl.length
          · rw [List.getElem?_set_self hi] at h; cases h
            exact .inl ⟨0, x, e, rfl, hx, rfl, rfl⟩
          · rw [List.getElem?_eq_none (by rw [List.length_set]; omega)] at h; cases h
        · rw [List.getElem?_set_ne hj] at h
          exact up h
theorem back_len {F : Fr} : ∀ {xs : List Ev} {cs : List Cel}, (backF F xs cs).sl.length = F.sl.length ∧ (backF F xs cs).ar.length = F.ar.length
  | [], _ => by unfold backF; exact ⟨rfl, rfl⟩
  | x :: xs, [] => by unfold backF; exact ⟨rfl, rfl⟩
  | x :: xs, e :: cs => by
    obtain ⟨h1, h2⟩ := back_len (F := F) (xs := xs) (cs := cs)
    unfold backF
    cases hx : plEv F x with
    | none => exact ⟨h1, h2⟩
    | some q =>
      match q with
      | .inl i => exact ⟨by show ((backF F xs cs).sl.set i _).length = _; rw [List.length_set]; exact h1, h2⟩
      | .inr k => exact ⟨h1, by show ((backF F xs cs).ar.set k _).length = _; rw [List.length_set]; exact h2⟩
theorem nodup_filterMap {α β : Type} {f : α → Option β} {b : β} : ∀ {xs : List α} {i j : Nat} {x y : α}, (xs.filterMap f).Nodup → xs[i]? = some x → xs[j]? = some y → f x = some b → f y = some b → i = j
  | [], _, _, _, _, _, h, _, _, _ => by simp at h
  | z :: xs, i, j, x, y, nd, hi, hj, hx, hy => by
    match i, j, hi, hj with
    | 0, 0, _, _ => rfl
    | 0, j + 1, hi, hj =>
      simp at hi; subst hi
      rw [List.filterMap_cons_some hx] at nd
      exact absurd (List.mem_filterMap.mpr ⟨y, List.mem_of_getElem? (by simpa using hj), hy⟩) (List.nodup_cons.mp nd).1
    | i + 1, 0, hi, hj =>
      simp at hj; subst hj
      rw [List.filterMap_cons_some hy] at nd
      exact absurd (List.mem_filterMap.mpr ⟨x, List.mem_of_getElem? (by simpa using hi), hx⟩) (List.nodup_cons.mp nd).1
    | i + 1, j + 1, hi, hj =>
      have nd' : (xs.filterMap f).Nodup := by
        cases hz : f z with
        | none => rwa [List.filterMap_cons_none hz] at nd
        | some q => rw [List.filterMap_cons_some hz] at nd; exact (List.nodup_cons.mp nd).2
      have hi' : xs[i]? = some x := by simpa using hi
      have hj' : xs[j]? = some y := by simpa using hj
      rw [nodup_filterMap nd' hi' hj' hx hy]
theorem one_count {α : Type} {f : α → Bool} : ∀ {xs : List α} {i j : Nat} {x y : α}, xs.countP f ≤ 1 → xs[i]? = some x → xs[j]? = some y → f x = true → f y = true → i = j
  | [], _, _, _, _, _, h, _, _, _ => by simp at h
  | z :: xs, i, j, x, y, nd, hi, hj, hx, hy => by
    have pos : ∀ {k : Nat} {u : α}, xs[k]? = some u → f u = true → 1 ≤ xs.countP f := fun {k u} h hu => List.countP_pos_iff.mpr ⟨u, List.mem_of_getElem? h, hu⟩
    match i, j, hi, hj with
    | 0, 0, _, _ => rfl
    | 0, j + 1, hi, hj =>
      simp at hi; subst hi
      rw [List.countP_cons_of_pos hx] at nd
      have := pos (by simpa using hj) hy
      omega
    | i + 1, 0, hi, hj =>
      simp at hj; subst hj
      rw [List.countP_cons_of_pos hy] at nd
      have := pos (by simpa using hi) hx
      omega
    | i + 1, j + 1, hi, hj =>
      have nd' : xs.countP f ≤ 1 := by
        rw [List.countP_cons] at nd; omega
      have hi' : xs[i]? = some x := by simpa using hi
      have hj' : xs[j]? = some y := by simpa using hj
      rw [one_count nd' hi' hj' hx hy]

/-- the arguments' values -/
def EvsO (K : PySem.W.Frag) (mg : Str → Option Value) (S P : Hp) (av : List V) (F : Fr) (σ : L2.St) (H : Hp) (vs : List V) (xs : List Ev) : Prop := xs.length = vs.length ∧ ∀ (i : Nat) (x : Ev), xs[i]? = some x → ∃ v, vs[i]? = some v ∧ EvOk K mg S P av F σ H v x

/-- what stands at an argument -/
theorem Rel.argCell (R : Rel K mg S P av F σ H) {x : Ev} {c : Cel} (h : EvOk K mg S P av F σ H v x) (hc : celEv F x = some c) :
    (c.own = false ∧ CelOk K mg S P H v c) ∨ (c.own = true ∧ ∃ a, v = .ref a ∧ CelAt K mg S P H a c ∧ ((∃ p, plEv F x = some p ∧ F.at p = some c ∧ vAt σ av p = some (.ref a)) ∨ (isTmp x = true ∧ Free av F σ a))) := by
  cases x with
  | sh d => cases hc; exact .inl ⟨rfl, h⟩
  | tmp e =>
    obtain ⟨a, rfl, ca, fr⟩ := h
    have co := ca.2.2.choose_spec.2.own
    have hc : (if e.own then some e else none) = some c := hc
    rw [if_pos co] at hc
    cases hc
    exact .inr ⟨co, a, rfl, ca, .inr ⟨rfl, fr⟩⟩
  | sl i =>
    have h' : σ[i]? = some (some v) := h
    have hc : celS F.sl[i]? = some c := hc
    match hs : F.sl[i]?, hc with
    | some (some (.sh d)), hc =>
      cases hc
      obtain ⟨w, h1, h2, _⟩ := R.slo i _ hs
      rw [h'] at h1; cases h1
      exact .inl ⟨rfl, h2 d rfl⟩
    | some (some (.own e)), hc =>
      obtain ⟨w, h1, _, _, h4⟩ := R.slo i _ hs
      have co := h4 _ rfl
      have hce : e = c := Option.some.inj hc
      subst hce
      have hc : F.at (.inl i) = some e := by show celOf F.sl[i]? = _; rw [hs]; rfl
      have hv : vAt σ av (.inl i) = some v := by show vOf σ[i]? = _; rw [h']; rfl
      obtain ⟨w, h1, h2⟩ := R.cel (.inl i) e hc
      rw [hv] at h1; cases h1
      obtain ⟨a, rfl, ca⟩ := h2.of_own co
      exact .inr ⟨co, a, rfl, ca, .inl ⟨.inl i, by show plS i F.sl[i]? = _; rw [hs]; rfl, hc, hv⟩⟩
  | ar k =>
    have h' : av[k]? = some v := h
    have hc : F.ar[k]? = some c := hc
    obtain ⟨w, h1, h2⟩ := R.cel (.inr k) c hc
    have h1' : av[k]? = some w := h1
    rw [h'] at h1'; cases h1'
    cases co : c.own with
    | false => exact .inl ⟨rfl, h2⟩
    | true =>
      obtain ⟨a, rfl, ca⟩ := h2.of_own co
      exact .inr ⟨rfl, a, rfl, ca, .inl ⟨.inr k, by show plA k F.ar[k]? = _; rw [hc]; show plB k c.own = _; rw [co]; rfl, hc, h'⟩⟩
theorem CelOk.protect {P' : Hp} {c : Cel} (h : CelOk K mg S P H v c) (f : ∀ a, c.own = true → v = .ref a → P' a = none) : CelOk K mg S P' H v c := by
  cases co : c.own with
  | true =>
    obtain ⟨a, rfl, s0, p0, o⟩ := h.of_own co
    exact CelOk.to_own ⟨s0, f a co rfl, o⟩
  | false =>
    cases c with
    | gone d => exact h
    | _ => cases co

/-- a call: what the callee starts with, and what is left behind it -/
theorem Rel.handOn (R : Rel K mg S P av F σ H) {vs : List V} {xs : List Ev} {cs : List Cel} (ho : EvsO K mg S P av F σ H vs xs) (hc : cellsOf F xs = some cs) (hg : goodPl F xs) :
    ∃ P' : Hp, Rel K mg S P' vs ⟨[], cs⟩ [] H ∧ ∀ (S' : Hp) (cs' : List Cel) (H' : Hp), Ex S S' → Rel K mg S' P' vs ⟨[], cs'⟩ [] H' →
      Rel K mg S' P av (backF F xs cs') σ H' ∧ ∀ (v : V) (ev : Ev), EvOk K mg S' P' vs ⟨[], cs'⟩ [] H' v ev → EvOk K mg S' P av (backF F xs cs') σ H' v (retE xs cs' ev) := by
  obtain ⟨lx, ho⟩ := ho
  obtain ⟨lc, gc⟩ := cellsOf_get hc
  classical
  -- passed addresses
  let A : Addr → Prop := fun a => ∃ (i : Nat) (c : Cel), cs[i]? = some c ∧ c.own = true ∧ vs[i]? = some (.ref a)
  let P' : Hp := fun a => if (∃ o, S a = some o) ∨ A a then none else H a
  have pS : ∀ a o, S a = some o → P' a = none := fun a o h => if_pos (.inl ⟨o, h⟩)
  have pA : ∀ a, A a → P' a = none := fun a h => if_pos (.inr h)
  have pH : ∀ a o, H a = some o → S a = none → ¬ A a → P' a = some o := fun a o h s na => by
    show (if (∃ o, S a = some o) ∨ A a then none else H a) = some o
    rw [if_neg (by rintro (⟨u, hu⟩ | hu); · rw [s] at hu; cases hu
                   · exact na hu)]
    exact h
  -- the arguments
  have arg : ∀ (i : Nat) (c : Cel), cs[i]? = some c → ∃ x v, xs[i]? = some x ∧ vs[i]? = some v ∧ celEv F x = some c ∧
      ((c.own = false ∧ CelOk K mg S P H v c) ∨ (c.own = true ∧ ∃ a, v = .ref a ∧ CelAt K mg S P H a c ∧ ((∃ p, plEv F x = some p ∧ F.at p = some c ∧ vAt σ av p = some (.ref a)) ∨ (isTmp x = true ∧ Free av F σ a)))) := fun i c h => by
    have hi : i < xs.length := by rw [lc]; exact (List.getElem?_eq_some_iff.mp h).1
    obtain ⟨c', h1, h2⟩ := gc i _ (List.getElem?_eq_getElem hi)
    rw [h] at h1; cases h1
    obtain ⟨v, h3, h4⟩ := ho i _ (List.getElem?_eq_getElem hi)
    exact ⟨_, v, List.getElem?_eq_getElem hi, h3, h2, R.argCell h4 h2⟩
  have Asp : ∀ a, A a → S a = none ∧ P a = none := fun a ⟨i, c, h1, h2, h3⟩ => by
    obtain ⟨x, v, _, hv, _, h⟩ := arg i c h1
    rw [h3] at hv; cases hv
    rcases h with ⟨co, _⟩ | ⟨_, b, hb, ca, _⟩
    · rw [h2] at co; cases co
    · cases hb; exact ⟨ca.1, ca.2.1⟩
  have pP : ∀ a o, P a = some o → P' a = some o := fun a o h => pH a o (R.pH a o h) (by
    cases q : S a with
    | none => rfl
    | some u => have := R.sp a u q; rw [h] at this; cases this) fun hA => by
      have := (Asp a hA).2; rw [h] at this; cases this
  -- a place whose thing is not handed on
  have other : ∀ (p : Pl) (c : Cel) (a : Addr), p ∉ xs.filterMap (plEv F) → F.at p = some c → c.own = true → vAt σ av p = some (.ref a) → ∃ o, P' a = some o ∧ H a = some o ∧ ObjIs K mg S o c := fun p c a np hp co hv => by
    obtain ⟨b, h1, s0, p0, o, h2, h3⟩ := R.ownAt hp co
    rw [hv] at h1; cases h1
    refine ⟨o, pH a o h2 s0 ?_, h2, h3⟩
    rintro ⟨i, c', e1, e2, e3⟩
    obtain ⟨x, v, hx, hv', _, h⟩ := arg i c' e1
    rw [e3] at hv'; cases hv'
    rcases h with ⟨co', _⟩ | ⟨_, b, hb, ca, ⟨q, hq, hqa, hqv⟩ | ⟨ht, fr⟩⟩
    · rw [e2] at co'; cases co'
    · cases hb
      have := R.apart p q c c' _ hp co hqa e2 hv hqv
      subst this
      exact np (List.mem_filterMap.mpr ⟨x, List.mem_of_getElem? hx, hq⟩)
    · cases hb
      exact fr p c hp co hv
  refine ⟨P', ⟨R.sH, fun a o h => ?_, pS, by rw [← lx, lc], rfl, fun i s h => by simp at h, fun p c h => ?_, fun p q c e v hp co hq eo vp vq => ?_⟩, fun S' cs' H' e R' => ?_⟩
  · have h : (if (∃ o, S a = some o) ∨ A a then none else H a) = some o := h
    split at h
    · cases h
    · exact h
  · match p, h with
    | .inl i, h => have h : celOf (([] : List (Option Sv))[i]?) = some c := h
                   simp [celOf] at h
    | .inr k, h =>
      have h : cs[k]? = some c := h
      obtain ⟨x, v, hx, hv, _, h'⟩ := arg k c h
      refine ⟨v, hv, ?_⟩
      have ok : CelOk K mg S P H v c := by
        rcases h' with ⟨_, ok⟩ | ⟨_, a, rfl, ca, _⟩
        · exact ok
        · exact CelOk.to_own ca
      exact ok.protect fun a co ev => pA a ⟨k, c, h, co, by rw [hv, ev]⟩
  · match p, q, hp, hq, vp, vq with
    | .inl i, _, hp, _, _, _ => have h : celOf (([] : List (Option Sv))[i]?) = some c := hp
                                simp [celOf] at h
    | .inr k, .inl i, _, hq, _, _ => have h : celOf (([] : List (Option Sv))[i]?) = some e := hq
                                     simp [celOf] at h
    | .inr k, .inr l, hp, hq, vp, vq =>
      have hp : cs[k]? = some c := hp
      have hq : cs[l]? = some e := hq
      have vp : vs[k]? = some v := vp
      have vq : vs[l]? = some v := vq
      obtain ⟨x, v1, hx, hv1, _, h1⟩ := arg k c hp
      obtain ⟨y, v2, hy, hv2, _, h2⟩ := arg l e hq
      rw [vp] at hv1; cases hv1
      rw [vq] at hv2; cases hv2
      rcases h1 with ⟨z, _⟩ | ⟨_, a, rfl, ca, h1⟩
      · rw [co] at z; cases z
      rcases h2 with ⟨z, _⟩ | ⟨_, b, hb, cb, h2⟩
      · rw [eo] at z; cases z
      cases hb
      have kl : k = l := by
        rcases h1 with ⟨p1, a1, a2, a3⟩ | ⟨t1, f1⟩
        · rcases h2 with ⟨p2, b1, b2, b3⟩ | ⟨t2, f2⟩
          · have := R.apart p1 p2 c e _ a2 co b2 eo a3 b3
            subst this
            exact nodup_filterMap hg.1 hx hy a1 b1
          · exact absurd a3 (f2 p1 c a2 co)
        · rcases h2 with ⟨p2, b1, b2, b3⟩ | ⟨t2, f2⟩
          · exact absurd b3 (f1 p2 e b2 eo)
          · exact one_count hg.2 hx hy t1 t2
      rw [kl]
  · have lc' : vs.length = cs'.length := R'.alen
    have lb : xs.length = cs'.length := lx.trans lc'
    have cel' : ∀ (k : Nat) (c : Cel), cs'[k]? = some c → ∃ v, vs[k]? = some v ∧ CelOk K mg S' P' H' v c := fun k c h => R'.cel (.inr k) c h
    -- the value at a place that was handed on
    have val : ∀ (k : Nat) (x : Ev) (p : Pl) (v : V), xs[k]? = some x → plEv F x = some p → vs[k]? = some v → vAt σ av p = some v := fun k x p v hx hp hv => by
      obtain ⟨w, h1, h2⟩ := ho k x hx
      rw [hv] at h1; cases h1
      cases x with
      | sh d => cases hp
      | tmp c => cases hp
      | ar j =>
        have := plA_some hp
        subst this
        exact h2
      | sl i =>
        have h2 : σ[i]? = some (some v) := h2
        have hp : plS i F.sl[i]? = some p := hp
        match F.sl[i]?, hp with
        | some (some (.own _)), hp => cases hp; show vOf σ[i]? = _; rw [h2]; rfl
    have noP : ∀ a, P' a = none → P a = none := fun a h => by
      cases q : P a with
      | none => rfl
      | some o => rw [pP a o q] at h; cases h
    have noS : ∀ a o, P' a = some o → S' a = none := fun a o h => by
      cases q : S' a with
      | none => rfl
      | some u => have := R'.sp a u q; rw [h] at this; cases this
    have RB : Rel K mg S' P av (backF F xs cs') σ H' := by
      refine ⟨R'.sH, fun a o h => R'.pH a o (pP a o h), fun a o h => noP a (R'.sp a o h), by rw [back_len.2]; exact R.alen, by rw [back_len.1]; exact R.slen, fun i s h => ?_, fun p c h => ?_, fun p q c e v hp co hq eo vp vq => ?_⟩
      · rcases back_sl lb h with ⟨k, x, c, h1, h2, h3, rfl⟩ | h
        · obtain ⟨v, hv, ok⟩ := cel' k c h3
          have va := val k x _ v h1 h2 hv
          refine ⟨v, vOf_some va, fun d hd => ?_, fun j hj => ?_, fun e he => ?_⟩
          · cases c with
            | gone d' => cases hd; exact ok
            | _ => cases hd
          · cases c <;> cases hj
          · cases c <;> cases he <;> rfl
        · obtain ⟨v, h1, h2, h3⟩ := R.slo i s h
          exact ⟨v, h1, fun d hd => Rep.mono e _ _ (h2 d hd), h3⟩
      · rcases back_at lb h with ⟨k, x, h1, h2, h3⟩ | ⟨h1, h2⟩
        · obtain ⟨v, hv, ok⟩ := cel' k c h3
          refine ⟨v, val k x p v h1 h2 hv, ok.protect fun a co ev => ?_⟩
          subst ev
          obtain ⟨b, hb, _, p0, _⟩ := ok.of_own co
          cases hb
          exact noP _ p0
        · obtain ⟨v, h3, h4⟩ := R.cel p c h1
          refine ⟨v, h3, ?_⟩
          cases co : c.own with
          | true =>
            obtain ⟨a, rfl, s0, p0, _⟩ := h4.of_own co
            obtain ⟨o, q1, q2, q3⟩ := other p c a h2 h1 co h3
            exact CelOk.to_own ⟨noS a o q1, p0, o, R'.pH a o q1, q3.mono e⟩
          | false =>
            cases c with
            | gone d => exact Rep.mono e _ _ h4
            | _ => cases co
      · rename_i e1
        have own' : ∀ (k : Nat) (c : Cel), cs'[k]? = some c → c.own = true → ∃ a, vs[k]? = some (.ref a) ∧ P' a = none := fun k c h co => by
          obtain ⟨v, hv, ok⟩ := cel' k c h
          obtain ⟨b, rfl, _, p0, _⟩ := ok.of_own co
          exact ⟨b, hv, p0⟩
        have one : ∀ (p : Pl) (c : Cel), (backF F xs cs').at p = some c → c.own = true → vAt σ av p = some v → (∃ (k : Nat) (x : Ev), xs[k]? = some x ∧ plEv F x = some p ∧ cs'[k]? = some c ∧ vs[k]? = some v ∧ ∃ a, v = .ref a ∧ P' a = none) ∨
            (F.at p = some c ∧ ∃ a o, v = .ref a ∧ P' a = some o) := fun p c hp co vp => by
          rcases back_at lb hp with ⟨k, x, h1, h2, h3⟩ | ⟨h1, h2⟩
          · obtain ⟨a, ha, p0⟩ := own' k c h3 co
            have := val k x p _ h1 h2 ha
            rw [vp] at this; cases this
            exact .inl ⟨k, x, h1, h2, h3, ha, a, rfl, p0⟩
          · obtain ⟨a, ha, _⟩ := R.ownAt h1 co
            rw [vp] at ha; cases ha
            obtain ⟨o, q1, _⟩ := other p c a h2 h1 co vp
            exact .inr ⟨h1, a, o, rfl, q1⟩
        rcases one p c hp co vp with ⟨k, x, h1, h2, h3, h4, a, rfl, p0⟩ | ⟨h1, a, o, rfl, p0⟩
        · rcases one q _ hq eo vq with ⟨l, y, g1, g2, g3, g4, b, hb, p1⟩ | ⟨g1, b, o, hb, p1⟩
          · have := R'.apart (.inr k) (.inr l) c _ _ h3 co g3 eo h4 g4
            cases this
            rw [h1] at g1; cases g1
            rw [h2] at g2; cases g2
            rfl
          · cases hb; rw [p0] at p1; cases p1
        · rcases one q _ hq eo vq with ⟨l, y, g1, g2, g3, g4, b, hb, p1⟩ | ⟨g1, b, o, hb, p1⟩
          · cases hb; rw [p0] at p1; cases p1
          · exact R.apart p q c _ _ h1 co g1 eo vp vq
    refine ⟨RB, fun v ev h => ?_⟩
    -- a new thing is no thing of the caller
    have free : ∀ (a : Addr), P' a = none → (∀ (k : Nat) (x : Ev) (p : Pl) (c : Cel), xs[k]? = some x → plEv F x = some p → cs'[k]? = some c → c.own = true → vs[k]? ≠ some (.ref a)) → Free av (backF F xs cs') σ a := fun a p0 nk p c hp co vp => by
      rcases back_at lb hp with ⟨k, x, h1, h2, h3⟩ | ⟨h1, h2⟩
      · obtain ⟨w, hw, ok⟩ := cel' k c h3
        have := val k x p _ h1 h2 hw
        rw [vp] at this; cases this
        exact nk k x p c h1 h2 h3 co hw
      · obtain ⟨o, q1, _⟩ := other p c a h2 h1 co vp
        rw [p0] at q1; cases q1
    cases ev with
    | sh d => exact h
    | tmp c =>
      obtain ⟨a, rfl, ⟨s0, p0, o⟩, fr⟩ := h
      exact ⟨a, rfl, ⟨s0, noP a p0, o⟩, free a p0 fun k x p c' _ _ h3 co hv => fr (.inr k) c' h3 co hv⟩
    | sl i =>
      have h : ([] : L2.St)[i]? = some (some v) := h
      simp at h
    | ar k =>
      have h : vs[k]? = some v := h
      have hk : k < xs.length := by rw [lx]; exact (List.getElem?_eq_some_iff.mp h).1
      have hx : xs[k]? = some xs[k] := List.getElem?_eq_getElem hk
      obtain ⟨w, hw, ok⟩ := ho k _ hx
      rw [h] at hw; cases hw
      show EvOk K mg S' P av (backF F xs cs') σ H' v (evRet cs'[k]? xs[k]?)
      rw [hx]
      cases hy : xs[k] with
      | sh d => rw [hy] at ok; exact Rep.mono e _ _ ok
      | sl i => rw [hy] at ok; exact ok
      | ar j => rw [hy] at ok; exact ok
      | tmp c =>
        have hk' : k < cs'.length := by omega
        show EvOk K mg S' P av (backF F xs cs') σ H' v (celRet cs'[k]?)
        rw [List.getElem?_eq_getElem hk']
        obtain ⟨w, hw, ok'⟩ := cel' k _ (List.getElem?_eq_getElem hk')
        rw [h] at hw; cases hw
        have tmpc : ∀ {c' : Cel}, cs'[k] = c' → c'.own = true → EvOk K mg S' P av (backF F xs cs') σ H' v (.tmp c') := fun {c'} hc co => by
          rw [hc] at ok'
          obtain ⟨a, rfl, s0, p0, o⟩ := ok'.of_own co
          refine ⟨a, rfl, ⟨s0, noP a p0, o⟩, free a p0 fun l x p c2 g1 g2 g3 co2 hv => ?_⟩
          have := R'.apart (.inr k) (.inr l) c' c2 (.ref a) (by show cs'[k]? = _; rw [List.getElem?_eq_getElem hk', hc]) co g3 co2 h hv
          cases this
          rw [hx] at g1; cases g1
          rw [hy] at g2; cases g2
        cases hc : cs'[k] with
        | gone d => rw [hc] at ok'; exact ok'
        | lst ds => exact tmpc hc rfl
        | dct ks ds => exact tmpc hc rfl
        | ins c ns ds => exact tmpc hc rfl
end
end HD
set_option Elab.async false
set_option linter.all false
set_option maxRecDepth 100000
set_option maxHeartbeats 4000000
/-! HD, part 14: defs keep their promises; calls, methods, new instances. -/
namespace HD
open PySem PySem.Spec PyProof.Rows L2

def txF (P : Program) (w : World) (K : PySem.W.Frag) (mg : Str → Option Value) (base : Heap) (N : List Str) (sc : Scope) (k : Nat) : Tx := { P := P, w := w, K := K, mg := mg, base := base, N := N, sc := sc, lv := k, raw := sc }
theorem fn_all {X : Cx} (hf : X.fn = fun _ => true) (x : Str) (h : locC X.env.scope x = true) : Loc X.env.scope x ∧ (X.fn x = true ∨ X.env.scope.names.lookup x = some .local) := by
  rw [hf]
  unfold locC at h
  split at h
  · rename_i z; exact ⟨.inl z, .inr z⟩
  · rename_i z; exact ⟨.inr z, .inl rfl⟩
  · cases h
def bodyE (QD : Ev → List Cel → Prop) (ED : EXc) : DE where
  nx := fun F => QD (.sh .non) F.ar
  rt := fun ev F => retK F ev fun ev' => QD ev' F.ar
  bk := fun _ => False
  ct := fun _ => False
  ex := fun x F => ED x F.ar
section
variable {P : Program} {w : World} {K : PySem.W.Frag} {mg : Str → Option Value} {base : Heap} {x qual : Str} {params : Arguments} {body : List Stmt} {scope : Scope} {dvs : List V} {kws : List (Str × V)} {f : Addr} {fd : FuncData} {N ps : List Str} {k : Nat} {sp sp' : DSp} {m : MS}
/-- THE RULE for a def -/
theorem fnD_of (F : FunD K x qual params body scope dvs kws f fd) (S : FnScope N ps scope) (hb : SSs (txF P w K mg base N scope k) body m)
    (h : ∀ cs Q E, cs.length = ps.length → sp cs Q E → m (bodyE Q E) (startF N.length cs)) : FnD P w K mg base (k + 1) f fd ps sp := by
  refine F.ok S (fun vs H Q E h => h.1) fun cdv A outer s H vs Q E hr ⟨hl, S0, P0, cs, QD, ED, R, q, kq, ke⟩ => ⟨_, pss_tWB, ?_⟩
  have hpl : ps.length ≤ N.length := by have := congrArg List.length S.pre; rw [List.length_take] at this; omega
  have lc : cs.length = ps.length := by have : vs.length = cs.length := R.alen; omega
  have fx : FitS (txF P w K mg base N scope k) (cxOf (L2.CX P w) P w K mg base N qual scope f cdv A outer s H E) :=
    ⟨⟨rfl, rfl, rfl, rfl, rfl, rfl, rfl, hr.un, fun _ => ⟨hr, rfl⟩, fun a c d z => (by cases z), S.nd, fn_all (X := cxOf (L2.CX P w) P w K mg base N qual scope f cdv A outer s H E) rfl⟩, passes_of rfl, rfl, rfl⟩
  have R0 : Rel K mg S0 P0 vs (startF N.length cs) (L2.start N vs) H := R.start (by omega)
  have tk : Takes (cxOf (L2.CX P w) P w K mg base N qual scope f cdv A outer s H E) (UpX (cxOf (L2.CX P w) P w K mg base N qual scope f cdv A outer s H E) S0 P0 vs (bodyE QD ED).ex) :=
    (takes_of (E := E) (X := cxOf (L2.CX P w) P w K mg base N qual scope f cdv A outer s H E) rfl rfl rfl rfl).imp fun cls d σ H' ⟨S', F', x, q', e', R', xo⟩ => ke x cls d H' S' F'.ar q' e' R'.bare xo
  refine tWB_le (hb _ fx S0 P0 vs _ _ H (bodyE QD ED) R0 (h cs QD ED lc q) tk) ⟨fun σ' H' ⟨S', F', q', e', R'⟩ => ?_, fun v H' ⟨S', F', σ', ev, q', e', R', k'⟩ => ?_, fun σ' H' ⟨S', F', q', e', R'⟩ => q', fun σ' H' ⟨S', F', q', e', R'⟩ => q'⟩
  · exact kq .non H' S' (.sh .non) F'.ar q' e' R'.bare (by show Rep _ _ _ _ _; unfold Rep; rfl)
  · obtain ⟨ev', q2, k2⟩ := R'.ret k' q'
    exact kq v H' S' ev' F'.ar q2 e' R'.bare k2
theorem FnD.mono {j : Nat} (F : FnD P w K mg base j f fd ps sp) (h : j ≤ k) : FnD P w K mg base k f fd ps sp := FnOk.mono F h
theorem FnD.imp (F : FnD P w K mg base k f fd ps sp) (h : ∀ cs Q E, sp' cs Q E → sp cs Q E) : FnD P w K mg base k f fd ps sp' :=
  FnOk.imp F fun vs H Q E ⟨hl, S0, P0, cs, QD, ED, R, q, kq, ke⟩ => ⟨hl, S0, P0, cs, QD, ED, R, h _ _ _ q, kq, ke⟩
end

/-! ### how arguments bind -/
inductive Arg where
  | p (i : Nat) | k (j : Nat) | d (v : V) (dd : D)
def argV (vs zs : List V) : Arg → V
  | .p i => vs.getD i .non
  | .k j => zs.getD j .non
  | .d v _ => v
def argE (xs zs : List Ev) : Arg → Ev
  | .p i => xs.getD i (.sh .non)
  | .k j => zs.getD j (.sh .non)
  | .d _ dd => .sh dd
structure BnD (K : PySem.W.Frag) (fd : FuncData) (ps : List Str) (n : Nat) (ks : List Str) (arr : List Arg) : Prop where
  ex : ∃ g gV, KBn K fd ps n ks g gV ∧ ∀ vs zs, vs.length = n → zs.length = ks.length → gV vs zs = arr.map (argV vs zs)
  ok : ∀ a ∈ arr, match a with
    | .p i => i < n
    | .k j => j < ks.length
    | .d v dd => ∀ K mg S, Rep K mg S dd v

def callK (F : Fr) (xs : List Ev) (sp : DSp) (Q : Ev → Fr → Prop) (E : EX) : Prop :=
  ∃ cs, cellsOf F xs = some cs ∧ goodPl F xs ∧ sp cs (fun ev cs' => Q (retE xs cs' ev) (backF F xs cs')) fun x cs' => E x (backF F xs cs')
section
variable {X : Cx} {S P H : Hp} {av : List V} {F : Fr} {σ : L2.St} {vs zs : List V} {xs ys : List Ev} {sp : DSp} {E : EX}
theorem EvsOk.evsO : ∀ {vs : List V} {xs : List Ev}, EvsOk X.K X.mg S P av F σ H vs xs → EvsO X.K X.mg S P av F σ H vs (xs.map hold)
  | [], [], _ => ⟨rfl, fun i x h => by simp at h⟩
  | v :: vs, x :: xs, h => by
    obtain ⟨l, g⟩ := EvsOk.evsO h.2
    refine ⟨by simpa using l, fun i y hy => ?_⟩
    match i, hy with
    | 0, hy => simp at hy; subst hy; exact ⟨v, rfl, h.1⟩
    | i + 1, hy =>
      obtain ⟨w, h1, h2⟩ := g i y (by simpa using hy)
      exact ⟨w, by simpa using h1, h2⟩
theorem EvsO.arr {fd : FuncData} {ps ks : List Str} {n : Nat} {arr : List Arg} (B : BnD X.K fd ps n ks arr) (hx : EvsO X.K X.mg S P av F σ H vs xs) (hz : EvsO X.K X.mg S P av F σ H zs ys) (l1 : vs.length = n) (l2 : zs.length = ks.length) :
    EvsO X.K X.mg S P av F σ H (arr.map (argV vs zs)) (arr.map (argE xs ys)) := by
  refine ⟨by simp, fun i x h => ?_⟩
  rw [List.getElem?_map] at h ⊢
  cases ha : arr[i]? with
  | none => rw [ha] at h; cases h
  | some a =>
    rw [ha] at h
    have h : argE xs ys a = x := Option.some.inj h
    subst h
    refine ⟨argV vs zs a, rfl, ?_⟩
    have ok := B.ok a (List.mem_of_getElem? ha)
    cases a with
    | p j =>
      have hj : j < xs.length := by rw [hx.1, l1]; exact ok
      obtain ⟨v, h1, h2⟩ := hx.2 j _ (List.getElem?_eq_getElem hj)
      have e1 : argE xs ys (.p j) = xs[j] := by simp [argE, List.getD, hj]
      have e2 : argV vs zs (.p j) = v := by simp [argV, List.getD, h1]
      rw [e1, e2]; exact h2
    | k j =>
      have hj : j < ys.length := by rw [hz.1, l2]; exact ok
      obtain ⟨v, h1, h2⟩ := hz.2 j _ (List.getElem?_eq_getElem hj)
      have e1 : argE xs ys (.k j) = ys[j] := by simp [argE, List.getD, hj]
      have e2 : argV vs zs (.k j) = v := by simp [argV, List.getD, h1]
      rw [e1, e2]; exact h2
    | d v dd => exact ok _ _ _
theorem lift_of {Q : Ev → Fr → Prop} (R : Rel X.K X.mg S P av F σ H) (ho : EvsO X.K X.mg S P av F σ H vs xs) (q : callK F xs sp Q E) : Lift X.K X.mg vs.length sp vs H (UpE X S P av σ Q) (WE (UpX X S P av E) σ) := by
  obtain ⟨cs, h1, h2, h3⟩ := q
  obtain ⟨P', R', k⟩ := R.handOn ho h1 h2
  refine ⟨rfl, S, P', cs, _, _, R', h3, fun v H' S' ev cs' q e R2 kv => ?_, fun x cls d H' S' cs' q e R2 xo => ?_⟩
  · obtain ⟨R3, k3⟩ := k S' cs' H' e R2
    exact ⟨S', _, _, q, e, R3, k3 v ev kv⟩
  · obtain ⟨R3, k3⟩ := k S' cs' H' e R2
    exact ⟨S', _, x, q, e, R3, xo⟩
/-- the callee runs -/
theorem run_fnD {k n : Nat} {f : Addr} {fd : FuncData} {ps ks : List Str} {arr : List Arg} {pins : List (Addr × Obj)} {s : Shared} {us ws : List Value} {Q : VK} {W : WX} (Fn : FnD X.prog X.w X.K X.mg X.base k f fd ps sp) (hr : Room k X.A) (B : BnD X.K fd ps n ks arr) (tk : Takes X W)
    (I : Inv X pins σ H s) (r : Vals vs us) (rz : Vals zs ws) (l1 : vs.length = n) (l2 : zs.length = ks.length) (h : Lift X.K X.mg ps.length sp (arr.map (argV vs zs)) H Q (WE W σ)) : wpAny (model X.prog X.w) X.A (call (.ref f) us (ks.zip ws)) (EP X pins σ Q) X.xe s := by
  obtain ⟨g, gV, hb, hg⟩ := B.ex
  have r2 := hb.rel r rz
  rw [← hg vs zs l1 l2] at h
  refine wpAny_call (codeAny_mono (Fn.run X.A X.stack s H ⟨us, ks.zip ws⟩ (g us ws) (gV vs zs) Q (WE W σ) hr I.env0 (hb.to s us ws I.kIn (r.length.symm.trans l1) (rz.length.symm.trans l2)) r2 h) fun r s' hq => ?_)
  cases r with
  | error e => exact passAt tk σ pins H s e s' I hq
  | ok fl =>
    cases fl with
    | ret u => exact I.after hq
    | next => exact False.elim hq
    | brk => exact False.elim hq
    | cont => exact False.elim hq
theorem run_makeD {k n : Nat} {f C : Addr} {fd : FuncData} {ps ks : List Str} {arr : List Arg} {pins : List (Addr × Obj)} {s : Shared} {us ws : List Value} {Q : VK} {W : WX} (M : Mk X.K C f) (Fn : FnD X.prog X.w X.K X.mg X.base k f fd ps sp) (hr : Room (k + 1) X.A) (B : BnD X.K fd ps (n + 1) ks arr)
    (tk : Takes X W) (I : Inv X pins σ H s) (r : Vals vs us) (rz : Vals zs ws) (l1 : vs.length = n) (l2 : zs.length = ks.length)
    (h : ∀ x dx, H x = none → H dx = none → dx ≠ x → Lift X.K X.mg ps.length sp (arr.map (argV (.ref x :: vs) zs)) (upd (upd H dx (.own x)) x (.ins C dx [])) (fun v H2 => v = .non ∧ Q (.ref x) H2) (WE W σ)) :
    wpAny (model X.prog X.w) X.A (call (.ref C) us (ks.zip ws)) (EP X pins σ Q) X.xe s := by
  obtain ⟨g, gV, hb, hg⟩ := B.ex
  have hq := h (s.heap.objs.size + 1) s.heap.objs.size (I.hok.fresh (Nat.le_succ _)) (I.hok.fresh (Nat.le_refl _)) (Nat.ne_of_lt (Nat.lt_succ_self _))
  have I2 := Inv.made (C := C) I
  have r1 : Vals (V.ref (s.heap.objs.size + 1) :: vs) (Value.ref (s.heap.objs.size + 1) :: us) := .cons rfl r
  have r2 := hb.rel r1 rz
  have n1 : (Value.ref (s.heap.objs.size + 1) :: us).length = n + 1 := by
    rw [List.length_cons, ← r.length, l1]
  rw [← hg (V.ref (s.heap.objs.size + 1) :: vs) zs (by simp [l1]) l2] at hq
  refine wpAny_call (make_map (f := f) I.kIn M.makes M.init (beq_iff_eq.mp M.fn) (codeAny_mono (Fn.run _ X.stack _ _ ⟨Value.ref (s.heap.objs.size + 1) :: us, ks.zip ws⟩ (g (Value.ref (s.heap.objs.size + 1) :: us) ws) _ _ (WE W σ) (hr.make C us (ks.zip ws))
    (I2.env0.make C us (ks.zip ws)) (hb.to _ (Value.ref (s.heap.objs.size + 1) :: us) ws I2.kIn n1 (rz.length.symm.trans l2)) r2 hq) fun r s' hq' => ?_))
  cases r with
  | error e => exact passAt tk σ pins _ _ e s' I2 hq'
  | ok fl =>
    cases fl with
    | ret u =>
      obtain ⟨v, H', I3, rv, ev, q3⟩ := I2.after hq'
      subst ev
      exact ⟨rv, ⟨V.ref (s.heap.objs.size + 1), H', I3, rfl, q3⟩⟩
    | next => exact False.elim hq'
    | brk => exact False.elim hq'
    | cont => exact False.elim hq'
end

/-! ### keywords -/
def tWK (X : Cx) (kws : List Keyword) : TA := fun σ H Q => ∀ (pos : Pos) (pins : List (Addr × Obj)) (s : Shared), Inv X pins σ H s → wpAny (model X.prog X.w) X.A (evalAll ((backToKw pos (keywordEach kws X.env)).map (·.2))) (AP X pins σ Q) X.xe s
theorem pk_tWK {X : Cx} {kws : List Keyword} : PK X kws (tWK X kws) := ⟨fun pos pins s σ H Q I h => h pos pins s I⟩
theorem tWK_of {X : Cx} {kws : List Keyword} {t : TA} (h : PK X kws t) {σ : L2.St} {H : Hp} {Q : List V → Hp → Prop} (q : t σ H Q) : tWK X kws σ H Q := fun pos pins s I => h.run pos pins s σ H Q I q
theorem tWK_mono {X : Cx} {kws : List Keyword} {σ : L2.St} {H : Hp} {Q Q' : List V → Hp → Prop} (h : tWK X kws σ H Q) (m : ∀ v H', Q v H' → Q' v H') : tWK X kws σ H Q' := fun pos pins s I =>
  thn (h pos pins s I) fun v s' ⟨x, H', I', r, q⟩ => ⟨x, H', I', r, m x H' q⟩
def SK (T : Tx) (kws : List Keyword) (m : MA) : Prop := ∀ (X : Cx), Fits T X → ∀ (S P : Hp) (av : List V) (F : Fr) (σ : L2.St) (H : Hp) (Q : List Ev → Fr → Prop) (E : EX),
  Rel X.K X.mg S P av F σ H → m F Q E → Takes X (UpX X S P av E) → tWK X kws σ H (UpA X S P av σ Q)
section
variable {T : Tx} {pos p kpos apos : Pos} {a b e o : Expr} {es : List Expr} {kws : List Keyword} {ma mb m mo : ME} {ms mk : MA} {nm : Option Str} {x : Str} {k n : Nat} {f C : Addr} {fd : FuncData} {ps ks : List Str} {arr : List Arg} {sp : DSp}
theorem sk_nil : SK T [] mNil := fun X fx S P av F σ H Q E R q tk => tWK_of pk_nil ⟨S, F, [], q, Ex.refl S, R, trivial⟩
theorem sk_cons (ha : SE T e ma) (hr : SK T kws mk) : SK T (⟨nm, e, kpos⟩ :: kws) (mCons ma mk) := fun X fx S P av F σ H Q E R q tk => by
  refine tWK_of (pk_cons pe_tW pk_tWK) (tW_mono (ha X fx S P av F σ H _ E R q tk) fun x H1 ⟨S1, F1, ev1, q1, e1, R1, k1⟩ => ?_)
  obtain ⟨S1', e1', R1', k1'⟩ := R1.hold k1
  refine tWK_mono (hr X fx S1' P av F1 σ H1 _ E R1' q1 (takes_mono (e1.trans e1') tk)) fun xs H2 ⟨S2, F2, evs, q2, e2, R2, k2⟩ => ?_
  exact ⟨S2, F2, hold ev1 :: evs, q2, (e1.trans e1').trans e2, R2, by rw [hold_hold]; exact EvOk.held e2 k1', k2⟩

/-! ### calls of defs -/
def mCall (arr : List Arg) (n m : Nat) (sp : DSp) (ma mk : MA) : ME := fun F Q E => ma F (fun xs F1 => mk F1 (fun zs F2 => xs.length = n ∧ zs.length = m ∧ callK F2 (arr.map (argE (xs.map hold) (zs.map hold))) sp Q E) E) E
theorem Lift.post {K : PySem.W.Frag} {mg : Str → Option Value} {n : Nat} {vs : List V} {H : Hp} {Q Q' : VK} {E E' : XK} (h : Lift K mg n sp vs H Q E) (m : ∀ v H', Q v H' → Q' v H') (m' : ∀ c d H', E c d H' → E' c d H') : Lift K mg n sp vs H Q' E' := by
  obtain ⟨hl, S0, P0, cs, QD, ED, R, q, kq, ke⟩ := h
  exact ⟨hl, S0, P0, cs, QD, ED, R, q, fun v H' S' ev cs' a b c d => m _ _ (kq v H' S' ev cs' a b c d), fun x cls d H' S' cs' a b c e => m' _ _ _ (ke x cls d H' S' cs' a b c e)⟩
theorem EvsOk.len {K : PySem.W.Frag} {mg : Str → Option Value} {S P H : Hp} {av : List V} {F : Fr} {σ : L2.St} : ∀ {vs : List V} {xs : List Ev}, EvsOk K mg S P av F σ H vs xs → vs.length = xs.length
  | [], [], _ => rfl
  | v :: vs, x :: xs, h => by simp [EvsOk.len h.2]
/-- both argument lists, then the callee -/
theorem call_args {X : Cx} (fx : Fits T X) {S P : Hp} {av : List V} {F : Fr} {σ : L2.St} {H : Hp} {Q : Ev → Fr → Prop} {E : EX} {m : Nat} (hps : arr.length = ps.length) (B : BnD X.K fd ps n ks arr) (ha : SA T es ms) (hkw : SK T kws mk) (R : Rel X.K X.mg S P av F σ H) (q : mCall arr n ks.length sp ms mk F Q E) (tk : Takes X (UpX X S P av E)) :
    tWA X es σ H fun vs H1 => tWK X kws σ H1 fun zs H2 => vs.length = n ∧ zs.length = ks.length ∧ Lift X.K X.mg ps.length sp (arr.map (argV vs zs)) H2 (UpE X S P av σ Q) (WE (UpX X S P av E) σ) := by
  refine tWA_mono (ha X fx S P av F σ H _ E R q tk) fun vs H1 ⟨S1, F1, xs, q1, e1, R1, k1⟩ => ?_
  refine tWK_mono (hkw X fx S1 P av F1 σ H1 _ E R1 q1 (takes_mono e1 tk)) fun zs H2 ⟨S2, F2, ys, ⟨l1, l2, q2⟩, e2, R2, k2⟩ => ?_
  have k1' := (EvsOk.held (S' := S2) (H' := H2) (F' := F2) e2 k1)
  have l1' : vs.length = n := k1.len.trans l1
  have l2' : zs.length = ks.length := k2.len.trans l2
  refine ⟨l1', l2', ?_⟩
  have lf := lift_of R2 (EvsO.arr B k1'.evsO k2.evsO l1' l2') q2
  rw [List.length_map, hps] at lf
  exact lf.post (fun v H' u => u.mono (e1.trans e2)) fun c d H' u => UpX.mono (e1.trans e2) (fun _ _ h => h) u
theorem se_call (Fn : FnD T.P T.w T.K T.mg T.base k f fd ps sp) (B : BnD T.K fd ps n ks arr) (hk : PySem.W.keepIn T.K (.ref f) = true) (hm : T.mg x = some (.ref f)) (ha : SA T (e :: es) ms) (hkw : SK T kws mk) (hg : glC T.sc x = true := by decide +kernel) (hps : arr.length = ps.length := by rfl) (hl : k ≤ T.lv := by decide) (hh : T.hot = false := by rfl)
    (hall : ∀ env, (backToKw pos (keywordEach kws env)).all (·.1.isSome) = true := by intros; rfl) (hks : ∀ env, (backToKw pos (keywordEach kws env)).filterMap (·.1) = ks := by intros; rfl)
    (hdb : (x == ("__debug__" : Str)) = false := by decide +kernel) (he : ∀ env, starEach (e :: es) env = (false, eval e env) :: starEach es env := by intros; rfl)
    (hpl : ∀ env, ((backTo pos (starEach (e :: es) env)).any (·.1) || (backToKw pos (keywordEach kws env)).any (·.1.isNone)) = false := by intros; rfl) :
    SE T (.Call (.Name x p) (e :: es) kws pos) (mCall arr n ks.length sp ms mk) := fun X fx S P av F σ H Q E R q tk pins s I => by
  rw [← fx.prog, ← fx.w, ← fx.K, ← fx.mg, ← fx.base] at Fn
  rw [← fx.K] at B hk
  rw [← fx.mg] at hm
  refine wpAny_Call_Name_kw (ld_glob I (gl_of fx hg) hm ?_ hdb)
  refine PySem.W.callWith_KW (h₀ := X.base) I.ok.mod.kin hk (hall X.env) (thn (call_args fx (m := ks.length) hps B ha hkw R q tk pos pins s I) fun us s1 ⟨vs, H1, I1, r, q1⟩ => ?_) (hpl X.env) (he X.env)
  refine thn (q1 pos pins s1 I1) fun ws s2 ⟨zs, H2, I2, rz, l1, l2, lf⟩ => ⟨I2.kIn, ?_⟩
  rw [hks X.env]
  exact run_fnD Fn ((fx.room hh).mono hl) B tk I2 r rz l1 l2 lf
theorem se_call0 (Fn : FnD T.P T.w T.K T.mg T.base k f fd ps sp) (B : BnD T.K fd ps 0 ks arr) (hk : PySem.W.keepIn T.K (.ref f) = true) (hm : T.mg x = some (.ref f)) (hkw : SK T kws mk) (hg : glC T.sc x = true := by decide +kernel) (hps : arr.length = ps.length := by rfl) (hl : k ≤ T.lv := by decide) (hh : T.hot = false := by rfl)
    (hall : ∀ env, (backToKw pos (keywordEach kws env)).all (·.1.isSome) = true := by intros; rfl) (hks : ∀ env, (backToKw pos (keywordEach kws env)).filterMap (·.1) = ks := by intros; rfl)
    (hdb : (x == ("__debug__" : Str)) = false := by decide +kernel)
    (hpl : ∀ env, ((backTo pos (starEach [] env)).any (·.1) || (backToKw pos (keywordEach kws env)).any (·.1.isNone)) = false := by intros; rfl) :
    SE T (.Call (.Name x p) [] kws pos) (mCall arr 0 ks.length sp mNil mk) := fun X fx S P av F σ H Q E R q tk pins s I => by
  rw [← fx.prog, ← fx.w, ← fx.K, ← fx.mg, ← fx.base] at Fn
  rw [← fx.K] at B hk
  rw [← fx.mg] at hm
  refine wpAny_Call_Name_kw (ld_glob I (gl_of fx hg) hm ?_ hdb)
  refine PySem.W.callWith_KW0 (h₀ := X.base) I.ok.mod.kin hk (hall X.env) ?_ (hpl X.env)
  have h0 : tWK X kws σ H fun zs H2 => zs.length = ks.length ∧ Lift X.K X.mg ps.length sp (arr.map (argV [] zs)) H2 (UpE X S P av σ Q) (WE (UpX X S P av E) σ) := by
    refine tWK_mono (hkw X fx S P av F σ H _ E R q tk) fun zs H2 ⟨S2, F2, ys, ⟨l1, l2, q2⟩, e2, R2, k2⟩ => ?_
    have l2' : zs.length = ks.length := k2.len.trans l2
    refine ⟨l2', ?_⟩
    have lf := lift_of R2 (EvsO.arr B (vs := []) (xs := []) ⟨rfl, fun i x h => by simp at h⟩ k2.evsO rfl l2') q2
    rw [List.length_map, hps] at lf
    exact lf.post (fun v H' u => u.mono e2) fun c d H' u => UpX.mono e2 (fun _ _ h => h) u
  refine thn (h0 pos pins s I) fun ws s2 ⟨zs, H2, I2, rz, l2, lf⟩ => ⟨I2.kIn, ?_⟩
  rw [hks X.env]
  exact run_fnD (us := []) (vs := []) Fn ((fx.room hh).mono hl) B tk I2 .nil rz rfl l2 lf
end
end HD
set_option Elab.async false
set_option linter.all false
set_option maxRecDepth 100000
set_option maxHeartbeats 4000000
/-! HD, part 15: list comprehensions. -/
namespace HD
open PySem PySem.Spec PyProof.Rows L2

def wipeF (F : Fr) : List Nat → Fr
  | [] => F
  | v :: vs => (wipeF F vs).set v none
def restF (F G : Fr) : List Nat → Fr
  | [] => G
  | v :: vs => (restF F G vs).set v (F.sl.getD v none)
def noOwnS : Option (Option Sv) → Bool
  | some (some (.own _)) => false
  | _ => true
def noOwn (F : Fr) (vs : List Nat) : Bool := vs.all fun v => noOwnS F.sl[v]?
section
variable {K : PySem.W.Frag} {mg : Str → Option Value} {S S' P H H' : Hp} {av : List V} {F G : Fr} {σ σ' : L2.St} {v : V} {ev : Ev}
theorem wipeF_ar : ∀ vs : List Nat, (wipeF F vs).ar = F.ar
  | [] => rfl
  | v :: vs => by unfold wipeF; exact wipeF_ar vs
theorem restF_ar : ∀ vs : List Nat, (restF F G vs).ar = G.ar
  | [] => rfl
  | v :: vs => by unfold restF; exact restF_ar vs
theorem restF_len : ∀ vs : List Nat, (restF F G vs).sl.length = G.sl.length
  | [] => rfl
  | v :: vs => by unfold restF; show ((restF F G vs).sl.set v _).length = _; rw [List.length_set]; exact restF_len vs
theorem wipeF_len : ∀ vs : List Nat, (wipeF G vs).sl.length = G.sl.length
  | [] => rfl
  | v :: vs => by unfold wipeF; show ((wipeF G vs).sl.set v _).length = _; rw [List.length_set]; exact wipeF_len vs
theorem restF_get (hl : F.sl.length = G.sl.length) : ∀ (vs : List Nat) (i : Nat), (restF F G vs).sl[i]? = if i ∈ vs then F.sl[i]? else G.sl[i]?
  | [], i => by simp [restF]
  | v :: vs, i => by
    unfold restF
    show ((restF F G vs).sl.set v _)[i]? = _
    by_cases hv : v = i
    · subst hv
      by_cases hi : v < G.sl.length
      · rw [List.getElem?_set_self (by rw [restF_len]; exact hi)]
        have : v < F.sl.length := by omega
        simp [List.getD, this]
      · rw [List.getElem?_eq_none (by rw [List.length_set, restF_len]; omega)]
        have : F.sl[v]? = none := List.getElem?_eq_none (by omega)
        simp [this]
    · rw [List.getElem?_set_ne hv, restF_get hl vs i]
      simp [Ne.symm hv]
theorem Rel.wipe (R : Rel K mg S P av F σ H) : ∀ vs : List Nat, Rel K mg S P av (wipeF F vs) (L2.wipe σ vs) H
  | [] => R
  | v :: vs => by
    unfold wipeF L2.wipe
    exact (R.wipe vs).set v (v := .non) (.inl rfl) (fun d h => by cases h) (fun k h => by cases h) (fun c h => by cases h)
/-- behind the block -/
theorem Rel.restore {vs : List Nat} (R0 : Rel K mg S P av F σ H) (hn : noOwn F vs = true) (e : Ex S S') (R : Rel K mg S' P av G σ' H') (hw : L2.wipe σ' vs = L2.wipe σ vs) : Rel K mg S' P av (restF F G vs) σ H' ∧ ∀ a, Free av G σ' a → Free av (restF F G vs) σ a := by
  have hl : F.sl.length = G.sl.length := by
    have h1 := congrArg List.length hw
    rw [wipe_length, wipe_length] at h1
    have := R0.slen
    have := R.slen
    omega
  have out : ∀ i, i ∉ vs → σ'[i]? = σ[i]? := fun i hi => by
    have h1 : (L2.wipe σ' vs)[i]? = (L2.wipe σ vs)[i]? := by rw [hw]
    rw [wipe_get, wipe_get, if_neg hi, if_neg hi] at h1
    exact h1
  have at_ : ∀ {p : Pl} {c : Cel}, (restF F G vs).at p = some c → G.at p = some c ∧ vAt σ' av p = vAt σ av p := fun {p c} h => by
    match p, h with
    | .inl i, h =>
      have h := celOf_some h
      rw [restF_get hl] at h
      by_cases hi : i ∈ vs
      · rw [if_pos hi] at h
        have := List.all_eq_true.mp hn i hi
        rw [h] at this
        cases this
      · rw [if_neg hi] at h
        refine ⟨by show celOf G.sl[i]? = _; rw [h]; rfl, ?_⟩
        show vOf σ'[i]? = vOf σ[i]?
        rw [out i hi]
    | .inr k, h =>
      have h : (restF F G vs).ar[k]? = some c := h
      rw [restF_ar] at h
      exact ⟨h, rfl⟩
  refine ⟨⟨R.sH, R.pH, R.sp, by rw [restF_ar]; exact R.alen, by rw [restF_len, ← hl]; exact R0.slen, fun i s h => ?_, fun p c h => ?_, fun p q c e v hp co hq eo vp vq => ?_⟩, fun a fr p c hp co hv => ?_⟩
  · rw [restF_get hl] at h
    by_cases hi : i ∈ vs
    · rw [if_pos hi] at h
      obtain ⟨v, h1, h2, h3⟩ := R0.slo i s h
      exact ⟨v, h1, fun d hd => Rep.mono e _ _ (h2 d hd), h3⟩
    · rw [if_neg hi] at h
      obtain ⟨v, h1, h2⟩ := R.slo i s h
      exact ⟨v, (out i hi) ▸ h1, h2⟩
  · obtain ⟨h1, h2⟩ := at_ h
    obtain ⟨v, h3, h4⟩ := R.cel p c h1
    exact ⟨v, by rw [← h2]; exact h3, h4⟩
  · obtain ⟨h1, h2⟩ := at_ hp
    obtain ⟨h3, h4⟩ := at_ hq
    exact R.apart p q c e v h1 co h3 eo (by rw [h2]; exact vp) (by rw [h4]; exact vq)
  · obtain ⟨h1, h2⟩ := at_ hp
    exact fr p c h1 co (by rw [h2]; exact hv)
end

/-! ### the tests -/
def tWTs (X : Cx) (ifs : List Expr) : TT := fun σ H Q => ∀ (pins : List (Addr × Obj)) (s : Shared), Inv X pins σ H s → wpAny (model X.prog X.w) X.A (forIn ifs true fun c r => if r = true then do let ok ← isTrue c X.env (eval c X.env); pure (ForInStep.yield ok) else pure (ForInStep.yield r)) (TP X pins σ Q) X.xe s
theorem pts_tWTs {X : Cx} {ifs : List Expr} : PTs X ifs (tWTs X ifs) := ⟨fun pins s σ H Q I h => h pins s I⟩
theorem tWTs_of {X : Cx} {ifs : List Expr} {t : TT} (h : PTs X ifs t) {σ : L2.St} {H : Hp} {Q : Bool → Hp → Prop} (q : t σ H Q) : tWTs X ifs σ H Q := fun pins s I => h.run pins s σ H Q I q
theorem tWTs_mono {X : Cx} {ifs : List Expr} {σ : L2.St} {H : Hp} {Q Q' : Bool → Hp → Prop} (h : tWTs X ifs σ H Q) (m : ∀ v H', Q v H' → Q' v H') : tWTs X ifs σ H Q' := fun pins s I =>
  thn (h pins s I) fun v s' ⟨H', I', q⟩ => ⟨H', I', m v H' q⟩
def STs (T : Tx) (ifs : List Expr) (m : MT) : Prop := ∀ (X : Cx), Fits T X → ∀ (S P : Hp) (av : List V) (F : Fr) (σ : L2.St) (H : Hp) (Q : Bool → Fr → Prop) (E : EX),
  Rel X.K X.mg S P av F σ H → m F Q E → Takes X (UpX X S P av E) → tWTs X ifs σ H (UpT X S P av σ Q)
def mYes : MT := fun F Q _ => Q true F
theorem sts_nil {T : Tx} : STs T [] mYes := fun X fx S P av F σ H Q E R q tk => tWTs_of pts_nil ⟨S, F, q, Ex.refl S, R⟩
theorem sts_one {T : Tx} {c : Expr} {m : MT} (h : SB T c m) : STs T [c] m := fun X fx S P av F σ H Q E R q tk => tWTs_of (pts_one pt_tWT) (h X fx S P av F σ H Q E R q tk)

/-! ### the block -/
def noE : EX := fun _ _ => False
def txB (T : Tx) (scope : Scope) : Tx := { T with sc := relS scope T.sc, raw := scope, exc := none }
theorem map_keep {c : Str → NameKind → Bool} {x : Str} {k : NameKind} (hc : ∀ n, c n k = false) : ∀ {l : List (Str × NameKind)}, l.lookup x = some k → (l.map fun y => if c y.1 y.2 = true then (y.1, NameKind.cell) else (y.1, y.2)).lookup x = some k
  | [], h => by cases h
  | (n, k') :: l, h => by
    rw [List.map_cons]
    cases hx : x == n with
    | true =>
      rw [List.lookup_cons, hx] at h
      have h : k' = k := Option.some.inj h
      subst h
      rw [if_neg (by show ¬ c n k' = true; rw [hc]; exact Bool.false_ne_true), List.lookup_cons, hx]
    | false =>
      rw [List.lookup_cons, hx] at h
      have ih := map_keep hc (l := l) h
      by_cases hk : c n k' = true
      · rw [if_pos hk, List.lookup_cons, hx]; exact ih
      · rw [if_neg hk, List.lookup_cons, hx]; exact ih
theorem relS_keep {scope sc : Scope} {x : Str} {k : NameKind} (h : scope.names.lookup x = some k) (hk : (k == .free) = false) : (relS scope sc).names.lookup x = some k :=
  map_keep (c := fun n k => (k == .free && sc.kind == .function && sc.names.lookup n == some .cell)) (fun n => by show (k == .free && _ && _) = false; rw [hk]; rfl) h
theorem fitsB {T : Tx} {X : Cx} (fx : Fits T X) (scope : Scope) (s : Shared) (H : Hp) (C : Addr) (cl : List (Str × Addr)) (fp : List Addr) : Fits (txB T scope) (X.blk s H scope (compEnvC scope cl C X.env) fp) := by
  have hsc : (compEnvC scope cl C X.env).scope = relS scope X.env.scope := rfl
  refine ⟨fx.prog, fx.w, fx.K, fx.mg, fx.base, fx.N, ?_, fx.un, fx.roomy, fun a c d z => (by cases z), fx.nd, fun x h => ?_⟩
  · show (compEnvC scope cl C X.env).scope = relS scope T.sc
    rw [hsc, fx.sc]
  · have h : locC scope x = true := h
    show Loc (compEnvC scope cl C X.env).scope x ∧ ((scope.names.lookup x == some .cell) = true ∨ (compEnvC scope cl C X.env).scope.names.lookup x = some .local)
    rw [hsc]
    unfold locC at h
    split at h
    · rename_i z; have := relS_keep (sc := X.env.scope) z rfl; exact ⟨.inl this, .inr this⟩
    · rename_i z; have := relS_keep (sc := X.env.scope) z rfl; exact ⟨.inr this, .inl (by rw [z]; rfl)⟩
    · cases h
theorem takesB {X : Cx} {scope : Scope} {s : Shared} {H : Hp} {env : Env} {fp : List Addr} {S P : Hp} {av : List V} : Takes (X.blk s H scope env fp) (UpX (X.blk s H scope env fp) S P av noE) :=
  takes0.imp fun _ _ _ _ ⟨_, _, _, q, _⟩ => q
def gB (X : Cx) (scope : Scope) (tg : Expr) : TG := fun v σ H Q => ∀ (s : Shared) (H0 : Hp) (C : Addr) (cl : List (Str × Addr)) (fp : List Addr), tWG (X.blk s H0 scope (compEnvC scope cl C X.env) fp) tg v σ H Q
def tB (X : Cx) (scope : Scope) (ifs : List Expr) : TT := fun σ H Q => ∀ (s : Shared) (H0 : Hp) (C : Addr) (cl : List (Str × Addr)) (fp : List Addr), tWTs (X.blk s H0 scope (compEnvC scope cl C X.env) fp) ifs σ H Q
def eB (X : Cx) (scope : Scope) (e : Expr) : TE := fun σ H Q => ∀ (s : Shared) (H0 : Hp) (C : Addr) (cl : List (Str × Addr)) (fp : List Addr), tW (X.blk s H0 scope (compEnvC scope cl C X.env) fp) e σ H Q
def compD (g : MG) (mt : MT) (me : ME) (vs : List Nat) (ok : Fr → Prop) (Q : List D → Fr → Prop) : List D → List D → Fr → Prop
  | [], acc, F => ok F ∧ Q acc F
  | d :: ds, acc, F => ok F ∧ g d F fun F1 => mt F1 (fun b F2 => brK b (me F2 (fun ev F3 => frzK F3 ev fun e F4 => acc.length < sizeLine ∧ compD g mt me vs ok Q ds (acc ++ [e]) (wipeF F4 vs)) noE) (compD g mt me vs ok Q ds acc (wipeF F2 vs))) noE
def mLc (mi : MI) (g : MG) (mt : MT) (me : ME) (vs : List Nat) : ME := fun F Q E => mi F (fun items ok F1 => noOwn F1 vs = true ∧ compD g mt me vs ok (fun acc F2 => Q (.tmp (.lst acc)) (restF F1 F2 vs)) items [] (wipeF F1 vs)) E
theorem wipe_wipe (σ : L2.St) (vs : List Nat) : wipe (wipe σ vs) vs = wipe σ vs := by
  apply List.ext_getElem?
  intro j
  rw [wipe_get]
  by_cases hj : j ∈ vs
  · rw [if_pos hj, wipe_get, if_pos hj]; cases σ[j]? <;> rfl
  · rw [if_neg hj]
section
variable {T : Tx} {X : Cx} {tg iter elt : Expr} {ifs : List Expr} {scope : Scope} {own : List (Str × Nat)} {is : List Nat} {mi : MI} {g : MG} {mt : MT} {me : ME} {pos : Pos}
theorem lc_turns (fx : Fits T X) (hg : SG (txB T scope) tg is g) (his : ∀ i ∈ is, i ∈ own.map (·.2)) (ht : STs (txB T scope) ifs mt) (he : SE (txB T scope) elt me)
    {J : It} {items : List D} {ok : Fr → Prop} {S0 S P H1 : Hp} {av : List V} {F : Fr} {σ : L2.St} {Q : Ev → Fr → Prop} (eS : Ex S0 S) (R : Rel X.K X.mg S P av F σ H1) (wd : WalkD X S av J items ok) (hn : noOwn F (own.map (·.2)) = true)
    (q : compD g mt me (own.map (·.2)) ok (fun acc F2 => Q (.tmp (.lst acc)) (restF F F2 (own.map (·.2)))) items [] (wipeF F (own.map (·.2)))) (Da : Addr) (hD : H1 Da = none) :
    ∃ W : Nat → Nat → Hp → Prop, (∃ m, W 0 m (upd H1 Da (.lst []))) ∧ ∀ i m H, W i m H →
      (J.stop i H ∧ UpE X S0 P av σ Q (.ref Da) H) ∨ (J.go i H ∧ ∃ Nx : Hp → Prop, (∀ H', Nx H' → ∃ m', m' < m ∧ W (i + 1) m' H') ∧ ∀ x H', J.yld i H x H' → gB X scope tg x (wipe σ (own.map (·.2))) H' fun σ2 H2 => wipe σ2 (own.map (·.2)) = wipe σ (own.map (·.2)) ∧ tB X scope ifs σ2 H2 fun b H3 =>
        if b = true then eB X scope elt σ2 H3 fun y H4 => ∃ acc, H4 Da = some (.lst acc) ∧ acc.length < sizeLine ∧ Nx (upd H4 Da (.lst (acc ++ [y]))) else Nx H3) := by
  generalize hvs : own.map (·.2) = vs at *
  have P0 : P Da = none := R.pNone hD
  -- between turns
  let St := fun (i : Nat) (H : Hp) => i ≤ items.length ∧ ∃ S' F' acc av', Ex S S' ∧ Rel X.K X.mg S' (upd P Da (.lst av')) av F' (wipe σ vs) H ∧ Reps X.K X.mg S' acc av' ∧ compD g mt me vs ok (fun acc F2 => Q (.tmp (.lst acc)) (restF F F2 vs)) (items.drop i) acc F'
  have start : St 0 (upd H1 Da (.lst [])) := by
    have R1 := R.fresh (p := Da) (o := .lst []) hD
    obtain ⟨a, ha, ca, fr⟩ := R.tmp (p := Da) (o := .lst []) (c := .lst []) hD ⟨[], rfl, Reps.nil⟩
    cases ha
    obtain ⟨o, h1, h2, eP, R2⟩ := R1.protect ca fr
    rw [upd_same] at h1
    cases h1
    exact ⟨Nat.zero_le _, S, _, [], [], Ex.refl S, R2.wipe vs, Reps.nil, q⟩
  refine ⟨fun i m H => m = items.length - i ∧ St i H, ⟨_, rfl, start⟩, ?_⟩
  rintro i m H ⟨rfl, hi, S2, F2, acc, av2, e2, R2, ra, q2⟩
  have okF : ok F2 := by
    cases h : items.drop i with
    | nil => rw [h] at q2; exact q2.1
    | cons d ds => rw [h] at q2; exact q2.1
  obtain ⟨wg, ws⟩ := wd S2 _ F2 _ H R2 e2 okF
  by_cases hlt : i < items.length
  · obtain ⟨go, yl⟩ := wg i hlt
    refine .inr ⟨go, St (i + 1), fun H' p => ⟨_, by omega, rfl, p⟩, fun x H' y => ?_⟩
    obtain ⟨S3, d, e3, R3, hd, rd⟩ := yl x H' y
    rw [List.drop_eq_getElem_cons hlt] at q2
    have hd' : items[i] = d := by rw [List.getElem?_eq_getElem hlt] at hd; exact Option.some.inj hd
    rw [hd'] at q2
    intro s0 H0 C cl fp
    have fb := fitsB fx scope s0 H0 C cl fp
    refine tWG_mono (hg _ fb S3 _ av F2 _ H' d x _ R3 rd q2.2) fun σ4 H4 ⟨⟨S4, F4, q4, e4, R4⟩, on⟩ => ?_
    have hw : wipe σ4 vs = wipe σ vs := (on vs fun i hi => his i hi).trans (wipe_wipe σ vs)
    refine ⟨hw, fun s1 H01 C1 cl1 fp1 => ?_⟩
    have fb1 := fitsB fx scope s1 H01 C1 cl1 fp1
    refine tWTs_mono (ht _ fb1 S4 _ av F4 σ4 H4 _ noE R4 q4 takesB) fun b H5 ⟨S5, F5, q5, e5, R5⟩ => brK_if ⟨fun hb => ?_, fun hb => ?_⟩
    · intro s2 H02 C2 cl2 fp2
      have fb2 := fitsB fx scope s2 H02 C2 cl2 fp2
      refine tW_mono (he _ fb2 S5 _ av F5 σ4 H5 _ noE R5 (q5.1 hb) takesB) fun y6 H6 ⟨S6, F6, ev, q6, e6, R6, k6⟩ => ?_
      obtain ⟨S6', e6', R6', k6'⟩ := R6.hold k6
      have q6' : frzK F6 (hold ev) fun e F7 => acc.length < sizeLine ∧ compD g mt me vs ok (fun acc F2 => Q (.tmp (.lst acc)) (restF F F2 vs)) (items.drop (i + 1)) (acc ++ [e]) (wipeF F7 vs) := by cases ev <;> exact q6
      obtain ⟨S7, F7, e, ⟨lz, q7⟩, e7, R7, r7⟩ := R6'.frzEv (ev := hold ev) (by rw [hold_hold]; exact k6') q6'
      have ra7 : Reps X.K X.mg S7 acc av2 := Reps.mono (e3.trans (e4.trans (e5.trans (e6.trans (e6'.trans e7))))) _ _ ra
      refine ⟨av2, R7.pH Da _ upd_same, by rw [← ra7.len]; exact lz, hlt, S7, wipeF F7 vs, acc ++ [e], av2 ++ [y6], e2.trans (e3.trans (e4.trans (e5.trans (e6.trans (e6'.trans e7))))), ?_, ra7.app (Reps.cons r7 Reps.nil), q7⟩
      obtain ⟨R8, ⟨s0', p0', _⟩, fr8⟩ := R7.unprotect (c := .lst acc) P0 ⟨av2, rfl, ra7⟩
      have R9 : Rel X.K X.mg S7 P av F7 σ4 (upd H6 Da (.lst (av2 ++ [y6]))) := by
        have ne : ∀ {b : Addr} {o : HO} {Z : Hp}, Z Da = none → Z b = some o → b ≠ Da := fun {b o Z} h1 h2 z => by rw [z, h1] at h2; cases h2
        refine R8.heap (fun b o h => ?_) (fun b o h => ?_) fun p c a o hp co hv ha => ?_
        · rw [upd_ne (ne s0' h)]; exact R8.sH b o h
        · rw [upd_ne (ne p0' h)]; exact R8.pH b o h
        · have : a ≠ Da := fun z => fr8 p c hp co (by rw [hv, z])
          rw [upd_ne this]; exact ha
      obtain ⟨o, h1, h2, eP, R10⟩ := R9.protect (c := .lst (acc ++ [e])) ⟨s0', p0', _, upd_same, av2 ++ [y6], rfl, ra7.app (Reps.cons r7 Reps.nil)⟩ fr8
      rw [upd_same] at h1
      cases h1
      have R11 := R10.wipe vs
      rw [hw] at R11
      exact R11
    · have R6 := R5.wipe vs
      rw [hw] at R6
      exact ⟨hlt, S5, wipeF F5 vs, acc, av2, e2.trans (e3.trans (e4.trans e5)), R6, Reps.mono (e3.trans (e4.trans e5)) _ _ ra, q5.2 hb⟩
  · have e : i = items.length := by omega
    subst e
    rw [List.drop_length] at q2
    obtain ⟨R3, ca, fr⟩ := R2.unprotect (c := .lst acc) P0 ⟨av2, rfl, ra⟩
    obtain ⟨R4, fr4⟩ := R.restore hn e2 R3 (wipe_wipe σ vs)
    exact .inl ⟨ws, S2, _, _, q2.2, eS.trans e2, R4, Da, rfl, ca, fr4 Da fr⟩
theorem se_lc (hi : SI T tg iter mi) (ok : blkC T.N T.sc scope own = true) (hg : SG (txB T scope) tg is g) (his : is.all (fun i => (own.map (·.2)).contains i) = true) (ht : STs (txB T scope) ifs mt) (he : SE (txB T scope) elt me) (hh : T.hot = false := by rfl)
    (hs : ∀ env x, foldedSetIterable iter env x = pure x := by intros; rfl) : SE T (.ListComp elt [⟨tg, iter, ifs, 0⟩] scope pos) (mLc mi g mt me (own.map (·.2))) := fun X fx S P av F σ H Q E R q tk => by
  obtain ⟨wi, pw, kw⟩ := hi X fx
  refine tW_of (pe_lc (wi := wi) (g := gB X scope tg) (tt := tB X scope ifs) (te := eB X scope elt) (fx.calm hh) fx.nd pw (blkOk_by (by rw [fx.N, fx.sc]; exact ok)) (fun s H0 C cl fp => ⟨fun pins s' σ H v u Q I r h => h s H0 C cl fp pins s' u I r⟩)
    (fun s H0 C cl fp => ⟨fun pins s' σ H Q I h => h s H0 C cl fp pins s' I⟩) (fun s H0 C cl fp => ⟨fun pins s' σ H Q I h => h s H0 C cl fp pins s' I⟩) (hs X.env)) (kw S P av F σ H _ E R q tk _ fun J items okF S1 F1 H1 ⟨hn, q1⟩ e1 R1 w1 Da hD => ?_)
  exact lc_turns fx hg (fun i hi => by have := List.all_eq_true.mp his i hi; simpa using this) ht he e1 R1 w1 hn q1 Da hD
/-- name = [..] on one line -/
theorem ss_setLc {i : Nat} {y : Str} {py spos : Pos} (hN : T.N[i]? = some y) (hy : T.sc.names.lookup y = some .local) (hk : T.sc.kind = .function) (hline : (py.line == pos.line) = true) (hnm : (scope.names.any fun (n, k) => n == y && (k == .local || k == .cell)) = false)
    (hi : SI T tg iter mi) (ok : blkC T.N T.sc scope own = true) (hg : SG (txB T scope) tg is g) (his : is.all (fun i => (own.map (·.2)).contains i) = true) (ht : STs (txB T scope) ifs mt) (he : SE (txB T scope) elt me) (hh : T.hot = false := by rfl)
    (hs : ∀ env x, foldedSetIterable iter env x = pure x := by intros; rfl) : SS T (.Assign [.Name y py] (.ListComp elt [⟨tg, iter, ifs, 0⟩] scope pos) spos) (mAsg i (mLc mi g mt me (own.map (·.2)))) := fun X fx S P av F σ H Df R q tk => by
  obtain ⟨wi, pw, kw⟩ := hi X fx.toFits
  refine tWS_of (ps_setLc (i := i) (wi := wi) (g := gB X scope tg) (tt := tB X scope ifs) (te := eB X scope elt) (fx.calm hh) fx.nd (by rw [fx.N]; exact hN) (by rw [fx.sc]; exact hy) (sw_true (by rw [fx.sc]; exact hk) (by rw [fx.sc]; exact hy) hline hnm) pw (blkOk_by (by rw [fx.N, fx.sc]; exact ok)) (fun s H0 C cl fp => ⟨fun pins s' σ H v u Q I r h => h s H0 C cl fp pins s' u I r⟩)
    (fun s H0 C cl fp => ⟨fun pins s' σ H Q I h => h s H0 C cl fp pins s' I⟩) (fun s H0 C cl fp => ⟨fun pins s' σ H Q I h => h s H0 C cl fp pins s' I⟩) (hs X.env)) (kw S P av F σ H _ Df.ex R q tk _ fun J items okF S1 F1 H1 ⟨hn, q1⟩ e1 R1 w1 Da hD => ?_)
  obtain ⟨W, h1, h2⟩ := lc_turns (Q := fun x F1 => asgK F1 i x Df.nx) fx.toFits hg (fun i hi => by have := List.all_eq_true.mp his i hi; simpa using this) ht he e1 R1 w1 hn q1 Da hD
  refine ⟨W, h1, fun i' m H2 w => (h2 i' m H2 w).imp (fun ⟨st, u⟩ => ⟨st, ?_⟩) id⟩
  obtain ⟨S2, F2, ev, q2, e2, R2, k2⟩ := u
  obtain ⟨S3, F3, q3, e3, R3⟩ := R2.asg k2 q2
  exact ⟨S3, F3, q3, e2.trans e3, R3⟩
end
end HD
set_option Elab.async false
set_option linter.all false
set_option maxRecDepth 100000
set_option maxHeartbeats 4000000
/-! HD, part 16: built-in functions. -/
namespace HD
open PySem PySem.Spec PyProof.Rows L2

def valsK (F : Fr) : List Ev → (List D → Prop) → Prop
  | [], k => k []
  | e :: es, k => valK F e fun d => valsK F es fun ds => k (d :: ds)
def RepTs (K : PySem.W.Frag) (mg : Str → Option Value) (S H : Hp) : List D → List V → Prop
  | [], vs => vs = []
  | d :: ds, vs => ∃ v r, vs = v :: r ∧ RepT K mg S H d v ∧ RepTs K mg S H ds r
def rC (X : Cx) (u : Value) : List V → Hp → VK → Prop := fun vs H Q => ∀ (pins : List (Addr × Obj)) (s : Shared) (σ : L2.St) (us : List Value), Inv X pins σ H s → Vals vs us → wpAny (model X.prog X.w) X.A (call u us) (EP X pins σ Q) X.xe s
theorem rC_mono {X : Cx} {u : Value} {vs : List V} {H : Hp} {Q Q' : VK} (h : rC X u vs H Q) (m : ∀ v H', Q v H' → Q' v H') : rC X u vs H Q' := fun pins s σ us I r =>
  thn (h pins s σ us I r) fun v s' ⟨x, H', I', r, q⟩ => ⟨x, H', I', r, m x H' q⟩
theorem callR_C {X : Cx} {u : Value} : CallR X u (rC X u) := fun pins s σ H xs us Q I r h => h pins s σ us I r
abbrev GB := List D → (Ev → Prop) → Prop
def BiD (T : Tx) (u : Value) (g : GB) : Prop := ∀ (X : Cx), Fits T X → ∀ (S P : Hp) (av : List V) (F : Fr) (σ : L2.St) (H : Hp) (vs : List V) (ds : List D) (q : Ev → Prop), Rel X.K X.mg S P av F σ H → RepTs X.K X.mg S H ds vs → g ds q → rC X u vs H (UpO X S P av F σ q)
section
variable {T : Tx} {X : Cx} {u : Value} {g g' : GB} {pos p : Pos} {e : Expr} {es : List Expr} {m : ME} {ms : MA} {x : Str} {bid ty : String}
section
variable {K : PySem.W.Frag} {mg : Str → Option Value} {S S' P H H' : Hp} {av : List V} {F : Fr} {σ : L2.St}
theorem Rel.vals (R : Rel K mg S P av F σ H) {k : List D → Prop} : ∀ {vs : List V} {xs : List Ev} {k : List D → Prop}, EvsOk K mg S P av F σ H vs xs → valsK F (xs.map HD.hold) k → ∃ ds, k ds ∧ RepTs K mg S H ds vs
  | [], [], k, _, q => ⟨[], q, rfl⟩
  | v :: vs, x :: xs, k, h, q => by
    obtain ⟨d, q1, r1⟩ := R.val h.1 q
    obtain ⟨ds, q2, r2⟩ := R.vals (k := k) h.2 q1
    exact ⟨d :: ds, q2, v, vs, rfl, r1, r2⟩
theorem repTs1 {d : D} {vs : List V} (h : RepTs K mg S H [d] vs) : ∃ v, vs = [v] ∧ RepT K mg S H d v := by
  obtain ⟨v, r, rfl, h1, h2⟩ := h
  cases h2
  exact ⟨v, rfl, h1⟩
theorem repTs2 {d e : D} {vs : List V} (h : RepTs K mg S H [d, e] vs) : ∃ v w, vs = [v, w] ∧ RepT K mg S H d v ∧ RepT K mg S H e w := by
  obtain ⟨v, r, rfl, h1, h2⟩ := h
  obtain ⟨w, rfl, h3⟩ := repTs1 h2
  exact ⟨v, w, rfl, h1, h3⟩
/-- a sequence -/
def seqD : D → Option (List D)
  | .lst xs => some xs
  | .tup xs => some xs
  | .scr ns => some (ns.map .int)
  | _ => none
theorem seq_rep {d : D} {v : V} {xs : List D} (e : Ex S H) (h : RepT K mg S H d v) (hx : seqD d = some xs) : ∃ a ys, v = .ref a ∧ (SqL K H a ys ∨ SqT K H a ys) ∧ Reps K mg S xs ys := by
  match d, hx with
  | .lst ds, hx =>
    cases hx
    obtain ⟨a, vs, rfl, h1, h2⟩ := repT_lst h
    exact ⟨a, vs, rfl, .inl (SqL.of h1), h2⟩
  | .tup ds, hx =>
    cases hx
    obtain ⟨a, vs, rfl, h1, h2⟩ := repT_tup h
    exact ⟨a, vs, rfl, .inr (e.sqT h1), h2⟩
  | .scr ns, hx =>
    cases hx
    obtain ⟨a, rfl, h1⟩ := repT_scr h
    exact ⟨a, _, rfl, .inl (e.sqL h1), Reps.ints ns⟩
/-- a list -/
def lstD : D → Option (List D)
  | .lst xs => some xs
  | .scr ns => some (ns.map .int)
  | _ => none
theorem lst_rep {d : D} {v : V} {xs : List D} (e : Ex S H) (h : RepT K mg S H d v) (hx : lstD d = some xs) : ∃ a ys, v = .ref a ∧ SqL K H a ys ∧ Reps K mg S xs ys := by
  match d, hx with
  | .lst ds, hx =>
    cases hx
    obtain ⟨a, vs, rfl, h1, h2⟩ := repT_lst h
    exact ⟨a, vs, rfl, SqL.of h1, h2⟩
  | .scr ns, hx =>
    cases hx
    obtain ⟨a, rfl, h1⟩ := repT_scr h
    exact ⟨a, _, rfl, e.sqL h1, Reps.ints ns⟩
theorem Reps.bls_of : ∀ {bs : List Bool} {vs : List V}, Reps K mg S (bs.map D.bl) vs → vs = bs.map V.bl
  | [], _, h => h.nil_of
  | n :: ns, _, h => by
    obtain ⟨v, r, rfl, h1, h2⟩ := Reps.cons_of (d := D.bl n) (ds := ns.map D.bl) h
    unfold Rep at h1
    rw [h1, Reps.bls_of h2]; rfl
theorem Reps.strs_of : ∀ {bs : List Str} {vs : List V}, Reps K mg S (bs.map D.str) vs → vs = bs.map V.str
  | [], _, h => h.nil_of
  | n :: ns, _, h => by
    obtain ⟨v, r, rfl, h1, h2⟩ := Reps.cons_of (d := D.str n) (ds := ns.map D.str) h
    unfold Rep at h1
    rw [h1, Reps.strs_of h2]; rfl
theorem Reps.strs : ∀ (ns : List Str), Reps K mg S (ns.map D.str) (ns.map V.str)
  | [] => Reps.nil
  | n :: ns => Reps.cons (by unfold Rep; rfl) (Reps.strs ns)
end
theorem biD_of {r : Cx → List V → Hp → VK → Prop} (ho : ∀ X, Fits T X → CallR X u (r X))
    (h : ∀ (X : Cx), Fits T X → ∀ (S P : Hp) (av : List V) (F : Fr) (σ : L2.St) (H : Hp) (vs : List V) (ds : List D) (q : Ev → Prop), Rel X.K X.mg S P av F σ H → RepTs X.K X.mg S H ds vs → g ds q → r X vs H (UpO X S P av F σ q)) : BiD T u g :=
  fun X fx S P av F σ H vs ds q R rx hg pins s σ' us I r1 => ho X fx pins s σ' H vs us _ I r1 (h X fx S P av F σ H vs ds q R rx hg)
theorem BiD.or (h : BiD T u g) (h' : BiD T u g') : BiD T u fun d q => g d q ∨ g' d q :=
  fun X fx S P av F σ H vs ds q R rx hg => hg.elim (h X fx S P av F σ H vs ds q R rx) (h' X fx S P av F σ H vs ds q R rx)
theorem BiD.imp (h : BiD T u g) (i : ∀ d q, g' d q → g d q) : BiD T u g' := fun X fx S P av F σ H vs ds q R rx hg => h X fx S P av F σ H vs ds q R rx (i ds q hg)
def mBi (g : GB) (ms : MA) : ME := fun F Q E => ms F (fun xs F1 => valsK F1 (xs.map hold) fun ds => g ds fun r => Q r F1) E
theorem bi_args (fx : Fits T X) {S P : Hp} {av : List V} {F : Fr} {σ : L2.St} {H : Hp} {Q : Ev → Fr → Prop} {E : EX} (hc : BiD T u g) (ha : SA T es ms) (R : Rel X.K X.mg S P av F σ H) (q : mBi g ms F Q E) (tk : Takes X (UpX X S P av E)) :
    tWA X es σ H fun vs H1 => rC X u vs H1 (UpE X S P av σ Q) := by
  refine tWA_mono (ha X fx S P av F σ H _ E R q tk) fun vs H1 ⟨S1, F1, xs, q1, e1, R1, k1⟩ => ?_
  obtain ⟨ds, q2, r2⟩ := R1.vals (k := fun _ => True) k1 q1
  exact rC_mono (hc X fx S1 P av F1 σ H1 vs ds _ R1 r2 q2) fun v H2 ⟨S2, ev, q3, e2, R2, k2⟩ => ⟨S2, F1, ev, q3, e1.trans e2, R2, k2⟩
theorem se_bi (hc : BiD T (.builtin bid) g) (ha : SA T (e :: es) ms) (hg : glC T.sc x = true := by decide +kernel) (hm : T.mg x = none := by assumption) (hv : bootBuiltins x = some (.builtin bid) := by rfl) (hn : x ≠ "__name__" := by decide +kernel) (hdb : (x == ("__debug__" : Str)) = false := by decide +kernel)
    (he : ∀ env, starEach (e :: es) env = (false, eval e env) :: starEach es env := by intros; rfl) (hpl : ∀ env, (backTo pos (starEach es env)).any (·.1) = false := by intros; rfl) :
    SE T (.Call (.Name x p) (e :: es) [] pos) (mBi g ms) := fun X fx S P av F σ H Q E R q tk =>
  tW_of (pe_callB callR_C (gl_of fx hg) (by rw [fx.mg]; exact hm) hv pa_tWA hn hdb (he X.env) (hpl X.env)) (bi_args fx hc ha R q tk)
theorem se_ty (hc : BiD T (.type ty) g) (ha : SA T (e :: es) ms) (hg : glC T.sc x = true := by decide +kernel) (hm : T.mg x = none := by assumption) (hv : bootBuiltins x = some (.type ty) := by rfl) (hn : x ≠ "__name__" := by decide +kernel) (hdb : (x == ("__debug__" : Str)) = false := by decide +kernel)
    (he : ∀ env, starEach (e :: es) env = (false, eval e env) :: starEach es env := by intros; rfl) (hpl : ∀ env, (backTo pos (starEach es env)).any (·.1) = false := by intros; rfl) :
    SE T (.Call (.Name x p) (e :: es) [] pos) (mBi g ms) := fun X fx S P av F σ H Q E R q tk =>
  tW_of (pe_callTy callR_C (gl_of fx hg) (by rw [fx.mg]; exact hm) hv pa_tWA hn hdb (he X.env) (hpl X.env)) (bi_args fx hc ha R q tk)

/-! ### what they do -/
def gLen : GB
  | [.lst xs], q => q (.sh (.int (xs.length : Nat)))
  | [.tup xs], q => q (.sh (.int (xs.length : Nat)))
  | [.scr xs], q => q (.sh (.int (xs.length : Nat)))
  | [.str s], q => s.length ≤ sizeLine ∧ q (.sh (.int (s.length : Nat)))
  | _, _ => False
theorem bi_len : BiD T (.builtin "len") gLen := biD_of (fun _ _ => call_len) fun X fx S P av F σ H vs ds q R rx hg => by
  unfold gLen at hg
  split at hg
  · obtain ⟨v, rfl, r1⟩ := repTs1 rx
    obtain ⟨a, ys, rfl, h1, h2⟩ := repT_lst r1
    exact ⟨_, _, rfl, .inl ⟨ys, SqL.of h1, h2.len⟩, upO_int R hg⟩
  · obtain ⟨v, rfl, r1⟩ := repTs1 rx
    obtain ⟨a, ys, rfl, h1, h2⟩ := repT_tup r1
    exact ⟨_, _, rfl, .inr ⟨ys, R.sH.sqT h1, h2.len⟩, upO_int R hg⟩
  · obtain ⟨v, rfl, r1⟩ := repTs1 rx
    obtain ⟨a, rfl, h1⟩ := repT_scr r1
    exact ⟨_, _, rfl, .inl ⟨_, R.sH.sqL h1, by simp⟩, upO_int R hg⟩
  · obtain ⟨v, rfl, r1⟩ := repTs1 rx
    have hv := repT_str r1
    subst hv
    exact ⟨_, _, rfl, ⟨hg.1, rfl⟩, upO_int R hg.2⟩
  · exact hg.elim
def gInt : GB
  | [.int i], q => q (.sh (.int i))
  | [.bl b], q => q (.sh (.int (if b then 1 else 0)))
  | [.str s], q => s.length ≤ 640 ∧ ∃ n, PySem.intText? s = some n ∧ q (.sh (.int n))
  | _, _ => False
theorem bi_int : BiD T (.type "int") gInt := by
  have h1 : BiD T (.type "int") fun ds q => (∃ i, ds = [.int i] ∧ q (.sh (.int i))) ∨ ∃ b, ds = [.bl b] ∧ q (.sh (.int (if b then 1 else 0))) := biD_of (fun _ _ => call_int1) fun X fx S P av F σ H vs ds q R rx hg => by
    rcases hg with ⟨i, rfl, hg⟩ | ⟨b, rfl, hg⟩
    · obtain ⟨v, rfl, r1⟩ := repTs1 rx
      exact .inl ⟨i, by rw [repT_int r1], upO_int R hg⟩
    · obtain ⟨v, rfl, r1⟩ := repTs1 rx
      exact .inr ⟨b, by rw [repT_bl r1], upO_int R hg⟩
  have h2 : BiD T (.type "int") fun ds q => ∃ s n, ds = [.str s] ∧ PySem.intText? s = some n ∧ s.length ≤ 640 ∧ q (.sh (.int n)) := biD_of (fun _ _ => call_int_str) fun X fx S P av F σ H vs ds q R rx ⟨s, n, hd, h1, h2, hg⟩ => by
    subst hd
    obtain ⟨v, rfl, r1⟩ := repTs1 rx
    exact ⟨s, n, by rw [repT_str r1], h1, h2, upO_int R hg⟩
  refine (h1.or h2).imp fun ds q h => ?_
  unfold gInt at h
  split at h
  · exact .inl (.inl ⟨_, rfl, h⟩)
  · exact .inl (.inr ⟨_, rfl, h⟩)
  · obtain ⟨h0, n, h1, h2⟩ := h
    exact .inr ⟨_, n, rfl, h1, h0, h2⟩
  · exact h.elim
def gStr : GB
  | [.int i], q => i.natAbs.log2 < 1920 ∧ q (.sh (.str (toString i)))
  | [.str s], q => q (.sh (.str s))
  | _, _ => False
theorem bi_str : BiD T (.type "str") gStr := by
  have h1 : BiD T (.type "str") fun ds q => ∃ i, ds = [.int i] ∧ i.natAbs.log2 < 1920 ∧ q (.sh (.str (toString i))) := biD_of (fun _ _ => call_str_int) fun X fx S P av F σ H vs ds q R rx ⟨i, hd, h1, hg⟩ => by
    subst hd
    obtain ⟨v, rfl, r1⟩ := repTs1 rx
    exact ⟨i, by rw [repT_int r1], h1, upO_str R hg⟩
  have h2 : BiD T (.type "str") fun ds q => ∃ s, ds = [.str s] ∧ q (.sh (.str s)) := biD_of (fun _ _ => SkE.call_str_str) fun X fx S P av F σ H vs ds q R rx ⟨s, hd, hg⟩ => by
    subst hd
    obtain ⟨v, rfl, r1⟩ := repTs1 rx
    exact ⟨s, by rw [repT_str r1], upO_str R hg⟩
  refine (h1.or h2).imp fun ds q h => ?_
  unfold gStr at h
  split at h
  · exact .inl ⟨_, rfl, h⟩
  · exact .inr ⟨_, rfl, h⟩
  · exact h.elim
def gList : GB
  | [d], q => ∃ xs, seqD d = some xs ∧ q (.tmp (.lst xs))
  | _, _ => False
theorem bi_list : BiD T (.type "list") gList := biD_of (fun _ _ => call_list_of) fun X fx S P av F σ H vs ds q R rx hg => by
  unfold gList at hg
  split at hg
  · obtain ⟨xs, h0, hg⟩ := hg
    obtain ⟨v, rfl, r1⟩ := repTs1 rx
    obtain ⟨a, ys, rfl, h1, h2⟩ := seq_rep R.sH r1 h0
    exact ⟨a, ys, rfl, h1, fun l hl => upO_lst R hg h2 hl⟩
  · exact hg.elim
def gTuple : GB
  | [d], q => ∃ xs, seqD d = some xs ∧ q (.sh (.tup xs))
  | _, _ => False
theorem bi_tuple : BiD T (.type "tuple") gTuple := biD_of (fun _ _ => call_tuple_of) fun X fx S P av F σ H vs ds q R rx hg => by
  unfold gTuple at hg
  split at hg
  · obtain ⟨xs, h0, hg⟩ := hg
    obtain ⟨v, rfl, r1⟩ := repTs1 rx
    rename_i d
    match d, h0 with
    | .lst ds, h0 =>
      cases h0
      obtain ⟨a, ys, rfl, h1, h2⟩ := repT_lst r1
      exact ⟨a, ys, rfl, .inl ⟨SqL.of h1, fun l hl => upO_tup R hg h2 hl⟩⟩
    | .scr ns, h0 =>
      cases h0
      obtain ⟨a, rfl, h1⟩ := repT_scr r1
      exact ⟨a, _, rfl, .inl ⟨R.sH.sqL h1, fun l hl => upO_tup R hg (Reps.ints ns) hl⟩⟩
    | .tup ds, h0 =>
      cases h0
      obtain ⟨a, ys, rfl, h1, h2⟩ := repT_tup r1
      exact ⟨a, ys, rfl, .inr ⟨R.sH.sqT h1, upO_sh R hg (by unfold Rep; exact ⟨a, ys, rfl, h1, h2⟩)⟩⟩
  · exact hg.elim
def gAll (f : List Bool → Bool) : GB
  | [d], q => ∃ bs : List Bool, lstD d = some (bs.map D.bl) ∧ q (.sh (.bl (f bs)))
  | _, _ => False
theorem bi_all (hh : T.hot = false := by rfl) : BiD T (.builtin "all") (gAll fun bs => bs.all id) := biD_of (fun _ fx => cr_all (fx.calm hh)) fun X fx S P av F σ H vs ds q R rx hg => by
  unfold gAll at hg
  split at hg
  · obtain ⟨bs, h0, hg⟩ := hg
    obtain ⟨v, rfl, r1⟩ := repTs1 rx
    obtain ⟨a, ys, rfl, h1, h2⟩ := lst_rep R.sH r1 h0
    rw [Reps.bls_of h2] at h1
    exact ⟨a, bs, rfl, h1, upO_bl R hg⟩
  · exact hg.elim
theorem bi_any (hh : T.hot = false := by rfl) : BiD T (.builtin "any") (gAll fun bs => bs.any id) := biD_of (fun _ fx => cr_any (fx.calm hh)) fun X fx S P av F σ H vs ds q R rx hg => by
  unfold gAll at hg
  split at hg
  · obtain ⟨bs, h0, hg⟩ := hg
    obtain ⟨v, rfl, r1⟩ := repTs1 rx
    obtain ⟨a, ys, rfl, h1, h2⟩ := lst_rep R.sH r1 h0
    rw [Reps.bls_of h2] at h1
    exact ⟨a, bs, rfl, h1, upO_bl R hg⟩
  · exact hg.elim
def gSum : GB
  | [d], q => ∃ ns : List Int, lstD d = some (ns.map D.int) ∧ q (.sh (.int ns.sum))
  | _, _ => False
theorem bi_sum (hh : T.hot = false := by rfl) : BiD T (.builtin "sum") gSum := biD_of (fun _ fx => cr_sum (fx.calm hh)) fun X fx S P av F σ H vs ds q R rx hg => by
  unfold gSum at hg
  split at hg
  · obtain ⟨bs, h0, hg⟩ := hg
    obtain ⟨v, rfl, r1⟩ := repTs1 rx
    obtain ⟨a, ys, rfl, h1, h2⟩ := lst_rep R.sH r1 h0
    rw [Reps.ints_of h2] at h1
    exact ⟨a, bs, rfl, h1, upO_int R hg⟩
  · exact hg.elim
def gAbs : GB
  | [.int i], q => q (.sh (.int (if i < 0 then -i else i)))
  | _, _ => False
theorem bi_abs : BiD T (.builtin "abs") gAbs := biD_of (fun _ _ => call_abs) fun X fx S P av F σ H vs ds q R rx hg => by
  unfold gAbs at hg
  split at hg
  · obtain ⟨v, rfl, r1⟩ := repTs1 rx
    exact ⟨_, by rw [repT_int r1], upO_int R hg⟩
  · exact hg.elim
/-- max, min: of two ints; of a list of ints -/
def gMax : GB
  | [.int i, .int j], q => q (.sh (.int (if j > i then j else i)))
  | [d], q => ∃ ns : List Int, lstD d = some (ns.map D.int) ∧ 0 < ns.length ∧ ∀ m, m ∈ ns → (∀ y, y ∈ ns → y ≤ m) → q (.sh (.int m))
  | _, _ => False
def gMin : GB
  | [.int i, .int j], q => q (.sh (.int (if j < i then j else i)))
  | [d], q => ∃ ns : List Int, lstD d = some (ns.map D.int) ∧ 0 < ns.length ∧ ∀ m, m ∈ ns → (∀ y, y ∈ ns → m ≤ y) → q (.sh (.int m))
  | _, _ => False
theorem bi_max (hh : T.hot = false := by rfl) : BiD T (.builtin "max") gMax := by
  have h1 : BiD T (.builtin "max") fun ds q => ∃ i j, ds = [.int i, .int j] ∧ q (.sh (.int (if j > i then j else i))) := biD_of (fun _ fx => call_max2 (fx.calm hh)) fun X fx S P av F σ H vs ds q R rx ⟨i, j, hd, hg⟩ => by
    subst hd
    obtain ⟨v, w, rfl, r1, r2⟩ := repTs2 rx
    exact ⟨i, j, by rw [repT_int r1, repT_int r2], upO_int R hg⟩
  have h2 : BiD T (.builtin "max") fun ds q => ∃ d, ds = [d] ∧ ∃ ns : List Int, lstD d = some (ns.map D.int) ∧ 0 < ns.length ∧ ∀ m, m ∈ ns → (∀ y, y ∈ ns → y ≤ m) → q (.sh (.int m)) := biD_of (fun _ fx => cr_max (fx.calm hh)) fun X fx S P av F σ H vs ds q R rx ⟨d, hd, ns, h0, hn, hg⟩ => by
    subst hd
    obtain ⟨v, rfl, r1⟩ := repTs1 rx
    obtain ⟨a, ys, rfl, h1, h2⟩ := lst_rep R.sH r1 h0
    rw [Reps.ints_of h2] at h1
    exact ⟨a, ns, rfl, h1, hn, fun m hm hy => upO_int R (hg m hm hy)⟩
  refine (h1.or h2).imp fun ds q h => ?_
  unfold gMax at h
  split at h
  · exact .inl ⟨_, _, rfl, h⟩
  · exact .inr ⟨_, rfl, h⟩
  · exact h.elim
theorem bi_min (hh : T.hot = false := by rfl) : BiD T (.builtin "min") gMin := by
  have h1 : BiD T (.builtin "min") fun ds q => ∃ i j, ds = [.int i, .int j] ∧ q (.sh (.int (if j < i then j else i))) := biD_of (fun _ fx => call_min2 (fx.calm hh)) fun X fx S P av F σ H vs ds q R rx ⟨i, j, hd, hg⟩ => by
    subst hd
    obtain ⟨v, w, rfl, r1, r2⟩ := repTs2 rx
    exact ⟨i, j, by rw [repT_int r1, repT_int r2], upO_int R hg⟩
  have h2 : BiD T (.builtin "min") fun ds q => ∃ d, ds = [d] ∧ ∃ ns : List Int, lstD d = some (ns.map D.int) ∧ 0 < ns.length ∧ ∀ m, m ∈ ns → (∀ y, y ∈ ns → m ≤ y) → q (.sh (.int m)) := biD_of (fun _ fx => cr_min (fx.calm hh)) fun X fx S P av F σ H vs ds q R rx ⟨d, hd, ns, h0, hn, hg⟩ => by
    subst hd
    obtain ⟨v, rfl, r1⟩ := repTs1 rx
    obtain ⟨a, ys, rfl, h1, h2⟩ := lst_rep R.sH r1 h0
    rw [Reps.ints_of h2] at h1
    exact ⟨a, ns, rfl, h1, hn, fun m hm hy => upO_int R (hg m hm hy)⟩
  refine (h1.or h2).imp fun ds q h => ?_
  unfold gMin at h
  split at h
  · exact .inl ⟨_, _, rfl, h⟩
  · exact .inr ⟨_, rfl, h⟩
  · exact h.elim
def gSorted : GB
  | [d], q => ∃ xs, lstD d = some xs ∧ xs.length < 64 ∧ ((∃ ns : List Int, xs = ns.map D.int ∧ ∀ ns' : List Int, ns'.Perm ns → ns'.Pairwise (· ≤ ·) → q (.tmp (.lst (ns'.map D.int)))) ∨ ∃ zs : List Str, xs = zs.map D.str ∧ ∀ ys : List Str, ys.Perm zs → sortedS ys = true → q (.tmp (.lst (ys.map D.str))))
  | _, _ => False
theorem bi_sorted : BiD T (.builtin "sorted") gSorted := by
  have h1 : BiD T (.builtin "sorted") fun ds q => ∃ d, ds = [d] ∧ ∃ ns : List Int, lstD d = some (ns.map D.int) ∧ ns.length < 64 ∧ ∀ ns' : List Int, ns'.Perm ns → ns'.Pairwise (· ≤ ·) → q (.tmp (.lst (ns'.map D.int))) := biD_of (fun _ _ => cr_sorted) fun X fx S P av F σ H vs ds q R rx ⟨d, hd, ns, h0, hn, hg⟩ => by
    subst hd
    obtain ⟨v, rfl, r1⟩ := repTs1 rx
    obtain ⟨a, ys, rfl, h1, h2⟩ := lst_rep R.sH r1 h0
    rw [Reps.ints_of h2] at h1
    exact ⟨a, ns, rfl, h1, hn, fun ns' p hp ho hz => upO_lst R (hg ns' hp ho) (Reps.ints ns') hz⟩
  have h2 : BiD T (.builtin "sorted") fun ds q => ∃ d, ds = [d] ∧ ∃ ns : List Str, lstD d = some (ns.map D.str) ∧ ns.length < 64 ∧ ∀ ns' : List Str, ns'.Perm ns → sortedS ns' = true → q (.tmp (.lst (ns'.map D.str))) := biD_of (fun _ _ => cr_sortedS) fun X fx S P av F σ H vs ds q R rx ⟨d, hd, ns, h0, hn, hg⟩ => by
    subst hd
    obtain ⟨v, rfl, r1⟩ := repTs1 rx
    obtain ⟨a, ys, rfl, h1, h2⟩ := lst_rep R.sH r1 h0
    rw [Reps.strs_of h2] at h1
    exact ⟨a, ns, rfl, h1, hn, fun ns' p hp ho hz => upO_lst R (hg ns' hp ho) (Reps.strs ns') hz⟩
  refine (h1.or h2).imp fun ds q h => ?_
  unfold gSorted at h
  split at h
  · obtain ⟨xs, h0, h1, ⟨ns, rfl, h2⟩ | ⟨zs, rfl, h2⟩⟩ := h
    · exact .inl ⟨_, rfl, ns, h0, by simpa using h1, h2⟩
    · exact .inr ⟨_, rfl, zs, h0, by simpa using h1, h2⟩
  · exact h.elim

/-! ### isinstance -/
def D.tag : D → Option String
  | .non => some "NoneType"
  | .bl _ => some "bool"
  | .int _ => some "int"
  | .str _ => some "str"
  | .tup _ => some "tuple"
  | .lst _ => some "list"
  | .scr _ => some "list"
  | .dct _ _ => some "dict"
  | _ => none
theorem RepT.heap {K : PySem.W.Frag} {mg : Str → Option Value} {S S' H H' : Hp} {d : D} {v : V} (e : Ex S S') (eH : Ex H H') (h : RepT K mg S H d v) : RepT K mg S' H' d v := by
  have h := RepT.mono e h
  cases d with
  | lst ds => obtain ⟨a, vs, rfl, h1, h2⟩ := h; exact ⟨a, vs, rfl, eH a _ h1, h2⟩
  | dct ks ds => obtain ⟨a, vs, rfl, l, h1, h2⟩ := h; exact ⟨a, vs, rfl, l, eH a _ h1, h2⟩
  | ins c ns ds => obtain ⟨a, C, dx, vs, rfl, m, l, h1, h2⟩ := h; exact ⟨a, C, dx, vs, rfl, m, l, eH a _ h1, h2⟩
  | _ => exact h
theorem tyx_of {K : PySem.W.Frag} {mg : Str → Option Value} {S H : Hp} {d : D} {v : V} {t : String} (e : Ex S H) (h : RepT K mg S H d v) (ht : d.tag = some t) : TyX K H v (.type t) := by
  cases d with
  | non => cases ht; rw [repT_non h]; exact .base .non
  | bl b => cases ht; rw [repT_bl h]; exact .base (.bl b)
  | int i => cases ht; rw [repT_int h]; exact .base (.int i)
  | str s => cases ht; rw [repT_str h]; exact .base (.str s)
  | tup ds =>
    cases ht
    obtain ⟨a, vs, rfl, h1, h2⟩ := repT_tup h
    rcases e.sqT h1 with (h1 | ⟨o, h1⟩) | ⟨o, its, n, h1, h2, _⟩
    · exact .base (.tup h1)
    · exact .fTuple h1
    · exact .kTuple h1 h2
  | lst ds =>
    cases ht
    obtain ⟨a, vs, rfl, h1, h2⟩ := repT_lst h
    exact .base (.lst h1)
  | scr ns =>
    cases ht
    obtain ⟨a, rfl, h1⟩ := repT_scr h
    rcases e.sqL h1 with (h1 | ⟨o, h1⟩) | ⟨o, its, n, h1, h2, _⟩
    · exact .base (.lst h1)
    · exact .base (.frz h1)
    · exact .kList h1 h2
  | dct ks ds =>
    cases ht
    obtain ⟨a, vs, rfl, _, h1, h2⟩ := h
    exact .base (.dK h1)
  | ins c ns ds => cases ht
  | exn a cls dx c ns ds => cases ht
/-- what isinstance wants of an own class -/
structure InsTy (K : PySem.W.Frag) (C : Addr) : Prop where
  cl : Cls K C
  ha : PySem.W.findIn K (.ref C) "__class__" = some (some (.builtin "object.__class__"))
  hn : PySem.W.specialIn K (.builtin "object.__class__") "__get__" = some (some (.builtin "getset_descriptor.__get__"))
  htk : PySem.W.takesIn K (.builtin "object.__class__") = some true
  hm : PySem.W.mroIn K C (.type "object") = some true
def tagsD : List String := ["NoneType", "bool", "int", "str", "tuple", "list", "dict"]
theorem tag_mem {d : D} {t : String} (h : d.tag = some t) : t ∈ tagsD := by
  cases d <;> cases h <;> decide
/-- the answers: kb for built-in types, ki for the own classes cs -/
structure IsiD (T : Tx) (us : List Value) (kb : String → Bool) (cs : List Str) (ki : Str → Bool) : Prop where
  b : ∀ t ∈ tagsD, PySem.W.kitAny T.K (.type t) us = some (kb t)
  c : ∀ c ∈ cs, ∀ C, T.mg c = some (.ref C) → InsTy T.K C ∧ PySem.W.kitAny T.K (.ref C) us = some (ki c)
def isiK (kb : String → Bool) (cs : List Str) (ki : Str → Bool) : D → (Bool → Prop) → Prop
  | .ins c _ _, k => c ∈ cs ∧ k (ki c)
  | d, k => match d.tag with
    | some t => k (kb t)
    | none => False
theorem isi_rep {us : List Value} {kb : String → Bool} {cs : List Str} {ki : Str → Bool} {S H : Hp} {d : D} {v : V} {k : Bool → Prop} (fx : Fits T X) (I : IsiD T us kb cs ki) (e : Ex S H) (h : RepT X.K X.mg S H d v) (q : isiK kb cs ki d k) : ∃ t b, TyX X.K H v t ∧ PySem.W.kitAny X.K t us = some b ∧ k b := by
  have other : ∀ {t : String}, d.tag = some t → k (kb t) → ∃ t b, TyX X.K H v t ∧ PySem.W.kitAny X.K t us = some b ∧ k b := fun {t} ht q => ⟨_, _, tyx_of e h ht, by rw [fx.K]; exact I.b t (tag_mem ht), q⟩
  cases d with
  | ins c ns ds =>
    obtain ⟨a, C, dx, vs, rfl, hC, hl, h1, h2⟩ := h
    have hC' : T.mg c = some (.ref C) := by rw [← fx.mg]; exact hC
    obtain ⟨i, kk⟩ := I.c c q.1 C hC'
    rw [← fx.K] at i kk
    exact ⟨_, _, .base (.ins h1 i.cl i.ha i.hn i.htk i.hm), kk, q.2⟩
  | non => exact other rfl q
  | bl b => exact other rfl q
  | int b => exact other rfl q
  | str b => exact other rfl q
  | tup b => exact other rfl q
  | lst b => exact other rfl q
  | scr b => exact other rfl q
  | dct b c => exact other rfl q
  | exn a b c d f g => exact q.elim
/-- a class as a value -/
def ClsE (T : Tx) (e : Expr) (u : Value) : Prop := ∀ X, Fits T X → ∃ c, PE X e (tC c) ∧ ClsV c u
theorem cls_ty {t : String} (hg : glC T.sc x = true := by decide +kernel) (hm : T.mg x = none := by assumption) (hv : bootBuiltins x = some (.type t) := by rfl) (hn : x ≠ "__name__" := by decide +kernel) (hdb : (x == ("__debug__" : Str)) = false := by decide +kernel) : ClsE T (.Name x p) (.type t) :=
  fun X fx => ⟨.ty t, pe_bltn (gl_of fx hg) (by rw [fx.mg]; exact hm) hv rfl hn hdb, .ty t⟩
theorem cls_own {C : Addr} (hm : T.mg x = some (.ref C)) (hg : glC T.sc x = true := by decide +kernel) (hdb : (x == ("__debug__" : Str)) = false := by decide +kernel) : ClsE T (.Name x p) (.ref C) :=
  fun X fx => ⟨.ref C, pe_glob (gl_of fx hg) (by rw [fx.mg]; exact hm) rfl hdb, .own C⟩
def mIsi (kb : String → Bool) (cs : List Str) (ki : Str → Bool) (m : ME) : ME := fun F Q E => m F (fun x F1 => valK F1 x fun d => isiK kb cs ki d fun b => Q (.sh (.bl b)) F1) E
theorem kitAny_one {K : PySem.W.Frag} {t c : Value} {b : Bool} (h : PySem.W.kitAny K t [c] = some b) : PySem.W.kitOne K t c = some b := by
  unfold PySem.W.kitAny at h
  cases q : PySem.W.kitOne K t c with
  | none => rw [q] at h; cases h
  | some b' =>
    rw [q] at h
    cases b' with
    | true => exact h
    | false => exact h
theorem se_isi {ce : Expr} {c : Value} {kb : String → Bool} {cs : List Str} {ki : Str → Bool} (I : IsiD T [c] kb cs ki) (he : SE T e m) (hc : ClsE T ce c) (hg : glC T.sc "isinstance" = true := by decide +kernel) (hm : T.mg "isinstance" = none := by assumption)
    (h1 : ∀ env, starEach [e, ce] env = (false, eval e env) :: starEach [ce] env := by intros; rfl) (h2 : ∀ env, starEach [ce] env = (false, eval ce env) :: starEach [] env := by intros; rfl) (hpl : ∀ env, (backTo pos (starEach [ce] env)).any (·.1) = false := by intros; rfl) :
    SE T (.Call (.Name "isinstance" p) [e, ce] [] pos) (mIsi kb cs ki m) := fun X fx S P av F σ H Q E R q tk => by
  obtain ⟨cv, pc, kc⟩ := hc X fx
  refine tW_of (pe_callB call_isi (gl_of fx hg) (by rw [fx.mg]; exact hm) rfl (pa_cons pe_tW (pa_cons pc pa_nil (h2 X.env)) (h1 X.env)) (by decide) (by decide) (h1 X.env) (hpl X.env)) ?_
  refine tW_mono (he X fx S P av F σ H _ E R q tk) fun x H1 ⟨S1, F1, ev1, q1, e1, R1, k1⟩ => ?_
  obtain ⟨d, q2, t1⟩ := R1.val k1 q1
  obtain ⟨t, b, ty, hk, q3⟩ := isi_rep fx I R1.sH t1 q2
  exact ⟨x, cv, t, c, b, rfl, kc, ty, kitAny_one hk, S1, F1, _, q3, e1, R1, by show Rep _ _ _ _ _; unfold Rep; rfl⟩
theorem se_isi2 {ca cb : Expr} {a b : Value} {kb : String → Bool} {cs : List Str} {ki : Str → Bool} {k2 : Nat} {p2 : Pos} (I : IsiD T [a, b] kb cs ki) (he : SE T e m) (ha : ClsE T ca a) (hb : ClsE T cb b) (hg : glC T.sc "isinstance" = true := by decide +kernel) (hm : T.mg "isinstance" = none := by assumption)
    (h1 : ∀ env, starEach [e, .Tuple [ca, cb] k2 p2] env = (false, eval e env) :: starEach [.Tuple [ca, cb] k2 p2] env := by intros; rfl) (h2 : ∀ env, starEach [.Tuple [ca, cb] k2 p2] env = (false, eval (.Tuple [ca, cb] k2 p2) env) :: starEach [] env := by intros; rfl) (hpl : ∀ env, (backTo pos (starEach [.Tuple [ca, cb] k2 p2] env)).any (·.1) = false := by intros; rfl)
    (h3 : ∀ env, starEach [ca, cb] env = (false, eval ca env) :: starEach [cb] env := by intros; rfl) (h4 : ∀ env, starEach [cb] env = (false, eval cb env) :: starEach [] env := by intros; rfl) :
    SE T (.Call (.Name "isinstance" p) [e, .Tuple [ca, cb] k2 p2] [] pos) (mIsi kb cs ki m) := fun X fx S P av F σ H Q E R q tk => by
  obtain ⟨va, pa, ka⟩ := ha X fx
  obtain ⟨vb, pb, kb'⟩ := hb X fx
  refine tW_of (pe_callB call_isiT (gl_of fx hg) (by rw [fx.mg]; exact hm) rfl (pa_cons pe_tW (pa_cons (pe_tup (pa_cons pa (pa_cons pb pa_nil (h4 X.env)) (h3 X.env))) pa_nil (h2 X.env)) (h1 X.env)) (by decide) (by decide) (h1 X.env) (hpl X.env)) ?_
  refine tW_mono (he X fx S P av F σ H _ E R q tk) fun x H1 ⟨S1, F1, ev1, q1, e1, R1, k1⟩ => ?_
  obtain ⟨d, q2, t1⟩ := R1.val k1 q1
  obtain ⟨t, b, ty, hk, q3⟩ := isi_rep fx I R1.sH t1 q2
  refine ⟨by show 2 ≤ sizeLine; decide, fun tp hp => ?_⟩
  obtain ⟨e2, R2⟩ := R1.newSh hp (.tup [va, vb])
  obtain ⟨t', b', ty', hk', q3'⟩ := isi_rep fx I R2.sH (H := upd H1 tp (.tup [va, vb])) (S := upd S1 tp (.tup [va, vb])) (d := d) (v := x) (RepT.heap e2 (Ex.new hp) t1) q2
  exact ⟨x, tp, _, t', _, b', rfl, upd_same, .cons ka (.cons kb' .nil), ty', hk', _, F1, _, q3', e1.trans e2, R2, by show Rep _ _ _ _ _; unfold Rep; rfl⟩
end
end HD
set_option Elab.async false
set_option linter.all false
set_option maxRecDepth 100000
set_option maxHeartbeats 4000000
/-! HD, part 17: methods of built-in types; stores to subscripts and attributes; op=; while. -/
namespace HD
open PySem PySem.Spec PyProof.Rows L2

def rM (X : Cx) (id : String) : V → List V → Hp → VK → Prop := fun x vs H Q => ∀ (pins : List (Addr × Obj)) (s : Shared) (σ : L2.St) (v : Value) (us : List Value), Inv X pins σ H s → RelV x v → Vals vs us → wpAny (model X.prog X.w) X.A (call (.builtin id) (v :: us)) (EP X pins σ Q) X.xe s
theorem rM_mono {X : Cx} {id : String} {x : V} {vs : List V} {H : Hp} {Q Q' : VK} (h : rM X id x vs H Q) (m : ∀ v H', Q v H' → Q' v H') : rM X id x vs H Q' := fun pins s σ v us I r1 r2 =>
  thn (h pins s σ v us I r1 r2) fun v s' ⟨x, H', I', r, q⟩ => ⟨x, H', I', r, m x H' q⟩
theorem mtM_rM {X : Cx} {id : String} : MtR X id (rM X id) := fun pins s σ H x xs v us Q I r1 r2 h => h pins s σ v us I r1 r2
abbrev GM := D → List D → (Ev → Prop) → Prop
/-- a method that changes nothing -/
def RdD (T : Tx) (id : String) (g : GM) : Prop := ∀ (X : Cx), Fits T X → ∀ (S P : Hp) (av : List V) (F : Fr) (σ : L2.St) (H : Hp) (v : V) (vs : List V) (d : D) (ds : List D) (q : Ev → Prop), Rel X.K X.mg S P av F σ H → RepT X.K X.mg S H d v → RepTs X.K X.mg S H ds vs → g d ds q → rM X id v vs H (UpO X S P av F σ q)
abbrev GL := List D → List D → (List D → D → Prop) → Prop
/-- a method that changes its list -/
def MuD (T : Tx) (id : String) (g : GL) : Prop := ∀ (X : Cx), Fits T X → ∀ (S H : Hp) (l : Addr) (vs as : List V) (ds es : List D) (k : List D → D → Prop) (Q : VK), Ex S H → H l = some (.lst vs) → Reps X.K X.mg S ds vs → Reps X.K X.mg S es as → g ds es k →
  (∀ ys v ds' d, Reps X.K X.mg S ds' ys → Rep X.K X.mg S d v → k ds' d → Q v (upd H l (.lst ys))) → rM X id (.ref l) as H Q
def tyD (ty : String) : D → Bool
  | .str _ => ty == "str"
  | .lst _ => ty == "list"
  | .scr _ => ty == "list"
  | .dct _ _ => ty == "dict"
  | _ => false
theorem tyD_is {K : PySem.W.Frag} {mg : Str → Option Value} {S H : Hp} {d : D} {v : V} {ty : String} (e : Ex S H) (h : RepT K mg S H d v) (ht : tyD ty d = true) : tyV K ty v H := by
  cases d with
  | str s => rw [repT_str h]; exact eq_of_beq ht
  | lst ds => obtain ⟨a, vs, rfl, h1, h2⟩ := repT_lst h; exact .inl ⟨eq_of_beq ht, vs, SqL.of h1⟩
  | scr ds => obtain ⟨a, rfl, h1⟩ := repT_scr h; exact .inl ⟨eq_of_beq ht, _, e.sqL h1⟩
  | dct ks ds => obtain ⟨a, vs, rfl, l, h1, h2⟩ := h; exact .inr (.inr (.inl ⟨eq_of_beq ht, .inl ⟨_, h1⟩⟩))
  | _ => cases ht
/-- the thing at a place -/
def celKs (i : Nat) : Option (Option Sv) → (Cel → Pl → Prop) → Prop
  | some (some (.own c)), k => k c (.inl i)
  | _, _ => False
def celKa (j : Nat) : Option Cel → (Cel → Pl → Prop) → Prop
  | some c, k => k c (.inr j)
  | none, _ => False
def celK (F : Fr) : Ev → (Cel → Pl → Prop) → Prop
  | .sl i, k => celKs i F.sl[i]? k
  | .ar j, k => celKa j F.ar[j]? k
  | _, _ => False
theorem Rel.celEv {K : PySem.W.Frag} {mg : Str → Option Value} {S P H : Hp} {av : List V} {F : Fr} {σ : L2.St} {v : V} {x : Ev} {k : Cel → Pl → Prop} (R : Rel K mg S P av F σ H) (h : EvOk K mg S P av F σ H v (HD.hold x)) (q : celK F x k) : ∃ c p, k c p ∧ F.at p = some c ∧ vAt σ av p = some v := by
  cases x with
  | sl i =>
    have h : σ[i]? = some (some v) := h
    have q : celKs i F.sl[i]? k := q
    match hs : F.sl[i]?, q with
    | some (some (.own c)), q => exact ⟨c, .inl i, q, by show celOf F.sl[i]? = _; rw [hs]; rfl, by show vOf σ[i]? = _; rw [h]; rfl⟩
  | ar j =>
    have q : celKa j F.ar[j]? k := q
    match hs : F.ar[j]?, q with
    | some c, q => exact ⟨c, .inr j, q, hs, h⟩
  | sh d => exact q.elim
  | tmp c => exact q.elim
def lstC : Cel → (List D → Prop) → Prop
  | .lst xs, k => k xs
  | _, _ => False
/-- the object of a list at a place changes -/
theorem Rel.putLst {K : PySem.W.Frag} {mg : Str → Option Value} {S P H : Hp} {av : List V} {F : Fr} {σ : L2.St} {p : Pl} {ds ds' : List D} {ys : List V} {a : Addr} (R : Rel K mg S P av F σ H) (hp : F.at p = some (.lst ds)) (hv : vAt σ av p = some (.ref a)) (h : Reps K mg S ds' ys) :
    Rel K mg S P av (F.put (.lst ds') p) σ (upd H a (.lst ys)) :=
  R.put hp rfl hv (fun b o hb ho => by rw [upd_ne hb]; exact ho) upd_same ⟨ys, rfl, h⟩
section
variable {T : Tx} {X : Cx} {g : GM} {gl : GL} {pos apos p : Pos} {o e : Expr} {es : List Expr} {m mo mi mv me : ME} {ms : MA} {name : Str} {bid ty : String}
def mRd (ty : String) (g : GM) (mo : ME) (ms : MA) : ME := fun F Q E => mo F (fun x F1 => (valK F1 x fun d => tyD ty d = true) ∧ ms F1 (fun xs F2 => valK F2 (hold x) fun d => valsK F2 (xs.map hold) fun ds => g d ds fun r => Q r F2) E) E
def mMu (gl : GL) (mo : ME) (ms : MA) : ME := fun F Q E => mo F (fun x F1 => (valK F1 x fun d => tyD "list" d = true) ∧ ms F1 (fun xs F2 => frzAll F2 (xs.map hold) fun es F3 => celK F3 (hold x) fun c p => lstC c fun ds => gl ds es fun ds' d => Q (.sh d) (F3.put (.lst ds') p)) E) E
theorem rd_run (fx : Fits T X) (hm : RdD T bid g) (ho : SE T o mo) (ha : SA T es ms) {S P : Hp} {av : List V} {F : Fr} {σ : L2.St} {H : Hp} {Q : Ev → Fr → Prop} {E : EX} (R : Rel X.K X.mg S P av F σ H) (q : mRd ty g mo ms F Q E) (tk : Takes X (UpX X S P av E)) :
    tW X o σ H fun x H1 => tyV X.K ty x H1 ∧ tWA X es σ H1 fun vs H2 => rM X bid x vs H2 (UpE X S P av σ Q) := by
  refine tW_mono (ho X fx S P av F σ H _ E R q tk) fun v H1 ⟨S1, F1, ev, ⟨q1, q2⟩, e1, R1, k1⟩ => ?_
  obtain ⟨d, hd, t1⟩ := R1.val k1 q1
  refine ⟨tyD_is R1.sH t1 hd, ?_⟩
  obtain ⟨S1', e1', R1', k1'⟩ := R1.hold k1
  refine tWA_mono (ha X fx S1' P av F1 σ H1 _ E R1' q2 (takes_mono (e1.trans e1') tk)) fun vs H2 ⟨S2, F2, xs, q3, e2, R2, k2⟩ => ?_
  obtain ⟨d2, q4, t2⟩ := R2.val (EvOk.held e2 k1') q3
  obtain ⟨ds, q5, t3⟩ := R2.vals (k := fun _ => True) k2 q4
  exact rM_mono (hm X fx S2 P av F2 σ H2 v vs d2 ds _ R2 t2 t3 q5) fun v H3 ⟨S3, ev, q6, e3, R3, k3⟩ => ⟨S3, F2, ev, q6, e1.trans (e1'.trans (e2.trans e3)), R3, k3⟩
theorem map_hold : ∀ xs : List Ev, (xs.map hold).map hold = xs.map hold
  | [] => rfl
  | x :: xs => by simp only [List.map_cons, hold_hold, map_hold xs]
theorem evsOk_hold {K : PySem.W.Frag} {mg : Str → Option Value} {S P H : Hp} {av : List V} {F : Fr} {σ : L2.St} : ∀ {vs : List V} {xs : List Ev}, EvsOk K mg S P av F σ H vs xs → EvsOk K mg S P av F σ H vs (xs.map hold)
  | [], [], h => trivial
  | v :: vs, x :: xs, h => ⟨by rw [hold_hold]; exact h.1, evsOk_hold h.2⟩
theorem mu_run (fx : Fits T X) (hm : MuD T bid gl) (ho : SE T o mo) (ha : SA T es ms) {S P : Hp} {av : List V} {F : Fr} {σ : L2.St} {H : Hp} {Q : Ev → Fr → Prop} {E : EX} (R : Rel X.K X.mg S P av F σ H) (q : mMu gl mo ms F Q E) (tk : Takes X (UpX X S P av E)) :
    tW X o σ H fun x H1 => tyV X.K "list" x H1 ∧ tWA X es σ H1 fun vs H2 => rM X bid x vs H2 (UpE X S P av σ Q) := by
  refine tW_mono (ho X fx S P av F σ H _ E R q tk) fun v H1 ⟨S1, F1, ev, ⟨q1, q2⟩, e1, R1, k1⟩ => ?_
  obtain ⟨d, hd, t1⟩ := R1.val k1 q1
  refine ⟨tyD_is R1.sH t1 hd, ?_⟩
  obtain ⟨S1', e1', R1', k1'⟩ := R1.hold k1
  refine tWA_mono (ha X fx S1' P av F1 σ H1 _ E R1' q2 (takes_mono (e1.trans e1') tk)) fun vs H2 ⟨S2, F2, xs, q3, e2, R2, k2⟩ => ?_
  obtain ⟨S3, F3, es', q4, e3, R3, r3⟩ := Rel.frzEvs (k := fun _ _ => True) R2 (evsOk_hold k2) q3
  have k1'' : EvOk X.K X.mg S3 P av F3 σ H2 v (hold ev) := EvOk.held (e2.trans e3) k1'
  obtain ⟨c, p, q5, hp, hv⟩ := R3.celEv (x := hold ev) (by rw [hold_hold]; exact k1'') q4
  match c, q5, hp with
  | .lst ds, q5, hp =>
    obtain ⟨a, h1, s0, p0, o, h2, vs2, rfl, h3⟩ := R3.ownAt hp rfl
    rw [hv] at h1
    cases h1
    exact hm X fx S3 H2 a vs2 vs ds es' _ _ R3.sH h2 h3 r3 q5 fun ys v ds' d r4 r5 q6 => ⟨S3, _, .sh d, q6, e1.trans (e1'.trans (e2.trans e3)), R3.putLst hp hv r4, r5⟩
theorem se_rd (pa : PlainAttrs ty) (slot : Slot ty name bid) (hty : typeOf (.builtin bid) = pure (.type "method_descriptor")) (hm : RdD T bid g) (ho : SE T o mo) (ha : SA T (e :: es) ms) (hbase : ∀ env, attributeBase o name env (eval o env) = eval o env := by intros; rfl)
    (hfew : ∀ env, ((backTo pos (starEach (e :: es) env)).all (fun x => !x.1) && (backToKw pos (keywordEach [] env)).all (fun x => x.1.isSome) && decide ((e :: es).length + ([] : List Keyword).length + (if ([] : List Keyword).isEmpty then 0 else 1) < 30)) = true := by intros; rfl)
    (hline : (apos.endLine == pos.line) = true := by rfl) (hs : ∀ env, starEach (e :: es) env = (false, eval e env) :: starEach es env := by intros; rfl) (hpl : ∀ env, (backTo pos (starEach es env)).any (·.1) = false := by intros; rfl) :
    SE T (.Call (.Attribute o name apos) (e :: es) [] pos) (mRd ty g mo ms) := fun X fx S P av F σ H Q E R q tk =>
  tW_of (pe_bm pa slot hty mtM_rM pe_tW pa_tWA (hbase X.env) (hfew X.env) hline (hs X.env) (hpl X.env)) (rd_run fx hm ho ha R q tk)
def mRd0 (ty : String) (g : GM) (mo : ME) : ME := fun F Q E => mo F (fun x F1 => valK F1 x fun d => tyD ty d = true ∧ g d [] fun r => Q r F1) E
def mMu0 (gl : GL) (mo : ME) : ME := fun F Q E => mo F (fun x F1 => celK F1 (hold x) fun c p => lstC c fun ds => gl ds [] fun ds' d => Q (.sh d) (F1.put (.lst ds') p)) E
theorem rd_run0 (fx : Fits T X) (hm : RdD T bid g) (ho : SE T o mo) {S P : Hp} {av : List V} {F : Fr} {σ : L2.St} {H : Hp} {Q : Ev → Fr → Prop} {E : EX} (R : Rel X.K X.mg S P av F σ H) (q : mRd0 ty g mo F Q E) (tk : Takes X (UpX X S P av E)) :
    tW X o σ H fun x H1 => tyV X.K ty x H1 ∧ rM X bid x [] H1 (UpE X S P av σ Q) := by
  refine tW_mono (ho X fx S P av F σ H _ E R q tk) fun v H1 ⟨S1, F1, ev, q1, e1, R1, k1⟩ => ?_
  obtain ⟨d, ⟨hd, q2⟩, t1⟩ := R1.val k1 q1
  exact ⟨tyD_is R1.sH t1 hd, rM_mono (hm X fx S1 P av F1 σ H1 v [] d [] _ R1 t1 rfl q2) fun v H3 ⟨S3, ev, q6, e3, R3, k3⟩ => ⟨S3, F1, ev, q6, e1.trans e3, R3, k3⟩⟩
theorem mu_run0 (fx : Fits T X) (hm : MuD T bid gl) (ho : SE T o mo) {S P : Hp} {av : List V} {F : Fr} {σ : L2.St} {H : Hp} {Q : Ev → Fr → Prop} {E : EX} (R : Rel X.K X.mg S P av F σ H) (q : mMu0 gl mo F Q E) (tk : Takes X (UpX X S P av E)) :
    tW X o σ H fun x H1 => tyV X.K "list" x H1 ∧ rM X bid x [] H1 (UpE X S P av σ Q) := by
  refine tW_mono (ho X fx S P av F σ H _ E R q tk) fun v H1 ⟨S1, F1, ev, q1, e1, R1, k1⟩ => ?_
  obtain ⟨S1', e1', R1', k1'⟩ := R1.hold k1
  obtain ⟨c, p, q5, hp, hv⟩ := R1'.celEv (x := hold ev) (by rw [hold_hold]; exact k1') q1
  match c, q5, hp with
  | .lst ds, q5, hp =>
    obtain ⟨a, h1, s0, p0, o, h2, vs2, rfl, h3⟩ := R1'.ownAt hp rfl
    rw [hv] at h1
    cases h1
    exact ⟨.inl ⟨rfl, vs2, SqL.of h2⟩, hm X fx S1' H1 a vs2 [] ds [] _ _ R1'.sH h2 h3 Reps.nil q5 fun ys v ds' d r4 r5 q6 => ⟨S1', _, .sh d, q6, e1.trans e1', R1'.putLst hp hv r4, r5⟩⟩
theorem se_rd0 (pa : PlainAttrs ty) (slot : Slot ty name bid) (hty : typeOf (.builtin bid) = pure (.type "method_descriptor")) (hm : RdD T bid g) (ho : SE T o mo) (hbase : ∀ env, attributeBase o name env (eval o env) = eval o env := by intros; rfl) (hline : (apos.endLine == pos.line) = true := by rfl) :
    SE T (.Call (.Attribute o name apos) [] [] pos) (mRd0 ty g mo) := fun X fx S P av F σ H Q E R q tk =>
  tW_of (pe_bm0 pa slot hty mtM_rM pe_tW (hbase X.env) hline) (rd_run0 fx hm ho R q tk)
theorem se_mu0 (pa : PlainAttrs "list") (slot : Slot "list" name bid) (hty : typeOf (.builtin bid) = pure (.type "method_descriptor")) (hm : MuD T bid gl) (ho : SE T o mo) (hbase : ∀ env, attributeBase o name env (eval o env) = eval o env := by intros; rfl) (hline : (apos.endLine == pos.line) = true := by rfl) :
    SE T (.Call (.Attribute o name apos) [] [] pos) (mMu0 gl mo) := fun X fx S P av F σ H Q E R q tk =>
  tW_of (pe_bm0 pa slot hty mtM_rM pe_tW (hbase X.env) hline) (mu_run0 fx hm ho R q tk)
theorem se_mu (pa : PlainAttrs "list") (slot : Slot "list" name bid) (hty : typeOf (.builtin bid) = pure (.type "method_descriptor")) (hm : MuD T bid gl) (ho : SE T o mo) (ha : SA T (e :: es) ms) (hbase : ∀ env, attributeBase o name env (eval o env) = eval o env := by intros; rfl)
    (hfew : ∀ env, ((backTo pos (starEach (e :: es) env)).all (fun x => !x.1) && (backToKw pos (keywordEach [] env)).all (fun x => x.1.isSome) && decide ((e :: es).length + ([] : List Keyword).length + (if ([] : List Keyword).isEmpty then 0 else 1) < 30)) = true := by intros; rfl)
    (hline : (apos.endLine == pos.line) = true := by rfl) (hs : ∀ env, starEach (e :: es) env = (false, eval e env) :: starEach es env := by intros; rfl) (hpl : ∀ env, (backTo pos (starEach es env)).any (·.1) = false := by intros; rfl) :
    SE T (.Call (.Attribute o name apos) (e :: es) [] pos) (mMu gl mo ms) := fun X fx S P av F σ H Q E R q tk =>
  tW_of (pe_bm pa slot hty mtM_rM pe_tW pa_tWA (hbase X.env) (hfew X.env) hline (hs X.env) (hpl X.env)) (mu_run fx hm ho ha R q tk)

/-! ### what they do -/
theorem muD_of {r : V → List V → Hp → VK → Prop} (ho : ∀ X, MtR X bid r) (h : ∀ (X : Cx) (S H : Hp) (l : Addr) (vs as : List V) (ds es : List D) (k : List D → D → Prop) (Q : VK), Ex S H → H l = some (.lst vs) → Reps X.K X.mg S ds vs → Reps X.K X.mg S es as → gl ds es k →
    (∀ ys v ds' d, Reps X.K X.mg S ds' ys → Rep X.K X.mg S d v → k ds' d → Q v (upd H l (.lst ys))) → r (.ref l) as H Q) : MuD T bid gl :=
  fun X fx S H l vs as ds es k Q e hl r1 r2 q kk pins s σ v us I rx ra => ho X pins s σ H (.ref l) as v us Q I rx ra (h X S H l vs as ds es k Q e hl r1 r2 q kk)
theorem Reps.one_of {K : PySem.W.Frag} {mg : Str → Option Value} {S : Hp} {d : D} {vs : List V} (h : Reps K mg S [d] vs) : ∃ v, vs = [v] ∧ Rep K mg S d v := by
  obtain ⟨v, r, rfl, h1, h2⟩ := h.cons_of
  cases h2.nil_of
  exact ⟨v, rfl, h1⟩
theorem Reps.two_of {K : PySem.W.Frag} {mg : Str → Option Value} {S : Hp} {d e : D} {vs : List V} (h : Reps K mg S [d, e] vs) : ∃ v w, vs = [v, w] ∧ Rep K mg S d v ∧ Rep K mg S e w := by
  obtain ⟨v, r, rfl, h1, h2⟩ := h.cons_of
  obtain ⟨w, rfl, h3⟩ := h2.one_of
  exact ⟨v, w, rfl, h1, h3⟩
theorem repN {K : PySem.W.Frag} {mg : Str → Option Value} {S : Hp} : Rep K mg S .non .non := by unfold Rep; rfl
def lAppend : GL
  | ds, [d], k => ds.length < sizeLine ∧ k (ds ++ [d]) .non
  | _, _, _ => False
theorem mu_append : MuD T "list.append" lAppend := muD_of (fun X => mt_append) fun X S H l vs as ds es k Q e hl r1 r2 q kk => by
  match es, q with
  | [d], ⟨hz, q⟩ =>
    obtain ⟨v, rfl, rv⟩ := r2.one_of
    exact ⟨l, vs, v, rfl, rfl, hl, by rw [← r1.len]; exact hz, kk _ _ _ _ (r1.app (Reps.cons rv Reps.nil)) repN q⟩
def lExtend : GL
  | ds, [.lst es], k => ds.length + es.length ≤ sizeLine ∧ k (ds ++ es) .non
  | _, _, _ => False
theorem mu_extend : MuD T "list.extend" lExtend := muD_of (fun X => mt_extend) fun X S H l vs as ds es k Q e hl r1 r2 q kk => by
  match es, q with
  | [.lst es'], ⟨hz, q⟩ =>
    obtain ⟨v, rfl, rv⟩ := r2.one_of
    unfold Rep at rv
    obtain ⟨b, zs, rfl, hb, rz⟩ := rv
    exact ⟨l, b, vs, zs, rfl, rfl, hl, e b _ hb, by rw [← r1.len, ← rz.len]; exact hz, kk _ _ _ _ (r1.app rz) repN q⟩
def lInsert : GL
  | ds, [.int i, d], k => ds.length < sizeLine ∧ 0 ≤ i ∧ i < 2 ^ 63 ∧ k (ds.take i.toNat ++ [d] ++ ds.drop i.toNat) .non
  | _, _, _ => False
theorem mu_insert : MuD T "list.insert" lInsert := muD_of (fun X => mt_insert) fun X S H l vs as ds es k Q e hl r1 r2 q kk => by
  match es, q with
  | [.int i, d], ⟨hz, h0, h1, q⟩ =>
    obtain ⟨v, w, rfl, rv, rw'⟩ := r2.two_of
    unfold Rep at rv
    subst rv
    exact ⟨l, vs, i, w, rfl, rfl, hl, by rw [← r1.len]; exact hz, h0, h1, kk _ _ _ _ (((r1.take i.toNat).app (Reps.cons rw' Reps.nil)).app (r1.drop i.toNat)) repN q⟩
def lPop : GL
  | ds, [], k => ∃ d, ds[ds.length - 1]? = some d ∧ k ds.dropLast d
  | ds, [.int i], k => -(2 ^ 63) ≤ i ∧ i < 2 ^ 63 ∧ ∃ j d, seqIndex? i ds.length = some j ∧ ds[j]? = some d ∧ k (ds.eraseIdx j) d
  | _, _, _ => False
theorem Reps.dropLast {K : PySem.W.Frag} {mg : Str → Option Value} {S : Hp} {ds : List D} {vs : List V} (h : Reps K mg S ds vs) : Reps K mg S ds.dropLast vs.dropLast := by
  rw [List.dropLast_eq_take, List.dropLast_eq_take, h.len]
  exact h.take _
theorem mu_pop : MuD T "list.pop" lPop := fun X fx S H l vs as ds es k Q e hl r1 r2 q kk pins s σ v us I rx ra => by
  match es, q with
  | [], ⟨d, hd, q⟩ =>
    cases r2.nil_of
    obtain ⟨y, hy, ry⟩ := r1.get hd
    exact mt_pop pins s σ H (.ref l) [] v us Q I rx ra ⟨l, vs, y, rfl, rfl, hl, by rw [← r1.len]; exact hy, kk _ _ _ _ r1.dropLast ry q⟩
  | [.int i], ⟨h1, h2, j, d, hj, hd, q⟩ =>
    obtain ⟨w, rfl, rw'⟩ := r2.one_of
    unfold Rep at rw'
    subst rw'
    obtain ⟨y, hy, ry⟩ := r1.get hd
    exact mt_popAt pins s σ H (.ref l) [.int i] v us Q I rx ra ⟨l, vs, i, j, y, rfl, rfl, hl, h1, h2, by rw [← r1.len]; exact hj, hy, kk _ _ _ _ (r1.erase j) ry q⟩
def lClear : GL
  | _, [], k => k [] .non
  | _, _, _ => False
theorem mu_clear : MuD T "list.clear" lClear := muD_of (fun X => mt_clear) fun X S H l vs as ds es k Q e hl r1 r2 q kk => by
  match es, q with
  | [], q => cases r2.nil_of; exact ⟨l, vs, rfl, rfl, hl, kk _ _ _ _ Reps.nil repN q⟩
def lReverse : GL
  | ds, [], k => k ds.reverse .non
  | _, _, _ => False
theorem mu_reverse : MuD T "list.reverse" lReverse := muD_of (fun X => mt_reverse) fun X S H l vs as ds es k Q e hl r1 r2 q kk => by
  match es, q with
  | [], q => cases r2.nil_of; exact ⟨l, vs, rfl, rfl, hl, kk _ _ _ _ r1.rev repN q⟩
def lSort : GL
  | ds, [], k => ∃ ns : List Int, ds = ns.map D.int ∧ ns.length < 64 ∧ ∀ ns' : List Int, ns'.Perm ns → ns'.Pairwise (· ≤ ·) → k (ns'.map D.int) .non
  | _, _, _ => False
theorem mu_sort : MuD T "list.sort" lSort := muD_of (fun X => mt_sort) fun X S H l vs as ds es k Q e hl r1 r2 q kk => by
  match es, q with
  | [], ⟨ns, hd, hn, q2⟩ =>
    cases r2.nil_of
    rw [hd] at r1
    rw [Reps.ints_of r1] at hl
    exact ⟨l, ns, rfl, rfl, hl, hn, fun ns' hp ho => kk _ _ _ _ (Reps.ints ns') repN (q2 ns' hp ho)⟩
theorem rdD_of {r : Cx → V → List V → Hp → VK → Prop} (ho : ∀ X, MtR X bid (r X)) (h : ∀ (X : Cx) (S P : Hp) (av : List V) (F : Fr) (σ : L2.St) (H : Hp) (v : V) (vs : List V) (d : D) (ds : List D) (q : Ev → Prop), Rel X.K X.mg S P av F σ H → RepT X.K X.mg S H d v → RepTs X.K X.mg S H ds vs → g d ds q → r X v vs H (UpO X S P av F σ q)) : RdD T bid g :=
  fun X fx S P av F σ H v vs d ds q R r1 r2 hq pins s σ' u us I ra rb => ho X pins s σ' H v vs u us _ I ra rb (h X S P av F σ H v vs d ds q R r1 r2 hq)
def sJoin : GM
  | .str a, [d], q => ∃ ys : List Str, seqD d = some (ys.map D.str) ∧ (ys.map (·.length)).sum + ys.length * a.length ≤ 16777216 ∧ q (.sh (.str (Txt.join a ys)))
  | _, _, _ => False
theorem rd_join : RdD T "str.join" sJoin := rdD_of (fun X => mt_join) fun X S P av F σ H v vs d ds q R r1 r2 hq => by
  unfold sJoin at hq
  split at hq
  · obtain ⟨ys, h1, h2, h3⟩ := hq
    obtain ⟨w, rfl, r3⟩ := repTs1 r2
    obtain ⟨p, zs, rfl, hz, rz⟩ := seq_rep R.sH r3 h1
    rw [Reps.strs_of rz] at hz
    exact ⟨_, p, ys, repT_str r1, rfl, hz, h2, upO_str R h3⟩
  · exact hq.elim
def sCount : GM
  | .str a, [.str b], q => q (.sh (.int (Txt.count a b)))
  | _, _, _ => False
theorem rd_count : RdD T "str.count" sCount := rdD_of (fun X => mt_count) fun X S P av F σ H v vs d ds q R r1 r2 hq => by
  unfold sCount at hq
  split at hq
  · obtain ⟨w, rfl, r3⟩ := repTs1 r2
    exact ⟨_, _, repT_str r1, by rw [repT_str r3], upO_int R hq⟩
  · exact hq.elim
def sFind : GM
  | .str a, [.str b], q => q (.sh (.int (Txt.find a b)))
  | _, _, _ => False
theorem rd_find : RdD T "str.find" sFind := rdD_of (fun X => mt_find) fun X S P av F σ H v vs d ds q R r1 r2 hq => by
  unfold sFind at hq
  split at hq
  · obtain ⟨w, rfl, r3⟩ := repTs1 r2
    exact ⟨_, _, repT_str r1, by rw [repT_str r3], upO_int R hq⟩
  · exact hq.elim
def sStarts : GM
  | .str a, [.str b], q => q (.sh (.bl (Txt.startswith a b)))
  | _, _, _ => False
theorem rd_starts : RdD T "str.startswith" sStarts := rdD_of (fun X => mt_startswith) fun X S P av F σ H v vs d ds q R r1 r2 hq => by
  unfold sStarts at hq
  split at hq
  · obtain ⟨w, rfl, r3⟩ := repTs1 r2
    exact ⟨_, _, repT_str r1, by rw [repT_str r3], upO_bl R hq⟩
  · exact hq.elim
def sEnds : GM
  | .str a, [.str b], q => q (.sh (.bl (Txt.endswith a b)))
  | _, _, _ => False
theorem rd_ends : RdD T "str.endswith" sEnds := rdD_of (fun X => mt_endswith) fun X S P av F σ H v vs d ds q R r1 r2 hq => by
  unfold sEnds at hq
  split at hq
  · obtain ⟨w, rfl, r3⟩ := repTs1 r2
    exact ⟨_, _, repT_str r1, by rw [repT_str r3], upO_bl R hq⟩
  · exact hq.elim
def sIsdigit : GM
  | .str a, [], q => q (.sh (.bl (Txt.isdigit a)))
  | _, _, _ => False
theorem rd_isdigit : RdD T "str.isdigit" sIsdigit := rdD_of (fun X => mt_isdigit) fun X S P av F σ H v vs d ds q R r1 r2 hq => by
  unfold sIsdigit at hq
  split at hq
  · cases r2
    exact ⟨_, repT_str r1, rfl, trivial, upO_bl R hq⟩
  · exact hq.elim
def sStrip : GM
  | .str a, [], q => a.length ≤ sizeLine ∧ q (.sh (.str (Txt.strip a)))
  | _, _, _ => False
theorem rd_strip : RdD T "str.strip" sStrip := rdD_of (fun X => mt_strip) fun X S P av F σ H v vs d ds q R r1 r2 hq => by
  unfold sStrip at hq
  split at hq
  · cases r2
    exact ⟨_, repT_str r1, rfl, hq.1, upO_str R hq.2⟩
  · exact hq.elim
def strNew (xs : List Str) (q : Ev → Prop) : Prop := q (.tmp (.lst (xs.map D.str)))
def sSplit : GM
  | .str a, [.str b], q => (b.length == 0) = false ∧ a.length + 2 ≤ sizeLine ∧ strNew (Txt.split a b) q
  | .str a, [], q => a.length + 2 ≤ sizeLine ∧ strNew (Txt.words a) q
  | _, _, _ => False
end
end HD
set_option Elab.async false
set_option linter.all false
set_option maxRecDepth 100000
set_option maxHeartbeats 4000000
/-! HD, part 18: stores to subscripts and attributes; op=; while; methods of own classes, new instances. -/
namespace HD
open PySem PySem.Spec PyProof.Rows L2

theorem takes_noE {X : Cx} {S P : Hp} {av : List V} : Takes X (UpX X S P av noE) := takes0.imp fun _ _ _ _ ⟨_, _, _, q, _⟩ => q
section
variable {T : Tx} {X : Cx} {pos apos p pos' tpos : Pos} {o i e : Expr} {es : List Expr} {m mo mi mv me : ME} {ms mk : MA} {mb : MS} {nc : MT} {name x : Str}

/-! ### o[i] = v -/
def ixC : Cel → D → D → (Cel → Prop) → Prop
  | .lst xs, .int i, d, k => ∃ j, ixN xs.length i = some j ∧ k (.lst (xs.set j d))
  | _, _, _, _ => False
def dSub (mo mi : ME) : MG := fun d F Q => mo F (fun x F1 => mi F1 (fun y F2 => valK F2 y fun iv => celK F2 (hold x) fun c p => ixC c iv d fun c' => Q (F2.put c' p)) noE) noE
theorem sg_sub (ho : SE T o mo) (hi : SE T i mi)
    (ha : ∀ env v, assign (.Subscript o i pos) env v = (do
      let ov ← holding [v] (eval o env)
      let iv ← holding [v, ov] (eval i env)
      standAt pos
      holding [v, ov, iv] (setItem ov iv v)
      release [v, ov, iv] []) := by intros; rfl) : SG T (.Subscript o i pos) [] (dSub mo mi) := fun X fx S P av F σ H d v Q R r q => by
  refine tWG_of (pg_sub pe_tW pe_tW set_list (ha X.env)) (tW_mono (ho X fx S P av F σ H _ noE R q takes_noE) fun x H1 ⟨S1, F1, ev1, q1, e1, R1, k1⟩ => ?_)
  obtain ⟨S1', e1', R1', k1'⟩ := R1.hold k1
  refine tW_mono (hi X fx S1' P av F1 σ H1 _ noE R1' q1 takes_noE) fun y H2 ⟨S2, F2, ev2, q2, e2, R2, k2⟩ => ?_
  obtain ⟨iv, q3, t3⟩ := R2.val k2 q2
  obtain ⟨c, p, q4, hp, hv⟩ := R2.celEv (x := hold ev1) (by rw [hold_hold]; exact EvOk.held e2 k1') q3
  match c, iv, q4, hp, t3 with
  | .lst xs, .int n, ⟨j, hj, q5⟩, hp, t3 =>
    obtain ⟨a, h1, s0, p0, o, h2, vs, rfl, h3⟩ := R2.ownAt hp rfl
    rw [hv] at h1
    cases h1
    have e0 : Ex S S2 := e1.trans (e1'.trans e2)
    exact ⟨a, vs, n, j, rfl, repT_int t3, h2, by rw [← h3.len]; exact hj, ⟨S2, _, q5, e0, R2.putLst hp hv (Reps.set (Rep.mono e0 _ _ r) j h3)⟩, fun vs h => rfl⟩

/-! ### o.f = v -/
def putN (f : Str) : List Str → List Str
  | [] => [f]
  | g :: r => if g = f then g :: r else g :: putN f r
def putV {α : Type} (f : Str) (d : α) : List Str → List α → List α
  | g :: r, v :: vs => if g = f then d :: vs else v :: putV f d r vs
  | _, _ => [d]
theorem putF_zip (f : Str) (v : V) : ∀ (ns : List Str) (vs : List V), ns.length = vs.length → putF f v (ns.zip vs) = (putN f ns).zip (putV f v ns vs)
  | [], [], _ => rfl
  | g :: r, w :: vs, h => by
    rw [List.zip_cons_cons]
    unfold putF putN putV
    by_cases hg : g = f
    · rw [if_pos hg, if_pos hg, if_pos hg, List.zip_cons_cons]
    · rw [if_neg hg, if_neg hg, if_neg hg, List.zip_cons_cons, putF_zip f v r vs (by simpa using h)]
theorem put_len {α : Type} (f : Str) (d : α) : ∀ (ns : List Str) (vs : List α), ns.length = vs.length → (putN f ns).length = (putV f d ns vs).length
  | [], [], _ => rfl
  | g :: r, w :: vs, h => by
    unfold putN putV
    by_cases hg : g = f
    · rw [if_pos hg, if_pos hg]; simpa using h
    · rw [if_neg hg, if_neg hg]; simpa using put_len f d r vs (by simpa using h)
theorem Reps.putV {K : PySem.W.Frag} {mg : Str → Option Value} {S : Hp} {f : Str} {d : D} {v : V} (hd : Rep K mg S d v) : ∀ {ns : List Str} {ds : List D} {vs : List V}, ns.length = vs.length → Reps K mg S ds vs → Reps K mg S (HD.putV f d ns ds) (HD.putV f v ns vs)
  | [], [], vs, l, h => by cases h.nil_of; exact Reps.cons hd Reps.nil
  | [], e :: ds, vs, l, h => by obtain ⟨w, r, rfl, _⟩ := h.cons_of; cases l
  | g :: ns, [], vs, l, h => by cases h.nil_of; cases l
  | g :: ns, e :: ds, vs, l, h => by
    obtain ⟨w, r, rfl, h1, h2⟩ := h.cons_of
    unfold HD.putV
    by_cases hg : g = f
    · rw [if_pos hg, if_pos hg]; exact Reps.cons hd h2
    · rw [if_neg hg, if_neg hg]; exact Reps.cons h1 (Reps.putV hd (by simpa using l) h2)
def fldC (cs : List Str) (f : Str) : Cel → D → (Cel → Prop) → Prop
  | .ins c ns vs, d, k => c ∈ cs ∧ ns.length < 1000 ∧ k (.ins c (putN f ns) (putV f d ns vs))
  | _, _, _ => False
def mSetF (cs : List Str) (f : Str) (mo mv : ME) : MS := fun D F => mv F (fun y F1 => mo F1 (fun x F2 => frzK F2 (hold y) fun d F3 => celK F3 (hold x) fun c p => fldC cs f c d fun c' => D.nx (F3.put c' p)) D.ex) D.ex
theorem ss_setF {cs : List Str} {f : Str} (hc : ∀ c ∈ cs, ClsD T.K T.mg c ∧ NoA T.K T.mg c f) (ho : SE T o mo) (hv : SE T e mv) (hs : ∀ env, swapsWith e (some (.Attribute o f pos')) pos.line env = pure false := by intros; rfl) : SS T (.Assign [.Attribute o f pos'] e pos) (mSetF cs f mo mv) := fun X fx S P av F σ H Df R q tk => by
  refine tWS_of (ps_fld pe_tW pe_tW (hs X.env)) (tW_mono (hv X fx.toFits S P av F σ H _ Df.ex R q tk) fun y H1 ⟨S1, F1, ev1, q1, e1, R1, k1⟩ => ?_)
  obtain ⟨S1', e1', R1', k1'⟩ := R1.hold k1
  refine tW_mono (ho X fx.toFits S1' P av F1 σ H1 _ Df.ex R1' q1 (takes_mono (e1.trans e1') tk)) fun x H2 ⟨S2, F2, ev2, q2, e2, R2, k2⟩ => ?_
  obtain ⟨S2', e2', R2', k2'⟩ := R2.hold k2
  obtain ⟨S3, F3, d, q3, e3, R3, r3⟩ := R2'.frzEv (ev := hold ev1) (by rw [hold_hold]; exact EvOk.held (e2.trans e2') k1') q2
  obtain ⟨c, p, q4, hp, hv'⟩ := R3.celEv (x := hold ev2) (by rw [hold_hold]; exact EvOk.held e3 k2') q3
  match c, q4, hp with
  | .ins c ns ds, ⟨hm, hl, q5⟩, hp =>
    obtain ⟨a, h1, s0, p0, ob, h2, C, dx, vs, hC, hn, rfl, h3⟩ := R3.ownAt hp rfl
    rw [hv'] at h1
    cases h1
    have hC' : T.mg c = some (.ref C) := by rw [← fx.mg]; exact hC
    refine ⟨a, C, dx, _, rfl, h2, by rw [fx.K]; exact (hc c hm).1 C hC', by rw [fx.K]; exact (hc c hm).2 C hC', by rw [List.length_zip]; omega, ?_⟩
    refine ⟨S3, _, q5, e1.trans (e1'.trans (e2.trans (e2'.trans e3))), R3.put hp rfl hv' (fun b o hb ho => by rw [upd_ne hb]; exact ho) upd_same ⟨C, dx, putV f y ns vs, hC, put_len f y ns vs hn, ?_, Reps.putV r3 hn h3⟩⟩
    rw [putF_zip f y ns vs hn]

/-! ### x op= e -/
def rIp (X : Cx) (op : Operator) : TIp := fun x y H Q => ∀ (pins : List (Addr × Obj)) (s : Shared) (σ : L2.St) (v u : Value), Inv X pins σ H s → RelV x v → RelV y u → wpAny (model X.prog X.w) X.A (inplaceOp op v u) (EP X pins σ Q) X.xe s
theorem pip_rIp {X : Cx} {op : Operator} : PIp X op (rIp X op) := fun pins s σ H x y v u Q I r1 r2 h => h pins s σ v u I r1 r2
def IpD (T : Tx) (op : Operator) (g : D → D → (D → Prop) → Prop) : Prop := ∀ (X : Cx), Fits T X → ∀ (S H : Hp) (x y : V) (d e : D) (k : D → Prop) (Q : VK), Ex S H → Rep X.K X.mg S d x → RepT X.K X.mg S H e y → g d e k → (∀ z d', (∀ S, Rep X.K X.mg S d' z) → k d' → Q z H) → rIp X op x y H Q
def iAdd : D → D → (D → Prop) → Prop
  | .int i, .int j, k => k (.int (i + j))
  | .str a, .str b, k => a.length + b.length ≤ sizeLine ∧ k (.str (a ++ b))
  | _, _, _ => False
def iSub : D → D → (D → Prop) → Prop
  | .int i, .int j, k => k (.int (i - j))
  | _, _, _ => False
theorem repInt {K : PySem.W.Frag} {mg : Str → Option Value} {S : Hp} {i : Int} : Rep K mg S (.int i) (.int i) := by unfold Rep; rfl
theorem ip_addD : IpD T .Add iAdd := fun X fx S H x y d e k Q eS r1 r2 q kk pins s σ v u I ra rb => by
  match d, e, q with
  | .int i, .int j, q =>
    have hx := repT_int (Rep.top eS r1)
    have hy := repT_int r2
    exact ip_add pins s σ H x y v u Q I ra rb ⟨i, j, hx, hy, kk _ _ (fun _ => repInt) q⟩
  | .str a, .str b, ⟨hz, q⟩ =>
    have hx := repT_str (Rep.top eS r1)
    have hy := repT_str r2
    exact in_addS pins s σ H x y v u Q I ra rb ⟨a, b, hx, hy, hz, kk _ (.str (a ++ b)) (fun _ => by unfold Rep; rfl) q⟩
theorem ip_subD : IpD T .Sub iSub := fun X fx S H x y d e k Q eS r1 r2 q kk pins s σ v u I ra rb => by
  match d, e, q with
  | .int i, .int j, q =>
    have hx := repT_int (Rep.top eS r1)
    have hy := repT_int r2
    exact ip_sub pins s σ H x y v u Q I ra rb ⟨i, j, hx, hy, kk _ _ (fun _ => repInt) q⟩
def shS : Option (Option Sv) → (D → Prop) → Prop
  | some (some (.sh d)), k => k d
  | _, _ => False
def mAug (i : Nat) (g : D → D → (D → Prop) → Prop) (me : ME) : MS := fun Df F => shS F.sl[i]? fun d => me F (fun y F1 => valK F1 y fun e => g d e fun r => Df.nx (F1.set i (some (.sh r)))) Df.ex
theorem ss_aug {i : Nat} {op : Operator} {g : D → D → (D → Prop) → Prop} (hN : T.N[i]? = some x) (hl : locC T.raw x = true) (hop : IpD T op g) (he : SE T e me) : SS T (.AugAssign (.Name x pos') op e pos) (mAug i g me) := fun X fx S P av F σ H Df R q tk => by
  obtain ⟨l1, l2⟩ := loc_of fx.toFits hl
  refine tWS_of (ps_aug fx.nd (by rw [fx.N]; exact hN) l1 pe_tW pip_rIp l2) ?_
  have q : shS F.sl[i]? _ := q
  match hs : F.sl[i]?, q with
  | some (some (.sh d)), q =>
    obtain ⟨w, h1, h2, _⟩ := R.slo i _ hs
    refine ⟨w, h1, tW_mono (he X fx.toFits S P av F σ H _ Df.ex R q tk) fun y H1 ⟨S1, F1, ev1, q1, e1, R1, k1⟩ => ?_⟩
    obtain ⟨e', q2, t2⟩ := R1.val k1 q1
    refine hop X fx.toFits S1 H1 w y d e' _ _ R1.sH (Rep.mono e1 _ _ (h2 d rfl)) t2 q2 fun z d' rz q3 => ?_
    exact ⟨S1, _, q3, e1, R1.set i (v := z) (.inr rfl) (fun d2 hd => by cases hd; exact rz S1) (fun k hk => by cases hk) (fun c hc => by cases hc)⟩
/-- o[i] op= e -/
def ixD : Cel → D → (D → Prop) → Prop
  | .lst xs, .int i, k => ∃ d, atI xs i = some d ∧ k d
  | _, _, _ => False

/-! ### while -/
def mWhile (nc : MT) (mb : MS) : MS := fun Df F => ∃ W : Nat → Fr → Prop, (∃ n, W n F) ∧ ∀ n F, W n F → nc F (fun b F1 => brK b (∃ N : Fr → Prop, (∀ F', N F' → ∃ n', n' < n ∧ W n' F') ∧ mb { Df with nx := N, ct := N, bk := Df.nx } F1) (Df.nx F1)) Df.ex
theorem ss_while {c : Expr} {body : List Stmt} (hc : SB T c nc) (hb : SSs T body mb) : SS T (.While c body [] pos) (mWhile nc mb) := fun X fx S P av F σ H Df R q tk => by
  obtain ⟨W, ⟨n0, w0⟩, turn⟩ := q
  refine tWS_of (ps_while fx.hp pt_tWT pss_tWB) ⟨fun n σ' H' => ∃ S' F', Ex S S' ∧ Rel X.K X.mg S' P av F' σ' H' ∧ W n F', ⟨n0, S, F, Ex.refl S, R, w0⟩, ?_⟩
  rintro n σ1 H1 ⟨S1, F1, e1, R1, w1⟩
  refine tWT_mono (hc X fx.toFits S1 P av F1 σ1 H1 _ Df.ex R1 (turn n F1 w1) (takes_mono e1 tk)) fun b H2 ⟨S2, F2, q2, e2, R2⟩ => ?_
  have e12 := e1.trans e2
  refine brK_if ⟨fun hb' => ?_, fun hb' => ⟨S2, F2, q2.2 hb', e12, R2⟩⟩
  obtain ⟨N, hN, q3⟩ := q2.1 hb'
  refine ⟨fun σ' H' => ∃ S' F', N F' ∧ Ex S S' ∧ Rel X.K X.mg S' P av F' σ' H', fun σ' H' ⟨S', F', n', e', R'⟩ => ?_, ?_⟩
  · obtain ⟨n'', hn, hw⟩ := hN F' n'
    exact ⟨n'', hn, S', F', e', R', hw⟩
  · exact tWB_le (hb X fx S2 P av F2 σ1 H2 _ R2 q3 (takes_mono e12 tk)) ⟨fun σ5 H5 ⟨S5, F5, q5, e5, R5⟩ => ⟨S5, F5, q5, e12.trans e5, R5⟩, fun v H5 u => u.mono e12, fun σ5 H5 u => u.mono e12 fun _ h => h, fun σ5 H5 ⟨S5, F5, q5, e5, R5⟩ => ⟨S5, F5, q5, e12.trans e5, R5⟩⟩

/-! ### methods of own classes -/
/-- what a method promises, by the receiver's class -/
structure MethD (T : Tx) (name : Str) (n : Nat) (ks : List Str) (c : Str) (arr : List Arg) (sp : DSp) : Prop where
  ex : ∀ C, T.mg c = some (.ref C) → ∃ f fd ps k, Cls T.K C ∧ Meth T.K C name f ∧ FnD T.P T.w T.K T.mg T.base k f fd ps sp ∧ BnD T.K fd ps (n + 1) ks arr ∧ arr.length = ps.length ∧ k + 1 ≤ T.lv
def insK : D → (Str → List Str → Prop) → Prop
  | .ins c ns _, k => k c ns
  | _, _ => False
def mMeth (name : Str) (n mk' : Nat) (cs : List Str) (arr : Str → List Arg) (sp : Str → DSp) (mo : ME) (ms mk : MA) : ME := fun F Q E => mo F (fun x F1 => valK F1 x fun d => insK d fun c ns => c ∈ cs ∧ ns.contains name = false ∧
  ms F1 (fun xs F2 => mk F2 (fun zs F3 => xs.length = n ∧ zs.length = mk' ∧ callK F3 ((arr c).map (argE (hold x :: xs.map hold) (zs.map hold))) (sp c) Q E) E) E) E
theorem zip_none {f : Str} : ∀ {ns : List Str} {vs : List V}, ns.contains f = false → (ns.zip vs).lookup f = none
  | [], _, _ => rfl
  | g :: ns, [], _ => rfl
  | g :: ns, v :: vs, h => by
    rw [List.contains_cons, Bool.or_eq_false_iff] at h
    rw [List.zip_cons_cons, List.lookup_cons, h.1]
    exact zip_none h.2
theorem se_meth {cs : List Str} {arr : Str → List Arg} {sp : Str → DSp} {n : Nat} {ks : List Str} {pl : Env → Sem Bool} (hM : ∀ c ∈ cs, MethD T name n ks c (arr c) (sp c)) (ho : SE T o mo) (ha : SA T (e :: es) ms) (hkw : SK T kws mk) (hh : T.hot = false := by rfl)
    (hall : ∀ env, (backToKw pos (keywordEach kws env)).all (·.1.isSome) = true := by intros; rfl) (hks : ∀ env, (backToKw pos (keywordEach kws env)).filterMap (·.1) = ks := by intros; rfl)
    (he : ∀ env, starEach (e :: es) env = (false, eval e env) :: starEach es env := by intros; rfl)
    (hpl : ∀ env, ((backTo pos (starEach (e :: es) env)).any (·.1) || (backToKw pos (keywordEach kws env)).any (·.1.isNone)) = false := by intros; rfl)
    (ht : ∀ env, eval (.Call (.Attribute o name apos) (e :: es) kws pos) env = (do
      let ov ← eval o env
      standAt apos.atName
      let (f, first) ← holding [ov] (getMethod ov name (pl env))
      callWith pos f first (backTo pos (starEach (e :: es) env)) (backToKw pos (keywordEach kws env))) := by intros; rfl) :
    SE T (.Call (.Attribute o name apos) (e :: es) kws pos) (mMeth name n ks.length cs arr sp mo ms mk) := fun X fx S P av F σ H Q E R q tk pins s I => by
  refine PySem.W.methodCall_KW (pl := pl X.env) (thn (ho X fx S P av F σ H _ E R q tk pins s I) fun u s1 ⟨x, H1, I1, rx, S1, F1, ev, q1, e1, R1, k1⟩ => ?_) (ht X.env)
  obtain ⟨d, q2, t1⟩ := R1.val k1 q1
  match d, q2, t1 with
  | .ins c ns ds, ⟨hc, hn, q2⟩, t1 =>
    obtain ⟨a, C, dx, vs0, rfl, hC, hl0, h2, h3⟩ := t1
    obtain rfl : u = Value.ref a := rx
    obtain ⟨f, fd, ps, k, cl, mt, Fn, B, hps, hlv⟩ := (hM c hc).ex C (by rw [← fx.mg]; exact hC)
    rw [← fx.K] at cl mt B
    rw [← fx.prog, ← fx.w, ← fx.K, ← fx.mg, ← fx.base] at Fn
    refine getmeth_ok I1 h2 cl mt (zip_none hn) ?_
    obtain ⟨S1', e1', R1', k1'⟩ := R1.hold k1
    have e01 := e1.trans e1'
    refine PySem.W.callWith_KW (first := [.ref a]) (h₀ := X.base) I.ok.mod.kin mt.kp (hall X.env) (thn (ha X fx S1' P av F1 σ H1 _ E R1' q2 (takes_mono e01 tk) pos pins s1 I1) fun us s2 ⟨vs, H2, I2, r, S2, F2, xs, q3, e2, R2, k2⟩ => ?_) (hpl X.env) (he X.env)
    refine thn (hkw X fx S2 P av F2 σ H2 _ E R2 q3 (takes_mono (e01.trans e2) tk) pos pins s2 I2) fun ws s3 ⟨zs, H3, I3, rz, S3, F3, ys, ⟨l1, l2, q4⟩, e3, R3, k3⟩ => ⟨I3.kIn, ?_⟩
    rw [hks X.env]
    have k2' := (EvsOk.held (S' := S3) (H' := H3) (F' := F3) e3 k2)
    have l1' : (V.ref a :: vs).length = n + 1 := by have := k2.len; simp; omega
    have l2' : zs.length = ks.length := k3.len.trans l2
    have all : EvsOk X.K X.mg S3 P av F3 σ H3 (V.ref a :: vs) (hold ev :: xs) := ⟨by rw [hold_hold]; exact EvOk.held (e2.trans e3) k1', k2'⟩
    have hall := all.evsO
    rw [List.map_cons, hold_hold] at hall
    have lf := lift_of R3 (EvsO.arr B hall k3.evsO l1' l2') q4
    rw [List.length_map, hps] at lf
    exact run_fnD (us := Value.ref a :: us) (vs := V.ref a :: vs) Fn ((fx.room hh).mono (Nat.le_of_succ_le hlv)) B tk I3 (.cons rfl r) rz l1' l2' (lf.post (fun v H' u => u.mono (e01.trans (e2.trans e3))) fun c d H' u => UpX.mono (e01.trans (e2.trans e3)) (fun _ _ h => h) u)
theorem se_meth0 {cs : List Str} {arr : Str → List Arg} {sp : Str → DSp} {ks : List Str} {pl : Env → Sem Bool} (hM : ∀ c ∈ cs, MethD T name 0 ks c (arr c) (sp c)) (ho : SE T o mo) (hkw : SK T kws mk) (hh : T.hot = false := by rfl)
    (hall : ∀ env, (backToKw pos (keywordEach kws env)).all (·.1.isSome) = true := by intros; rfl) (hks : ∀ env, (backToKw pos (keywordEach kws env)).filterMap (·.1) = ks := by intros; rfl)
    (hpl : ∀ env, ((backTo pos (starEach [] env)).any (·.1) || (backToKw pos (keywordEach kws env)).any (·.1.isNone)) = false := by intros; rfl)
    (ht : ∀ env, eval (.Call (.Attribute o name apos) [] kws pos) env = (do
      let ov ← eval o env
      standAt apos.atName
      let (f, first) ← holding [ov] (getMethod ov name (pl env))
      callWith pos f first (backTo pos (starEach [] env)) (backToKw pos (keywordEach kws env))) := by intros; rfl) :
    SE T (.Call (.Attribute o name apos) [] kws pos) (mMeth name 0 ks.length cs arr sp mo mNil mk) := fun X fx S P av F σ H Q E R q tk pins s I => by
  refine PySem.W.methodCall_KW (pl := pl X.env) (thn (ho X fx S P av F σ H _ E R q tk pins s I) fun u s1 ⟨x, H1, I1, rx, S1, F1, ev, q1, e1, R1, k1⟩ => ?_) (ht X.env)
  obtain ⟨d, q2, t1⟩ := R1.val k1 q1
  match d, q2, t1 with
  | .ins c ns ds, ⟨hc, hn, q2⟩, t1 =>
    obtain ⟨a, C, dx, vs0, rfl, hC, hl0, h2, h3⟩ := t1
    obtain rfl : u = Value.ref a := rx
    obtain ⟨f, fd, ps, k, cl, mt, Fn, B, hps, hlv⟩ := (hM c hc).ex C (by rw [← fx.mg]; exact hC)
    rw [← fx.K] at cl mt B
    rw [← fx.prog, ← fx.w, ← fx.K, ← fx.mg, ← fx.base] at Fn
    refine getmeth_ok I1 h2 cl mt (zip_none hn) ?_
    obtain ⟨S1', e1', R1', k1'⟩ := R1.hold k1
    have e01 := e1.trans e1'
    refine PySem.W.callWith_KW0 (first := [.ref a]) (h₀ := X.base) I.ok.mod.kin mt.kp (hall X.env) ?_ (hpl X.env)
    refine thn (hkw X fx S1' P av F1 σ H1 _ E R1' q2 (takes_mono e01 tk) pos pins s1 I1) fun ws s3 ⟨zs, H3, I3, rz, S3, F3, ys, ⟨l1, l2, q4⟩, e3, R3, k3⟩ => ⟨I3.kIn, ?_⟩
    rw [hks X.env]
    have l2' : zs.length = ks.length := k3.len.trans l2
    have all : EvsOk X.K X.mg S3 P av F3 σ H3 [V.ref a] [hold ev] := ⟨by rw [hold_hold]; exact EvOk.held e3 k1', trivial⟩
    have hall := all.evsO
    rw [List.map_cons, hold_hold] at hall
    have lf := lift_of R3 (EvsO.arr B hall k3.evsO rfl l2') q4
    rw [List.length_map, hps] at lf
    exact run_fnD (us := [Value.ref a]) (vs := [V.ref a]) Fn ((fx.room hh).mono (Nat.le_of_succ_le hlv)) B tk I3 (.cons rfl .nil) rz rfl l2' (lf.post (fun v H' u => u.mono (e01.trans e3)) fun c d H' u => UpX.mono (e01.trans e3) (fun _ _ h => h) u)

/-! ### new instances -/
/-- a class that is called -/
structure MakeD (T : Tx) (c : Str) (n : Nat) (ks : List Str) (arr : List Arg) (sp : DSp) : Prop where
  ex : ∃ C f fd ps k, T.mg c = some (.ref C) ∧ Mk T.K C f ∧ FnD T.P T.w T.K T.mg T.base k f fd ps sp ∧ BnD T.K fd ps (n + 1) ks arr ∧ arr.length = ps.length ∧ k + 1 ≤ T.lv
def makeK (F : Fr) (xs : List Ev) (j : Nat) (sp : DSp) (Q : Ev → Fr → Prop) (E : EX) : Prop :=
  ∃ cs, cellsOf F xs = some cs ∧ goodPl F xs ∧ sp cs (fun ev cs' => ev = .sh .non ∧ Q (retE xs cs' (.ar j)) (backF F xs cs')) fun x cs' => E x (backF F xs cs')
def mMake (c : Str) (arr : List Arg) (n m : Nat) (sp : DSp) (ma mk : MA) : ME := fun F Q E => ma F (fun xs F1 => mk F1 (fun zs F2 => xs.length = n ∧ zs.length = m ∧ makeK F2 (arr.map (argE (.tmp (.ins c [] []) :: xs.map hold) (zs.map hold))) 0 sp Q E) E) E
theorem make_lift {X : Cx} {S P H : Hp} {av : List V} {F : Fr} {σ : L2.St} {vs zs : List V} {xs ys : List Ev} {C : Addr} {c : Str} {fd : FuncData} {sp : DSp} {Q : Ev → Fr → Prop} {E : EX} {n : Nat} {ks ps : List Str} {arr : List Arg} (harr : arr.head? = some (.p 0)) (hC : X.mg c = some (.ref C)) (R : Rel X.K X.mg S P av F σ H) (B : BnD X.K fd ps (n + 1) ks arr) (hps : arr.length = ps.length) (k1 : EvsOk X.K X.mg S P av F σ H vs xs) (k2 : EvsOk X.K X.mg S P av F σ H zs ys)
    (l1 : vs.length = n) (l2 : zs.length = ks.length) (q : makeK F (arr.map (argE (.tmp (.ins c [] []) :: xs.map hold) (ys.map hold))) 0 sp Q E) (x dx : Addr) (hx : H x = none) (hd : H dx = none) (ne : dx ≠ x) :
    Lift X.K X.mg ps.length sp (arr.map (argV (.ref x :: vs) zs)) (upd (upd H dx (.own x)) x (.ins C dx [])) (fun v H2 => v = .non ∧ UpE X S P av σ Q (.ref x) H2) (WE (UpX X S P av E) σ) := by
  have R1 : Rel X.K X.mg S P av F σ (upd H dx (.own x)) := R.fresh hd
  have hx' : upd H dx (.own x) x = none := by rw [upd_ne (Ne.symm ne)]; exact hx
  have R2 := R1.fresh (p := x) (o := .ins C dx []) hx'
  have t := R1.tmp (p := x) (o := .ins C dx []) (c := .ins c [] []) hx' ⟨C, dx, [], hC, rfl, rfl, Reps.nil⟩
  have o1 : EvsO X.K X.mg S P av F σ (upd (upd H dx (.own x)) x (.ins C dx [])) vs (xs.map hold) := (EvsOk.held (Ex.refl S) k1).evsO
  have o2 : EvsO X.K X.mg S P av F σ (upd (upd H dx (.own x)) x (.ins C dx [])) zs (ys.map hold) := (EvsOk.held (Ex.refl S) k2).evsO
  have o3 : EvsO X.K X.mg S P av F σ (upd (upd H dx (.own x)) x (.ins C dx [])) (.ref x :: vs) (.tmp (.ins c [] []) :: xs.map hold) := ⟨by simp [o1.1], fun i y hy => by
    match i, hy with
    | 0, hy => simp at hy; subst hy; exact ⟨_, rfl, t⟩
    | i + 1, hy =>
      obtain ⟨w, h1, h2⟩ := o1.2 i y (by simpa using hy)
      exact ⟨w, by simpa using h1, h2⟩⟩
  obtain ⟨cs, h1, h2, h3⟩ := q
  have o4 := EvsO.arr B o3 o2 (by simp [l1]) l2
  obtain ⟨P', R', k⟩ := R2.handOn o4 h1 h2
  refine ⟨by rw [List.length_map, hps], S, P', cs, _, _, R', h3, fun v H' S' ev cs' ⟨hev, q⟩ e R3 kv => ?_, fun y cls d H' S' cs' q e R3 xo => ?_⟩
  · obtain ⟨R4, k4⟩ := k S' cs' H' e R3
    subst hev
    have kv : Rep X.K X.mg S' .non v := kv
    unfold Rep at kv
    refine ⟨kv, S', _, _, q, e, R4, k4 (.ref x) (.ar 0) ?_⟩
    show (arr.map (argV (.ref x :: vs) zs))[0]? = some (.ref x)
    cases arr with
    | nil => cases harr
    | cons a r =>
      cases harr
      rfl
  · obtain ⟨R4, k4⟩ := k S' cs' H' e R3
    exact ⟨S', _, y, q, e, R4, xo⟩
theorem se_make {c : Str} (M : MakeD T c n ks arr sp) (ha : SA T (e :: es) ms) (hkw : SK T kws mk) (harr : arr.head? = some (.p 0) := by rfl) (hg : glC T.sc c = true := by decide +kernel) (hh : T.hot = false := by rfl)
    (hall : ∀ env, (backToKw pos (keywordEach kws env)).all (·.1.isSome) = true := by intros; rfl) (hks : ∀ env, (backToKw pos (keywordEach kws env)).filterMap (·.1) = ks := by intros; rfl)
    (hdb : (c == ("__debug__" : Str)) = false := by decide +kernel) (he : ∀ env, starEach (e :: es) env = (false, eval e env) :: starEach es env := by intros; rfl)
    (hpl : ∀ env, ((backTo pos (starEach (e :: es) env)).any (·.1) || (backToKw pos (keywordEach kws env)).any (·.1.isNone)) = false := by intros; rfl) :
    SE T (.Call (.Name c p) (e :: es) kws pos) (mMake c arr n ks.length sp ms mk) := fun X fx S P av F σ H Q E R q tk pins s I => by
  obtain ⟨C, f, fd, ps, k, hm, Mm, Fn, B, hps, hlv⟩ := M.ex
  rw [← fx.prog, ← fx.w, ← fx.K, ← fx.mg, ← fx.base] at Fn
  rw [← fx.K] at B Mm
  rw [← fx.mg] at hm
  refine wpAny_Call_Name_kw (ld_glob I (gl_of fx hg) hm ?_ hdb)
  refine PySem.W.callWith_KW (h₀ := X.base) I.ok.mod.kin Mm.kp (hall X.env) (thn (ha X fx S P av F σ H _ E R q tk pos pins s I) fun us s1 ⟨vs, H1, I1, r, S1, F1, xs, q1, e1, R1, k1⟩ => ?_) (hpl X.env) (he X.env)
  refine thn (hkw X fx S1 P av F1 σ H1 _ E R1 q1 (takes_mono e1 tk) pos pins s1 I1) fun ws s2 ⟨zs, H2, I2, rz, S2, F2, ys, ⟨l1, l2, q2⟩, e2, R2, k2⟩ => ⟨I2.kIn, ?_⟩
  rw [hks X.env]
  have l1' : vs.length = n := k1.len.trans l1
  have l2' : zs.length = ks.length := k2.len.trans l2
  refine run_makeD Mm Fn ((fx.room hh).mono hlv) B tk I2 r rz l1' l2' fun x dx hx hd ne => ?_
  exact (make_lift harr hm R2 B hps (EvsOk.held e2 k1) k2 l1' l2' q2 x dx hx hd ne).post (fun v H' u => ⟨u.1, u.2.mono (e1.trans e2)⟩) fun c d H' u => UpX.mono (e1.trans e2) (fun _ _ h => h) u
end
end HD
set_option Elab.async false
set_option linter.all false
set_option maxRecDepth 100000
set_option maxHeartbeats 4000000
/-! HD, part 19: in, str, len of own classes. -/
namespace HD
open PySem PySem.Spec PyProof.Rows L2

section
variable {T : Tx} {X : Cx} {pos apos p pos' tpos : Pos} {o i e a b : Expr} {es : List Expr} {m m' mo mi mv me ma mb : ME} {ms mk : MA} {nc : MT} {name x : Str}
theorem SE.or (h : SE T e m) (h' : SE T e m') : SE T e fun F Q E => m F Q E ∨ m' F Q E := fun X fx S P av F σ H Q E R q tk => q.elim (fun q => h X fx S P av F σ H Q E R q tk) fun q => h' X fx S P av F σ H Q E R q tk
/-- the callee runs, nothing is let out -/
theorem run_spec {H : Hp} {σ' : L2.St} {pins : List (Addr × Obj)} {s : Shared} {A : Around} {k n : Nat} {f : Addr} {fd : FuncData} {ps : List Str} {arr : List Arg} {sp : DSp} {us : List Value} {vs : List V} {Q : VK}
    (Fn : FnD X.prog X.w X.K X.mg X.base k f fd ps sp) (hr : Room k A) (e0 : Env0 X.prog X.w X.K X.mg X.base A X.stack s H) (B : BnD X.K fd ps n [] arr) (I : Inv X pins σ' H s) (r : Vals vs us) (l1 : vs.length = n)
    (h : Lift X.K X.mg ps.length sp (arr.map (argV vs [])) H Q (fun _ _ _ => False)) : wpAny (model X.prog X.w) A (call (.ref f) us) (EP X pins σ' Q) X.xe s := by
  obtain ⟨g, gV, hb, hg⟩ := B.ex
  have r2 := hb.rel r (.nil : Vals [] [])
  rw [← hg vs [] l1 rfl] at h
  refine wpAny_call (codeAny_mono (Fn.run A X.stack s H ⟨us, []⟩ (g us []) (gV vs []) Q _ hr e0 (hb.to s us [] I.kIn (r.length.symm.trans l1) rfl) r2 h) fun r s' hq => ?_)
  cases r with
  | error e => exact passL pins σ' H s e s' I hq
  | ok fl =>
    cases fl with
    | ret u => exact I.after hq
    | next => exact False.elim hq
    | brk => exact False.elim hq
    | cont => exact False.elim hq
theorem ins_at {pins : List (Addr × Obj)} {σ : L2.St} {H : Hp} {s : Shared} {x C dx : Addr} {fs : List (Str × V)} (I : Inv X pins σ H s) (e : H x = some (.ins C dx fs)) : ∃ ox od, PySem.W.InstAt s.heap x ox C od := by
  obtain ⟨mA, O, _⟩ := ins_get I.hok e
  obtain ⟨od, J, _⟩ := O.look
  exact ⟨_, od, J⟩
theorem lift_noE {S P H : Hp} {av : List V} {F : Fr} {σ : L2.St} {vs : List V} {xs : List Ev} {sp : DSp} {Q : Ev → Fr → Prop} (R : Rel X.K X.mg S P av F σ H) (ho : EvsO X.K X.mg S P av F σ H vs xs) (q : callK F xs sp Q noE) : Lift X.K X.mg vs.length sp vs H (UpE X S P av σ Q) (fun _ _ _ => False) :=
  (lift_of R ho q).post (fun _ _ u => u) fun c d H' ⟨_, _, _, q, _⟩ => q

/-! ### v in o -/
def mInO (f : Bool → Bool) (cs : List Str) (arr : Str → List Arg) (sp : Str → DSp) (ma mb : ME) : ME := fun F Q E => ma F (fun x F1 => mb F1 (fun y F2 => valK F2 y fun d => insK d fun c _ => c ∈ cs ∧ callK F2 ((arr c).map (argE [hold y, hold x] [])) (sp c) (fun r F3 => ∃ b, r = .sh (.bl b) ∧ Q (.sh (.bl (f b))) F3) noE) E) E
theorem evs2 {S P H : Hp} {av : List V} {F : Fr} {σ : L2.St} {v w : V} {x y : Ev} (h1 : EvOk X.K X.mg S P av F σ H v x) (h2 : EvOk X.K X.mg S P av F σ H w y) : EvsO X.K X.mg S P av F σ H [v, w] [x, y] := ⟨rfl, fun i z hz => by
  match i, hz with
  | 0, hz => simp at hz; subst hz; exact ⟨v, rfl, h1⟩
  | 1, hz => simp at hz; subst hz; exact ⟨w, rfl, h2⟩
  | i + 2, hz => simp at hz⟩
theorem evs1 {S P H : Hp} {av : List V} {F : Fr} {σ : L2.St} {v : V} {x : Ev} (h1 : EvOk X.K X.mg S P av F σ H v x) : EvsO X.K X.mg S P av F σ H [v] [x] := ⟨rfl, fun i z hz => by
  match i, hz with
  | 0, hz => simp at hz; subst hz; exact ⟨v, rfl, h1⟩
  | i + 1, hz => simp at hz⟩
theorem in_run (fx : Fits T X) {cs : List Str} {arr : Str → List Arg} {sp : Str → DSp} {nt : Bool} (hh : T.hot = false) (hM : ∀ c ∈ cs, MethD T "__contains__" 1 [] c (arr c) (sp c)) {S P H : Hp} {av : List V} {F : Fr} {σ : L2.St} {x y : V} {ex ey : Ev} {Q : Ev → Fr → Prop} (R : Rel X.K X.mg S P av F σ H)
    (kx : EvOk X.K X.mg S P av F σ H x (hold ex)) (ky : EvOk X.K X.mg S P av F σ H y ey) (q : valK F ey fun d => insK d fun c _ => c ∈ cs ∧ callK F ((arr c).map (argE [hold ey, hold ex] [])) (sp c) (fun r F3 => ∃ b, r = .sh (.bl b) ∧ Q (.sh (.bl (if nt then !b else b))) F3) noE) :
    rSem X (compareOp (if nt then .NotIn else .In)) x y H (UpE X S P av σ Q) := by
  obtain ⟨d, q1, t1⟩ := R.val ky q
  match d, q1, t1 with
  | .ins c ns ds, ⟨hc, q2⟩, t1 =>
    obtain ⟨a, C, dx, vs0, rfl, hC, hl0, h2, h3⟩ := t1
    obtain ⟨f, fd, ps, k, cl, mt, Fn, B, hps, hlv⟩ := (hM c hc).ex C (by rw [← fx.mg]; exact hC)
    rw [← fx.K] at cl mt B
    rw [← fx.prog, ← fx.w, ← fx.K, ← fx.mg, ← fx.base] at Fn
    obtain ⟨S1, e1, R1, ky1⟩ := R.hold ky
    have o1 := EvsO.arr (zs := []) (ys := []) B (evs2 ky1 (show EvOk X.K X.mg S1 P av F σ H x (hold ex) from by have := EvOk.held (S' := S1) (H' := H) (F' := F) e1 (ev := hold ex) (by rw [hold_hold]; exact kx); rwa [hold_hold] at this)) ⟨rfl, fun i z hz => by simp at hz⟩ rfl rfl
    have lf := lift_noE R1 o1 q2
    rw [List.length_map, hps] at lf
    intro pins s σ' v u I r1 r2
    obtain rfl : u = Value.ref a := r2
    obtain ⟨m, fr⟩ := I.fr
    obtain ⟨ox, od, J⟩ := ins_at I h2
    have run := run_spec (us := [.ref a, v]) (vs := [.ref a, x]) Fn ((fx.room hh).mono (Nat.le_of_succ_le hlv)) I.env0 B I (.cons rfl (.cons r1 .nil)) rfl lf
    cases nt with
    | false =>
      refine PySem.W.in_K fr I.ok.mod.kin J mt.at_ mt.fn (thn run fun w s' ⟨z, H', I', rz, S2, F2, ev, ⟨b, hb, q3⟩, e2, R2, k2⟩ => ?_)
      subst hb
      have hz : z = .bl b := by have k2 : Rep _ _ _ _ _ := k2; unfold Rep at k2; exact k2
      subst hz
      obtain rfl : w = Value.bool b := rz
      exact wpAny_truthy_bool ⟨.bl b, H', I', rfl, S2, F2, _, q3, e1.trans e2, R2, by show Rep _ _ _ _ _; unfold Rep; rfl⟩
    | true =>
      refine PySem.W.notIn_K fr I.ok.mod.kin J mt.at_ mt.fn (thn run fun w s' ⟨z, H', I', rz, S2, F2, ev, ⟨b, hb, q3⟩, e2, R2, k2⟩ => ?_)
      subst hb
      have hz : z = .bl b := by have k2 : Rep _ _ _ _ _ := k2; unfold Rep at k2; exact k2
      subst hz
      obtain rfl : w = Value.bool b := rz
      exact wpAny_truthy_bool ⟨.bl (!b), H', I', rfl, S2, F2, _, q3, e1.trans e2, R2, by show Rep _ _ _ _ _; unfold Rep; rfl⟩
theorem se_inO {cs : List Str} {arr : Str → List Arg} {sp : Str → DSp} (hM : ∀ c ∈ cs, MethD T "__contains__" 1 [] c (arr c) (sp c)) (ha : SE T a ma) (hb : SE T b mb) (hm : behindInMarks .In b = false) (hh : T.hot = false := by rfl) : SE T (.Compare a [.In] [b] pos) (mInO (fun b => b) cs arr sp ma mb) := fun X fx S P av F σ H Q E R q tk => by
  refine tW_of (pe_cmpR (opR_sem _) pe_tW pe_tW hm) ?_
  refine tW_mono (ha X fx S P av F σ H _ E R q tk) fun x H1 ⟨S1, F1, ev1, q1, e1, R1, k1⟩ => ?_
  obtain ⟨S1', e1', R1', k1'⟩ := R1.hold k1
  refine tW_mono (hb X fx S1' P av F1 σ H1 _ E R1' q1 (takes_mono (e1.trans e1') tk)) fun y H2 ⟨S2, F2, ev2, q2, e2, R2, k2⟩ => ?_
  exact rSem_mono (in_run fx (nt := false) hh hM R2 (EvOk.held e2 k1') k2 q2) fun v H3 u => u.mono (e1.trans (e1'.trans e2))
theorem se_notInO {cs : List Str} {arr : Str → List Arg} {sp : Str → DSp} (hM : ∀ c ∈ cs, MethD T "__contains__" 1 [] c (arr c) (sp c)) (ha : SE T a ma) (hb : SE T b mb) (hm : behindInMarks .NotIn b = false) (hh : T.hot = false := by rfl) : SE T (.Compare a [.NotIn] [b] pos) (mInO (fun b => !b) cs arr sp ma mb) := fun X fx S P av F σ H Q E R q tk => by
  refine tW_of (pe_cmpR (opR_sem _) pe_tW pe_tW hm) ?_
  refine tW_mono (ha X fx S P av F σ H _ E R q tk) fun x H1 ⟨S1, F1, ev1, q1, e1, R1, k1⟩ => ?_
  obtain ⟨S1', e1', R1', k1'⟩ := R1.hold k1
  refine tW_mono (hb X fx S1' P av F1 σ H1 _ E R1' q1 (takes_mono (e1.trans e1') tk)) fun y H2 ⟨S2, F2, ev2, q2, e2, R2, k2⟩ => ?_
  exact rSem_mono (in_run fx (nt := true) hh hM R2 (EvOk.held e2 k1') k2 q2) fun v H3 u => u.mono (e1.trans (e1'.trans e2))

/-! ### str(o), len(o) -/
def mStrO (cs : List Str) (arr : Str → List Arg) (sp : Str → DSp) (m : ME) : ME := fun F Q E => m F (fun x F1 => valK F1 x fun d => insK d fun c _ => c ∈ cs ∧ callK F1 ((arr c).map (argE [hold x] [])) (sp c) (fun r F3 => ∃ s, r = .sh (.str s) ∧ Q (.sh (.str s)) F3) noE) E
def mLenO (cs : List Str) (arr : Str → List Arg) (sp : Str → DSp) (m : ME) : ME := fun F Q E => m F (fun x F1 => valK F1 x fun d => insK d fun c _ => c ∈ cs ∧ callK F1 ((arr c).map (argE [hold x] [])) (sp c) (fun r F3 => ∃ n, r = .sh (.int n) ∧ 0 ≤ n ∧ n < 2 ^ 63 ∧ Q (.sh (.int n)) F3) noE) E
theorem one_run (fx : Fits T X) {cs : List Str} {arr : Str → List Arg} {sp : Str → DSp} {nm : Str} (hM : ∀ c ∈ cs, MethD T nm 0 [] c (arr c) (sp c)) {S P H : Hp} {av : List V} {F : Fr} {σ : L2.St} {x : V} {ex : Ev} {QQ : Ev → Fr → Prop} (R : Rel X.K X.mg S P av F σ H)
    (kx : EvOk X.K X.mg S P av F σ H x ex) (q : valK F ex fun d => insK d fun c _ => c ∈ cs ∧ callK F ((arr c).map (argE [hold ex] [])) (sp c) QQ noE) :
    ∃ a C dx fs f k, x = .ref a ∧ H a = some (.ins C dx fs) ∧ Meth X.K C nm f ∧ k + 1 ≤ T.lv ∧ ∀ (A : Around) (pins : List (Addr × Obj)) (s : Shared) (σ' : L2.St), Room k A → Env0 X.prog X.w X.K X.mg X.base A X.stack s H → Inv X pins σ' H s → wpAny (model X.prog X.w) A (call (.ref f) [.ref a]) (EP X pins σ' (UpE X S P av σ QQ)) X.xe s := by
  obtain ⟨d, q1, t1⟩ := R.val kx q
  match d, q1, t1 with
  | .ins c ns ds, ⟨hc, q2⟩, t1 =>
    obtain ⟨a, C, dx, vs0, rfl, hC, hl0, h2, h3⟩ := t1
    obtain ⟨f, fd, ps, k, cl, mt, Fn, B, hps, hlv⟩ := (hM c hc).ex C (by rw [← fx.mg]; exact hC)
    rw [← fx.K] at cl mt B
    rw [← fx.prog, ← fx.w, ← fx.K, ← fx.mg, ← fx.base] at Fn
    obtain ⟨S1, e1, R1, ky1⟩ := R.hold kx
    have o1 := EvsO.arr (zs := []) (ys := []) B (evs1 ky1) ⟨rfl, fun i z hz => by simp at hz⟩ rfl rfl
    have lf := lift_noE R1 o1 q2
    rw [List.length_map, hps] at lf
    exact ⟨a, C, dx, _, f, k, rfl, h2, mt, hlv, fun A pins s σ' hr e0 I => thn (run_spec (us := [.ref a]) (vs := [.ref a]) Fn hr e0 B I (.cons rfl .nil) rfl lf) fun w s' ⟨z, H', I', rz, u⟩ => ⟨z, H', I', rz, u.mono e1⟩⟩
theorem se_strO {cs : List Str} {arr : Str → List Arg} {sp : Str → DSp} (hM : ∀ c ∈ cs, MethD T "__str__" 0 [] c (arr c) (sp c)) (he : SE T e m) (hh : T.hot = false := by rfl) (hg : glC T.sc "str" = true := by decide +kernel) (hm : T.mg "str" = none := by assumption)
    (h1 : ∀ env, starEach [e] env = (false, eval e env) :: starEach [] env := by intros; rfl) (hpl : ∀ env, (backTo pos (starEach [] env)).any (·.1) = false := by intros; rfl) : SE T (.Call (.Name "str" p) [e] [] pos) (mStrO cs arr sp m) := fun X fx S P av F σ H Q E R q tk => by
  refine tW_of (pe_callTy callR_C (gl_of fx hg) (by rw [fx.mg]; exact hm) rfl (pa_cons pe_tW pa_nil (h1 X.env)) (by decide) (by decide) (h1 X.env) (hpl X.env)) ?_
  refine tW_mono (he X fx S P av F σ H _ E R q tk) fun x H1 ⟨S1, F1, ev1, q1, e1, R1, k1⟩ => ?_
  obtain ⟨a, C, dx, fs, f, k, rfl, h2, mt, hk, run⟩ := one_run fx hM R1 k1 q1
  intro pins s σ' us I r
  obtain ⟨u, rfl, ru⟩ := r.one
  obtain rfl : u = Value.ref a := ru
  obtain ⟨ox, od, J⟩ := ins_at I h2
  have hr := (fx.room hh).mono hk
  have hr2 : Room k X.A.in1.in1 := ⟨hr.hd, by have := hr.dp; show X.A.depth + 3 * k + 5 < _; omega, by have := hr.un; show X.A.units + 1 + 1 + 16 * k + 200 < cLine; omega⟩
  refine PySem.W.kso_call (by have := hr2.un; omega) I.kIn J mt.at_ mt.fn (thn (run X.A.in1.in1 pins s σ' hr2 I.env0.in1.in1 I) fun w s' ⟨z, H', I', rz, S2, F2, ev, ⟨st, hb, q3⟩, e2, R2, k2⟩ => ?_)
  subst hb
  have hz : z = .str st := by have k2 : Rep _ _ _ _ _ := k2; unfold Rep at k2; exact k2
  subst hz
  obtain ⟨t, rfl⟩ : ∃ t, w = Value.str st t := rz
  exact ⟨.str st, H', I', ⟨t, rfl⟩, S2, F2, _, q3, e1.trans e2, R2, by show Rep _ _ _ _ _; unfold Rep; rfl⟩
theorem se_lenO {cs : List Str} {arr : Str → List Arg} {sp : Str → DSp} (hM : ∀ c ∈ cs, MethD T "__len__" 0 [] c (arr c) (sp c)) (he : SE T e m) (hh : T.hot = false := by rfl) (hg : glC T.sc "len" = true := by decide +kernel) (hm : T.mg "len" = none := by assumption)
    (h1 : ∀ env, starEach [e] env = (false, eval e env) :: starEach [] env := by intros; rfl) (hpl : ∀ env, (backTo pos (starEach [] env)).any (·.1) = false := by intros; rfl) : SE T (.Call (.Name "len" p) [e] [] pos) (mLenO cs arr sp m) := fun X fx S P av F σ H Q E R q tk => by
  refine tW_of (pe_callB callR_C (gl_of fx hg) (by rw [fx.mg]; exact hm) rfl (pa_cons pe_tW pa_nil (h1 X.env)) (by decide) (by decide) (h1 X.env) (hpl X.env)) ?_
  refine tW_mono (he X fx S P av F σ H _ E R q tk) fun x H1 ⟨S1, F1, ev1, q1, e1, R1, k1⟩ => ?_
  obtain ⟨a, C, dx, fs, f, k, rfl, h2, mt, hk, run⟩ := one_run fx hM R1 k1 q1
  intro pins s σ' us I r
  obtain ⟨u, rfl, ru⟩ := r.one
  obtain rfl : u = Value.ref a := ru
  obtain ⟨ox, od, J⟩ := ins_at I h2
  have hr := (fx.room hh).mono hk
  have hr2 : Room k X.A.in1 := ⟨hr.hd, by have := hr.dp; show X.A.depth + 3 * k + 5 < _; omega, by have := hr.un; show X.A.units + 1 + 16 * k + 200 < cLine; omega⟩
  obtain ⟨m, fr⟩ := I.fr
  refine PySem.W.len_K fr I.ok.mod.kin J mt.at_ mt.fn (thn (run X.A.in1 pins s σ' hr2 I.env0.in1 I) fun w s' ⟨z, H', I', rz, S2, F2, ev, ⟨n, hb, h0, h1, q3⟩, e2, R2, k2⟩ => ?_)
  subst hb
  have hz : z = .int n := by have k2 : Rep _ _ _ _ _ := k2; unfold Rep at k2; exact k2
  subst hz
  obtain ⟨t, rfl⟩ : ∃ t, w = Value.int n t := rz
  exact ⟨⟨h0, h1⟩, .int n, H', I'.tok _, ⟨_, rfl⟩, S2, F2, _, q3, e1.trans e2, R2, by show Rep _ _ _ _ _; unfold Rep; rfl⟩
end
end HD
set_option Elab.async false
set_option linter.all false
set_option maxRecDepth 100000
set_option maxHeartbeats 4000000
/-! HD, part 20: own exceptions: made and raised, caught, their fields. -/
namespace HD
open PySem PySem.Spec PyProof.Rows L2

/-- where a field's value comes from: a parameter, a constant -/
abbrev XS := Sum Nat (V × D)
def xsE : XS → TE
  | .inl j => tVar j
  | .inr vd => tC vd.1
def xsV (vs : List V) : XS → V
  | .inl j => vs.getD j .non
  | .inr vd => vd.1
def xsD (ds : List D) : XS → D
  | .inl j => ds.getD j .non
  | .inr vd => vd.2
/-- the body of such an __init__: self.f = x, .. -/
inductive XB (N : List Str) (sc : Scope) : List Stmt → List (Str × XS) → Prop
  | nil : XB N sc [] []
  | cons {self f : Str} {s : XS} {p1 p' pos : Pos} {e : Expr} {body : List Stmt} {fs : List (Str × XS)} (h0 : ∀ X : Cx, X.N = N → X.env.scope = sc → PE X (.Name self p1) (tVar 0)) (he : ∀ X : Cx, X.N = N → X.env.scope = sc → PE X e (xsE s))
      (hs : ∀ env, swapsWith e (some (.Attribute (.Name self p1) f p')) pos.line env = pure false) (r : XB N sc body fs) : XB N sc (.Assign [.Attribute (.Name self p1) f p'] e pos :: body) ((f, s) :: fs)
def xsOk (n : Nat) : XS → Prop
  | .inl j => 1 ≤ j ∧ j ≤ n
  | .inr vd => ∀ K mg S, Rep K mg S vd.2 vd.1
/-- the promise of such an __init__ -/
def spX (C : Addr) (n : Nat) (fs : List (Str × XS)) : Sp := fun vs H Q E => vs.length = n + 1 ∧ ∃ a, vs[0]? = some (.ref a) ∧ H a = some (exo a C none) ∧ ∀ H' dx, (∀ b o, b ≠ a → H b = some o → H' b = some o) → H dx = none → dx ≠ a →
  H' a = some (exo a C (some dx)) → H' dx = some (exd dx (fs.map fun p => (p.1, xsV vs p.2)).reverse) → Q .non H'
section
variable {X : Cx}
theorem xs_run {s : XS} {e : Expr} {n : Nat} {vs : List V} {σ : L2.St} {H : Hp} {Q : VK} (hv : vs.length = n + 1) (ok : xsOk n s) (hσ : ∀ (i : Nat) (v : V), vs[i]? = some v → σ[i]? = some (some v)) (he : PE X e (xsE s)) (q : Q (xsV vs s) H) : tW X e σ H Q := by
  refine tW_of he ?_
  cases s with
  | inl j =>
    have hj : j < vs.length := by have : 1 ≤ j ∧ j ≤ n := ok; omega
    refine ⟨vs[j], hσ j _ (List.getElem?_eq_getElem hj), ?_⟩
    have : xsV vs (.inl j) = vs[j] := by simp [xsV, List.getD, hj]
    rw [← this]; exact q
  | inr vd => exact q
theorem xb_old {N : List Str} {sc : Scope} {C a dx : Addr} {n : Nat} {vs : List V} {σ : L2.St} (T : OexC X.K C) (hN : X.N = N) (hsc : X.env.scope = sc) (hv : vs.length = n + 1) (h0 : vs[0]? = some (.ref a)) (hσ : ∀ (i : Nat) (v : V), vs[i]? = some v → σ[i]? = some (some v)) :
    ∀ {body : List Stmt} {fs : List (Str × XS)}, XB N sc body fs → (∀ p ∈ fs, PySem.W.findIn X.K (.ref C) p.1 = some none ∧ xsOk n p.2) → ∀ {H : Hp} {acc : List (Str × V)} {D : Ends}, H a = some (exo a C (some dx)) → H dx = some (exd dx acc) → dx ≠ a → acc.length + fs.length ≤ 900 →
      (∀ H', (∀ b o, b ≠ dx → H b = some o → H' b = some o) → H' dx = some (exd dx ((fs.map fun p => (p.1, xsV vs p.2)).reverse ++ acc)) → D.nx σ H') → tWB X body D σ H
  | _, _, .nil, _, H, acc, D, ha, hd, ne, hl, k => tWB_of pss_nil (k H (fun _ _ _ h => h) hd)
  | _, _, .cons (self := self) (f := f) (s := s) (fs := fs) p0 pe hs r, hf, H, acc, D, ha, hd, ne, hl, k => by
    obtain ⟨hno, ok⟩ := hf (f, s) (by simp)
    refine tWB_of (pss_cons (ps_ost (p0 X hN hsc) pe_tW (hs X.env)) pss_tWB) ?_
    refine xs_run hv ok hσ (pe X hN hsc) ⟨.ref a, hσ 0 _ h0, a, C, rfl, T, hno, .inr ⟨dx, acc, ha, hd, by simp at hl; omega, ?_⟩⟩
    refine xb_old T hN hsc hv h0 hσ r (fun p hp => hf p (List.mem_cons_of_mem _ hp)) (by rw [upd_ne (Ne.symm ne)]; exact ha) upd_same ne (by simp at hl ⊢; omega) fun H' h1 h2 => k H' (fun b o hb ho => h1 b o hb (by rw [upd_ne hb]; exact ho)) ?_
    rw [h2]
    simp
theorem xb_new {N : List Str} {sc : Scope} {C a : Addr} {n : Nat} {vs : List V} {σ : L2.St} (T : OexC X.K C) (hN : X.N = N) (hsc : X.env.scope = sc) (hv : vs.length = n + 1) (h0 : vs[0]? = some (.ref a)) (hσ : ∀ (i : Nat) (v : V), vs[i]? = some v → σ[i]? = some (some v))
    {body : List Stmt} {fs : List (Str × XS)} (hne : fs ≠ []) (hb : XB N sc body fs) (hf : ∀ p ∈ fs, PySem.W.findIn X.K (.ref C) p.1 = some none ∧ xsOk n p.2) {H : Hp} {D : Ends} (ha : H a = some (exo a C none)) (hl : fs.length ≤ 900)
    (k : ∀ H' dx, (∀ b o, b ≠ a → H b = some o → H' b = some o) → H dx = none → dx ≠ a → H' a = some (exo a C (some dx)) → H' dx = some (exd dx (fs.map fun p => (p.1, xsV vs p.2)).reverse) → D.nx σ H') : tWB X body D σ H := by
  cases hb with
  | nil => exact absurd rfl hne
  | @cons self f s p1 p' pos e body fs p0 pe hs r =>
    obtain ⟨hno, ok⟩ := hf (f, s) (by simp)
    refine tWB_of (pss_cons (ps_ost (p0 X hN hsc) pe_tW (hs X.env)) pss_tWB) ?_
    refine xs_run hv ok hσ (pe X hN hsc) ⟨.ref a, hσ 0 _ h0, a, C, rfl, T, hno, .inl ⟨ha, fun dx hd ne => ?_⟩⟩
    have hd' : upd (upd H dx (exd dx [(f, xsV vs s)])) a (exo a C (some dx)) dx = some (exd dx [(f, xsV vs s)]) := by rw [upd_ne ne, upd_same]
    refine xb_old T hN hsc hv h0 hσ r (fun p hp => hf p (List.mem_cons_of_mem _ hp)) upd_same hd' ne (by simp at hl ⊢; omega) fun H' h1 h2 => k H' dx (fun b o hb ho => ?_) hd ne (h1 a _ (Ne.symm ne) upd_same) ?_
    · have hbd : b ≠ dx := fun z => by rw [z, hd] at ho; cases ho
      exact h1 b o hbd (by rw [upd_ne hb, upd_ne hbd]; exact ho)
    · rw [h2]; simp
end
theorem start_get {N : List Str} {vs : List V} {i : Nat} {v : V} (h : vs[i]? = some v) : (L2.start N vs)[i]? = some (some v) := by
  unfold L2.start
  have hi : i < vs.length := (List.getElem?_eq_some_iff.mp h).1
  rw [List.getElem?_append_left (by simpa using hi), List.getElem?_map, h]; rfl
section
variable {P : Program} {w : World} {K : PySem.W.Frag} {mg : Str → Option Value} {base : Heap} {x qual : Str} {params : Arguments} {body : List Stmt} {scope : Scope} {dvs : List V} {kws : List (Str × V)} {f : Addr} {fd : FuncData} {N ps : List Str} {k n : Nat} {fs : List (Str × XS)} {C : Addr}
theorem fnX_of (F : FunD K x qual params body scope dvs kws f fd) (S : FnScope N ps scope) (T : OexC K C) (hb : XB N scope body fs) (hn : ps.length = n + 1) (hne : fs ≠ []) (hf : ∀ p ∈ fs, PySem.W.findIn K (.ref C) p.1 = some none ∧ xsOk n p.2) (hl : fs.length ≤ 900) :
    FnOk P w K mg base (L2.CX P w) (k + 1) f fd ps (spX C n fs) := by
  refine F.ok S (fun vs H Q E h => by rw [hn]; exact h.1) fun cdv A outer s H vs Q E hr ⟨hv, a, h0, ha, q⟩ => ⟨_, pss_tWB, ?_⟩
  exact xb_new T rfl rfl hv h0 (fun i v h => start_get h) hne hb hf ha hl fun H' dx h1 h2 h3 h4 h5 => q H' dx h1 h2 h3 h4 h5
end
/-- an own exception's class -/
structure XcD (T : Tx) (c : Str) (n : Nat) (fs : List (Str × XS)) : Prop where
  ex : ∃ C fI fd ps k, T.mg c = some (.ref C) ∧ OexC T.K C ∧ PySem.W.findIn T.K (.ref C) "__init__" = some (some (.ref fI)) ∧ PySem.W.typeIn T.K (.ref fI) = some (.type "function") ∧ FnOk T.P T.w T.K T.mg T.base (L2.CX T.P T.w) k fI fd ps (spX C n fs) ∧ Binds T.K fd ps [] ∧ k + 1 ≤ T.lv
  ok : ∀ p ∈ fs, xsOk n p.2
theorem reps_xs {K : PySem.W.Frag} {mg : Str → Option Value} {S : Hp} {n : Nat} {ds : List D} {vs : List V} {a : V} (h : Reps K mg S ds vs) (hl : vs.length = n) : ∀ {fs : List (Str × XS)}, (∀ p ∈ fs, xsOk n p.2) → Reps K mg S (fs.map fun p => xsD (.non :: ds) p.2) (fs.map fun p => xsV (a :: vs) p.2)
  | [], _ => Reps.nil
  | (f, s) :: fs, ok => by
    refine Reps.cons ?_ (reps_xs h hl fun p hp => ok p (List.mem_cons_of_mem _ hp))
    have o := ok (f, s) (by simp)
    cases s with
    | inl j =>
      have hj : 1 ≤ j ∧ j ≤ n := o
      obtain ⟨j', rfl⟩ : ∃ j', j = j' + 1 := ⟨j - 1, by omega⟩
      have h1 : j' < ds.length := by rw [h.len]; omega
      obtain ⟨v, h2, h3⟩ := h.get (i := j') (List.getElem?_eq_getElem h1)
      have e1 : xsD (.non :: ds) (.inl (j' + 1)) = ds[j'] := by simp [xsD, List.getD, h1]
      have e2 : xsV (a :: vs) (.inl (j' + 1)) = v := by simp [xsV, List.getD, h2]
      show Rep K mg S (xsD (.non :: ds) (.inl (j' + 1))) (xsV (a :: vs) (.inl (j' + 1)))
      rw [e1, e2]; exact h3
    | inr vd => exact o K mg S
def exnX (c : Str) (fs : List (Str × XS)) (ds : List D) : Exn := ⟨c, (fs.map (·.1)).reverse, (fs.map fun p => xsD (.non :: ds) p.2).reverse⟩
def mRaise (c : Str) (n : Nat) (fs : List (Str × XS)) (ms : MA) : MS := fun Df F => ms F (fun xs F1 => frzAll F1 (xs.map hold) fun ds F2 => ds.length = n ∧ n ≤ 999 ∧ Df.ex (exnX c fs ds) F2) Df.ex
section
variable {T : Tx} {pos p : Pos} {e : Expr} {es : List Expr} {ms : MA} {c : Str} {n : Nat} {fs : List (Str × XS)}
theorem ss_raise (hx : XcD T c n fs) (ha : SA T (e :: es) ms) (hg : glC T.sc c = true := by decide +kernel) (hh : T.hot = false := by rfl) (hdb : (c == ("__debug__" : Str)) = false := by decide +kernel) (he : ∀ env, starEach (e :: es) env = (false, eval e env) :: starEach es env := by intros; rfl) (hpl : ∀ env, (backTo pos (starEach es env)).any (·.1) = false := by intros; rfl) {pos2 : Pos} :
    SS T (.Raise (some (.Call (.Name c p) (e :: es) [] pos)) none pos2) (mRaise c n fs ms) := fun X fx S P av F σ H Df R q tk => by
  obtain ⟨C, fI, fd, ps, k, hm, O, hi, ht, Fn, B, hk⟩ := hx.ex
  rw [← fx.K] at O hi ht B
  rw [← fx.prog, ← fx.w, ← fx.K, ← fx.mg, ← fx.base] at Fn
  rw [← fx.mg] at hm
  refine tWS_of (ps_raise (fx.calm hh) tk (pmk_oex (dvs := []) (ds := []) O hi ht Fn ((fx.room hh).mono hk) B .nil passL (gl_of fx.toFits hg) hm pa_tWA hdb (he X.env) (hpl X.env))) ?_
  refine tWA_mono (ha X fx.toFits S P av F σ H _ Df.ex R q tk) fun vs H1 ⟨S1, F1, xs, q1, e1, R1, k1⟩ => ?_
  obtain ⟨S2, F2, ds, ⟨l1, l2, q2⟩, e2, R2, r2⟩ := Rel.frzEvs (k := fun _ _ => True) R1 (evsOk_hold k1) q1
  have lv : vs.length = n := by rw [← r2.len]; exact l1
  refine ⟨by omega, fun a hna => ?_⟩
  rw [List.append_nil]
  refine ⟨by simp [lv], a, rfl, upd_same, fun H2 dx h1 h2 h3 h4 h5 => ⟨rfl, dx, _, h4, h5, by rw [upd_ne h3] at h2; exact h2, ?_⟩⟩
  have hd1 : H1 dx = none := by rw [upd_ne h3] at h2; exact h2
  have ex3 : Ex H1 (upd (del H2 a) dx (.xd (fs.map fun p => (p.1, xsV (.ref a :: vs) p.2)).reverse)) := fun b o hb => by
    have ba : b ≠ a := fun z => by rw [z, hna] at hb; cases hb
    have bd : b ≠ dx := fun z => by rw [z, hd1] at hb; cases hb
    rw [upd_ne bd, del_ne ba]
    exact h1 b o ba (by rw [upd_ne ba]; exact hb)
  have R3 := R2.ex ex3
  obtain ⟨e4, R4⟩ := R3.know (R2.sNone hd1) (R2.pNone hd1) upd_same (R2.free hd1)
  refine ⟨_, F2, _, q2, e1.trans (e2.trans e4), R4, C, dx, (fs.map fun p => xsV (.ref a :: vs) p.2).reverse, hm, rfl, rfl, by simp [exnX], ?_, Reps.mono e4 _ _ (Reps.rev (reps_xs r2 lv hx.ok))⟩
  rw [upd_same]
  show some (HO.xd _) = some (HO.xd ((fs.map (·.1)).reverse.zip (fs.map fun p => xsV (.ref a :: vs) p.2).reverse))
  rw [← List.map_reverse, ← List.map_reverse, ← List.map_reverse, List.zip_map']
end
end HD
set_option Elab.async false
set_option linter.all false
set_option maxRecDepth 100000
set_option maxHeartbeats 4000000
/-! HD, part 21: own exceptions caught, their fields. -/
namespace HD
open PySem PySem.Spec PyProof.Rows L2

section
variable {T : Tx} {X : Cx} {pos pos' p np : Pos} {e : Expr} {m : ME} {mb : MS} {x n : Str} {i : Nat} {body suite : List Stmt} {b₀ : Stmt} {cv : Value} {cs : List Str} {catch_ : Str → Bool}
/-- the body's reading, for any wish -/
def tTry (X : Cx) (body : List Stmt) (W : WX) : TS := fun D σ H => ∀ (pn : List (Addr × Obj)) (xe : Value → Shared → Prop), Takes (X.tr pn xe) W → PassesOwn (model X.prog X.w) X.A X.env xe → tWB (X.tr pn xe) body D σ H
def tSuite (X : Cx) (suite : List Stmt) (a : Addr) (cls : Value) (d : Option Addr) : TS := fun D σ H => ∀ (oe : Obj) (pn : List (Addr × Obj)), Zc cls d oe → (∃ vs, oe.data = .fields vs) → tWB (X.suite a ((a, oe) :: pn)) suite D σ H
/-- the class that a clause names -/
structure CatD (T : Tx) (x : Str) (cv : Value) (cs : List Str) (catch_ : Str → Bool) : Prop where
  nm : T.mg x = some cv
  is : ∀ c ∈ cs, ∀ C, T.mg c = some (.ref C) → PySem.W.exmOne T.K (.ref C) cv = some (catch_ c)
theorem fitsTr (fx : FitS T X) (he : T.exc = none) {pn : List (Addr × Obj)} {xe : Value → Shared → Prop} (hp : PassesOwn (model X.prog X.w) X.A X.env xe) : FitS T (X.tr pn xe) :=
  ⟨⟨fx.prog, fx.w, fx.K, fx.mg, fx.base, fx.N, fx.sc, fx.un, fx.roomy, fun a c d z => (by rw [he] at z; cases z), fx.nd, fx.fn⟩, hp, fx.hs, fx.hf⟩
def txS (T : Tx) (a : Addr) (cls : Value) (dx : Addr) : Tx := { T with hot := true, exc := some (a, cls, dx) }
theorem fitsSuite (fx : FitS T X) {a dx : Addr} {cls : Value} {oe : Obj} {pn : List (Addr × Obj)} (hz : Zc cls (some dx) oe) (hf : ∃ vs, oe.data = .fields vs) : FitS (txS T a cls dx) (X.suite a ((a, oe) :: pn)) :=
  ⟨⟨fx.prog, fx.w, fx.K, fx.mg, fx.base, fx.N, fx.sc, fx.un, fun z => (by cases z), fun a' c' d' z => (by cases z; exact ⟨X, oe, pn, rfl, hz, hf⟩), fx.nd, fx.fn⟩, PassesOwn.never, fx.hs, fx.hf⟩
def exnD (a : Addr) (cls : Value) (dx : Addr) (x : Exn) : D := .exn a cls dx x.c x.ns x.vs
def suiteE (i : Nat) (Df : DE) : DE where
  nx := fun F => Df.nx (F.set i none)
  rt := Df.rt
  bk := fun F => Df.bk (F.set i none)
  ct := fun F => Df.ct (F.set i none)
  ex := noE
def mTryAs (cs : List Str) (catch_ : Str → Bool) (i : Nat) (mb : MS) (ms : Addr → Value → Addr → MS) : MS := fun Df F =>
  mb { Df with ex := fun x F1 => x.c ∈ cs ∧ brK (catch_ x.c) (∀ a cls dx, ms a cls dx (suiteE i Df) (F1.set i (some (.sh (exnD a cls dx x))))) (Df.ex x F1) } F
theorem Rel.forget {K : PySem.W.Frag} {mg : Str → Option Value} {S P H : Hp} {av : List V} {F : Fr} {σ : L2.St} (R : Rel K mg S P av F σ H) (i : Nat) : Rel K mg S P av (F.set i none) (σ.set i none) H :=
  R.set i (v := .non) (.inl rfl) (fun d h => by cases h) (fun k h => by cases h) (fun c h => by cases h)
theorem ss_try_as {ms : Addr → Value → Addr → MS} (hcat : CatD T x cv cs catch_) (hN : T.N[i]? = some n) (hln : T.sc.names.lookup n = some .local) (hb : SSs T body mb) (hsu : ∀ a cls dx, SSs (txS T a cls dx) (b₀ :: suite) (ms a cls dx))
    (hg : glC T.sc x = true := by decide +kernel) (hdb : (x == ("__debug__" : Str)) = false := by decide +kernel) (hexc : T.exc = none := by rfl) :
    SS T (.Try body [.ExceptHandler (some (.Name x np)) (some n) (b₀ :: suite) pos'] [] [] pos) (mTryAs cs catch_ i mb ms) := fun X fx S P av F σ H Df R q tk => by
  refine tWS_of (ps_try_as (i := i) (c := cv) (tb := tTry X body) (ts := tSuite X (b₀ :: suite)) (Wout := UpX X S P av Df.ex) fx.hs fx.hf fx.nd (by rw [fx.N]; exact hN) (show X.env.scope.names.lookup n = some .local from by rw [fx.sc]; exact hln) ⟨gl_of fx.toFits hg, hdb, .inl (by rw [fx.mg]; exact hcat.nm)⟩ tk
    (fun W pn xe tk hp => ⟨fun pins s σ H D I h => h pn xe tk hp pins s I⟩) (fun a oe cls d pn hz hf => ⟨fun pins s σ H D I h => h oe pn hz hf pins s I⟩)) ?_
  intro pn xe tk' hp'
  have fx' := fitsTr fx hexc (pn := pn) hp'
  refine tWB_le (hb _ fx' S P av F σ H { Df with ex := fun x F1 => x.c ∈ cs ∧ brK (catch_ x.c) (∀ a cls dx, ms a cls dx (suiteE i Df) (F1.set i (some (.sh (exnD a cls dx x))))) (Df.ex x F1) } R q (tk'.imp fun cls d σ1 H1 ⟨S1, F1, x1, ⟨hc, q1⟩, e1, R1, xo⟩ => ?_)) ⟨fun _ _ u => u, fun _ _ u => u, fun _ _ u => u, fun _ _ u => u⟩
  obtain ⟨C, dx, vs, hm, rfl, rfl, hl, hS, rv⟩ := xo
  refine ⟨catch_ x1.c, by show PySem.W.exmOne X.K (.ref C) cv = _; rw [fx.K]; exact hcat.is x1.c hc C (by rw [← fx.mg]; exact hm), fun hy a hna => ?_, fun hn => ⟨S1, F1, x1, q1.2 hn, e1, R1, C, dx, vs, hm, rfl, rfl, hl, hS, rv⟩⟩
  intro oe pn2 hz hf
  have fs := fitsSuite (a := a) fx hz hf (pn := pn2)
  have R2 : Rel X.K X.mg S1 P av (F1.set i (some (.sh (exnD a (.ref C) dx x1)))) (σ1.set i (some (.ref a))) H1 := R1.set i (v := .ref a) (.inr rfl) (fun d hd => by
    cases hd
    unfold exnD Rep
    exact ⟨rfl, hm, vs, hl, hS, rv⟩) (fun k hk => by cases hk) (fun c hc => by cases hc)
  refine tWB_le (hsu a (.ref C) dx _ fs S1 P av _ _ H1 (suiteE i Df) R2 (q1.1 hy a (.ref C) dx) takes_noE) ⟨fun σ3 H3 ⟨S3, F3, q3, e3, R3⟩ => ⟨S3, _, q3, e1.trans e3, R3.forget i⟩, fun v H3 u => u.mono e1, fun σ3 H3 ⟨S3, F3, q3, e3, R3⟩ => ⟨S3, _, q3, e1.trans e3, R3.forget i⟩, fun σ3 H3 ⟨S3, F3, q3, e3, R3⟩ => ⟨S3, _, q3, e1.trans e3, R3.forget i⟩⟩

/-! ### e.f in the suite -/
def exfK (cs : List Str) (f : Str) (a : Addr) (cls : Value) (dx : Addr) : D → (D → Prop) → Prop
  | .exn a' cls' dx' c ns vs, k => a' = a ∧ cls' = cls ∧ dx' = dx ∧ c ∈ cs ∧ ∃ d, lookD f ns vs = some d ∧ k d
  | _, _ => False
def mExf (cs : List Str) (f : Str) (a : Addr) (cls : Value) (dx : Addr) (m : ME) : ME := fun F Q E => m F (fun x F1 => valK F1 x fun d => exfK cs f a cls dx d fun r => Q (.sh r) F1) E
structure XfD (T : Tx) (c f : Str) : Prop where
  cl : ∀ u, T.mg c = some u → ∃ C, u = .ref C
  is : ∀ C, T.mg c = some (.ref C) → XfC T.K C ∧ PySem.W.findIn T.K (.ref C) f = some none
theorem se_exf {f : Str} {a dx : Addr} {cls : Value} (hx : T.exc = some (a, cls, dx)) (hc : ∀ c ∈ cs, XfD T c f) (he : SE T e m) (hb : ∀ env, attributeBase e f env (eval e env) = eval e env := by intros; rfl) : SE T (.Attribute e f pos) (mExf cs f a cls dx m) := fun X fx S P av F σ H Q E R q tk => by
  obtain ⟨X', oe, pn, hX, hz, hf⟩ := fx.exc a cls dx hx
  subst hX
  intro pins s I
  refine attr_of (hb _) (thn (he _ fx S P av F σ H _ E R q tk pins s I) fun u s1 ⟨x, H1, I1, rx, S1, F1, ev1, q1, e1, R1, k1⟩ => ?_)
  obtain ⟨d, q2, t1⟩ := R1.val k1 q1
  match d, q2, t1 with
  | .exn a' cls' dx' c ns vs, ⟨h1, h2, h3, hm, d2, h4, q3⟩, t1 =>
    subst h1 h2 h3
    have t1 : Rep X'.K X'.mg S1 (.exn a' cls' dx' c ns vs) x := t1
    unfold Rep at t1
    obtain ⟨rfl, hC, us, hl, hS, rv⟩ := t1
    obtain ⟨v, l, r5⟩ := lookD_rep rv hl h4
    obtain rfl : u = Value.ref a' := rx
    obtain ⟨C, rfl⟩ : ∃ C, cls' = .ref C := (hc c hm).cl cls' (by rw [← fx.mg]; exact hC)
    obtain ⟨Tf, hno⟩ := (hc c hm).is C (by rw [← fx.mg]; exact hC)
    rw [← fx.K] at Tf hno
    have ea := R1.sH dx' _ hS
    obtain ⟨ha, _⟩ := I1.pin (a', oe) (List.mem_append_left _ List.mem_cons_self)
    obtain ⟨vs', hd⟩ := hf
    have hx : ObjOk X'.prog X'.w H1 s1.heap dx' (.xd (ns.zip us)) := I1.hok dx' _ ea
    obtain ⟨mA, hns, hr⟩ := hx
    obtain ⟨od, ho, hl2⟩ := lookIn_ns hns
    obtain ⟨u, hu, ru⟩ := RelO.some_of (v := v) (o := mA f) (by rw [← l]; exact hr f)
    have J : PySem.W.InstAt s1.heap a' oe C (some od) := ⟨ha, hz.1, by unfold PySem.W.notCls; rw [hd] <;> rfl, by rw [hz.2]; exact ho⟩
    exact HandSPX.exc_get I1.kIn J Tf.ga Tf.gg Tf.exC (PySem.W.findObj_own Tf.hdC hno rfl (by rw [hl2, hu])) (handed_of ru) ⟨v, H1, I1.tok _, ru, S1, F1, _, q3, e1, R1, r5⟩
end
end HD
set_option Elab.async false
set_option linter.all false
set_option maxRecDepth 100000
set_option maxHeartbeats 4000000
/-! HD, part 22: for in a generator's body. -/
namespace HD
open PySem PySem.Spec PyProof.Rows L2 GenW

section
variable {prog : Program} {w : World} {A : Around} {R : GenEnd} {Y : Protocol} {n : Nat} {s₀ : Shared} {fs : List Frame} {s : Shared} {env : Env}
def excW (env : Env) (x : Value) : Sem PySem.Fin := (do noteFrame x env; theTreesLotGoes x : Sem Unit).wrap (fun _ => .raise x) .raise id id
theorem excW_eq (env : Env) (x : Value) : ((do noteFrame x env; theTreesLotGoes x : Sem Unit).bind fun _ => .raise x) = excW env x := by
  unfold excW
  rw [Sem.bind_eq_wrap]
theorem seg_forLoop {target : Expr} {it : Value} {body : List Stmt}
    (h : wpAny (model prog w) (A.over (.forLoop target it body [] env) fs) (pyNext it) (fun r s1 => match r with
      | none => Seg (model prog w) A R Y n s₀ (.forLoop target it body [] env) (.pure (.again (.block [] env))) fs s1
      | some v => wpAny (model prog w) (A.over (.forLoop target it body [] env) fs) (letOwnedTupleGo target it v) (fun _ s2 => wpAny (model prog w) (A.over (.forLoop target it body [] env) fs) (assign target env v) (fun _ s3 =>
          Seg (model prog w) A R Y n s₀ (.forLoop target it body [] env) ((execs body env).wrap (fun f => match f with
            | .next | .cont => .pure (.again (.forLoop target it body [] env))
            | .brk => .pure (.done .next)
            | .ret v => .pure (.done (.ret v))) (excW env) id id) fs s3)
        (fun x s' => Seg (model prog w) A R Y n s₀ (.forLoop target it body [] env) (excW env x) fs s') s2) (fun x s' => Seg (model prog w) A R Y n s₀ (.forLoop target it body [] env) (excW env x) fs s') s1)
      (fun x s' => Seg (model prog w) A R Y n s₀ (.forLoop target it body [] env) (excW env x) fs s') s) :
    Seg (model prog w) A R Y n s₀ (.forLoop target it body [] env) ((model prog w).den (.forLoop target it body [] env)) fs s := by
  show Seg _ A R Y n s₀ _ ((forTurn target it body [] env).onRaise (fun x => do noteFrame x env; theTreesLotGoes x)) fs s
  unfold forTurn
  rw [Sem.onRaise_eq_wrap]
  rw [show (fun e => ((fun x => (do noteFrame x env; theTreesLotGoes x : Sem Unit)) e).bind fun _ => (Sem.raise e : Sem PySem.Fin)) = excW env from funext fun x => excW_eq env x]
  refine seg_bind_wrap (wpAny_standAt ?_)
  refine seg_bind_wrap (wpAny_onRaise (wpAny_mono h (fun r s1 h1 => ?_) fun x s' hx => wpAny_standAt hx))
  cases r with
  | none => exact h1
  | some v =>
    refine seg_bind_wrap (wpAny_mono h1 (fun _ s2 h2 => ?_) fun _ _ x => x)
    refine seg_bind_wrap (wpAny_mono h2 (fun _ s3 h3 => ?_) fun _ _ x => x)
    rw [Sem.bind_eq_wrap', Sem.wrap_wrap]
    rw [Sem.wrap_congr (execs body env) _ _ (K' := fun f => match f with
            | .next | .cont => .pure (.again (.forLoop target it body [] env))
            | .brk => .pure (.done .next)
            | .ret v => .pure (.done (.ret v))) (H' := excW env)
        (fun f => by cases f <;> rfl) (fun e => by rfl)]
    exact h3
end
section
variable {M : Model} {A : Around} {R : GenEnd} {Y : Protocol} {n : Nat} {s₀ : Shared} {c : Code} {fs : List Frame} {s : Shared} {env : Env}
  {K : Flow → Sem PySem.Fin} {J : Value → Sem PySem.Fin} {gd : Bool → Bool} {lv : List Value → List Value}
theorem seg_For {target iter : Expr} {body : List Stmt} {pos : Pos}
    (h : wpAny M (A.over c fs) (eval iter env) (fun x s1 => wpAny M (A.over c fs) (pyIter x) (fun it s2 => ∀ p, Seg M A R Y n s₀ (.forLoop target it body [] env) (M.den (.forLoop target it body [] env))
      (.ret (fun r => ((match r with | .ok f => (.pure f : Sem Flow) | .error e => .raise e).onRaise (cameBack env)).wrap K J gd lv) none (gd false) (lv []) c p [] :: fs) s2)
      (fun x s' => Seg M A R Y n s₀ c (J x) fs s') s1) (fun x s' => Seg M A R Y n s₀ c (J x) fs s') s)
    (hs : ∀ x, foldedSetIterable iter env x = pure x) :
    Seg M A R Y n s₀ c ((exec (.For target iter body [] pos) env).wrap K J gd lv) fs s := by
  rw [exec_For]
  refine seg_bind_wrap (wpAny_standAt ?_)
  refine seg_bind_wrap (wpAny_mono h (fun x s1 h1 => ?_) fun _ _ x => x)
  refine seg_bind_wrap (wpAny_of_eq (hs x) ?_)
  refine seg_bind_wrap (wpAny_standAt ?_)
  refine seg_bind_wrap (wpAny_holding (wpAny_mono h1 (fun it s2 h2 => ?_) fun _ _ x => x))
  exact seg_call h2
end

/-- W: by the turn, a measure, what is out; N: what the body is to reach -/
def tGFor (wi : TI) (g : TG) (tb : TGn) : TGn := fun D ys σ H => wi σ H fun J H1 => ∃ W : Nat → Nat → List V → L2.St → Hp → Prop, (∃ m, W 0 m ys σ H1) ∧ ∀ i m ys σ H, W i m ys σ H →
  (J.stop i H ∧ D.nx ys σ H) ∨ (J.go i H ∧ ∃ N : List V → L2.St → Hp → Prop, (∀ ys' σ' H', N ys' σ' H' → ∃ m', m' < m ∧ W (i + 1) m' ys' σ' H') ∧ ∀ x H', J.yld i H x H' → g x σ H' fun σ2 H2 => tb { D with nx := N, ct := N, bk := D.nx } ys σ2 H2)
section
variable {X : Cx}
theorem gs_for {tg iter : Expr} {body : List Stmt} {wi : TI} {g : TG} {tb : TGn} {pos : Pos} (hp : PassesOwn (model X.prog X.w) X.A X.env X.xe) (hc : X.calm = true) (hi : PI X tg iter wi) (hg : PG X tg g) (hb : GSs X body tb)
    (hs : ∀ x, foldedSetIterable iter X.env x = pure x) : GS X (.For tg iter body [] pos) (tGFor wi g tb) := by
  refine ⟨fun A S ip R n ys s₀ c fs K J gd lv s σ H D gc hn k hI ht => ?_⟩
  obtain ⟨acc, cc, r, I⟩ := hI
  refine seg_For ?_ hs
  rw [gc.over]
  refine wpAny_mono (hi.run _ s σ H _ I ht) (fun v s1 h1 => wpAny_mono h1 (fun itv s2 h2 => ?_) fun x s' hx => k.exc n s₀ x s' hx) fun x s' hx => k.exc n s₀ x s' hx
  obtain ⟨it, fp, tn, Jt, H2, e, I2, T, st2, f2, W, ⟨m0, w0⟩, turn⟩ := h2
  subst e
  intro p
  have gl := fun (kk : Result → Sem PySem.Fin) => gc_loop (k := kk) (c' := .forLoop tg (.ref it) body [] X.env) (l := lv []) (kp := []) (p := p) gc rfl rfl
  have hSf : ∀ b ∈ fp, b ≠ S := fun b hb z => by
    have := (f2 b hb).2.2.2.2.2
    exact this (S, lstObj acc cc) (List.mem_append_right _ List.mem_cons_self) z.symm
  have stat : ∀ {pins : List (Addr × Obj)} {H' : Hp}, (∀ b ∈ fp, H' b = none) → (∀ q ∈ pins, q ∈ (S, lstObj acc cc) :: ip ∨ q.1 = S) → ∀ b ∈ fp, FpOk X pins H' b := fun {pins H'} hn hq b hb => by
    obtain ⟨f0, f1, f2', f3, f4, f5⟩ := f2 b hb
    refine ⟨hn b hb, f1, f2', f3, f4, fun q hqm => ?_⟩
    rcases List.mem_append.mp hqm with h | h
    · exact f5 q (List.mem_append_left _ h)
    · rcases hq q h with h | h
      · exact f5 q (List.mem_append_right _ h)
      · exact fun z => hSf b hb (by rw [← z, h])
  have loop : ∀ (m i n : Nat) (ys : List V) (s₀ s : Shared) (σ : L2.St) (H : Hp), n + ys.length = sizeLine → W i m ys σ H → tn i s.heap → (∀ b ∈ fp, H b = none) → GI X S ip ys σ H s →
      Seg (model X.prog X.w) A R (GY X S) n s₀ (.forLoop tg (.ref it) body [] X.env) ((model X.prog X.w).den (.forLoop tg (.ref it) body [] X.env))
        (.ret (fun r => ((match r with | .ok f => (.pure f : Sem Flow) | .error e => .raise e).onRaise (cameBack X.env)).wrap K J gd lv) none (gd false) (lv []) c p [] :: fs) s := by
    intro m
    induction m using Nat.strongRecOn with
    | ind m ih =>
      intro i n ys s₀ s3 σ3 H3 hn w3 st3 fr3 hI3
      have ee : ∀ (n : Nat) (s₀ : Shared) (x : Value) (s' : Shared), X.xe x s' → Seg (model X.prog X.w) A R (GY X S) n s₀ (.forLoop tg (.ref it) body [] X.env) (excW X.env x)
          (.ret (fun r => ((match r with | .ok f => (.pure f : Sem Flow) | .error e => .raise e).onRaise (cameBack X.env)).wrap K J gd lv) none (gd false) (lv []) c p [] :: fs) s' := fun n s₀ x s' hx => by
        refine seg_wrap ?_
        rw [(gl _).over]
        refine wpAny_bind (wpAny_mono (hp x s' hx) (fun _ s'' hcb => wpAny_theTreesLotGoes ?_) fun y s'' hcb => ?_)
        · exact seg_leaf (.error x) (seg_cameBack gc k hcb)
        · exact seg_leaf (.error y) (seg_cameBack gc k hcb)
      refine seg_forLoop ?_
      rw [(gl _).over]
      obtain ⟨acc3, cc3, r3, I3⟩ := hI3
      have hq3 : ∀ q ∈ (S, lstObj acc3 cc3) :: ip, q ∈ (S, lstObj acc cc) :: ip ∨ q.1 = S := fun q hq => (List.mem_cons.mp hq).elim (fun h => .inr (by rw [h])) fun h => .inl (List.mem_cons_of_mem _ h)
      rcases turn i m ys σ3 H3 w3 with ⟨stop, qn⟩ | ⟨go, N, hN, step⟩
      · refine wpAny_mono (T.done X rfl rfl rfl hc i _ s3 σ3 H3 X.xe I3 (stat fr3 hq3) st3 stop) (fun rr s4 ⟨hr, I4⟩ => ?_) fun x s' hx => ee n s₀ x s' hx
        subst hr
        refine seg_again rfl ?_
        exact seg_leaf (.ok .next) (k.ok n ys s₀ s4 .next hn ⟨σ3, H3, ⟨acc3, cc3, r3, I4⟩, qn⟩)
      · refine wpAny_mono (T.item X rfl rfl rfl hc i _ s3 σ3 H3 X.xe I3 (stat fr3 hq3) st3 go) (fun rr s4 ⟨u, hr, h4⟩ => ?_) fun x s' hx => ee n s₀ x s' hx
        subst hr
        refine wpAny_mono h4 (fun _ s5 ⟨x, H5, I5, r5, y5, st5, fr5⟩ => ?_) fun x s' hx => ee n s₀ x s' hx
        have I5' := I5.pinned (stat fr5 hq3) (T.obj _ _ st5)
        refine wpAny_mono (hg.run _ s5 σ3 H5 x u _ I5' r5 (step x H5 y5)) (fun _ s6 ⟨σ6, H6, I6, q6⟩ => ?_) fun x s' hx => ee n s₀ x s' hx
        have G6 : GI X S (ip ++ pinsAt fp s5.heap) ys σ6 H6 s6 := ⟨acc3, cc3, r3, I6⟩
        have gc' : GC X S (ip ++ pinsAt fp s5.heap) A (.forLoop tg (.ref it) body [] X.env) (.ret (fun r => ((match r with | .ok f => (.pure f : Sem Flow) | .error e => .raise e).onRaise (cameBack X.env)).wrap K J gd lv) none (gd false) (lv []) c p [] :: fs) id :=
          { gl _ with ip := fun q hq => (List.mem_append.mp hq).elim (gc.ip q) fun h => hSf q.1 (of_pinsAt h).1 }
        -- what stays of the iterator's objects
        have back : ∀ {ys' : List V} {σ' : L2.St} {H' : Hp} {s' : Shared}, GI X S (ip ++ pinsAt fp s5.heap) ys' σ' H' s' → GI X S ip ys' σ' H' s' ∧ tn (i + 1) s'.heap ∧ ∀ b ∈ fp, H' b = none := fun {ys' σ' H' s'} ⟨ac, c', r', I'⟩ => by
          have inp : ∀ {b : Addr} {o : Obj}, b ∈ fp → s5.heap.get? b = some o → (b, o) ∈ X.pn ++ ((S, lstObj ac c') :: (ip ++ pinsAt fp s5.heap)) := fun {b o} hb e => List.mem_append_right _ (List.mem_cons_of_mem _ (List.mem_append_right _ (mem_pinsAt hb e)))
          refine ⟨⟨ac, c', r', I'.pins_of fun q hq => ?_⟩, T.keep _ _ _ st5 fun b hb o e => (I'.pin (b, o) (inp hb e)).1, fun b hb => ?_⟩
          · rcases List.mem_cons.mp hq with h | h
            · rw [h]; exact I'.pin _ (List.mem_append_right _ List.mem_cons_self)
            · exact I'.pin q (List.mem_append_right _ (List.mem_cons_of_mem _ (List.mem_append_left _ h)))
          · obtain ⟨o, e, _⟩ := T.obj _ _ st5 b hb
            exact (I'.pin (b, o) (inp hb e)).2.1
        refine hb.run A S (ip ++ pinsAt fp s5.heap) R n ys s₀ _ _ _ _ id id s6 σ6 H6 { D with nx := N, ct := N, bk := D.nx } gc' hn ⟨fun n' ys' s₀' s7 f hn' hs7 => ?_, fun n' s₀' x s7 hx => ee n' s₀' x s7 hx⟩ G6 q6
        cases f with
        | next =>
          obtain ⟨σ7, H7, G7, n7⟩ := hs7
          obtain ⟨m', hm, w7⟩ := hN ys' σ7 H7 n7
          obtain ⟨b1, b2, b3⟩ := back G7
          exact seg_again rfl (ih m' hm (i + 1) n' ys' s₀' s7 σ7 H7 hn' w7 b2 b3 b1)
        | cont =>
          obtain ⟨σ7, H7, G7, n7⟩ := hs7
          obtain ⟨m', hm, w7⟩ := hN ys' σ7 H7 n7
          obtain ⟨b1, b2, b3⟩ := back G7
          exact seg_again rfl (ih m' hm (i + 1) n' ys' s₀' s7 σ7 H7 hn' w7 b2 b3 b1)
        | brk =>
          obtain ⟨σ7, H7, G7, n7⟩ := hs7
          exact seg_leaf (.ok .next) (k.ok n' ys' s₀' s7 .next hn' ⟨σ7, H7, (back G7).1, n7⟩)
        | ret v =>
          obtain ⟨v7, σ7, H7, G7, r7, n7⟩ := hs7
          exact seg_leaf (.ok (.ret v)) (k.ok n' ys' s₀' s7 (.ret v) hn' ⟨v7, σ7, H7, (back G7).1, r7, n7⟩)
  exact loop m0 0 n ys s₀ s2 σ H2 hn w0 st2 (fun b hb => (f2 b hb).1) ⟨acc, cc, r, I2⟩
end
end HD
set_option Elab.async false
set_option linter.all false
set_option maxRecDepth 100000
set_option maxHeartbeats 4000000
/-! HD, part 23: dicts of the module with text keys; generator defs, list(o.m()). -/
namespace HD
open PySem PySem.Spec PyProof.Rows L2 GenW

/-- a dict of the module: some of its keys, texts that are no keys -/
structure KdD (w : World) (K : PySem.W.Frag) (mg : Str → Option Value) (x : Str) (tab : List (Str × D)) (no : Str → Prop) : Prop where
  ex : ∃ d es n, mg x = some (.ref d) ∧ KDict K w d es n ∧ (∀ p ∈ tab, ∃ u v, PySem.W.nsIn K d p.1 = some (some u) ∧ RelV v u ∧ ∀ K mg S, Rep K mg S p.2 v) ∧ ∀ z, no z → PySem.W.nsIn K d z = some none
def kdHas (tab : List (Str × D)) (no : Str → Prop) (z : Str) (b : Bool) : Prop := (b = true ∧ ∃ d, (z, d) ∈ tab) ∨ (b = false ∧ no z)
def strK : D → (Str → Prop) → Prop
  | .str z, k => k z
  | _, _ => False
section
variable {T : Tx} {X : Cx} {pos p : Pos} {a e : Expr} {m ma : ME} {x : Str} {tab : List (Str × D)} {no : Str → Prop}
def mKdIn (f : Bool → Bool) (tab : List (Str × D)) (no : Str → Prop) (ma : ME) : ME := fun F Q E => ma F (fun y F1 => valK F1 y fun d => strK d fun z => ∃ b, kdHas tab no z b ∧ Q (.sh (.bl (f b))) F1) E
theorem kdHas_ns {K : PySem.W.Frag} {d : Addr} {z : Str} {b : Bool} (h1 : ∀ p ∈ tab, ∃ u v, PySem.W.nsIn K d p.1 = some (some u) ∧ RelV v u ∧ ∀ K mg S, Rep K mg S p.2 v) (h2 : ∀ z, no z → PySem.W.nsIn K d z = some none) (h : kdHas tab no z b) : ∃ r, PySem.W.nsIn K d z = some r ∧ r.isSome = b := by
  rcases h with ⟨rfl, dd, hm⟩ | ⟨rfl, hn⟩
  · obtain ⟨u, v, h3, _⟩ := h1 _ hm
    exact ⟨_, h3, rfl⟩
  · exact ⟨_, h2 z hn, rfl⟩
theorem se_kdIn (hk : KdD T.w T.K T.mg x tab no) (ha : SE T a ma) (hm : behindInMarks .In (.Name x p) = false) (hg : glC T.sc x = true := by decide +kernel) (hdb : (x == ("__debug__" : Str)) = false := by decide +kernel) : SE T (.Compare a [.In] [.Name x p] pos) (mKdIn (fun b => b) tab no ma) := fun X fx S P av F σ H Q E R q tk => by
  obtain ⟨d, es, n, hx, kd, h1, h2⟩ := hk.ex
  rw [← fx.K, ← fx.w] at kd
  rw [← fx.K] at h1 h2
  refine tW_of (pe_cmpR (op_in_kd kd) pe_tW (pe_glob (v := .ref d) (gl_of fx hg) (by rw [fx.mg]; exact hx) rfl hdb) hm) ?_
  refine tW_mono (ha X fx S P av F σ H _ E R q tk) fun y H1 ⟨S1, F1, ev1, q1, e1, R1, k1⟩ => ?_
  obtain ⟨dd, q2, t1⟩ := R1.val k1 q1
  match dd, q2, t1 with
  | .str z, ⟨b, hb, q3⟩, t1 =>
    obtain ⟨r, h3, h4⟩ := kdHas_ns h1 h2 hb
    exact ⟨z, r, repT_str t1, rfl, h3, by rw [h4]; exact ⟨S1, F1, _, q3, e1, R1, by show Rep _ _ _ _ _; unfold Rep; rfl⟩⟩
theorem se_kdNotIn (hk : KdD T.w T.K T.mg x tab no) (ha : SE T a ma) (hm : behindInMarks .NotIn (.Name x p) = false) (hg : glC T.sc x = true := by decide +kernel) (hdb : (x == ("__debug__" : Str)) = false := by decide +kernel) : SE T (.Compare a [.NotIn] [.Name x p] pos) (mKdIn (fun b => !b) tab no ma) := fun X fx S P av F σ H Q E R q tk => by
  obtain ⟨d, es, n, hx, kd, h1, h2⟩ := hk.ex
  rw [← fx.K, ← fx.w] at kd
  rw [← fx.K] at h1 h2
  refine tW_of (pe_cmpR (op_notIn_kd kd) pe_tW (pe_glob (v := .ref d) (gl_of fx hg) (by rw [fx.mg]; exact hx) rfl hdb) hm) ?_
  refine tW_mono (ha X fx S P av F σ H _ E R q tk) fun y H1 ⟨S1, F1, ev1, q1, e1, R1, k1⟩ => ?_
  obtain ⟨dd, q2, t1⟩ := R1.val k1 q1
  match dd, q2, t1 with
  | .str z, ⟨b, hb, q3⟩, t1 =>
    obtain ⟨r, h3, h4⟩ := kdHas_ns h1 h2 hb
    exact ⟨z, r, repT_str t1, rfl, h3, by rw [h4]; exact ⟨S1, F1, _, q3, e1, R1, by show Rep _ _ _ _ _; unfold Rep; rfl⟩⟩
def mKdIx (tab : List (Str × D)) (ma : ME) : ME := fun F Q E => ma F (fun y F1 => valK F1 y fun d => strK d fun z => ∃ dd, (z, dd) ∈ tab ∧ Q (.sh dd) F1) E
theorem se_kdIx (hk : KdD T.w T.K T.mg x tab no) (ha : SE T a ma) (hs : PlainIx a) (hg : glC T.sc x = true := by decide +kernel) (hdb : (x == ("__debug__" : Str)) = false := by decide +kernel) : SE T (.Subscript (.Name x p) a pos) (mKdIx tab ma) := fun X fx S P av F σ H Q E R q tk => by
  obtain ⟨d, es, n, hx, kd, h1, h2⟩ := hk.ex
  rw [← fx.K, ← fx.w] at kd
  rw [← fx.K] at h1 h2
  refine tW_of (pe_ix ix_kdict (pe_glob (v := .ref d) (gl_of fx hg) (by rw [fx.mg]; exact hx) rfl hdb) pe_tW hs) ?_
  refine tW_mono (ha X fx S P av F σ H _ E R q tk) fun y H1 ⟨S1, F1, ev1, q1, e1, R1, k1⟩ => ?_
  obtain ⟨dd, q2, t1⟩ := R1.val k1 q1
  match dd, q2, t1 with
  | .str z, ⟨b, hb, q3⟩, t1 =>
    obtain ⟨u, v, h3, h4, h5⟩ := h1 _ hb
    exact ⟨d, z, v, rfl, repT_str t1, ⟨es, n, u, kd.at_, kd.lit, h3, h4⟩, S1, F1, _, q3, e1, R1, h5 _ _ _⟩
end

/-! ### generators -/
structure DEg where
  nx : List D → Fr → Prop
  rt : List D → Ev → Fr → Prop
  bk : List D → Fr → Prop
  ct : List D → Fr → Prop
  ex : EX
abbrev MGn := DEg → List D → Fr → Prop
section
variable (X : Cx) (S P : Hp) (av : List V)
def UpG (p : List D → Fr → Prop) : List V → L2.St → Hp → Prop := fun ys σ' H' => ∃ S' F' ds, p ds F' ∧ Ex S S' ∧ Rel X.K X.mg S' P av F' σ' H' ∧ Reps X.K X.mg S' ds ys
def gends (E : DEg) : GEnds := { nx := UpG X S P av E.nx, rt := fun ys v H' => ∃ S' F' σ' ev ds, E.rt ds ev F' ∧ Ex S S' ∧ Rel X.K X.mg S' P av F' σ' H' ∧ EvOk X.K X.mg S' P av F' σ' H' v ev ∧ Reps X.K X.mg S' ds ys, bk := UpG X S P av E.bk, ct := UpG X S P av E.ct }
end
theorem UpG.mono {X : Cx} {S S' P : Hp} {av : List V} {p : List D → Fr → Prop} (e : Ex S S') {ys σ H} (u : UpG X S' P av p ys σ H) : UpG X S P av p ys σ H := by
  obtain ⟨S2, F2, ds, q, e2, R⟩ := u
  exact ⟨S2, F2, ds, q, e.trans e2, R⟩
structure GEndsLe (E E' : GEnds) : Prop where
  nx : ∀ ys σ H, E.nx ys σ H → E'.nx ys σ H
  rt : ∀ ys v H, E.rt ys v H → E'.rt ys v H
  bk : ∀ ys σ H, E.bk ys σ H → E'.bk ys σ H
  ct : ∀ ys σ H, E.ct ys σ H → E'.ct ys σ H
theorem gends_mono {X : Cx} {S S' P : Hp} {av : List V} (e : Ex S S') (E : DEg) : GEndsLe (gends X S' P av E) (gends X S P av E) :=
  ⟨fun _ _ _ u => u.mono e, fun ys v H ⟨S2, F2, σ2, ev, ds, q, e2, r⟩ => ⟨S2, F2, σ2, ev, ds, q, e.trans e2, r⟩, fun _ _ _ u => u.mono e, fun _ _ _ u => u.mono e⟩
theorem GSP.le {X : Cx} {S : Addr} {ip : List (Addr × Obj)} {E E' : GEnds} (l : GEndsLe E E') {ys : List V} {f : Flow} {s : Shared} (h : GSP X S ip E ys f s) : GSP X S ip E' ys f s := by
  cases f with
  | next => obtain ⟨σ, H, G, q⟩ := h; exact ⟨σ, H, G, l.nx _ _ _ q⟩
  | brk => obtain ⟨σ, H, G, q⟩ := h; exact ⟨σ, H, G, l.bk _ _ _ q⟩
  | cont => obtain ⟨σ, H, G, q⟩ := h; exact ⟨σ, H, G, l.ct _ _ _ q⟩
  | ret u => obtain ⟨v, σ, H, G, r, q⟩ := h; exact ⟨v, σ, H, G, r, l.rt _ _ _ q⟩
/-- the text's own reading -/
def tWn (X : Cx) (st : Stmt) : TGn := fun D ys σ H => ∀ (A : Around) (S : Addr) (ip : List (Addr × Obj)) (R : GenEnd) (n : Nat) (s₀ : Shared) (c : Code) (fs : List Frame) (K : Flow → Sem PySem.Fin) (J : Value → Sem PySem.Fin) (gd : Bool → Bool) (lv : List Value → List Value) (s : Shared),
  GC X S ip A c fs gd → n + ys.length = sizeLine → GK X S ip A R c fs K J D → GI X S ip ys σ H s → Seg (model X.prog X.w) A R (GY X S) n s₀ c ((exec st X.env).wrap K J gd lv) fs s
theorem gs_tWn {X : Cx} {st : Stmt} : GS X st (tWn X st) := ⟨fun A S ip R n ys s₀ c fs K J gd lv s σ H D gc hn k hI h => h A S ip R n s₀ c fs K J gd lv s gc hn k hI⟩
theorem tWn_of {X : Cx} {st : Stmt} {t : TGn} (h : GS X st t) {D : GEnds} {ys : List V} {σ : L2.St} {H : Hp} (q : t D ys σ H) : tWn X st D ys σ H := fun A S ip R n s₀ c fs K J gd lv s gc hn k hI => h.run A S ip R n ys s₀ c fs K J gd lv s σ H D gc hn k hI q
theorem tWn_le {X : Cx} {st : Stmt} {D D' : GEnds} {ys : List V} {σ : L2.St} {H : Hp} (h : tWn X st D ys σ H) (l : GEndsLe D D') : tWn X st D' ys σ H := fun A S ip R n s₀ c fs K J gd lv s gc hn k hI =>
  h A S ip R n s₀ c fs K J gd lv s gc hn ⟨fun n' ys' s₀' s' f hn' hs => k.ok n' ys' s₀' s' f hn' (GSP.le l hs), k.exc⟩ hI
def tWns (X : Cx) (st : List Stmt) : TGn := fun D ys σ H => ∀ (A : Around) (S : Addr) (ip : List (Addr × Obj)) (R : GenEnd) (n : Nat) (s₀ : Shared) (c : Code) (fs : List Frame) (K : Flow → Sem PySem.Fin) (J : Value → Sem PySem.Fin) (gd : Bool → Bool) (lv : List Value → List Value) (s : Shared),
  GC X S ip A c fs gd → n + ys.length = sizeLine → GK X S ip A R c fs K J D → GI X S ip ys σ H s → Seg (model X.prog X.w) A R (GY X S) n s₀ c ((execs st X.env).wrap K J gd lv) fs s
theorem gss_tWns {X : Cx} {st : List Stmt} : GSs X st (tWns X st) := ⟨fun A S ip R n ys s₀ c fs K J gd lv s σ H D gc hn k hI h => h A S ip R n s₀ c fs K J gd lv s gc hn k hI⟩
theorem tWns_of {X : Cx} {st : List Stmt} {t : TGn} (h : GSs X st t) {D : GEnds} {ys : List V} {σ : L2.St} {H : Hp} (q : t D ys σ H) : tWns X st D ys σ H := fun A S ip R n s₀ c fs K J gd lv s gc hn k hI => h.run A S ip R n ys s₀ c fs K J gd lv s σ H D gc hn k hI q
theorem tWns_le {X : Cx} {st : List Stmt} {D D' : GEnds} {ys : List V} {σ : L2.St} {H : Hp} (h : tWns X st D ys σ H) (l : GEndsLe D D') : tWns X st D' ys σ H := fun A S ip R n s₀ c fs K J gd lv s gc hn k hI =>
  h A S ip R n s₀ c fs K J gd lv s gc hn ⟨fun n' ys' s₀' s' f hn' hs => k.ok n' ys' s₀' s' f hn' (GSP.le l hs), k.exc⟩ hI
def SN (T : Tx) (st : Stmt) (m : MGn) : Prop := ∀ (X : Cx), FitS T X → ∀ (S P : Hp) (av : List V) (F : Fr) (σ : L2.St) (H : Hp) (E : DEg) (ds : List D) (ys : List V),
  Rel X.K X.mg S P av F σ H → Reps X.K X.mg S ds ys → m E ds F → Takes X (UpX X S P av E.ex) → tWn X st (gends X S P av E) ys σ H
def SNs (T : Tx) (st : List Stmt) (m : MGn) : Prop := ∀ (X : Cx), FitS T X → ∀ (S P : Hp) (av : List V) (F : Fr) (σ : L2.St) (H : Hp) (E : DEg) (ds : List D) (ys : List V),
  Rel X.K X.mg S P av F σ H → Reps X.K X.mg S ds ys → m E ds F → Takes X (UpX X S P av E.ex) → tWns X st (gends X S P av E) ys σ H
section
variable {T : Tx} {pos pos2 : Pos} {st : Stmt} {rest body : List Stmt} {e tg iter : Expr} {me : ME} {ms : MS} {mn mr mb : MGn} {mi : MI} {g : MG} {is : List Nat}
def nEnd : MGn := fun E ds F => E.nx ds F
def nSeq (m mr : MGn) : MGn := fun E ds F => m { E with nx := fun ds' F' => mr E ds' F' } ds F
theorem sns_nil : SNs T [] nEnd := fun X fx S P av F σ H E ds ys R r q tk => tWns_of gss_nil ⟨S, F, ds, q, Ex.refl S, R, r⟩
theorem sns_cons (h : SN T st mn) (hr : SNs T rest mr) : SNs T (st :: rest) (nSeq mn mr) := fun X fx S P av F σ H E ds ys R r q tk => by
  refine tWns_of (gss_cons gs_tWn gss_tWns) (tWn_le (h X fx S P av F σ H { E with nx := fun ds' F' => mr E ds' F' } ds ys R r q tk) ⟨fun ys1 σ1 H1 ⟨S1, F1, ds1, q1, e1, R1, r1⟩ => ?_, fun _ _ _ u => u, fun _ _ _ u => u, fun _ _ _ u => u⟩)
  exact tWns_le (hr X fx S1 P av F1 σ1 H1 E ds1 ys1 R1 r1 q1 (takes_mono e1 tk)) (gends_mono e1 E)
/-- a statement that hands out nothing -/
def nPlain (m : MS) : MGn := fun E ds F => m { nx := E.nx ds, rt := E.rt ds, bk := E.bk ds, ct := E.ct ds, ex := E.ex } F
theorem plain_le {X : Cx} {S P : Hp} {av : List V} {E : DEg} {ds : List D} {ys : List V} (r : Reps X.K X.mg S ds ys) : EndsLe (ends X S P av { nx := E.nx ds, rt := E.rt ds, bk := E.bk ds, ct := E.ct ds, ex := E.ex }) ((gends X S P av E).at ys) :=
  ⟨fun σ H ⟨S1, F1, q, e, R⟩ => ⟨S1, F1, ds, q, e, R, Reps.mono e _ _ r⟩, fun v H ⟨S1, F1, σ1, ev, q, e, R, k⟩ => ⟨S1, F1, σ1, ev, ds, q, e, R, k, Reps.mono e _ _ r⟩, fun σ H ⟨S1, F1, q, e, R⟩ => ⟨S1, F1, ds, q, e, R, Reps.mono e _ _ r⟩, fun σ H ⟨S1, F1, q, e, R⟩ => ⟨S1, F1, ds, q, e, R, Reps.mono e _ _ r⟩⟩
theorem sn_plain (h : SS T st ms) : SN T st (nPlain ms) := fun X fx S P av F σ H E ds ys R r q tk => tWn_of (gs_ps ps_tWS) (tWS_le (h X fx S P av F σ H _ R q tk) (plain_le r))
def nYield (me : ME) : MGn := fun E ds F => ds.length < sizeLine ∧ me F (fun x F1 => frzK F1 (hold x) fun d F2 => E.nx (ds ++ [d]) F2) E.ex
theorem sn_yield (he : SE T e me) (hco : T.sc.isCoroutine = false := by rfl) (hk : T.sc.kind = .function := by rfl) (hi : ∀ X : Cx, X.env.scope.kind = .function → interactive X.env = false := by intro X h; unfold interactive; rw [h]; rfl) : SN T (.Expr (.Yield (some e) pos) pos2) (nYield me) := fun X fx S P av F σ H E ds ys R r q tk => by
  refine tWn_of (gs_yield pe_tW (by rw [fx.sc]; exact hco) (hi X (by rw [fx.sc]; exact hk))) ?_
  refine ⟨by rw [← r.len]; exact q.1, tW_mono (he X fx.toFits S P av F σ H _ E.ex R q.2 tk) fun v H1 ⟨S1, F1, ev, q1, e1, R1, k1⟩ => ?_⟩
  obtain ⟨S1', e1', R1', k1'⟩ := R1.hold k1
  obtain ⟨S2, F2, d, q2, e2, R2, r2⟩ := R1'.frzEv (ev := hold ev) (by rw [hold_hold]; exact k1') q1
  exact ⟨S2, F2, ds ++ [d], q2, e1.trans (e1'.trans e2), R2, (Reps.mono (e1.trans (e1'.trans e2)) _ _ r).app (Reps.cons r2 Reps.nil)⟩
def loopG (g : MG) (mb : MGn) (ok : Fr → Prop) : List D → DEg → List D → Fr → Prop
  | [], E, ys, F => ok F ∧ E.nx ys F
  | d :: ds, E, ys, F => ok F ∧ g d F fun F1 => mb { E with nx := loopG g mb ok ds E, ct := loopG g mb ok ds E, bk := E.nx } ys F1
def nFor (mi : MI) (g : MG) (mb : MGn) : MGn := fun E ys F => mi F (fun items ok F1 => loopG g mb ok items E ys F1) E.ex
theorem sn_for (hi : SI T tg iter mi) (hg : SG T tg is g) (hb : SNs T body mb) (hs : ∀ env x, foldedSetIterable iter env x = pure x := by intros; rfl) (hh : T.hot = false := by rfl) : SN T (.For tg iter body [] pos) (nFor mi g mb) := fun X fx S P av F σ H E ds ys R r q tk => by
  obtain ⟨wi, pw, kw⟩ := hi X fx.toFits
  refine tWn_of (gs_for fx.hp (fx.calm hh) pw pg_tWG gss_tWns (hs X.env)) (kw S P av F σ H _ E.ex R q tk _ fun J items ok S1 F1 H1 q1 e1 R1 w1 => ?_)
  have len : ∀ {xs : List HD.D} {ys : List HD.D} {E : DEg} {F : Fr}, loopG g mb ok xs E ys F → ok F := fun {xs ys E F} h => by cases xs <;> exact h.1
  refine ⟨fun i m ys' σ' H' => m = items.length - i ∧ i ≤ items.length ∧ ∃ S' F' ds', Ex S1 S' ∧ Rel X.K X.mg S' P av F' σ' H' ∧ Reps X.K X.mg S' ds' ys' ∧ loopG g mb ok (items.drop i) E ds' F', ⟨_, rfl, Nat.zero_le _, S1, F1, ds, Ex.refl S1, R1, Reps.mono e1 _ _ r, q1⟩, ?_⟩
  rintro i m ys2 σ2 H2 ⟨rfl, hi, S2, F2, ds2, e2, R2, r2, q2⟩
  obtain ⟨wg, ws⟩ := w1 S2 P F2 σ2 H2 R2 e2 (len q2)
  by_cases hlt : i < items.length
  · obtain ⟨go, yl⟩ := wg i hlt
    refine .inr ⟨go, fun ys' σ' H' => ∃ S' F' ds', Ex S1 S' ∧ Rel X.K X.mg S' P av F' σ' H' ∧ Reps X.K X.mg S' ds' ys' ∧ loopG g mb ok (items.drop (i + 1)) E ds' F', fun ys' σ' H' p => ⟨_, by omega, rfl, hlt, p⟩, fun x H3 y => ?_⟩
    obtain ⟨S3, d, e3, R3, hd, rd⟩ := yl x H3 y
    rw [List.drop_eq_getElem_cons hlt] at q2
    have hd' : items[i] = d := by rw [List.getElem?_eq_getElem hlt] at hd; exact Option.some.inj hd
    rw [hd'] at q2
    refine tWG_mono (hg X fx.toFits S3 P av F2 σ2 H3 d x _ R3 rd q2.2) fun σ4 H4 ⟨⟨S4, F4, q4, e4, R4⟩, _⟩ => ?_
    have e14 : Ex S1 S4 := e2.trans (e3.trans e4)
    refine tWns_le (hb X fx S4 P av F4 σ4 H4 _ ds2 ys2 R4 (Reps.mono (e3.trans e4) _ _ r2) q4 (takes_mono (e1.trans e14) tk)) ⟨fun ys5 σ5 H5 ⟨S5, F5, ds5, q5, e5, R5, r5⟩ => ⟨S5, F5, ds5, e14.trans e5, R5, r5, q5⟩, fun ys5 v H5 ⟨S5, F5, σ5, ev, ds5, q5, e5, u⟩ => ⟨S5, F5, σ5, ev, ds5, q5, (e1.trans e14).trans e5, u⟩, fun ys5 σ5 H5 u => u.mono (e1.trans e14), fun ys5 σ5 H5 ⟨S5, F5, ds5, q5, e5, R5, r5⟩ => ⟨S5, F5, ds5, e14.trans e5, R5, r5, q5⟩⟩
  · have e : i = items.length := by omega
    subst e
    rw [List.drop_length] at q2
    exact .inl ⟨ws, S2, F2, ds2, q2.2, e1.trans e2, R2, r2⟩
end

/-! ### a generator def's promise -/
/-- the arguments' cells; what is wanted of all that it hands out, and of the cells behind it -/
abbrev DSpG := List Cel → (List D → List Cel → Prop) → Prop
def LiftG (K : PySem.W.Frag) (mg : Str → Option Value) (n : Nat) (sp : DSpG) : SpG := fun vs H Q _ => vs.length = n ∧ ∃ (S P : Hp) (cs : List Cel) (QD : List D → List Cel → Prop), Rel K mg S P vs ⟨[], cs⟩ [] H ∧ sp cs QD ∧
  ∀ ys H' S' ds cs', QD ds cs' → Ex S S' → Rel K mg S' P vs ⟨[], cs'⟩ [] H' → Reps K mg S' ds ys → Q ys H'
def GFnD (P : Program) (w : World) (K : PySem.W.Frag) (mg : Str → Option Value) (base : Heap) (k : Nat) (f : Addr) (fd : FuncData) (ps : List Str) (sp : DSpG) : Prop := GFn P w K mg base k f fd ps (LiftG K mg ps.length sp)
def bodyG (QD : List D → List Cel → Prop) : DEg where
  nx := fun ds F => QD ds F.ar
  rt := fun ds ev F => ev = .sh .non ∧ QD ds F.ar
  bk := fun _ _ => False
  ct := fun _ _ => False
  ex := noE
section
variable {P : Program} {w : World} {K : PySem.W.Frag} {mg : Str → Option Value} {base : Heap} {x qual : Str} {params : Arguments} {body : List Stmt} {scope : Scope} {dvs : List V} {kws : List (Str × V)} {f : Addr} {fd : FuncData} {N ps : List Str} {k : Nat} {sp : DSpG} {m : MGn}
theorem gfnD_of (F : FunD K x qual params body scope dvs kws f fd) (S : GScope N ps scope) (hb : SNs (txF P w K mg base N scope k) body m)
    (h : ∀ cs Q, cs.length = ps.length → sp cs Q → m (bodyG Q) [] (startF N.length cs)) : GFnD P w K mg base (k + 1) f fd ps sp := by
  obtain ⟨oc, od, dV, kV, doc, pm, an, cdv, ct, osl, rfl, lk, hcd, _, _⟩ := F.ex
  refine gfn_of lk hcd S (fun vs H Q E h => h.1) fun A outer s H vs Q E pn hr ⟨hl, S0, P0, cs, QD, R, q, kq⟩ => ⟨_, gss_tWns, ?_⟩
  have hpl : ps.length ≤ N.length := by have := congrArg List.length S.pre; rw [List.length_take] at this; omega
  have lc : cs.length = ps.length := by have : vs.length = cs.length := R.alen; omega
  have fx : FitS (txF P w K mg base N scope k) (gcxOf P w K mg base N qual scope f cdv A outer s H E pn) :=
    ⟨⟨rfl, rfl, rfl, rfl, rfl, rfl, rfl, hr.un, fun _ => ⟨hr, rfl⟩, fun a c d z => (by cases z), S.nd, fn_all (X := gcxOf P w K mg base N qual scope f cdv A outer s H E pn) rfl⟩, owns_gcx, rfl, rfl⟩
  have R0 : Rel K mg S0 P0 vs (startF N.length cs) (L2.start N vs) H := R.start (by omega)
  refine tWns_le (hb _ fx S0 P0 vs _ _ H (bodyG QD) [] [] R0 Reps.nil (h cs QD lc q) takes_noE) ⟨fun ys σ' H' ⟨S', F', ds, q', e', R', r'⟩ => ?_, fun ys v H' ⟨S', F', σ', ev, ds, q', e', R', k', r'⟩ => ?_, fun ys σ' H' ⟨S', F', ds, q', _⟩ => q', fun ys σ' H' ⟨S', F', ds, q', _⟩ => q'⟩
  · exact kq ys H' S' ds F'.ar q' e' R'.bare r'
  · obtain ⟨hev, q'⟩ := q'
    subst hev
    have k' : Rep _ _ _ _ _ := k'
    unfold Rep at k'
    exact ⟨k', kq ys H' S' ds F'.ar q' e' R'.bare r'⟩
end
structure MethG (T : Tx) (name : Str) (c : Str) (arr : List Arg) (sp : DSpG) : Prop where
  ex : ∃ C f fd ps k, T.mg c = some (.ref C) ∧ Cls T.K C ∧ Meth T.K C name f ∧ GFnD T.P T.w T.K T.mg T.base k f fd ps sp ∧ Binds T.K fd ps [] ∧ ps.length = 1 ∧ k + 3 ≤ T.lv
section
variable {T : Tx} {X : Cx} {pos pos' p apos : Pos} {o : Expr} {mo : ME} {name c nm : Str} {arr : List Arg} {sp : DSpG}
def callG (F : Fr) (xs : List Ev) (sp : DSpG) (Q : List D → Fr → Prop) : Prop := ∃ cs, cellsOf F xs = some cs ∧ goodPl F xs ∧ sp cs fun ds cs' => Q ds (backF F xs cs')
def mListG (c name : Str) (sp : DSpG) (mo : ME) : ME := fun F Q E => mo F (fun x F1 => valK F1 x fun d => insK d fun c' ns => c' = c ∧ ns.contains name = false ∧ callG F1 [hold x] sp fun ds F2 => Q (.tmp (.lst ds)) F2) E
theorem se_listG {pl : Env → Sem Bool} (hM : MethG T name c arr sp) (ho : SE T o mo) (hh : T.hot = false := by rfl) (hg : glC T.sc "list" = true := by decide +kernel) (hmg : T.mg "list" = none := by assumption)
    (he : ∀ env, starEach [.Call (.Attribute o name apos) [] [] pos'] env = (false, eval (.Call (.Attribute o name apos) [] [] pos') env) :: starEach [] env := by intros; rfl)
    (ht : ∀ env, eval (.Call (.Attribute o name apos) [] [] pos') env = (do
      let ov ← eval o env
      standAt apos.atName
      let (f, first) ← holding [ov] (getMethod ov name (pl env))
      callWith pos' f first (backTo pos' (starEach [] env)) (backToKw pos' (keywordEach [] env))) := by intros; rfl) :
    SE T (.Call (.Name "list" p) [.Call (.Attribute o name apos) [] [] pos'] [] pos) (mListG c name sp mo) := fun X fx S P av F σ H Q E R q tk => by
  obtain ⟨C, f, fd, ps, k, hC, cl, mt, Fn, B, hps, hk⟩ := hM.ex
  rw [← fx.K] at cl mt B
  rw [← fx.prog, ← fx.w, ← fx.K, ← fx.mg, ← fx.base] at Fn
  have hr := fx.room hh
  refine tW_of (pe_listG (E := fun _ _ _ => False) (pgen_meth0 (dvs := []) (ds := []) (E := fun _ _ _ => False) (pl := pl X.env) pe_tW cl mt Fn (hr.mono (by omega)) B .nil (ht X.env)) passL (fun _ _ _ h => h.elim) (hr.mono hk) (gl_of fx hg) (by rw [fx.mg]; exact hmg) rfl (by decide) (by decide) (he X.env)) ?_
  refine tW_mono (ho X fx S P av F σ H _ E R q tk) fun x H1 ⟨S1, F1, ev1, q1, e1, R1, k1⟩ => ?_
  obtain ⟨d, q2, t1⟩ := R1.val k1 q1
  match d, q2, t1 with
  | .ins c' ns ds, ⟨hc, hn, q3⟩, t1 =>
    subst hc
    obtain ⟨a, C', dx, vs0, rfl, hC', hl0, h2, h3⟩ := t1
    have : C' = C := by
      rw [fx.mg, hC] at hC'
      cases hC'; rfl
    subst this
    obtain ⟨S2, e2, R2, k2⟩ := R1.hold k1
    obtain ⟨cs, hcs, hgd, q4⟩ := q3
    obtain ⟨P', R3, kk⟩ := R2.handOn (evs1 k2) hcs hgd
    refine ⟨a, dx, _, rfl, h2, zip_none hn, ?_⟩
    refine ⟨by rw [hps]; rfl, S2, P', cs, _, R3, q4, fun ys H' S' ds' cs' q5 e5 R5 r5 p hp => ?_⟩
    obtain ⟨R6, _⟩ := kk S' cs' H' e5 R5
    exact ⟨S', _, _, q5, e1.trans (e2.trans e5), R6.fresh hp, R6.tmp hp ⟨ys, rfl, r5⟩⟩
end
end HD
set_option Elab.async false
set_option linter.all false
set_option maxRecDepth 100000
set_option maxHeartbeats 4000000
/-! HD, part 24: more tests; the small tactics of the printed derivations. -/
namespace HD
open PySem PySem.Spec PyProof.Rows L2
section
variable {T : Tx} {X : Cx} {pos p : Pos} {a e : Expr} {m ma : ME} {x : Str} {tab : List (Str × D)} {no : Str → Prop}
def mKdT (f : Bool → Bool) (tab : List (Str × D)) (no : Str → Prop) (ma : ME) : MT := fun F Q E => ma F (fun y F1 => valK F1 y fun d => strK d fun z => ∃ b, kdHas tab no z b ∧ Q (f b) F1) E
theorem sb_kdIn (hk : KdD T.w T.K T.mg x tab no) (ha : SE T a ma) (hm : behindInMarks .In (.Name x p) = false) (hg : glC T.sc x = true) (hdb : (x == ("__debug__" : Str)) = false) : SB T (.Compare a [.In] [.Name x p] pos) (mKdT (fun b => b) tab no ma) := fun X fx S P av F σ H Q E R q tk => by
  obtain ⟨d, es, n, hx, kd, h1, h2⟩ := hk.ex
  rw [← fx.K, ← fx.w] at kd
  rw [← fx.K] at h1 h2
  refine tWT_of (pt_cmpR (op_in_kd kd) pe_tW (pe_glob (v := .ref d) (gl_of fx hg) (by rw [fx.mg]; exact hx) rfl hdb) hm) ?_
  refine tW_mono (ha X fx S P av F σ H _ E R q tk) fun y H1 ⟨S1, F1, ev1, q1, e1, R1, k1⟩ => ?_
  obtain ⟨dd, q2, t1⟩ := R1.val k1 q1
  match dd, q2, t1 with
  | .str z, ⟨b, hb, q3⟩, t1 =>
    obtain ⟨r, h3, h4⟩ := kdHas_ns h1 h2 hb
    exact ⟨z, r, repT_str t1, rfl, h3, _, rfl, by rw [h4]; exact ⟨S1, F1, q3, e1, R1⟩⟩
theorem sb_kdNotIn (hk : KdD T.w T.K T.mg x tab no) (ha : SE T a ma) (hm : behindInMarks .NotIn (.Name x p) = false) (hg : glC T.sc x = true) (hdb : (x == ("__debug__" : Str)) = false) : SB T (.Compare a [.NotIn] [.Name x p] pos) (mKdT (fun b => !b) tab no ma) := fun X fx S P av F σ H Q E R q tk => by
  obtain ⟨d, es, n, hx, kd, h1, h2⟩ := hk.ex
  rw [← fx.K, ← fx.w] at kd
  rw [← fx.K] at h1 h2
  refine tWT_of (pt_cmpR (op_notIn_kd kd) pe_tW (pe_glob (v := .ref d) (gl_of fx hg) (by rw [fx.mg]; exact hx) rfl hdb) hm) ?_
  refine tW_mono (ha X fx S P av F σ H _ E R q tk) fun y H1 ⟨S1, F1, ev1, q1, e1, R1, k1⟩ => ?_
  obtain ⟨dd, q2, t1⟩ := R1.val k1 q1
  match dd, q2, t1 with
  | .str z, ⟨b, hb, q3⟩, t1 =>
    obtain ⟨r, h3, h4⟩ := kdHas_ns h1 h2 hb
    exact ⟨z, r, repT_str t1, rfl, h3, _, rfl, by rw [h4]; exact ⟨S1, F1, q3, e1, R1⟩⟩
end

/-- a def of the module, called in one form -/
structure CalD (P : Program) (w : World) (K : PySem.W.Frag) (mg : Str → Option Value) (base : Heap) (x : Str) (k n : Nat) (ks : List Str) (arr : List HD.Arg) (sp : DSp) : Prop where
  ex : ∃ f fd ps, FnD P w K mg base k f fd ps sp ∧ BnD K fd ps n ks arr ∧ PySem.W.keepIn K (.ref f) = true ∧ mg x = some (.ref f) ∧ arr.length = ps.length
section
variable {T : Tx} {pos p : Pos} {e : Expr} {es : List Expr} {kws : List Keyword} {ms mk : MA} {x : Str} {k n : Nat} {ks : List Str} {arr : List HD.Arg} {sp : DSp}
theorem se_callC (h : CalD T.P T.w T.K T.mg T.base x k n ks arr sp) (ha : SA T (e :: es) ms) (hkw : SK T kws mk) {j : Nat} (hj : ks.length = j := by rfl) (hg : glC T.sc x = true := by rfl) (hl : k ≤ T.lv := by exact Nat.le_of_ble_eq_true rfl) (hh : T.hot = false := by rfl)
    (hall : ∀ env, (backToKw pos (keywordEach kws env)).all (·.1.isSome) = true := by intros; rfl) (hks : ∀ env, (backToKw pos (keywordEach kws env)).filterMap (·.1) = ks := by intros; rfl)
    (hdb : (x == ("__debug__" : Str)) = false := by decide +kernel) (he : ∀ env, starEach (e :: es) env = (false, eval e env) :: starEach es env := by intros; rfl)
    (hpl : ∀ env, ((backTo pos (starEach (e :: es) env)).any (·.1) || (backToKw pos (keywordEach kws env)).any (·.1.isNone)) = false := by intros; rfl) :
    SE T (.Call (.Name x p) (e :: es) kws pos) (mCall arr n j sp ms mk) := by
  subst hj
  obtain ⟨f, fd, ps, F, B, hk, hm, hps⟩ := h.ex
  exact se_call F B hk hm ha hkw hg hps hl hh hall hks hdb he hpl
theorem isi_ty {ty : String} {kb : String → Bool} (h : ∀ t ∈ tagsD, kitB t ty = some (kb t)) : IsiD T [.type ty] kb [] (fun _ => false) :=
  ⟨fun t ht => kitAny_cons (kit_ty (h t ht)) (fun hb => by rw [hb]; exact kitAny_nil) (fun hb => hb), fun c hc => by cases hc⟩
theorem isi_ty2 {ty ty' : String} {kb kb' : String → Bool} (h : ∀ t ∈ tagsD, kitB t ty = some (kb t)) (h' : ∀ t ∈ tagsD, kitB t ty' = some (kb' t)) : IsiD T [.type ty, .type ty'] (fun t => kb t || kb' t) [] (fun _ => false) :=
  ⟨fun t ht => kitAny_cons (kit_ty (h t ht)) (fun hb => kitAny_cons (kit_ty (h' t ht)) (fun hb' => by rw [hb, hb']; exact kitAny_nil) (fun hb' => by rw [hb', Bool.or_true])) (fun hb => by rw [hb, Bool.true_or]), fun c hc => by cases hc⟩
theorem se_makeC {c : Str} (M : MakeD T c n ks arr sp) (ha : SA T (e :: es) ms) (hkw : SK T kws mk) {j : Nat} (hj : ks.length = j := by rfl) (harr : arr.head? = some (.p 0) := by rfl) (hg : glC T.sc c = true := by rfl) (hh : T.hot = false := by rfl)
    (hall : ∀ env, (backToKw pos (keywordEach kws env)).all (·.1.isSome) = true := by intros; rfl) (hks : ∀ env, (backToKw pos (keywordEach kws env)).filterMap (·.1) = ks := by intros; rfl)
    (hdb : (c == ("__debug__" : Str)) = false := by decide +kernel) (he : ∀ env, starEach (e :: es) env = (false, eval e env) :: starEach es env := by intros; rfl)
    (hpl : ∀ env, ((backTo pos (starEach (e :: es) env)).any (·.1) || (backToKw pos (keywordEach kws env)).any (·.1.isNone)) = false := by intros; rfl) :
    SE T (.Call (.Name c p) (e :: es) kws pos) (mMake c arr n j sp ms mk) := by
  subst hj
  exact se_make M ha hkw harr hg hh hall hks hdb he hpl
theorem se_methC {o : Expr} {mo : ME} {name : Str} {apos : Pos} {cs : List Str} {arr : Str → List HD.Arg} {sp : Str → DSp} {n : Nat} {ks : List Str} {pl : Env → Sem Bool} (hM : ∀ c ∈ cs, MethD T name n ks c (arr c) (sp c)) (ho : SE T o mo) (ha : SA T (e :: es) ms) (hkw : SK T kws mk) {j : Nat} (hj : ks.length = j := by rfl) (hh : T.hot = false := by rfl)
    (hall : ∀ env, (backToKw pos (keywordEach kws env)).all (·.1.isSome) = true := by intros; rfl) (hks : ∀ env, (backToKw pos (keywordEach kws env)).filterMap (·.1) = ks := by intros; rfl)
    (he : ∀ env, starEach (e :: es) env = (false, eval e env) :: starEach es env := by intros; rfl)
    (hpl : ∀ env, ((backTo pos (starEach (e :: es) env)).any (·.1) || (backToKw pos (keywordEach kws env)).any (·.1.isNone)) = false := by intros; rfl)
    (ht : ∀ env, eval (.Call (.Attribute o name apos) (e :: es) kws pos) env = (do
      let ov ← eval o env
      standAt apos.atName
      let (f, first) ← holding [ov] (getMethod ov name (pl env))
      callWith pos f first (backTo pos (starEach (e :: es) env)) (backToKw pos (keywordEach kws env))) := by intros; rfl) :
    SE T (.Call (.Attribute o name apos) (e :: es) kws pos) (mMeth name n j cs arr sp mo ms mk) := by
  subst hj
  exact se_meth hM ho ha hkw hh hall hks he hpl ht
theorem se_meth0C {o : Expr} {mo : ME} {name : Str} {apos : Pos} {cs : List Str} {arr : Str → List HD.Arg} {sp : Str → DSp} {ks : List Str} {pl : Env → Sem Bool} (hM : ∀ c ∈ cs, MethD T name 0 ks c (arr c) (sp c)) (ho : SE T o mo) (hkw : SK T kws mk) {j : Nat} (hj : ks.length = j := by rfl) (hh : T.hot = false := by rfl)
    (hall : ∀ env, (backToKw pos (keywordEach kws env)).all (·.1.isSome) = true := by intros; rfl) (hks : ∀ env, (backToKw pos (keywordEach kws env)).filterMap (·.1) = ks := by intros; rfl)
    (hpl : ∀ env, ((backTo pos (starEach [] env)).any (·.1) || (backToKw pos (keywordEach kws env)).any (·.1.isNone)) = false := by intros; rfl)
    (ht : ∀ env, eval (.Call (.Attribute o name apos) [] kws pos) env = (do
      let ov ← eval o env
      standAt apos.atName
      let (f, first) ← holding [ov] (getMethod ov name (pl env))
      callWith pos f first (backTo pos (starEach [] env)) (backToKw pos (keywordEach kws env))) := by intros; rfl) :
    SE T (.Call (.Attribute o name apos) [] kws pos) (mMeth name 0 j cs arr sp mo mNil mk) := by
  subst hj
  exact se_meth0 hM ho hkw hh hall hks hpl ht
end

/-! ### the same, without the text -/
structure MethI (P : Program) (w : World) (K : PySem.W.Frag) (mg : Str → Option Value) (base : Heap) (name : Str) (n : Nat) (ks : List Str) (c : Str) (arr : List HD.Arg) (sp : DSp) (k0 : Nat) : Prop where
  ex : ∃ C f fd ps, mg c = some (.ref C) ∧ Cls K C ∧ Meth K C name f ∧ FnD P w K mg base k0 f fd ps sp ∧ BnD K fd ps (n + 1) ks arr ∧ arr.length = ps.length
structure MakeI (P : Program) (w : World) (K : PySem.W.Frag) (mg : Str → Option Value) (base : Heap) (c : Str) (n : Nat) (ks : List Str) (arr : List HD.Arg) (sp : DSp) (k0 : Nat) : Prop where
  ex : ∃ C f fd ps, mg c = some (.ref C) ∧ Mk K C f ∧ FnD P w K mg base k0 f fd ps sp ∧ BnD K fd ps (n + 1) ks arr ∧ arr.length = ps.length
structure XcI (P : Program) (w : World) (K : PySem.W.Frag) (mg : Str → Option Value) (base : Heap) (c : Str) (n : Nat) (fs : List (Str × XS)) (k0 : Nat) : Prop where
  ex : ∃ C fI fd ps, mg c = some (.ref C) ∧ OexC K C ∧ PySem.W.findIn K (.ref C) "__init__" = some (some (.ref fI)) ∧ PySem.W.typeIn K (.ref fI) = some (.type "function") ∧ FnOk P w K mg base (L2.CX P w) k0 fI fd ps (spX C n fs) ∧ Binds K fd ps []
  ok : ∀ p ∈ fs, xsOk n p.2
structure MethGI (P : Program) (w : World) (K : PySem.W.Frag) (mg : Str → Option Value) (base : Heap) (name c : Str) (sp : DSpG) (k0 : Nat) : Prop where
  ex : ∃ C f fd ps, mg c = some (.ref C) ∧ Cls K C ∧ Meth K C name f ∧ GFnD P w K mg base k0 f fd ps sp ∧ Binds K fd ps [] ∧ ps.length = 1
structure CatI (K : PySem.W.Frag) (mg : Str → Option Value) (x : Str) (cv : Value) (cs : List Str) (catch_ : Str → Bool) : Prop where
  nm : mg x = some cv
  is : ∀ c ∈ cs, ∀ C, mg c = some (.ref C) → PySem.W.exmOne K (.ref C) cv = some (catch_ c)
structure XfI (K : PySem.W.Frag) (mg : Str → Option Value) (c f : Str) : Prop where
  ex : ∃ C, mg c = some (.ref C) ∧ XfC K C ∧ PySem.W.findIn K (.ref C) f = some none
section
variable {T : Tx} {name c f : Str} {n k0 : Nat} {ks : List Str} {arr : List HD.Arg} {sp : DSp} {spg : DSpG} {fs : List (Str × XS)} {cv : Value} {cs : List Str} {catch_ : Str → Bool} {x : Str}
theorem mem1 (h : MethI T.P T.w T.K T.mg T.base name n ks c arr sp k0) (hl : k0 + 1 ≤ T.lv := by exact Nat.le_of_ble_eq_true rfl) : ∀ c' ∈ [c], MethD T name n ks c' ((fun _ => arr) c') ((fun _ => sp) c') := fun c' hc => by
  obtain ⟨C, f, fd, ps, h1, h2, h3, h4, h5, h6⟩ := h.ex
  simp at hc
  subst hc
  exact ⟨fun C' hC' => by rw [h1] at hC'; cases hC'; exact ⟨f, fd, ps, k0, h2, h3, h4, h5, h6, hl⟩⟩
theorem MakeI.d (h : MakeI T.P T.w T.K T.mg T.base c n ks arr sp k0) (hl : k0 + 1 ≤ T.lv := by exact Nat.le_of_ble_eq_true rfl) : MakeD T c n ks arr sp := by
  obtain ⟨C, f, fd, ps, h1, h2, h3, h4, h5⟩ := h.ex
  exact ⟨C, f, fd, ps, k0, h1, h2, h3, h4, h5, hl⟩
theorem XcI.d (h : XcI T.P T.w T.K T.mg T.base c n fs k0) (hl : k0 + 1 ≤ T.lv := by exact Nat.le_of_ble_eq_true rfl) : XcD T c n fs := by
  obtain ⟨C, fI, fd, ps, h1, h2, h3, h4, h5, h6⟩ := h.ex
  exact ⟨⟨C, fI, fd, ps, k0, h1, h2, h3, h4, h5, h6, hl⟩, h.ok⟩
theorem MethGI.d (h : MethGI T.P T.w T.K T.mg T.base name c spg k0) (hl : k0 + 3 ≤ T.lv := by exact Nat.le_of_ble_eq_true rfl) : MethG T name c arr spg := by
  obtain ⟨C, f, fd, ps, h1, h2, h3, h4, h5, h6⟩ := h.ex
  exact ⟨C, f, fd, ps, k0, h1, h2, h3, h4, h5, h6, hl⟩
theorem CatI.d (h : CatI T.K T.mg x cv cs catch_) : CatD T x cv cs catch_ := ⟨h.nm, h.is⟩
theorem XfI.d (h : XfI T.K T.mg c f) : ∀ c' ∈ [c], XfD T c' f := fun c' hc => by
  obtain ⟨C, h1, h2, h3⟩ := h.ex
  simp at hc
  subst hc
  exact ⟨fun u hu => ⟨C, by rw [h1] at hu; cases hu; rfl⟩, fun C' hC' => by rw [h1] at hC'; cases hC'; exact ⟨h2, h3⟩⟩
end
/-- only the scope tells it -/
theorem sw_env (ts : List Expr) (v : Expr) (env : Env) : swappedStores ts v env = swappedStores ts v { scope := env.scope, locals := 0, globals := 0, cells := [], qual := "", func := none, code := .none, frame := none, builtins := 0 } := rfl
section
variable {T : Tx} {pos : Pos} {e tg : Expr} {g : MG} {m : ME} {is : List Nat}
theorem ss_asgW (he : SE T e m) (hg : SG T tg is g) (hw : ∀ X : Cx, X.env.scope = T.sc → swappedStores [tg] e X.env = pure none) (hs : ∀ env, swapsWithSole [tg] e pos.line env = pure false := by intros; rfl)
    (h1 : ∀ env, (assignEach [tg] env).map (·.2) = [assign tg env] := by intros; rfl) : SS T (.Assign [tg] e pos) (mAsgG g m) := fun X fx S P av F σ H D R q tk => by
  refine tWS_of (ps_asg pe_tW pg_tWG (hs X.env) (hw X fx.sc) (h1 X.env)) (tW_mono (he X fx.toFits S P av F σ H _ D.ex R q tk) fun v H1 ⟨S1, F1, ev, q1, e1, R1, k1⟩ => ?_)
  obtain ⟨S1', e1', R1', k1'⟩ := R1.hold k1
  have q1' : frzK F1 (hold ev) fun d F2 => g d F2 D.nx := by cases ev <;> exact q1
  obtain ⟨S2, F2, d, q2, e2, R2, r2⟩ := R1'.frzEv (ev := hold ev) (by rw [hold_hold]; exact k1') q1'
  exact tWG_mono (hg X fx.toFits S2 P av F2 σ H1 d v _ R2 r2 q2) fun σ' H' ⟨u, _⟩ => u.mono (e1.trans (e1'.trans e2)) fun _ h => h
end
end HD
set_option Elab.async false
set_option linter.all false
set_option maxRecDepth 100000
set_option maxHeartbeats 4000000
/-! HD, part 25: plain laws of loops. -/
namespace HD
open PySem PySem.Spec PyProof.Rows L2
theorem loopD_inv {g : MG} {mb : MS} {ok : Fr → Prop} {E : DE} {items : List D} (Inv : Nat → Fr → Prop) (hok : ∀ i F, Inv i F → ok F) (hs : ∀ i d F, items[i]? = some d → Inv i F → ∀ N : Fr → Prop, (∀ F', Inv (i + 1) F' → N F') → g d F fun F1 => mb { E with nx := N, ct := N, bk := E.nx } F1)
    (hd : ∀ F, Inv items.length F → E.nx F) {F : Fr} (h0 : Inv 0 F) : loopD g mb ok items E F := by
  have key : ∀ (ds pre : List D) (F : Fr), items = pre ++ ds → Inv pre.length F → loopD g mb ok ds E F := by
    intro ds
    induction ds with
    | nil =>
      intro pre F e h
      refine ⟨hok _ _ h, hd F ?_⟩
      rw [e, List.append_nil]; exact h
    | cons d ds ih =>
      intro pre F e h
      refine ⟨hok _ _ h, hs pre.length d F (by rw [e]; simp) h _ fun F' h' => ih (pre ++ [d]) F' (by rw [e]; simp) (by simpa using h')⟩
  exact key items [] F rfl h0
theorem loopG_inv {g : MG} {mb : MGn} {ok : Fr → Prop} {E : DEg} {items : List D} (Inv : Nat → List D → Fr → Prop) (hok : ∀ i ys F, Inv i ys F → ok F) (hs : ∀ i d ys F, items[i]? = some d → Inv i ys F → ∀ N : List D → Fr → Prop, (∀ ys' F', Inv (i + 1) ys' F' → N ys' F') → g d F fun F1 => mb { E with nx := N, ct := N, bk := E.nx } ys F1)
    (hd : ∀ ys F, Inv items.length ys F → E.nx ys F) {ys : List D} {F : Fr} (h0 : Inv 0 ys F) : loopG g mb ok items E ys F := by
  have key : ∀ (ds pre : List D) (ys : List D) (F : Fr), items = pre ++ ds → Inv pre.length ys F → loopG g mb ok ds E ys F := by
    intro ds
    induction ds with
    | nil =>
      intro pre ys F e h
      refine ⟨hok _ _ _ h, hd ys F ?_⟩
      rw [e, List.append_nil]; exact h
    | cons d ds ih =>
      intro pre ys F e h
      refine ⟨hok _ _ _ h, hs pre.length d ys F (by rw [e]; simp) h _ fun ys' F' h' => ih (pre ++ [d]) ys' F' (by rw [e]; simp) (by simpa using h')⟩
  exact key items [] ys F rfl h0
/-- one turn of a comprehension -/
def turnD (g : MG) (mt : MT) (me : ME) (vs : List Nat) (d : D) (acc : List D) (N : List D → Fr → Prop) (F : Fr) : Prop :=
  g d F fun F1 => mt F1 (fun b F2 => brK b (me F2 (fun ev F3 => frzK F3 ev fun e F4 => acc.length < sizeLine ∧ N (acc ++ [e]) (wipeF F4 vs)) noE) (N acc (wipeF F2 vs))) noE
theorem compD_inv {g : MG} {mt : MT} {me : ME} {vs : List Nat} {ok : Fr → Prop} {Q : List D → Fr → Prop} {items : List D} (Inv : Nat → List D → Fr → Prop) (hok : ∀ i acc F, Inv i acc F → ok F) (hs : ∀ i d acc F, items[i]? = some d → Inv i acc F → ∀ N : List D → Fr → Prop, (∀ acc' F', Inv (i + 1) acc' F' → N acc' F') → turnD g mt me vs d acc N F)
    (hd : ∀ acc F, Inv items.length acc F → Q acc F) {acc : List D} {F : Fr} (h0 : Inv 0 acc F) : compD g mt me vs ok Q items acc F := by
  have key : ∀ (ds pre : List D) (acc : List D) (F : Fr), items = pre ++ ds → Inv pre.length acc F → compD g mt me vs ok Q ds acc F := by
    intro ds
    induction ds with
    | nil =>
      intro pre acc F e h
      refine ⟨hok _ _ _ h, hd acc F ?_⟩
      rw [e, List.append_nil]; exact h
    | cons d ds ih =>
      intro pre acc F e h
      refine ⟨hok _ _ _ h, ?_⟩
      exact hs pre.length d acc F (by rw [e]; simp) h (fun acc' F' => compD g mt me vs ok Q ds acc' F') fun acc' F' h' => ih (pre ++ [d]) acc' F' (by rw [e]; simp) (by simpa using h')
  exact key items [] acc F rfl h0
/-- nothing but the new list changes: each item gives f d -/
theorem compD_map {g : MG} {mt : MT} {me : ME} {vs : List Nat} {ok : Fr → Prop} {Q : List D → Fr → Prop} {items : List D} {F : Fr} (f : D → D) (hok : ok F) (hl : items.length < sizeLine) (hs : ∀ d ∈ items, ∀ (acc : List D) (N : List D → Fr → Prop), acc.length < sizeLine → N (acc ++ [f d]) F → turnD g mt me vs d acc N F)
    (hd : Q (items.map f) F) : compD g mt me vs ok Q items [] F :=
  compD_inv (fun i acc F' => F' = F ∧ acc = (items.take i).map f) (fun i acc F' h => h.1 ▸ hok) (fun i d acc F' hi ⟨hF, ha⟩ N hN => by
    subst hF
    have hil := (List.getElem?_eq_some_iff.mp hi).1
    refine hs d (List.mem_of_getElem? hi) acc N (by rw [ha, List.length_map, List.length_take]; omega) (hN _ _ ⟨rfl, ?_⟩)
    rw [ha, List.take_add_one, hi, List.map_append]; rfl) (fun acc F' ⟨hF, ha⟩ => by subst hF; rw [ha, List.take_length]; exact hd) ⟨rfl, rfl⟩
/-- the same with a test: those with p d are kept -/
theorem compD_filter {g : MG} {mt : MT} {me : ME} {vs : List Nat} {ok : Fr → Prop} {Q : List D → Fr → Prop} {items : List D} {F : Fr} (f : D → Option D) (hok : ok F) (hl : items.length < sizeLine) (hs : ∀ d ∈ items, ∀ (acc : List D) (N : List D → Fr → Prop), acc.length < sizeLine → N (acc ++ (f d).toList) F → turnD g mt me vs d acc N F)
    (hd : Q (items.filterMap f) F) : compD g mt me vs ok Q items [] F :=
  compD_inv (fun i acc F' => F' = F ∧ acc = (items.take i).filterMap f) (fun i acc F' h => h.1 ▸ hok) (fun i d acc F' hi ⟨hF, ha⟩ N hN => by
    subst hF
    have hil := (List.getElem?_eq_some_iff.mp hi).1
    have hal : acc.length ≤ i := by rw [ha]; exact Nat.le_trans (List.length_filterMap_le _ _) (by rw [List.length_take]; omega)
    refine hs d (List.mem_of_getElem? hi) acc N (by omega) (hN _ _ ⟨rfl, ?_⟩)
    rw [ha, List.take_add_one, hi, List.filterMap_append]
    show _ ++ (f d).toList = _ ++ List.filterMap f (some d).toList
    cases h : f d <;> simp [h]) (fun acc F' ⟨hF, ha⟩ => by subst hF; rw [ha, List.take_length]; exact hd) ⟨rfl, rfl⟩
theorem startF_eq (n : Nat) (cs : List Cel) : startF n cs = ⟨(List.range cs.length).map (fun k => some (.ar k)) ++ List.replicate (n - cs.length) none, cs⟩ := rfl
theorem enumD_get {xs : List D} {i : Nat} {d : D} (h : (enumD xs)[i]? = some d) : ∃ x, xs[i]? = some x ∧ d = .tup [.int (i : Nat), x] := by
  have hl : i < xs.length := by
    have := (List.getElem?_eq_some_iff.mp h).1
    unfold enumD at this
    rwa [enumFrom_len] at this
  have h2 := enumFrom_get 0 xs i _ (List.getElem?_eq_getElem hl)
  unfold enumD at h
  rw [h, Nat.zero_add] at h2
  exact ⟨_, List.getElem?_eq_getElem hl, Option.some.inj h2⟩
theorem rangeD_get {lo : Int} {n i : Nat} {d : D} (h : (rangeD lo n)[i]? = some d) : i < n ∧ d = .int (lo + (i : Nat)) := by
  unfold rangeD at h
  rw [List.getElem?_map] at h
  by_cases hi : i < n
  · rw [List.getElem?_range hi] at h
    exact ⟨hi, (Option.some.inj h).symm⟩
  · rw [List.getElem?_eq_none (by simpa using hi)] at h; cases h
theorem rangeD_len (lo : Int) (n : Nat) : (rangeD lo n).length = n := by simp [rangeD]
theorem enumD_len (xs : List D) : (enumD xs).length = xs.length := enumFrom_len 0 xs
end HD
set_option Elab.async false
set_option linter.all false
set_option maxRecDepth 100000
set_option maxHeartbeats 4000000
/-! HD, part 26: from what the kit holds of a def to the facts that the derivations ask. -/
namespace HD
open PySem PySem.Spec PyProof.Rows L2
section
variable {P : Program} {w : World} {K : PySem.W.Frag} {mg : Str → Option Value} {base : Heap} {x qual : Str} {st : Stmt} {f C : Addr} {oc : Value} {od an : Option Addr} {osl : Array (Option Value)} {kV doc pm cdv ct : Value} {fd : FuncData} {ps : List Str}
theorem fund_mk (l : K.lookup f = some ⟨oc, od, .func (PySem.W.fnOf x qual (defArgs st) (defBody st) (defScope st) .none kV doc pm an cdv ct), osl⟩) (c : PySem.W.codeIn K cdv qual = true) (k : PySem.W.keepIn K (.ref f) = true) :
    FunD K x qual (defArgs st) (defBody st) (defScope st) [] [] f (PySem.W.fnOf x qual (defArgs st) (defBody st) (defScope st) .none kV doc pm an cdv ct) :=
  ⟨⟨oc, od, .none, kV, doc, pm, an, cdv, ct, osl, rfl, l, c, .inl ⟨rfl, rfl⟩, .inl rfl⟩, k⟩
/-- one keyword-only default -/
theorem fund_mkK {D : Addr} {y : Str} {v : V} {u : Value} (l : K.lookup f = some ⟨oc, od, .func (PySem.W.fnOf x qual (defArgs st) (defBody st) (defScope st) .none (.ref D) doc pm an cdv ct), osl⟩) (c : PySem.W.codeIn K cdv qual = true) (k : PySem.W.keepIn K (.ref f) = true) (hy : PySem.W.nsIn K D y = some (some u)) (r : RelV v u) :
    FunD K x qual (defArgs st) (defBody st) (defScope st) [] [(y, v)] f (PySem.W.fnOf x qual (defArgs st) (defBody st) (defScope st) .none (.ref D) doc pm an cdv ct) :=
  ⟨⟨oc, od, .none, .ref D, doc, pm, an, cdv, ct, osl, rfl, l, c, .inl ⟨rfl, rfl⟩, .inr ⟨D, rfl, fun q hq => by rw [List.mem_singleton.mp hq]; exact ⟨u, hy, r⟩⟩⟩, k⟩
theorem map_p : ∀ (vs : List V) (zs : List V), (List.range vs.length).map (fun i => argV vs zs (.p i)) = vs := fun vs zs => by
  apply List.ext_getElem
  · simp
  · intro i h1 h2
    simp [argV, List.getD, h2]
/-- all positional -/
theorem bnd_pos {n : Nat} {arr : List HD.Arg} (h : ∀ us : List Value, us.length = ps.length → bindArgs fd ⟨us, []⟩ = pure (ps.zip us)) (hn : ps.length = n) (ha : arr = (List.range n).map HD.Arg.p) : BnD K fd ps n [] arr where
  ex := ⟨fun us _ => us, fun vs _ => vs, ⟨fun s us ws _ l1 l2 => by
    have : ws = [] := List.length_eq_zero_iff.mp l2
    subst this
    exact .of_eq (h us (by rw [hn]; exact l1)), fun r _ => r⟩, fun vs zs l1 _ => by
    subst ha
    rw [List.map_map, ← l1]
    exact (map_p vs zs).symm⟩
  ok := fun a h => by
    subst ha
    obtain ⟨i, hi, rfl⟩ := List.mem_map.mp h
    exact List.mem_range.mp hi
theorem bnd_b {n : Nat} {arr : List HD.Arg} (b : Binds K fd ps []) (hn : ps.length = n) (ha : arr = (List.range n).map HD.Arg.p) : BnD K fd ps n [] arr where
  ex := ⟨fun us _ => us, fun vs _ => vs, ⟨fun s us ws X l1 l2 => by
    have : ws = [] := List.length_eq_zero_iff.mp l2
    subst this
    have h := b s us X (by rw [List.append_nil, hn]; exact l1)
    rw [List.append_nil] at h
    exact h, fun r _ => r⟩, fun vs zs l1 _ => by
    subst ha
    rw [List.map_map, ← l1]
    exact (map_p vs zs).symm⟩
  ok := fun a h => by
    subst ha
    obtain ⟨i, hi, rfl⟩ := List.mem_map.mp h
    exact List.mem_range.mp hi
theorem map_p2 (vs zs : List V) (a : HD.Arg) : ((List.range vs.length).map HD.Arg.p ++ [a]).map (argV vs zs) = vs ++ [argV vs zs a] := by
  rw [List.map_append, List.map_map]
  show (List.range vs.length).map (fun i => argV vs zs (.p i)) ++ _ = _
  rw [map_p]; rfl
/-- the last parameter has a default and is left out -/
theorem bnd_one {n : Nat} {arr : List HD.Arg} {v : V} {dd : D} (b : ∃ ds, Vals [v] ds ∧ Binds K fd ps ds) (hn : n + 1 = ps.length) (ha : arr = (List.range n).map HD.Arg.p ++ [.d v dd]) (hr : ∀ K mg S, Rep K mg S dd v) : BnD K fd ps n [] arr := by
  obtain ⟨ds, rd, hb⟩ := b
  have l1 : ds.length = 1 := rd.length.symm
  refine ⟨⟨fun us _ => us ++ ds, fun vs _ => vs ++ [v], ⟨fun s us ws X h1 h2 => ?_, fun r _ => r.append rd⟩, fun vs zs h1 _ => ?_⟩, fun a h => ?_⟩
  · have : ws = [] := List.length_eq_zero_iff.mp h2
    subst this
    exact hb s us X (by rw [List.length_append]; omega)
  · subst ha
    rw [← h1, map_p2]; rfl
  · subst ha
    rcases List.mem_append.mp h with h | h
    · obtain ⟨i, hi, rfl⟩ := List.mem_map.mp h
      exact List.mem_range.mp hi
    · rw [List.mem_singleton.mp h]; exact hr
/-- the last parameter is given by its name -/
theorem bnd_kw1 {n : Nat} {arr : List HD.Arg} {y : Str} (hb : ∀ (us : List Value) (u : Value), us.length = n → bindArgs fd ⟨us, [(y, u)]⟩ = pure (ps.zip (us ++ [u]))) (ha : arr = (List.range n).map HD.Arg.p ++ [.k 0]) : BnD K fd ps n [y] arr := by
  refine ⟨⟨fun us ws => us ++ ws, fun vs zs => vs ++ zs, ⟨fun s us ws X h1 h2 => ?_, fun r q => r.append q⟩, fun vs zs h1 h2 => ?_⟩, fun a h => ?_⟩
  · match ws, h2 with
    | [u], _ => exact .of_eq (hb us u h1)
  · subst ha
    match zs, h2 with
    | [z], _ => rw [← h1, map_p2]; rfl
  · subst ha
    rcases List.mem_append.mp h with h | h
    · obtain ⟨i, hi, rfl⟩ := List.mem_map.mp h
      exact List.mem_range.mp hi
    · rw [List.mem_singleton.mp h]; exact Nat.one_pos
theorem bnds (h : ∀ us : List Value, us.length = ps.length → bindArgs fd ⟨us, []⟩ = pure (ps.zip us)) : Binds K fd ps [] := .all h
end
end HD
set_option Elab.async false
set_option linter.all false
set_option maxRecDepth 100000
set_option maxHeartbeats 4000000
/-! HD, part 27: the bodies of own exceptions' __init__. -/
namespace HD
open PySem PySem.Spec PyProof.Rows L2
section
variable {N : List Str} {sc : Scope} {self f y : Str} {i : Nat} {p1 p' p2 pos : Pos} {body : List Stmt} {fs : List (Str × XS)}
/-- self.f = y, y a parameter -/
theorem xb_par (h0 : N[0]? = some self) (v0 : visC sc self = true) (hi : N[i]? = some y) (vi : visC sc y = true) (r : XB N sc body fs) (d0 : (self == ("__debug__" : Str)) = false := by decide +kernel) (d1 : (y == ("__debug__" : Str)) = false := by decide +kernel) (e0 : (self == ("__classdict__" : Str)) = false := by decide +kernel) (e1 : (y == ("__classdict__" : Str)) = false := by decide +kernel) (hs : ∀ env, swapsWith (.Name y p2) (some (.Attribute (.Name self p1) f p')) pos.line env = pure false := by intros; rfl) : XB N sc (.Assign [.Attribute (.Name self p1) f p'] (.Name y p2) pos :: body) ((f, .inl i) :: fs) :=
  .cons (fun X hN hsc => pe_var (by rw [hN]; exact h0) (by rw [hsc]; exact vis_of v0) d0 e0) (fun X hN hsc => pe_var (by rw [hN]; exact hi) (by rw [hsc]; exact vis_of vi) d1 e1) hs r
/-- self.f = "z" -/
theorem xb_str {z : Str} {j : Nat} (h0 : N[0]? = some self) (v0 : visC sc self = true) (r : XB N sc body fs) (d0 : (self == ("__debug__" : Str)) = false := by decide +kernel) (e0 : (self == ("__classdict__" : Str)) = false := by decide +kernel) (hs : ∀ env, swapsWith (.Constant (.str z) j p2) (some (.Attribute (.Name self p1) f p')) pos.line env = pure false := by intros; rfl) : XB N sc (.Assign [.Attribute (.Name self p1) f p'] (.Constant (.str z) j p2) pos :: body) ((f, .inr (.str z, .str z)) :: fs) :=
  .cons (fun X hN hsc => pe_var (by rw [hN]; exact h0) (by rw [hsc]; exact vis_of v0) d0 e0) (fun X hN hsc => pe_str) hs r
end
end HD
set_option Elab.async false
set_option linter.all false
set_option maxRecDepth 100000
set_option maxHeartbeats 4000000
/-! HD, part 28: the law's def, called with the script. -/
namespace HD
open PySem PySem.Spec PyProof.Rows L2
def spScr (K : PySem.W.Frag) : Sp := fun vs H Q E => ∃ (a : Addr) (ns : List Int), vs = [.ref a] ∧ SqL K H a (ns.map V.int) ∧ ∀ H', Q (.bl true) H'
theorem scr_of {P : Program} {w : World} {K : PySem.W.Frag} {mg : Str → Option Value} {base : Heap} {k : Nat} {f : Addr} {fd : FuncData} {ps : List Str} {sp : DSp} (F : FnD P w K mg base k f fd ps sp) (hps : ps.length = 1)
    (h : ∀ (ns : List Int) (Q : Ev → List Cel → Prop) (E : EXc), (∀ cs, Q (.sh (.bl true)) cs) → sp [.gone (.scr ns)] Q E) : FnOk P w K mg base (L2.CX P w) k f fd ps (spScr K) :=
  FnOk.imp F fun vs H Q E ⟨a, ns, hv, hs, q⟩ => by
    subst hv
    refine ⟨hps.symm, H, fun _ => none, [.gone (.scr ns)], fun ev _ => ev = .sh (.bl true), fun _ _ => False, ?_, h ns _ _ fun _ => rfl, fun v H' S' ev cs' he _ _ kk => ?_, fun _ _ _ _ _ _ he => he.elim⟩
    · refine ⟨Ex.refl H, fun a o z => (by cases z), fun _ _ _ => rfl, rfl, rfl, fun i s z => by simp at z, fun p c z => ?_, fun p q c e v z ho => ?_⟩
      · match p, z with
        | .inr 0, z =>
          cases z
          exact ⟨.ref a, rfl, a, rfl, hs⟩
        | .inr (n + 1), z => cases z
        | .inl n, z => simp [HD.Fr.at, celOf] at z
      · match p, z with
        | .inr 0, z => cases z; cases ho
        | .inr (n + 1), z => cases z
        | .inl n, z => simp [HD.Fr.at, celOf] at z
    · subst he
      have kk : Rep K mg S' (.bl true) v := kk
      unfold Rep at kk
      rw [kk]; exact q H'
theorem cx_no {P : Program} {w : World} {H : Hp} {s s' : Shared} {e : Value} : L2.CX P w [] H s (fun _ _ _ => False) e s' → False := fun ⟨_, _, _, _, _, _, _, _, _, _, _, _, h⟩ => h
end HD
set_option Elab.async false
set_option linter.all false
set_option maxRecDepth 100000
set_option maxHeartbeats 4000000
namespace K10
open PySem PySem.Spec PyProof.Rows L2 HD

def kb_int : String → Bool := fun t => t == "int" || t == "bool"
def kb_bool : String → Bool := fun t => t == "bool"
def kb_str : String → Bool := fun t => t == "str"
def kb_tuple : String → Bool := fun t => t == "tuple"
def kb_list : String → Bool := fun t => t == "list"
def kb_list_tuple : String → Bool := fun t => t == "list" || t == "tuple"
def arr1 : List HD.Arg := [.p 0]
def arr2 : List HD.Arg := [.p 0, .p 1]
def arr3 : List HD.Arg := [.p 0, .p 1, .p 2]
def arr4 : List HD.Arg := [.p 0, .p 1, .p 2, .p 3]
def arrK : List HD.Arg := [.p 0, .p 1, .k 0]
def arrD : List HD.Arg := [.p 0, .p 1, .d (.int 1) (.int 1)]
def tab__BITS : List (Str × D) := [("0", .int 0), ("1", .int 1), ("*", .non)]
def no__BITS : Str → Prop := fun _ => False
def xs_BadRoom : List (Str × XS) := [("at", .inl 1), ("code", .inr (.str "BadRoom", .str "BadRoom"))]
def xs_BadLevels : List (Str × XS) := [("cell", .inl 1), ("code", .inr (.str "BadLevels", .str "BadLevels"))]

/-! ### data -/
def isNum : D → Int → Int → Bool
  | .int i, lo, hi => decide (lo ≤ i) && decide (i ≤ hi)
  | _, _, _ => false
/-- data that isinstance can be asked about -/
def tg (d : D) : Prop := d.tag.isSome = true
def allNum (lo hi : Int) (xs : List D) : Bool := xs.all fun x => isNum x lo hi
/-- a tuple of n numbers -/
def isSeq (lo hi : Int) (v : D) (n : Int) : Bool := match v with
  | .tup xs => decide ((xs.length : Int) = n) && allNum lo hi xs
  | _ => false
def tgs (v : D) : Prop := match v with
  | .tup xs => xs.length < 1000 ∧ ∀ x ∈ xs, tg x
  | _ => tg v
def bitD (c : Nat) : D := if c = 48 then .int 0 else if c = 49 then .int 1 else .non
def bitsD (t : Str) : List D := t.cps.toList.map bitD
def roomC (t : Str) : Cel := .ins "Room" ["_text", "_bits"] [.str t, .tup (bitsD t)]
def roomD (t : Str) : D := .ins "Room" ["_text", "_bits"] [.str t, .tup (bitsD t)]
def okText (t : Str) : Prop := t.cps.toList ≠ [] ∧ t.cps.toList.length ≤ 40 ∧ ∀ c ∈ t.cps.toList, c = 48 ∨ c = 49 ∨ c = 42
def noStar (t : Str) : Prop := ∀ c ∈ t.cps.toList, c ≠ 42
def inRoom (t : Str) (bs : List Int) : Bool := (t.cps.toList.zip bs).all fun p => decide (p.1 = 42) || (decide (p.1 = 48) && decide (p.2 = 0)) || (decide (p.1 = 49) && decide (p.2 = 1))
def iD (ns : List Int) : List D := ns.map D.int
def firstBad (lo hi : Int) : List D → Nat → Option Int
  | [], _ => none
  | x :: xs, k => if isNum x lo hi = true then firstBad lo hi xs (k + 1) else some (k : Int)
def checkL (v : D) (n lo : Int) : Option Int := match v with
  | .tup xs => if (xs.length : Int) = n then firstBad lo 6 xs 0 else some (-1)
  | _ => some (-1)
def dueL : Option Int → List D
  | none => []
  | some k => [.int k, .str "BadLevels"]
def rowOk (ls : List Int) (v : D) : Bool := match v with
  | .tup xs => decide ((xs.length : Int) = ls.length) && (xs.zip ls).all fun p => isNum p.1 0 p.2
  | _ => false
def sgn (r l : Int) : Nat := if r = 0 then 48 else if r = l then 49 else 42
def textOf (ls rs : List Int) : Str := ⟨((rs.zip ls).map fun p => sgn p.1 p.2).toArray⟩
def endRow (ls bs : List Int) : List Int := (ls.zip bs).map fun p => if p.2 = 1 then p.1 else 0
def endedD (ls rs : List Int) : D := if (rs.zip ls).any (fun p => decide (0 < p.1) && decide (p.1 < p.2)) = true then .non else .tup (iD (rs.map fun r => if 0 < r then 1 else 0))
def bagL (ns : List Int) (i b s k : Int) : List D := [.lst (iD ns), .int i, .int b, .int s, .int k]
def BagOk (c : List D) : Prop := ∃ ns i b s k, c = bagL ns i b s k ∧ 0 ≤ i ∧ 0 ≤ s ∧ s < 2147483647
/-- plain data of depth up to n -/
def plainD : Nat → D → Prop
  | _ + 1, .non => True
  | _ + 1, .bl _ => True
  | _ + 1, .int _ => True
  | _ + 1, .str _ => True
  | n + 1, .lst xs => xs.length < 1000 ∧ ∀ x ∈ xs, plainD n x
  | n + 1, .tup xs => xs.length < 1000 ∧ ∀ x ∈ xs, plainD n x
  | _, _ => False
def lvls (ls : List Int) : Prop := 1 ≤ ls.length ∧ ls.length ≤ 40 ∧ ∀ l ∈ ls, 1 ≤ l ∧ l ≤ 6
def rowIn (ls rs : List Int) : Prop := rs.length = ls.length ∧ ∀ p ∈ rs.zip ls, 0 ≤ p.1 ∧ p.1 ≤ p.2
def bits01 (bs : List Int) : Prop := ∀ b ∈ bs, b = 0 ∨ b = 1
def exnL (k : Int) : Exn := ⟨"BadLevels", ["code", "cell"], [.str "BadLevels", .int k]⟩

/-! ### the promises -/
def sp_is_number : DSp := fun cs Q E => ∃ v lo hi, cs = [.gone v, .gone (.int lo), .gone (.int hi)] ∧ tg v ∧ Q (.sh (.bl (isNum v lo hi))) cs
def sp_is_standing : DSp := fun cs Q E => ∃ v n, cs = [.gone v, .gone (.int n)] ∧ tgs v ∧ Q (.sh (.bl (isSeq 0 1 v n))) cs
def sp_Room___init__ : DSp := fun cs Q E => ∃ t, cs = [.ins "Room" [] [], .gone (.str t)] ∧ okText t ∧ Q (.sh .non) [roomC t, .gone (.str t)]
def sp_Room_open_cells : DSp := fun cs Q E => ∃ t, cs = [.gone (roomD t)] ∧ okText t ∧ noStar t ∧ Q (.tmp (.lst [])) cs
def sp_Room_corners : DSpG := fun cs Q => ∃ t, cs = [.gone (roomD t)] ∧ okText t ∧ noStar t ∧ Q [.tup (bitsD t)] cs
def sp_Room___contains__ : DSp := fun cs Q E => ∃ t bs, cs = [.gone (roomD t), .gone (.tup (iD bs))] ∧ okText t ∧ bits01 bs ∧ bs.length = t.cps.toList.length ∧ Q (.sh (.bl (inRoom t bs))) cs
def sp_Room___str__ : DSp := fun cs Q E => ∃ t, cs = [.gone (roomD t)] ∧ okText t ∧ Q (.sh (.str t)) cs
def sp_is_levels : DSp := fun cs Q E => ∃ v n lo, cs = [.gone v, .gone (.int n), .gone (.int lo)] ∧ tgs v ∧ Q (.sh (.bl (isSeq lo 6 v n))) cs
def sp_check_levels : DSp := fun cs Q E => ∃ v n lo, cs = [.gone v, .gone (.int n), .gone (.int lo)] ∧ tgs v ∧ match checkL v n lo with
  | none => Q (.sh .non) cs
  | some k => E (exnL k) cs
def sp_is_row : DSp := fun cs Q E => ∃ ls v, cs = [.gone (.tup (iD ls)), .gone v] ∧ ls.length < 1000 ∧ tgs v ∧ Q (.sh (.bl (rowOk ls v))) cs
def sp_sign_of : DSp := fun cs Q E => ∃ r l, cs = [.gone (.int r), .gone (.int l)] ∧ Q (.sh (.str ⟨#[sgn r l]⟩)) cs
def sp_stands_for : DSp := fun cs Q E => ∃ ls rs, cs = [.gone (.tup (iD ls)), .gone (.tup (iD rs))] ∧ rs.length = ls.length ∧ 1 ≤ ls.length ∧ ls.length ≤ 40 ∧ Q (.tmp (roomC (textOf ls rs))) cs
def sp_end_row : DSp := fun cs Q E => ∃ ls bs, cs = [.gone (.tup (iD ls)), .gone (.tup (iD bs))] ∧ ls.length < 1000 ∧ Q (.sh (.tup (iD (endRow ls bs)))) cs
def sp_ended : DSp := fun cs Q E => ∃ ls rs, cs = [.gone (.tup (iD ls)), .gone (.tup (iD rs))] ∧ rs.length < 1000 ∧ Q (.sh (endedD ls rs)) cs
def sp__law_bag : DSp := fun cs Q E => ∃ ns, cs = [.gone (.scr ns)] ∧ ∀ bag, BagOk bag → Q (.tmp (.lst bag)) cs
def sp__law_draw : DSp := fun cs Q E => ∃ bag n, cs = [.lst bag, .gone (.int n)] ∧ BagOk bag ∧ 0 < n ∧ n < 1073741824 ∧ ∀ r bag', BagOk bag' → 0 ≤ r → r < n → Q (.sh (.int r)) [.lst bag', .gone (.int n)]
def sp__law_of : DSp := fun cs Q E => ∃ bag xs, cs = [.lst bag, .gone (.lst xs)] ∧ BagOk bag ∧ 0 < xs.length ∧ xs.length < 1000 ∧ ∀ d bag', BagOk bag' → d ∈ xs → Q (.sh d) [.lst bag', .gone (.lst xs)]
def sp__law_like (n : Nat) : DSp := fun cs Q E => ∃ d, cs = [.gone d, .gone d] ∧ plainD n d ∧ Q (.sh (.bl true)) cs
def sp__law_is_from : DSp := sp_is_number
def sp__law_checked : DSp := fun cs Q E => ∃ v n lo way, cs = [.gone v, .gone (.int n), .gone (.int lo), .gone (.int way)] ∧ tgs v ∧ (way = 0 ∨ lo = 1) ∧ Q (.tmp (.lst (dueL (checkL v n lo)))) cs
def sp__law_bent : DSp := fun cs Q E => ∃ bag ns, cs = [.lst bag, .gone (.tup (iD ns))] ∧ BagOk bag ∧ 1 ≤ ns.length ∧ ns.length ≤ 40 ∧ ∀ v bag', BagOk bag' → tgs v → Q (.sh v) [.lst bag', .gone (.tup (iD ns))]
def sp__law_levels_looked : DSp := fun cs Q E => ∃ bag ls, cs = [.lst bag, .gone (.tup (iD ls))] ∧ BagOk bag ∧ lvls ls ∧ ∀ bag', BagOk bag' → Q (.sh (.bl true)) [.lst bag', .gone (.tup (iD ls))]
def sp__law_row : DSp := fun cs Q E => ∃ bag ls, cs = [.lst bag, .gone (.tup (iD ls))] ∧ BagOk bag ∧ lvls ls ∧ ∀ rs bag', BagOk bag' → rowIn ls rs → Q (.sh (.tup (iD rs))) [.lst bag', .gone (.tup (iD ls))]
def sp__law_text : DSp := fun cs Q E => ∃ ls rs, cs = [.gone (.tup (iD ls)), .gone (.tup (iD rs))] ∧ rs.length = ls.length ∧ ls.length ≤ 40 ∧ Q (.sh (.str (textOf ls rs))) cs
def sp__law_row_told : DSp := fun cs Q E => ∃ bag ls rs, cs = [.lst bag, .gone (.tup (iD ls)), .gone (.tup (iD rs))] ∧ BagOk bag ∧ lvls ls ∧ rowIn ls rs ∧ ∀ bag', BagOk bag' → Q (.sh (.bl true)) [.lst bag', .gone (.tup (iD ls)), .gone (.tup (iD rs))]
def sp_law : DSp := fun cs Q E => ∃ ns, cs = [.gone (.scr ns)] ∧ ∀ cs', Q (.sh (.bl true)) cs'
theorem kbe_int_NoneType : kb_int "NoneType" = false := by decide
theorem kbe_int_bool : kb_int "bool" = true := by decide
theorem kbe_int_int : kb_int "int" = true := by decide
theorem kbe_int_str : kb_int "str" = false := by decide
theorem kbe_int_tuple : kb_int "tuple" = false := by decide
theorem kbe_int_list : kb_int "list" = false := by decide
theorem kbe_int_dict : kb_int "dict" = false := by decide
theorem kbe_bool_NoneType : kb_bool "NoneType" = false := by decide
theorem kbe_bool_bool : kb_bool "bool" = true := by decide
theorem kbe_bool_int : kb_bool "int" = false := by decide
theorem kbe_bool_str : kb_bool "str" = false := by decide
theorem kbe_bool_tuple : kb_bool "tuple" = false := by decide
theorem kbe_bool_list : kb_bool "list" = false := by decide
theorem kbe_bool_dict : kb_bool "dict" = false := by decide
theorem kbe_str_NoneType : kb_str "NoneType" = false := by decide
theorem kbe_str_bool : kb_str "bool" = false := by decide
theorem kbe_str_int : kb_str "int" = false := by decide
theorem kbe_str_str : kb_str "str" = true := by decide
theorem kbe_str_tuple : kb_str "tuple" = false := by decide
theorem kbe_str_list : kb_str "list" = false := by decide
theorem kbe_str_dict : kb_str "dict" = false := by decide
theorem kbe_tuple_NoneType : kb_tuple "NoneType" = false := by decide
theorem kbe_tuple_bool : kb_tuple "bool" = false := by decide
theorem kbe_tuple_int : kb_tuple "int" = false := by decide
theorem kbe_tuple_str : kb_tuple "str" = false := by decide
theorem kbe_tuple_tuple : kb_tuple "tuple" = true := by decide
theorem kbe_tuple_list : kb_tuple "list" = false := by decide
theorem kbe_tuple_dict : kb_tuple "dict" = false := by decide
theorem kbe_list_NoneType : kb_list "NoneType" = false := by decide
theorem kbe_list_bool : kb_list "bool" = false := by decide
theorem kbe_list_int : kb_list "int" = false := by decide
theorem kbe_list_str : kb_list "str" = false := by decide
theorem kbe_list_tuple : kb_list "tuple" = false := by decide
theorem kbe_list_list : kb_list "list" = true := by decide
theorem kbe_list_dict : kb_list "dict" = false := by decide
theorem kbe_list_tuple_NoneType : kb_list_tuple "NoneType" = false := by decide
theorem kbe_list_tuple_bool : kb_list_tuple "bool" = false := by decide
theorem kbe_list_tuple_int : kb_list_tuple "int" = false := by decide
theorem kbe_list_tuple_str : kb_list_tuple "str" = false := by decide
theorem kbe_list_tuple_tuple : kb_list_tuple "tuple" = true := by decide
theorem kbe_list_tuple_list : kb_list_tuple "list" = true := by decide
theorem kbe_list_tuple_dict : kb_list_tuple "dict" = false := by decide
def N_is_number : List Str := ["value", "least", "most"]
def ps_is_number : List Str := ["value", "least", "most"]
def m_is_number : MS := (mRet (mAndV (mIsi kb_int [] (fun _ => false) (mVar 0)) (mAndV (mNotV (mIsi kb_bool [] (fun _ => false) (mVar 0))) (mChain (dCmpI fun i j => decide (i ≤ j)) (dCmpI fun i j => decide (i ≤ j)) (mVar 1) (mVar 0) (mVar 2)))))

def N_is_standing : List Str := ["value", "many", "bit"]
def ps_is_standing : List Str := ["value", "many"]
def m_is_standing : MS := (mSeq (mIfS (mOr (mNot (mTru (mIsi kb_tuple [] (fun _ => false) (mVar 0)))) (mTst (mBin (dEq not) (mBi gLen (mCons (mVar 0) mNil)) (mVar 1)))) (mRet (mSh (.bl false))) mNext)
  (mRet (mBi (gAll fun bs => bs.all id) (mCons (mLc (mIter (mVar 0)) (dName 2) mYes (mCall arr3 3 0 (sp_is_number) (mCons (mVar 2) (mCons (mSh (.int 0)) (mCons (mSh (.int 1)) mNil))) mNil) [2]) mNil))))

def N_Room___init__ : List Str := ["self", "text", "at", "sign"]
def ps_Room___init__ : List Str := ["self", "text"]
def m_Room___init__ : MS := (mSeq (mIfS (mOr (mNot (mTru (mIsi kb_str [] (fun _ => false) (mVar 1)))) (mTst (mBin (dEq id) (mVar 1) (mSh (.str ("" : Str)))))) (mRaise ("BadRoom" : Str) 1 xs_BadRoom (mCons (mSh (.int 0)) mNil)) mNext)
  (mSeq (mIfS (mTst (mBin (dCmpI fun i j => decide (j < i)) (mBi gLen (mCons (mVar 1) mNil)) (mSh (.int 40)))) (mRaise ("BadRoom" : Str) 1 xs_BadRoom (mCons (mSh (.int 40)) mNil)) mNext)
  (mSeq (mFor (mEnum (mVar 1)) (dTup 2 (dCons (dName 2) (dCons (dName 3) dNil)))
  (mIfS (mKdT (fun b => !b) tab__BITS no__BITS (mVar 3)) (mRaise ("BadRoom" : Str) 1 xs_BadRoom (mCons (mVar 2) mNil)) mNext))
  (mSeq (mSetF [("Room" : Str)] ("_text" : Str) (mVar 0) (mVar 1))
  (mSetF [("Room" : Str)] ("_bits" : Str) (mVar 0) (mBi gTuple (mCons (mLc (mIter (mVar 1)) (dName 3) mYes (mKdIx tab__BITS (mVar 3)) [3]) mNil)))))))

def N_Room_open_cells : List Str := ["self", "cell", "bit"]
def ps_Room_open_cells : List Str := ["self"]
def m_Room_open_cells : MS := (mRet (mLc (mEnum (mFld [("Room" : Str)] ("_bits" : Str) (mVar 0))) (dTup 2 (dCons (dName 1) (dCons (dName 2) dNil))) (mTst (mBin (dIsN id) (mVar 2) (mSh .non))) (mVar 1) [1, 2]))

def N_Room_corners : List Str := ["self", "cells", "number", "bits", "place", "cell"]
def ps_Room_corners : List Str := ["self"]
def m_Room_corners : MGn := (nSeq (nPlain (mAsg 1 (mMeth ("open_cells" : Str) 0 0 [("Room" : Str)] (fun _ => arr1) (fun _ => sp_Room_open_cells) (mVar 0) mNil mNil)))
  (nSeq (nFor (mRange1 (mBin (dInt CPow fun i j => i * 2 ^ j.toNat) (mSh (.int 1)) (mBi gLen (mCons (mVar 1) mNil)))) (dName 2)
  (nSeq (nPlain (mAsg 3 (mBi gList (mCons (mFld [("Room" : Str)] ("_bits" : Str) (mVar 0)) mNil))))
  (nSeq (nPlain (mFor (mEnum (mVar 1)) (dTup 2 (dCons (dName 4) (dCons (dName 5) dNil)))
  (mAsgG (dSub (mVar 3) (mVar 5)) (mBin (dInt0 Builtin.bitAnd) (mBin (dInt (fun _ j => 0 ≤ j) fun i j => i / 2 ^ j.toNat) (mVar 2) (mBin (dInt0 fun i j => i - j) (mBin (dInt0 fun i j => i - j) (mBi gLen (mCons (mVar 1) mNil)) (mSh (.int 1))) (mVar 4))) (mSh (.int 1))))))
  (nSeq (nYield (mBi gTuple (mCons (mVar 3) mNil)))
  nEnd))))
  nEnd))

def N_Room___contains__ : List Str := ["self", "standing", "mine", "bit"]
def ps_Room___contains__ : List Str := ["self", "standing"]
def m_Room___contains__ : MS := (mSeq (mIfS (mNot (mTru (mCall arr2 2 0 (sp_is_standing) (mCons (mVar 1) (mCons (mBi gLen (mCons (mFld [("Room" : Str)] ("_bits" : Str) (mVar 0)) mNil)) mNil)) mNil))) (mRet (mSh (.bl false))) mNext)
  (mRet (mBi (gAll fun bs => bs.all id) (mCons (mLc (mZip (mFld [("Room" : Str)] ("_bits" : Str) (mVar 0)) (mVar 1)) (dTup 2 (dCons (dName 2) (dCons (dName 3) dNil))) mYes (mOrV (mBin (dIsN id) (mVar 2) (mSh .non)) (mBin (dEq id) (mVar 2) (mVar 3))) [2, 3]) mNil))))

def N_Room___str__ : List Str := ["self"]
def ps_Room___str__ : List Str := ["self"]
def m_Room___str__ : MS := (mRet (mBi gStr (mCons (mFld [("Room" : Str)] ("_text" : Str) (mVar 0)) mNil)))

def N_is_levels : List Str := ["value", "many", "least", "level"]
def ps_is_levels : List Str := ["value", "many", "least"]
def m_is_levels : MS := (mSeq (mIfS (mOr (mNot (mTru (mIsi kb_tuple [] (fun _ => false) (mVar 0)))) (mTst (mBin (dEq not) (mBi gLen (mCons (mVar 0) mNil)) (mVar 1)))) (mRet (mSh (.bl false))) mNext)
  (mRet (mBi (gAll fun bs => bs.all id) (mCons (mLc (mIter (mVar 0)) (dName 3) mYes (mCall arr3 3 0 (sp_is_number) (mCons (mVar 3) (mCons (mVar 2) (mCons (mSh (.int 6)) mNil))) mNil) [3]) mNil))))

def N_check_levels : List Str := ["value", "many", "least", "cell", "level"]
def ps_check_levels : List Str := ["value", "many", "least"]
def m_check_levels : MS := (mSeq (mIfS (mOr (mNot (mTru (mIsi kb_tuple [] (fun _ => false) (mVar 0)))) (mTst (mBin (dEq not) (mBi gLen (mCons (mVar 0) mNil)) (mVar 1)))) (mRaise ("BadLevels" : Str) 1 xs_BadLevels (mCons (mUn dNeg (mSh (.int 1))) mNil)) mNext)
  (mFor (mEnum (mVar 0)) (dTup 2 (dCons (dName 3) (dCons (dName 4) dNil)))
  (mIfS (mNot (mTru (mCall arr3 3 0 (sp_is_number) (mCons (mVar 4) (mCons (mVar 2) (mCons (mSh (.int 6)) mNil))) mNil))) (mRaise ("BadLevels" : Str) 1 xs_BadLevels (mCons (mVar 3) mNil)) mNext)))

def N_is_row : List Str := ["levels", "value", "number", "level"]
def ps_is_row : List Str := ["levels", "value"]
def m_is_row : MS := (mSeq (mIfS (mOr (mNot (mTru (mIsi kb_tuple [] (fun _ => false) (mVar 1)))) (mTst (mBin (dEq not) (mBi gLen (mCons (mVar 1) mNil)) (mBi gLen (mCons (mVar 0) mNil))))) (mRet (mSh (.bl false))) mNext)
  (mRet (mBi (gAll fun bs => bs.all id) (mCons (mLc (mZip (mVar 1) (mVar 0)) (dTup 2 (dCons (dName 2) (dCons (dName 3) dNil))) mYes (mCall arr3 3 0 (sp_is_number) (mCons (mVar 2) (mCons (mSh (.int 0)) (mCons (mVar 3) mNil))) mNil) [2, 3]) mNil))))

def N_sign_of : List Str := ["number", "level"]
def ps_sign_of : List Str := ["number", "level"]
def m_sign_of : MS := (mSeq (mIfS (mTst (mBin (dEq id) (mVar 0) (mSh (.int 0)))) (mRet (mSh (.str ("0" : Str)))) mNext)
  (mRet (mIf (mTst (mBin (dEq id) (mVar 0) (mVar 1))) (mSh (.str ("1" : Str))) (mSh (.str ("*" : Str))))))

def N_stands_for : List Str := ["levels", "row", "number", "level"]
def ps_stands_for : List Str := ["levels", "row"]
def m_stands_for : MS := (mRet (mMake ("Room" : Str) arr2 1 0 sp_Room___init__ (mCons (mRd "str" sJoin (mSh (.str ("" : Str))) (mCons (mLc (mZip (mVar 1) (mVar 0)) (dTup 2 (dCons (dName 2) (dCons (dName 3) dNil))) mYes (mCall arr2 2 0 (sp_sign_of) (mCons (mVar 2) (mCons (mVar 3) mNil)) mNil) [2, 3]) mNil)) mNil) mNil))

def N_end_row : List Str := ["levels", "start", "level", "bit"]
def ps_end_row : List Str := ["levels", "start"]
def m_end_row : MS := (mRet (mBi gTuple (mCons (mLc (mZip (mVar 0) (mVar 1)) (dTup 2 (dCons (dName 2) (dCons (dName 3) dNil))) mYes (mIf (mTst (mBin (dEq id) (mVar 3) (mSh (.int 1)))) (mVar 2) (mSh (.int 0))) [2, 3]) mNil)))

def N_ended : List Str := ["levels", "row", "number", "level"]
def ps_ended : List Str := ["levels", "row"]
def m_ended : MS := (mSeq (mIfS (mTru (mBi (gAll fun bs => bs.any id) (mCons (mLc (mZip (mVar 1) (mVar 0)) (dTup 2 (dCons (dName 2) (dCons (dName 3) dNil))) mYes (mChain (dCmpI fun i j => decide (i < j)) (dCmpI fun i j => decide (i < j)) (mSh (.int 0)) (mVar 2) (mVar 3)) [2, 3]) mNil))) (mRet (mSh .non)) mNext)
  (mRet (mBi gTuple (mCons (mLc (mIter (mVar 1)) (dName 2) mYes (mIf (mTst (mBin (dCmpI fun i j => decide (j < i)) (mVar 2) (mSh (.int 0)))) (mSh (.int 1)) (mSh (.int 0))) [2]) mNil))))

def N__law_bag : List Str := ["script", "seed", "number"]
def ps__law_bag : List Str := ["script"]
def m__law_bag : MS := (mSeq (mAsg 1 (mSh (.int 13969)))
  (mSeq (mFor (mIter (mSl (mVar 0) mNoPart (mPart (mSh (.int 63))))) (dName 2)
  (mAsg 1 (mBin (dInt (fun _ j => 0 < j) fun i j => i % j) (mBi gInt (mCons (mBin dAdd (mBin dAdd (mBin dMul (mVar 1) (mSh (.int 48271))) (mBin (dInt (fun _ j => 0 < j) fun i j => i % j) (mBi gInt (mCons (mVar 2) mNil)) (mSh (.int 2147483629)))) (mSh (.int 89))) mNil)) (mSh (.int 2147483563)))))
  (mRet (mLst (mCons (mBi gList (mCons (mSl (mVar 0) mNoPart (mPart (mSh (.int 63)))) mNil)) (mCons (mSh (.int 0)) (mCons (mSh (.int 0)) (mCons (mVar 1) (mCons (mSh (.int 0)) mNil)))))))))

def N__law_draw : List Str := ["bag", "size", "seed", "number", "found"]
def ps__law_draw : List Str := ["bag", "size"]
def m__law_draw : MS := (mSeq (mAsgG (dSub (mVar 0) (mSh (.int 4))) (mBin dAdd (mBin dIx (mVar 0) (mSh (.int 4))) (mSh (.int 1))))
  (mSeq (mIfS (mAnd (mTst (mBin (dEq id) (mBin dIx (mVar 0) (mSh (.int 2))) (mSh (.int 0)))) (mTst (mBin (dCmpI fun i j => decide (i < j)) (mBin dIx (mVar 0) (mSh (.int 1))) (mBi gLen (mCons (mBin dIx (mVar 0) (mSh (.int 0))) mNil))))) (mSeq (mAsg 3 (mBin dIx (mBin dIx (mVar 0) (mSh (.int 0))) (mBin dIx (mVar 0) (mSh (.int 1)))))
  (mSeq (mAsgG (dSub (mVar 0) (mSh (.int 1))) (mBin dAdd (mBin dIx (mVar 0) (mSh (.int 1))) (mSh (.int 1))))
  (mIfS (mTst (mBin (dCmpI fun i j => decide (j ≤ i)) (mVar 3) (mBin (dInt CPow fun i j => i ^ j.toNat) (mSh (.int 10)) (mSh (.int 18))))) (mAsgG (dSub (mVar 0) (mSh (.int 2))) (mVar 3)) (mAsgG (dSub (mVar 0) (mSh (.int 3))) (mBin (dInt (fun _ j => 0 < j) fun i j => i % j) (mBi gInt (mCons (mBin dAdd (mBin dAdd (mBin dMul (mBin dIx (mVar 0) (mSh (.int 3))) (mSh (.int 39373))) (mBin dMul (mBin (dInt (fun _ j => 0 < j) fun i j => i % j) (mBi gInt (mCons (mVar 3) mNil)) (mSh (.int 2147483423))) (mSh (.int 30011)))) (mSh (.int 71))) mNil)) (mSh (.int 2147483563))))))) mNext)
  (mSeq (mIfS (mTst (mBin (dCmpI fun i j => decide (j < i)) (mBin dIx (mVar 0) (mSh (.int 2))) (mSh (.int 0)))) (mSeq (mAsg 4 (mBin (dInt (fun _ j => 0 < j) fun i j => i % j) (mBi gInt (mCons (mBin dIx (mVar 0) (mSh (.int 2))) mNil)) (mVar 1)))
  (mSeq (mAsgG (dSub (mVar 0) (mSh (.int 2))) (mBin (dInt CDiv fun i j => i / j) (mBin dIx (mVar 0) (mSh (.int 2))) (mVar 1)))
  (mRet (mVar 4)))) mNext)
  (mSeq (mAsg 2 (mBin dIx (mVar 0) (mSh (.int 3))))
  (mSeq (mAsgG (dSub (mVar 0) (mSh (.int 3))) (mBin (dInt (fun _ j => 0 < j) fun i j => i % j) (mBi gInt (mCons (mBin dAdd (mBin dAdd (mBin dAdd (mBin dMul (mBin dMul (mVar 2) (mVar 2)) (mSh (.int 11))) (mBin dMul (mVar 2) (mSh (.int 42013)))) (mBin dMul (mBin dIx (mVar 0) (mSh (.int 4))) (mSh (.int 1299721)))) (mSh (.int 50021))) mNil)) (mSh (.int 2147483563))))
  (mRet (mBin (dInt (fun _ j => 0 < j) fun i j => i % j) (mBi gInt (mCons (mBin dAdd (mBin (dInt CDiv fun i j => i / j) (mBin dIx (mVar 0) (mSh (.int 3))) (mSh (.int 97))) (mBin dMul (mBin (dInt (fun _ j => 0 < j) fun i j => i % j) (mBi gInt (mCons (mBin dIx (mVar 0) (mSh (.int 3))) mNil)) (mSh (.int 7919))) (mSh (.int 61)))) mNil)) (mVar 1))))))))

def N__law_of : List Str := ["bag", "things"]
def ps__law_of : List Str := ["bag", "things"]
def m__law_of : MS := (mRet (mBin dIx (mVar 1) (mCall arr2 2 0 (sp__law_draw) (mCons (mVar 0) (mCons (mBi gLen (mCons (mVar 1) mNil)) mNil)) mNil)))

def N__law_like : List Str := ["found", "due", "one", "two"]
def ps__law_like : List Str := ["found", "due"]
def m__law_like (n : Nat) : MS := (mSeq (mIfS (mTru (mIsi kb_list_tuple [] (fun _ => false) (mVar 1))) (mSeq (mIfS (mOr (mTst (mBin (dEq not) (mIsi kb_list [] (fun _ => false) (mVar 0)) (mIsi kb_list [] (fun _ => false) (mVar 1)))) (mTst (mBin (dEq not) (mIsi kb_tuple [] (fun _ => false) (mVar 0)) (mIsi kb_tuple [] (fun _ => false) (mVar 1))))) (mRet (mSh (.bl false))) mNext)
  (mRet (mAndV (mBin (dEq id) (mBi gLen (mCons (mVar 0) mNil)) (mBi gLen (mCons (mVar 1) mNil))) (mBi (gAll fun bs => bs.all id) (mCons (mLc (mZip (mVar 0) (mVar 1)) (dTup 2 (dCons (dName 2) (dCons (dName 3) dNil))) mYes (mCall arr2 2 0 (sp__law_like n) (mCons (mVar 2) (mCons (mVar 3) mNil)) mNil) [2, 3]) mNil))))) mNext)
  (mSeq (mIfS (mOr (mTst (mBin (dIsN id) (mVar 1) (mSh .non))) (mTst (mBin (dIsN id) (mVar 0) (mSh .non)))) (mRet (mAndV (mBin (dIsN id) (mVar 1) (mSh .non)) (mBin (dIsN id) (mVar 0) (mSh .non)))) mNext)
  (mSeq (mIfS (mOr (mTru (mIsi kb_bool [] (fun _ => false) (mVar 1))) (mTru (mIsi kb_bool [] (fun _ => false) (mVar 0)))) (mRet (mAndV (mIsi kb_bool [] (fun _ => false) (mVar 0)) (mAndV (mIsi kb_bool [] (fun _ => false) (mVar 1)) (mBin (dEq id) (mVar 0) (mVar 1))))) mNext)
  (mSeq (mIfS (mOr (mTru (mIsi kb_list_tuple [] (fun _ => false) (mVar 0))) (mTst (mBin (dEq not) (mIsi kb_str [] (fun _ => false) (mVar 0)) (mIsi kb_str [] (fun _ => false) (mVar 1))))) (mRet (mSh (.bl false))) mNext)
  (mRet (mAndV (mBin (dEq id) (mIsi kb_int [] (fun _ => false) (mVar 0)) (mIsi kb_int [] (fun _ => false) (mVar 1))) (mBin (dEq id) (mVar 0) (mVar 1))))))))

def N__law_is_from : List Str := ["one", "low", "high"]
def ps__law_is_from : List Str := ["one", "low", "high"]
def m__law_is_from : MS := (mRet (mAndV (mIsi kb_int [] (fun _ => false) (mVar 0)) (mAndV (mNotV (mIsi kb_bool [] (fun _ => false) (mVar 0))) (mAndV (mBin (dCmpI fun i j => decide (i ≤ j)) (mVar 1) (mVar 0)) (mBin (dCmpI fun i j => decide (i ≤ j)) (mVar 0) (mVar 2))))))

def N__law_checked : List Str := ["one", "size", "low", "way", "e"]
def ps__law_checked : List Str := ["one", "size", "low", "way"]
def m__law_checked : MS := (mSeq (mTryAs [("BadLevels" : Str)] (fun _ => true) 4 (mIfS (mTst (mBin (dEq id) (mVar 3) (mSh (.int 0)))) (mIfS (mTst (mBin (dIsN not) (mCall arrK 2 1 (sp_check_levels) (mCons (mVar 0) (mCons (mVar 1) mNil)) (mCons (mVar 2) mNil)) (mSh .non))) (mRet (mLst (mCons (mSh (.str ("told" : Str))) mNil))) mNext) (mIfS (mTst (mBin (dIsN not) (mCall arrD 2 0 (sp_check_levels) (mCons (mVar 0) (mCons (mVar 1) mNil)) mNil) (mSh .non))) (mRet (mLst (mCons (mSh (.str ("told" : Str))) mNil))) mNext)) (fun a cls dx => (mRet (mLst (mCons (mExf [("BadLevels" : Str)] ("cell" : Str) a cls dx (mVar 4)) (mCons (mExf [("BadLevels" : Str)] ("code" : Str) a cls dx (mVar 4)) mNil))))))
  (mRet (mLst mNil)))

def N__law_bent : List Str := ["bag", "things", "found", "k", "spot", "way"]
def ps__law_bent : List Str := ["bag", "things"]
def m__law_bent : MS := (mSeq (mAsg 2 (mBi gList (mCons (mVar 1) mNil)))
  (mSeq (mFor (mRange1 (mCall arr2 2 0 (sp__law_of) (mCons (mVar 0) (mCons (mLst (mCons (mSh (.int 0)) (mCons (mSh (.int 0)) (mCons (mSh (.int 1)) (mCons (mSh (.int 1)) (mCons (mSh (.int 2)) mNil)))))) mNil)) mNil)) (dName 3)
  (mSeq (mPar [4, 5] (mConsT (mCall arr2 2 0 (sp__law_draw) (mCons (mVar 0) (mCons (mBi gLen (mCons (mVar 2) mNil)) mNil)) mNil) (mConsT (mCall arr2 2 0 (sp__law_draw) (mCons (mVar 0) (mCons (mSh (.int 9)) mNil)) mNil) mNil)))
  (mIfS (mTst (mBin (dEq id) (mVar 5) (mSh (.int 0)))) (mDrop (mMu lInsert (mVar 2) (mCons (mVar 4) (mCons (mBin dIx (mVar 2) (mVar 4)) mNil)))) (mIfS (mAnd (mTst (mBin (dEq id) (mVar 5) (mSh (.int 1)))) (mTst (mBin (dCmpI fun i j => decide (j < i)) (mBi gLen (mCons (mVar 2) mNil)) (mSh (.int 1))))) (mDrop (mMu lPop (mVar 2) (mCons (mVar 4) mNil))) (mAsgG (dSub (mVar 2) (mVar 4)) (mCall arr2 2 0 (sp__law_of) (mCons (mVar 0) (mCons (mLst (mCons (mSh (.int 0)) (mCons (mSh (.int 7)) (mCons (mUn dNeg (mSh (.int 1))) (mCons (mSh (.bl true)) (mCons (mSh (.bl false)) (mCons (mSh .non) (mCons (mSh (.str ("1" : Str))) (mCons (mTup (mCons (mSh (.int 1)) mNil)) (mCons (mCall arr2 2 0 (sp__law_draw) (mCons (mVar 0) (mCons (mSh (.int 7)) mNil)) mNil) (mCons (mCall arr2 2 0 (sp__law_draw) (mCons (mVar 0) (mCons (mBin (dInt CPow fun i j => i ^ j.toNat) (mSh (.int 10)) (mSh (.int 9))) mNil)) mNil) mNil))))))))))) mNil)) mNil))))))
  (mSeq (mIfS (mTst (mBin (dEq id) (mCall arr2 2 0 (sp__law_draw) (mCons (mVar 0) (mCons (mSh (.int 12)) mNil)) mNil) (mSh (.int 0)))) (mRet (mCall arr2 2 0 (sp__law_of) (mCons (mVar 0) (mCons (mLst (mCons (mVar 2) (mCons (mSh .non) (mCons (mSh (.int 0)) (mCons (mSh (.bl true)) (mCons (mSh (.str ("11" : Str))) (mCons (mTup mNil) (mCons (mBi gTuple (mCons (mLst (mCons (mBi gTuple (mCons (mVar 2) mNil)) mNil)) mNil)) mNil)))))))) mNil)) mNil)) mNext)
  (mRet (mBi gTuple (mCons (mVar 2) mNil))))))

def N__law_levels_looked : List Str := ["bag", "levels", "way", "low", "due", "told", "one", "size", "wrong", "k"]
def ps__law_levels_looked : List Str := ["bag", "levels"]
def m__law_levels_looked : MS := (mSeq (mAsgG (dTup 3 (dCons (dName 6) (dCons (dName 7) (dCons (dName 3) dNil)))) (mTup (mCons (mCall arr2 2 0 (sp__law_bent) (mCons (mVar 0) (mCons (mVar 1) mNil)) mNil) (mCons (mBi gLen (mCons (mVar 1) mNil)) (mCons (mBin dAdd (mSh (.int 1)) (mCall arr2 2 0 (sp__law_draw) (mCons (mVar 0) (mCons (mSh (.int 6)) mNil)) mNil)) mNil)))))
  (mSeq (mAsg 2 (mCall arr2 2 0 (sp__law_draw) (mCons (mVar 0) (mCons (mSh (.int 2)) mNil)) mNil))
  (mSeq (mAsg 3 (mIf (mTst (mBin (dEq id) (mVar 2) (mSh (.int 0)))) (mVar 3) (mSh (.int 1))))
  (mSeq (mAsg 4 (mLst mNil))
  (mSeq (mIfS (mOr (mNot (mTru (mIsi kb_tuple [] (fun _ => false) (mVar 6)))) (mTst (mBin (dEq not) (mBi gLen (mCons (mVar 6) mNil)) (mVar 7)))) (mAsg 4 (mLst (mCons (mUn dNeg (mSh (.int 1))) (mCons (mSh (.str ("BadLevels" : Str))) mNil)))) (mSeq (mAsg 8 (mLc (mRange1 (mVar 7)) (dName 9) (mNot (mTru (mCall arr3 3 0 (sp__law_is_from) (mCons (mBin dIx (mVar 6) (mVar 9)) (mCons (mVar 3) (mCons (mSh (.int 6)) mNil))) mNil))) (mVar 9) [9]))
  (mAsg 4 (mIf (mTst (mBin (dCmpI fun i j => decide (j < i)) (mBi gLen (mCons (mVar 8) mNil)) (mSh (.int 0)))) (mLst (mCons (mBin dIx (mVar 8) (mSh (.int 0))) (mCons (mSh (.str ("BadLevels" : Str))) mNil))) (mLst mNil)))))
  (mSeq (mAsg 5 (mIf (mTst (mBin (dEq id) (mVar 2) (mSh (.int 0)))) (mCall arrK 2 1 (sp_is_levels) (mCons (mVar 6) (mCons (mVar 7) mNil)) (mCons (mVar 3) mNil)) (mCall arrD 2 0 (sp_is_levels) (mCons (mVar 6) (mCons (mVar 7) mNil)) mNil)))
  (mRet (mCall arr2 2 0 (sp__law_like 5) (mCons (mLst (mCons (mVar 5) (mCons (mCall arr4 4 0 (sp__law_checked) (mCons (mVar 6) (mCons (mVar 7) (mCons (mVar 3) (mCons (mVar 2) mNil)))) mNil) mNil))) (mCons (mLst (mCons (mBin (dEq id) (mBi gLen (mCons (mVar 4) mNil)) (mSh (.int 0))) (mCons (mVar 4) mNil))) mNil)) mNil))))))))

def N__law_row : List Str := ["bag", "levels", "way", "top"]
def ps__law_row : List Str := ["bag", "levels"]
def m__law_row : MS := (mSeq (mAsg 2 (mCall arr2 2 0 (sp__law_draw) (mCons (mVar 0) (mCons (mSh (.int 3)) mNil)) mNil))
  (mSeq (mIfS (mTst (mBin (dEq id) (mVar 2) (mSh (.int 0)))) (mRet (mBi gTuple (mCons (mLc (mIter (mVar 1)) (dName 3) mYes (mCall arr2 2 0 (sp__law_of) (mCons (mVar 0) (mCons (mLst (mCons (mSh (.int 0)) (mCons (mVar 3) mNil))) mNil)) mNil) [3]) mNil))) mNext)
  (mSeq (mIfS (mTst (mBin (dEq id) (mVar 2) (mSh (.int 1)))) (mRet (mBi gTuple (mCons (mLc (mIter (mVar 1)) (dName 3) mYes (mCall arr2 2 0 (sp__law_of) (mCons (mVar 0) (mCons (mLst (mCons (mSh (.int 0)) (mCons (mVar 3) (mCons (mCall arr2 2 0 (sp__law_draw) (mCons (mVar 0) (mCons (mBin dAdd (mVar 3) (mSh (.int 1))) mNil)) mNil) mNil)))) mNil)) mNil) [3]) mNil))) mNext)
  (mRet (mBi gTuple (mCons (mLc (mIter (mVar 1)) (dName 3) mYes (mCall arr2 2 0 (sp__law_draw) (mCons (mVar 0) (mCons (mBin dAdd (mVar 3) (mSh (.int 1))) mNil)) mNil) [3]) mNil))))))

def N__law_text : List Str := ["levels", "row", "k", "top"]
def ps__law_text : List Str := ["levels", "row"]
def m__law_text : MS := (mRet (mRd "str" sJoin (mSh (.str ("" : Str))) (mCons (mLc (mZip (mVar 1) (mVar 0)) (dTup 2 (dCons (dName 2) (dCons (dName 3) dNil))) mYes (mIf (mTst (mBin (dEq id) (mVar 2) (mSh (.int 0)))) (mSh (.str ("0" : Str))) (mIf (mTst (mBin (dEq id) (mVar 2) (mVar 3))) (mSh (.str ("1" : Str))) (mSh (.str ("*" : Str))))) [2, 3]) mNil)))

def N__law_row_told : List Str := ["bag", "levels", "row", "string", "stand", "drawn", "last", "middle", "top", "sign", "one", "two", "k"]
def ps__law_row_told : List Str := ["bag", "levels", "row"]
def m__law_row_told : MS := (mSeq (mAsg 3 (mCall arr2 2 0 (sp__law_text) (mCons (mVar 1) (mCons (mVar 2) mNil)) mNil))
  (mSeq (mIfS (mNot (mTru (mCall arr2 2 0 (sp__law_like 5) (mCons (mLst (mCons (mCall arr2 2 0 (sp_is_row) (mCons (mVar 1) (mCons (mVar 2) mNil)) mNil) (mCons (mStrO [("Room" : Str)] (fun _ => arr1) (fun _ => sp_Room___str__) (mCall arr2 2 0 (sp_stands_for) (mCons (mVar 1) (mCons (mVar 2) mNil)) mNil)) mNil))) (mCons (mLst (mCons (mSh (.bl true)) (mCons (mVar 3) mNil))) mNil)) mNil))) (mRet (mSh (.bl false))) mNext)
  (mSeq (mAsg 4 (mIf (mTst (mBin (dIn not) (mSh (.str ("*" : Str))) (mVar 3))) (mBi gTuple (mCons (mLc (mIter (mVar 3)) (dName 9) mYes (mBi gInt (mCons (mVar 9) mNil)) [9]) mNil)) (mSh .non)))
  (mSeq (mIfS (mNot (mTru (mCall arr2 2 0 (sp__law_like 5) (mCons (mCall arr2 2 0 (sp_ended) (mCons (mVar 1) (mCons (mVar 2) mNil)) mNil) (mCons (mVar 4) mNil)) mNil))) (mRet (mSh (.bl false))) mNext)
  (mSeq (mAsg 5 (mBi gTuple (mCons (mLc (mIter (mVar 1)) (dName 8) mYes (mCall arr2 2 0 (sp__law_draw) (mCons (mVar 0) (mCons (mSh (.int 2)) mNil)) mNil) [8]) mNil)))
  (mSeq (mAsg 6 (mCall arr2 2 0 (sp_end_row) (mCons (mVar 1) (mCons (mVar 5) mNil)) mNil))
  (mSeq (mIfS (mOr (mNot (mTru (mCall arr2 2 0 (sp__law_like 5) (mCons (mVar 6) (mCons (mBi gTuple (mCons (mLc (mZip (mVar 1) (mVar 5)) (dTup 2 (dCons (dName 8) (dCons (dName 12) dNil))) mYes (mBin dMul (mVar 8) (mVar 12)) [8, 12]) mNil)) mNil)) mNil))) (mNot (mTru (mCall arr2 2 0 (sp__law_like 5) (mCons (mCall arr2 2 0 (sp_ended) (mCons (mVar 1) (mCons (mVar 6) mNil)) mNil) (mCons (mVar 5) mNil)) mNil)))) (mRet (mSh (.bl false))) mNext)
  (mSeq (mIfS (mNot (mTru (mCall arr2 2 0 (sp__law_like 5) (mCons (mListG ("Room" : Str) ("corners" : Str) sp_Room_corners (mCall arr2 2 0 (sp_stands_for) (mCons (mVar 1) (mCons (mVar 6) mNil)) mNil)) (mCons (mLst (mCons (mVar 5) mNil)) mNil)) mNil))) (mRet (mSh (.bl false))) mNext)
  (mSeq (mIfS (mNot (mTru (mCall arr2 2 0 (sp__law_like 5) (mCons (mInO (fun b => b) [("Room" : Str)] (fun _ => arr2) (fun _ => sp_Room___contains__) (mVar 5) (mCall arr2 2 0 (sp_stands_for) (mCons (mVar 1) (mCons (mVar 2) mNil)) mNil)) (mCons (mBi (gAll fun bs => bs.all id) (mCons (mLc (mZip (mVar 3) (mVar 5)) (dTup 2 (dCons (dName 9) (dCons (dName 12) dNil))) mYes (mBin (dIn id) (mVar 9) (mLst (mCons (mSh (.str ("*" : Str))) (mCons (mBi gStr (mCons (mVar 12) mNil)) mNil)))) [9, 12]) mNil)) mNil)) mNil))) (mRet (mSh (.bl false))) mNext)
  (mSeq (mAsg 7 (mBi gTuple (mCons (mLc (mZip (mVar 2) (mVar 6)) (dTup 2 (dCons (dName 10) (dCons (dName 11) dNil))) mYes (mBin (dInt CDiv fun i j => i / j) (mBin dAdd (mVar 10) (mVar 11)) (mSh (.int 2))) [10, 11]) mNil)))
  (mRet (mCall arr2 2 0 (sp__law_like 5) (mCons (mStrO [("Room" : Str)] (fun _ => arr1) (fun _ => sp_Room___str__) (mCall arr2 2 0 (sp_stands_for) (mCons (mVar 1) (mCons (mVar 7) mNil)) mNil)) (mCons (mCall arr2 2 0 (sp__law_text) (mCons (mVar 1) (mCons (mVar 7) mNil)) mNil) mNil)) mNil))))))))))))

def N_law : List Str := ["script", "bag", "turn", "size", "levels", "k", "row", "bent", "due", "one", "top"]
def ps_law : List Str := ["script"]
def m_law : MS := (mSeq (mAsg 1 (mCall arr1 1 0 (sp__law_bag) (mCons (mVar 0) mNil) mNil))
  (mSeq (mFor (mRange1 (mSh (.int 4))) (dName 2)
  (mSeq (mAsg 3 (mCall arr2 2 0 (sp__law_of) (mCons (mVar 1) (mCons (mLst (mCons (mSh (.int 1)) (mCons (mSh (.int 2)) (mCons (mSh (.int 3)) (mCons (mSh (.int 4)) (mCons (mSh (.int 5)) (mCons (mSh (.int 6)) (mCons (mSh (.int 7)) (mCons (mSh (.int 8)) (mCons (mSh (.int 40)) mNil)))))))))) mNil)) mNil))
  (mSeq (mAsg 4 (mBi gTuple (mCons (mLc (mRange1 (mVar 3)) (dName 5) mYes (mBin dAdd (mSh (.int 1)) (mCall arr2 2 0 (sp__law_draw) (mCons (mVar 1) (mCons (mSh (.int 6)) mNil)) mNil)) [5]) mNil)))
  (mSeq (mIfS (mTst (mBin (dEq id) (mCall arr2 2 0 (sp__law_draw) (mCons (mVar 1) (mCons (mSh (.int 4)) mNil)) mNil) (mSh (.int 0)))) (mAsg 4 (mBin dMul (mTup (mCons (mCall arr2 2 0 (sp__law_of) (mCons (mVar 1) (mCons (mLst (mCons (mSh (.int 1)) (mCons (mSh (.int 1)) (mCons (mSh (.int 2)) (mCons (mSh (.int 6)) mNil))))) mNil)) mNil) mNil)) (mVar 3))) mNext)
  (mFor (mRange1 (mSh (.int 4))) (dName 5)
  (mSeq (mIfS (mNot (mTru (mCall arr2 2 0 (sp__law_levels_looked) (mCons (mVar 1) (mCons (mVar 4) mNil)) mNil))) (mRet (mSh (.bl false))) mNext)
  (mSeq (mAsg 6 (mCall arr2 2 0 (sp__law_row) (mCons (mVar 1) (mCons (mVar 4) mNil)) mNil))
  (mSeq (mIfS (mNot (mTru (mCall arr3 3 0 (sp__law_row_told) (mCons (mVar 1) (mCons (mVar 4) (mCons (mVar 6) mNil))) mNil))) (mRet (mSh (.bl false))) mNext)
  (mSeq (mAsg 7 (mCall arr2 2 0 (sp__law_bent) (mCons (mVar 1) (mCons (mVar 6) mNil)) mNil))
  (mSeq (mAsg 8 (mAndV (mIsi kb_tuple [] (fun _ => false) (mVar 7)) (mBin (dEq id) (mBi gLen (mCons (mVar 7) mNil)) (mVar 3))))
  (mSeq (mIfS (mTru (mVar 8)) (mAsg 8 (mBi (gAll fun bs => bs.all id) (mCons (mLc (mZip (mVar 7) (mVar 4)) (dTup 2 (dCons (dName 9) (dCons (dName 10) dNil))) mYes (mCall arr3 3 0 (sp__law_is_from) (mCons (mVar 9) (mCons (mSh (.int 0)) (mCons (mVar 10) mNil))) mNil) [9, 10]) mNil))) mNext)
  (mIfS (mNot (mTru (mCall arr2 2 0 (sp__law_like 5) (mCons (mCall arr2 2 0 (sp_is_row) (mCons (mVar 4) (mCons (mVar 7) mNil)) mNil) (mCons (mVar 8) mNil)) mNil))) (mRet (mSh (.bl false))) mNext))))))))))))
  (mRet (mSh (.bl true)))))
end K10
set_option Elab.async false
set_option linter.all false
set_option maxRecDepth 100000
set_option maxHeartbeats 4000000
namespace K10
open PySem PySem.Spec PyProof.Rows L2 HD
/-! ### the plain facts -/
theorem deq_int (a b : Int) : deq (.int a) (.int b) = decide (a = b) := by
  simp [deq, D.toPy, PyData.eqv]
  rfl
theorem deq_bl (a b : Bool) : deq (.bl a) (.bl b) = decide (a = b) := by
  cases a <;> cases b <;> rfl
theorem pl_int (a : Int) : (D.int a).pl = true := rfl
theorem pl_bl (a : Bool) : (D.bl a).pl = true := rfl
theorem pl_str (a : Str) : (D.str a).pl = true := rfl
theorem all_id {α : Type} (f : α → Bool) : ∀ xs : List α, (xs.map f).all id = xs.all f
  | [] => rfl
  | x :: xs => by rw [List.map_cons, List.all_cons, List.all_cons, all_id f xs]; rfl
theorem ok_is_number : ∀ cs Q E, cs.length = 3 → sp_is_number cs Q E → m_is_number (bodyE Q E) (startF 3 cs) := by
  rintro cs Q E - ⟨v, lo, hi, rfl, hv, q⟩
  show m_is_number (bodyE Q E) ⟨[some (.ar 0), some (.ar 1), some (.ar 2)], _⟩
  unfold m_is_number
  cases v with
  | int i =>
    simp only [mSh, mVar, svK, mBin, mAndV, mOrV, mNotV, mIf, mUn, dNeg, dInv, mChain, mTst, mTru, blK, mAnd, mOr, mNot, brK_tt, brK_ff, truK, mNil, mCons, mConsT, mTup, mLst, frzAll, frzK, frzS, frzA, mSl, mNoPart, mPart, dSl, mFld, dFld, lookD, intK, valK, slK, arK, valsK, mBi, mIsi, isiK, D.tag, st1, mNext, mSeq, mBreak, mCont, mDrop, mRet, mRetN, mIfS, mAsg, asgK, mAsgG, dName, dNil, dCons, dTup, mPar, setEach, Ev.sv, hold, hold_hold, retK, retS, bodyE, HD.Fr.set, HD.Fr.put, Cel.sv, Cel.toD, Cel.own, startF, mCall, argE, arr1, arr2, arr3, arr4, arrK, arrD, callK, cellsOf, celEv, celS, backF, plEv, plS, plA, plB, id_eq, true_and, and_true, List.mem_singleton, ite_true, ite_false, goodPl, isTmp, retE, evRet, celRet, List.map_cons, List.map_nil, List.length_cons, List.length_nil, List.getD_cons_zero, List.getD_cons_succ, List.getElem?_cons_zero, List.getElem?_cons_succ, List.getElem?_nil, List.set_cons_zero, List.set_cons_succ, dInt, dInt0, dCmpI, dAdd, dMul, dEq, dIsN, isNonD, dIn, dIx, mRd, mRd0, mMu, mMu0, tyD, celK, celKs, celKa, lstC, mSetF, fldC, putN, putV, dSub, ixC, mIter, mEnum, mZip, mRange1, mRange2, itemsK, itA, itemsD, mFor, mLc, mYes, mRaise, mTryAs, suiteE, mExf, exfK, exnD, mKdIn, mKdIx, mKdT, strK, mMeth, insK, mMake, makeK, mInO, mStrO, mLenO, mListG, callG, gLen, gInt, gStr, gList, gTuple, gAll, gSum, gAbs, gMax, gMin, Bool.not_true, Bool.not_false, Bool.and_true, Bool.true_and, Bool.or_false, Bool.false_or, Bool.or_true, Bool.true_or, Bool.and_false, Bool.false_and, kbe_int_NoneType, kbe_int_bool, kbe_int_int, kbe_int_str, kbe_int_tuple, kbe_int_list, kbe_int_dict, kbe_bool_NoneType, kbe_bool_bool, kbe_bool_int, kbe_bool_str, kbe_bool_tuple, kbe_bool_list, kbe_bool_dict, kbe_str_NoneType, kbe_str_bool, kbe_str_int, kbe_str_str, kbe_str_tuple, kbe_str_list, kbe_str_dict, kbe_tuple_NoneType, kbe_tuple_bool, kbe_tuple_int, kbe_tuple_str, kbe_tuple_tuple, kbe_tuple_list, kbe_tuple_dict, kbe_list_NoneType, kbe_list_bool, kbe_list_int, kbe_list_str, kbe_list_tuple, kbe_list_list, kbe_list_dict, kbe_list_tuple_NoneType, kbe_list_tuple_bool, kbe_list_tuple_int, kbe_list_tuple_str, kbe_list_tuple_tuple, kbe_list_tuple_list, kbe_list_tuple_dict, noOwn, noOwnS, wipeF, restF, List.all_cons, List.all_nil, lInsert, lPop, lAppend, sJoin, seqD, lstD, isNum] at *
    refine ⟨fun h => ?_, fun h => ?_⟩
    · simpa [h] using q
    · simpa [h] using q
  | ins a b c => cases hv
  | exn a b c d e f => cases hv
  | _ => simp only [mSh, mVar, svK, mBin, mAndV, mOrV, mNotV, mIf, mUn, dNeg, dInv, mChain, mTst, mTru, blK, mAnd, mOr, mNot, brK_tt, brK_ff, truK, mNil, mCons, mConsT, mTup, mLst, frzAll, frzK, frzS, frzA, mSl, mNoPart, mPart, dSl, mFld, dFld, lookD, intK, valK, slK, arK, valsK, mBi, mIsi, isiK, D.tag, st1, mNext, mSeq, mBreak, mCont, mDrop, mRet, mRetN, mIfS, mAsg, asgK, mAsgG, dName, dNil, dCons, dTup, mPar, setEach, Ev.sv, hold, hold_hold, retK, retS, bodyE, HD.Fr.set, HD.Fr.put, Cel.sv, Cel.toD, Cel.own, startF, mCall, argE, arr1, arr2, arr3, arr4, arrK, arrD, callK, cellsOf, celEv, celS, backF, plEv, plS, plA, plB, id_eq, true_and, and_true, List.mem_singleton, ite_true, ite_false, goodPl, isTmp, retE, evRet, celRet, List.map_cons, List.map_nil, List.length_cons, List.length_nil, List.getD_cons_zero, List.getD_cons_succ, List.getElem?_cons_zero, List.getElem?_cons_succ, List.getElem?_nil, List.set_cons_zero, List.set_cons_succ, dInt, dInt0, dCmpI, dAdd, dMul, dEq, dIsN, isNonD, dIn, dIx, mRd, mRd0, mMu, mMu0, tyD, celK, celKs, celKa, lstC, mSetF, fldC, putN, putV, dSub, ixC, mIter, mEnum, mZip, mRange1, mRange2, itemsK, itA, itemsD, mFor, mLc, mYes, mRaise, mTryAs, suiteE, mExf, exfK, exnD, mKdIn, mKdIx, mKdT, strK, mMeth, insK, mMake, makeK, mInO, mStrO, mLenO, mListG, callG, gLen, gInt, gStr, gList, gTuple, gAll, gSum, gAbs, gMax, gMin, Bool.not_true, Bool.not_false, Bool.and_true, Bool.true_and, Bool.or_false, Bool.false_or, Bool.or_true, Bool.true_or, Bool.and_false, Bool.false_and, kbe_int_NoneType, kbe_int_bool, kbe_int_int, kbe_int_str, kbe_int_tuple, kbe_int_list, kbe_int_dict, kbe_bool_NoneType, kbe_bool_bool, kbe_bool_int, kbe_bool_str, kbe_bool_tuple, kbe_bool_list, kbe_bool_dict, kbe_str_NoneType, kbe_str_bool, kbe_str_int, kbe_str_str, kbe_str_tuple, kbe_str_list, kbe_str_dict, kbe_tuple_NoneType, kbe_tuple_bool, kbe_tuple_int, kbe_tuple_str, kbe_tuple_tuple, kbe_tuple_list, kbe_tuple_dict, kbe_list_NoneType, kbe_list_bool, kbe_list_int, kbe_list_str, kbe_list_tuple, kbe_list_list, kbe_list_dict, kbe_list_tuple_NoneType, kbe_list_tuple_bool, kbe_list_tuple_int, kbe_list_tuple_str, kbe_list_tuple_tuple, kbe_list_tuple_list, kbe_list_tuple_dict, noOwn, noOwnS, wipeF, restF, List.all_cons, List.all_nil, lInsert, lPop, lAppend, sJoin, seqD, lstD, isNum] at *; exact q
theorem ok_is_standing : ∀ cs Q E, cs.length = 2 → sp_is_standing cs Q E → m_is_standing (bodyE Q E) (startF 3 cs) := by
  rintro cs Q E - ⟨v, n, rfl, hv, q⟩
  show m_is_standing (bodyE Q E) ⟨[some (.ar 0), some (.ar 1), none], _⟩
  unfold m_is_standing
  cases v with
  | tup xs =>
    simp only [mSh, mVar, svK, mBin, mAndV, mOrV, mNotV, mIf, mUn, dNeg, dInv, mChain, mTst, mTru, blK, mAnd, mOr, mNot, brK_tt, brK_ff, truK, mNil, mCons, mConsT, mTup, mLst, frzAll, frzK, frzS, frzA, mSl, mNoPart, mPart, dSl, mFld, dFld, lookD, intK, valK, slK, arK, valsK, mBi, mIsi, isiK, D.tag, st1, mNext, mSeq, mBreak, mCont, mDrop, mRet, mRetN, mIfS, mAsg, asgK, mAsgG, dName, dNil, dCons, dTup, mPar, setEach, Ev.sv, hold, hold_hold, retK, retS, bodyE, HD.Fr.set, HD.Fr.put, Cel.sv, Cel.toD, Cel.own, startF, mCall, argE, arr1, arr2, arr3, arr4, arrK, arrD, callK, cellsOf, celEv, celS, backF, plEv, plS, plA, plB, id_eq, true_and, and_true, List.mem_singleton, ite_true, ite_false, goodPl, isTmp, retE, evRet, celRet, List.map_cons, List.map_nil, List.length_cons, List.length_nil, List.getD_cons_zero, List.getD_cons_succ, List.getElem?_cons_zero, List.getElem?_cons_succ, List.getElem?_nil, List.set_cons_zero, List.set_cons_succ, dInt, dInt0, dCmpI, dAdd, dMul, dEq, dIsN, isNonD, dIn, dIx, mRd, mRd0, mMu, mMu0, tyD, celK, celKs, celKa, lstC, mSetF, fldC, putN, putV, dSub, ixC, mIter, mEnum, mZip, mRange1, mRange2, itemsK, itA, itemsD, mFor, mLc, mYes, mRaise, mTryAs, suiteE, mExf, exfK, exnD, mKdIn, mKdIx, mKdT, strK, mMeth, insK, mMake, makeK, mInO, mStrO, mLenO, mListG, callG, gLen, gInt, gStr, gList, gTuple, gAll, gSum, gAbs, gMax, gMin, Bool.not_true, Bool.not_false, Bool.and_true, Bool.true_and, Bool.or_false, Bool.false_or, Bool.or_true, Bool.true_or, Bool.and_false, Bool.false_and, kbe_int_NoneType, kbe_int_bool, kbe_int_int, kbe_int_str, kbe_int_tuple, kbe_int_list, kbe_int_dict, kbe_bool_NoneType, kbe_bool_bool, kbe_bool_int, kbe_bool_str, kbe_bool_tuple, kbe_bool_list, kbe_bool_dict, kbe_str_NoneType, kbe_str_bool, kbe_str_int, kbe_str_str, kbe_str_tuple, kbe_str_list, kbe_str_dict, kbe_tuple_NoneType, kbe_tuple_bool, kbe_tuple_int, kbe_tuple_str, kbe_tuple_tuple, kbe_tuple_list, kbe_tuple_dict, kbe_list_NoneType, kbe_list_bool, kbe_list_int, kbe_list_str, kbe_list_tuple, kbe_list_list, kbe_list_dict, kbe_list_tuple_NoneType, kbe_list_tuple_bool, kbe_list_tuple_int, kbe_list_tuple_str, kbe_list_tuple_tuple, kbe_list_tuple_list, kbe_list_tuple_dict, noOwn, noOwnS, wipeF, restF, List.all_cons, List.all_nil, lInsert, lPop, lAppend, sJoin, seqD, lstD, isSeq, deq_int, pl_int] at *
    refine ⟨fun h => ?_, fun h => ?_⟩
    · have h : decide ((xs.length : Int) = n) = false := by simpa using h
      simpa [h] using q
    · have h : decide ((xs.length : Int) = n) = true := by simpa using h
      simp only [h, Bool.true_and] at q
      refine compD_map (fun d => .bl (isNum d 0 1)) rfl (Nat.lt_trans hv.1 (by decide)) (fun d hd acc N ha hN => ?_) ?_
      · simp only [turnD, mSh, mVar, svK, mBin, mAndV, mOrV, mNotV, mIf, mUn, dNeg, dInv, mChain, mTst, mTru, blK, mAnd, mOr, mNot, brK_tt, brK_ff, truK, mNil, mCons, mConsT, mTup, mLst, frzAll, frzK, frzS, frzA, mSl, mNoPart, mPart, dSl, mFld, dFld, lookD, intK, valK, slK, arK, valsK, mBi, mIsi, isiK, D.tag, st1, mNext, mSeq, mBreak, mCont, mDrop, mRet, mRetN, mIfS, mAsg, asgK, mAsgG, dName, dNil, dCons, dTup, mPar, setEach, Ev.sv, hold, hold_hold, retK, retS, bodyE, HD.Fr.set, HD.Fr.put, Cel.sv, Cel.toD, Cel.own, startF, mCall, argE, arr1, arr2, arr3, arr4, arrK, arrD, callK, cellsOf, celEv, celS, backF, plEv, plS, plA, plB, id_eq, true_and, and_true, List.mem_singleton, ite_true, ite_false, goodPl, isTmp, retE, evRet, celRet, List.map_cons, List.map_nil, List.length_cons, List.length_nil, List.getD_cons_zero, List.getD_cons_succ, List.getElem?_cons_zero, List.getElem?_cons_succ, List.getElem?_nil, List.set_cons_zero, List.set_cons_succ, dInt, dInt0, dCmpI, dAdd, dMul, dEq, dIsN, isNonD, dIn, dIx, mRd, mRd0, mMu, mMu0, tyD, celK, celKs, celKa, lstC, mSetF, fldC, putN, putV, dSub, ixC, mIter, mEnum, mZip, mRange1, mRange2, itemsK, itA, itemsD, mFor, mLc, mYes, mRaise, mTryAs, suiteE, mExf, exfK, exnD, mKdIn, mKdIx, mKdT, strK, mMeth, insK, mMake, makeK, mInO, mStrO, mLenO, mListG, callG, gLen, gInt, gStr, gList, gTuple, gAll, gSum, gAbs, gMax, gMin, Bool.not_true, Bool.not_false, Bool.and_true, Bool.true_and, Bool.or_false, Bool.false_or, Bool.or_true, Bool.true_or, Bool.and_false, Bool.false_and, kbe_int_NoneType, kbe_int_bool, kbe_int_int, kbe_int_str, kbe_int_tuple, kbe_int_list, kbe_int_dict, kbe_bool_NoneType, kbe_bool_bool, kbe_bool_int, kbe_bool_str, kbe_bool_tuple, kbe_bool_list, kbe_bool_dict, kbe_str_NoneType, kbe_str_bool, kbe_str_int, kbe_str_str, kbe_str_tuple, kbe_str_list, kbe_str_dict, kbe_tuple_NoneType, kbe_tuple_bool, kbe_tuple_int, kbe_tuple_str, kbe_tuple_tuple, kbe_tuple_list, kbe_tuple_dict, kbe_list_NoneType, kbe_list_bool, kbe_list_int, kbe_list_str, kbe_list_tuple, kbe_list_list, kbe_list_dict, kbe_list_tuple_NoneType, kbe_list_tuple_bool, kbe_list_tuple_int, kbe_list_tuple_str, kbe_list_tuple_tuple, kbe_list_tuple_list, kbe_list_tuple_dict, noOwn, noOwnS, wipeF, restF, List.all_cons, List.all_nil, lInsert, lPop, lAppend, sJoin, seqD, lstD, sp_is_number]
        exact ⟨_, rfl, ⟨List.nodup_nil, Nat.zero_le 1⟩, d, 0, 1, rfl, hv.2 d hd, ha, hN⟩
      · simp only [mSh, mVar, svK, mBin, mAndV, mOrV, mNotV, mIf, mUn, dNeg, dInv, mChain, mTst, mTru, blK, mAnd, mOr, mNot, brK_tt, brK_ff, truK, mNil, mCons, mConsT, mTup, mLst, frzAll, frzK, frzS, frzA, mSl, mNoPart, mPart, dSl, mFld, dFld, lookD, intK, valK, slK, arK, valsK, mBi, mIsi, isiK, D.tag, st1, mNext, mSeq, mBreak, mCont, mDrop, mRet, mRetN, mIfS, mAsg, asgK, mAsgG, dName, dNil, dCons, dTup, mPar, setEach, Ev.sv, hold, hold_hold, retK, retS, bodyE, HD.Fr.set, HD.Fr.put, Cel.sv, Cel.toD, Cel.own, startF, mCall, argE, arr1, arr2, arr3, arr4, arrK, arrD, callK, cellsOf, celEv, celS, backF, plEv, plS, plA, plB, id_eq, true_and, and_true, List.mem_singleton, ite_true, ite_false, goodPl, isTmp, retE, evRet, celRet, List.map_cons, List.map_nil, List.length_cons, List.length_nil, List.getD_cons_zero, List.getD_cons_succ, List.getElem?_cons_zero, List.getElem?_cons_succ, List.getElem?_nil, List.set_cons_zero, List.set_cons_succ, dInt, dInt0, dCmpI, dAdd, dMul, dEq, dIsN, isNonD, dIn, dIx, mRd, mRd0, mMu, mMu0, tyD, celK, celKs, celKa, lstC, mSetF, fldC, putN, putV, dSub, ixC, mIter, mEnum, mZip, mRange1, mRange2, itemsK, itA, itemsD, mFor, mLc, mYes, mRaise, mTryAs, suiteE, mExf, exfK, exnD, mKdIn, mKdIx, mKdT, strK, mMeth, insK, mMake, makeK, mInO, mStrO, mLenO, mListG, callG, gLen, gInt, gStr, gList, gTuple, gAll, gSum, gAbs, gMax, gMin, Bool.not_true, Bool.not_false, Bool.and_true, Bool.true_and, Bool.or_false, Bool.false_or, Bool.or_true, Bool.true_or, Bool.and_false, Bool.false_and, kbe_int_NoneType, kbe_int_bool, kbe_int_int, kbe_int_str, kbe_int_tuple, kbe_int_list, kbe_int_dict, kbe_bool_NoneType, kbe_bool_bool, kbe_bool_int, kbe_bool_str, kbe_bool_tuple, kbe_bool_list, kbe_bool_dict, kbe_str_NoneType, kbe_str_bool, kbe_str_int, kbe_str_str, kbe_str_tuple, kbe_str_list, kbe_str_dict, kbe_tuple_NoneType, kbe_tuple_bool, kbe_tuple_int, kbe_tuple_str, kbe_tuple_tuple, kbe_tuple_list, kbe_tuple_dict, kbe_list_NoneType, kbe_list_bool, kbe_list_int, kbe_list_str, kbe_list_tuple, kbe_list_list, kbe_list_dict, kbe_list_tuple_NoneType, kbe_list_tuple_bool, kbe_list_tuple_int, kbe_list_tuple_str, kbe_list_tuple_tuple, kbe_list_tuple_list, kbe_list_tuple_dict, noOwn, noOwnS, wipeF, restF, List.all_cons, List.all_nil, lInsert, lPop, lAppend, sJoin, seqD, lstD]
        refine ⟨xs.map fun d => isNum d 0 1, by rw [List.map_map]; rfl, ?_⟩
        rw [all_id]; exact q
  | ins a b c => cases hv
  | exn a b c d e f => cases hv
  | _ => simp only [mSh, mVar, svK, mBin, mAndV, mOrV, mNotV, mIf, mUn, dNeg, dInv, mChain, mTst, mTru, blK, mAnd, mOr, mNot, brK_tt, brK_ff, truK, mNil, mCons, mConsT, mTup, mLst, frzAll, frzK, frzS, frzA, mSl, mNoPart, mPart, dSl, mFld, dFld, lookD, intK, valK, slK, arK, valsK, mBi, mIsi, isiK, D.tag, st1, mNext, mSeq, mBreak, mCont, mDrop, mRet, mRetN, mIfS, mAsg, asgK, mAsgG, dName, dNil, dCons, dTup, mPar, setEach, Ev.sv, hold, hold_hold, retK, retS, bodyE, HD.Fr.set, HD.Fr.put, Cel.sv, Cel.toD, Cel.own, startF, mCall, argE, arr1, arr2, arr3, arr4, arrK, arrD, callK, cellsOf, celEv, celS, backF, plEv, plS, plA, plB, id_eq, true_and, and_true, List.mem_singleton, ite_true, ite_false, goodPl, isTmp, retE, evRet, celRet, List.map_cons, List.map_nil, List.length_cons, List.length_nil, List.getD_cons_zero, List.getD_cons_succ, List.getElem?_cons_zero, List.getElem?_cons_succ, List.getElem?_nil, List.set_cons_zero, List.set_cons_succ, dInt, dInt0, dCmpI, dAdd, dMul, dEq, dIsN, isNonD, dIn, dIx, mRd, mRd0, mMu, mMu0, tyD, celK, celKs, celKa, lstC, mSetF, fldC, putN, putV, dSub, ixC, mIter, mEnum, mZip, mRange1, mRange2, itemsK, itA, itemsD, mFor, mLc, mYes, mRaise, mTryAs, suiteE, mExf, exfK, exnD, mKdIn, mKdIx, mKdT, strK, mMeth, insK, mMake, makeK, mInO, mStrO, mLenO, mListG, callG, gLen, gInt, gStr, gList, gTuple, gAll, gSum, gAbs, gMax, gMin, Bool.not_true, Bool.not_false, Bool.and_true, Bool.true_and, Bool.or_false, Bool.false_or, Bool.or_true, Bool.true_or, Bool.and_false, Bool.false_and, kbe_int_NoneType, kbe_int_bool, kbe_int_int, kbe_int_str, kbe_int_tuple, kbe_int_list, kbe_int_dict, kbe_bool_NoneType, kbe_bool_bool, kbe_bool_int, kbe_bool_str, kbe_bool_tuple, kbe_bool_list, kbe_bool_dict, kbe_str_NoneType, kbe_str_bool, kbe_str_int, kbe_str_str, kbe_str_tuple, kbe_str_list, kbe_str_dict, kbe_tuple_NoneType, kbe_tuple_bool, kbe_tuple_int, kbe_tuple_str, kbe_tuple_tuple, kbe_tuple_list, kbe_tuple_dict, kbe_list_NoneType, kbe_list_bool, kbe_list_int, kbe_list_str, kbe_list_tuple, kbe_list_list, kbe_list_dict, kbe_list_tuple_NoneType, kbe_list_tuple_bool, kbe_list_tuple_int, kbe_list_tuple_str, kbe_list_tuple_tuple, kbe_list_tuple_list, kbe_list_tuple_dict, noOwn, noOwnS, wipeF, restF, List.all_cons, List.all_nil, lInsert, lPop, lAppend, sJoin, seqD, lstD, isSeq] at *; exact q
theorem ok_is_levels : ∀ cs Q E, cs.length = 3 → sp_is_levels cs Q E → m_is_levels (bodyE Q E) (startF 4 cs) := by
  rintro cs Q E - ⟨v, n, lo, rfl, hv, q⟩
  show m_is_levels (bodyE Q E) ⟨[some (.ar 0), some (.ar 1), some (.ar 2), none], _⟩
  unfold m_is_levels
  cases v with
  | tup xs =>
    simp only [mSh, mVar, svK, mBin, mAndV, mOrV, mNotV, mIf, mUn, dNeg, dInv, mChain, mTst, mTru, blK, mAnd, mOr, mNot, brK_tt, brK_ff, truK, mNil, mCons, mConsT, mTup, mLst, frzAll, frzK, frzS, frzA, mSl, mNoPart, mPart, dSl, mFld, dFld, lookD, intK, valK, slK, arK, valsK, mBi, mIsi, isiK, D.tag, st1, mNext, mSeq, mBreak, mCont, mDrop, mRet, mRetN, mIfS, mAsg, asgK, mAsgG, dName, dNil, dCons, dTup, mPar, setEach, Ev.sv, hold, hold_hold, retK, retS, bodyE, HD.Fr.set, HD.Fr.put, Cel.sv, Cel.toD, Cel.own, startF, mCall, argE, arr1, arr2, arr3, arr4, arrK, arrD, callK, cellsOf, celEv, celS, backF, plEv, plS, plA, plB, id_eq, true_and, and_true, List.mem_singleton, ite_true, ite_false, goodPl, isTmp, retE, evRet, celRet, List.map_cons, List.map_nil, List.length_cons, List.length_nil, List.getD_cons_zero, List.getD_cons_succ, List.getElem?_cons_zero, List.getElem?_cons_succ, List.getElem?_nil, List.set_cons_zero, List.set_cons_succ, dInt, dInt0, dCmpI, dAdd, dMul, dEq, dIsN, isNonD, dIn, dIx, mRd, mRd0, mMu, mMu0, tyD, celK, celKs, celKa, lstC, mSetF, fldC, putN, putV, dSub, ixC, mIter, mEnum, mZip, mRange1, mRange2, itemsK, itA, itemsD, mFor, mLc, mYes, mRaise, mTryAs, suiteE, mExf, exfK, exnD, mKdIn, mKdIx, mKdT, strK, mMeth, insK, mMake, makeK, mInO, mStrO, mLenO, mListG, callG, gLen, gInt, gStr, gList, gTuple, gAll, gSum, gAbs, gMax, gMin, Bool.not_true, Bool.not_false, Bool.and_true, Bool.true_and, Bool.or_false, Bool.false_or, Bool.or_true, Bool.true_or, Bool.and_false, Bool.false_and, kbe_int_NoneType, kbe_int_bool, kbe_int_int, kbe_int_str, kbe_int_tuple, kbe_int_list, kbe_int_dict, kbe_bool_NoneType, kbe_bool_bool, kbe_bool_int, kbe_bool_str, kbe_bool_tuple, kbe_bool_list, kbe_bool_dict, kbe_str_NoneType, kbe_str_bool, kbe_str_int, kbe_str_str, kbe_str_tuple, kbe_str_list, kbe_str_dict, kbe_tuple_NoneType, kbe_tuple_bool, kbe_tuple_int, kbe_tuple_str, kbe_tuple_tuple, kbe_tuple_list, kbe_tuple_dict, kbe_list_NoneType, kbe_list_bool, kbe_list_int, kbe_list_str, kbe_list_tuple, kbe_list_list, kbe_list_dict, kbe_list_tuple_NoneType, kbe_list_tuple_bool, kbe_list_tuple_int, kbe_list_tuple_str, kbe_list_tuple_tuple, kbe_list_tuple_list, kbe_list_tuple_dict, noOwn, noOwnS, wipeF, restF, List.all_cons, List.all_nil, lInsert, lPop, lAppend, sJoin, seqD, lstD, isSeq, deq_int, pl_int] at *
    refine ⟨fun h => ?_, fun h => ?_⟩
    · have h : decide ((xs.length : Int) = n) = false := by simpa using h
      simpa [h] using q
    · have h : decide ((xs.length : Int) = n) = true := by simpa using h
      simp only [h, Bool.true_and] at q
      refine compD_map (fun d => .bl (isNum d lo 6)) rfl (Nat.lt_trans hv.1 (by decide)) (fun d hd acc N ha hN => ?_) ?_
      · simp only [turnD, mSh, mVar, svK, mBin, mAndV, mOrV, mNotV, mIf, mUn, dNeg, dInv, mChain, mTst, mTru, blK, mAnd, mOr, mNot, brK_tt, brK_ff, truK, mNil, mCons, mConsT, mTup, mLst, frzAll, frzK, frzS, frzA, mSl, mNoPart, mPart, dSl, mFld, dFld, lookD, intK, valK, slK, arK, valsK, mBi, mIsi, isiK, D.tag, st1, mNext, mSeq, mBreak, mCont, mDrop, mRet, mRetN, mIfS, mAsg, asgK, mAsgG, dName, dNil, dCons, dTup, mPar, setEach, Ev.sv, hold, hold_hold, retK, retS, bodyE, HD.Fr.set, HD.Fr.put, Cel.sv, Cel.toD, Cel.own, startF, mCall, argE, arr1, arr2, arr3, arr4, arrK, arrD, callK, cellsOf, celEv, celS, backF, plEv, plS, plA, plB, id_eq, true_and, and_true, List.mem_singleton, ite_true, ite_false, goodPl, isTmp, retE, evRet, celRet, List.map_cons, List.map_nil, List.length_cons, List.length_nil, List.getD_cons_zero, List.getD_cons_succ, List.getElem?_cons_zero, List.getElem?_cons_succ, List.getElem?_nil, List.set_cons_zero, List.set_cons_succ, dInt, dInt0, dCmpI, dAdd, dMul, dEq, dIsN, isNonD, dIn, dIx, mRd, mRd0, mMu, mMu0, tyD, celK, celKs, celKa, lstC, mSetF, fldC, putN, putV, dSub, ixC, mIter, mEnum, mZip, mRange1, mRange2, itemsK, itA, itemsD, mFor, mLc, mYes, mRaise, mTryAs, suiteE, mExf, exfK, exnD, mKdIn, mKdIx, mKdT, strK, mMeth, insK, mMake, makeK, mInO, mStrO, mLenO, mListG, callG, gLen, gInt, gStr, gList, gTuple, gAll, gSum, gAbs, gMax, gMin, Bool.not_true, Bool.not_false, Bool.and_true, Bool.true_and, Bool.or_false, Bool.false_or, Bool.or_true, Bool.true_or, Bool.and_false, Bool.false_and, kbe_int_NoneType, kbe_int_bool, kbe_int_int, kbe_int_str, kbe_int_tuple, kbe_int_list, kbe_int_dict, kbe_bool_NoneType, kbe_bool_bool, kbe_bool_int, kbe_bool_str, kbe_bool_tuple, kbe_bool_list, kbe_bool_dict, kbe_str_NoneType, kbe_str_bool, kbe_str_int, kbe_str_str, kbe_str_tuple, kbe_str_list, kbe_str_dict, kbe_tuple_NoneType, kbe_tuple_bool, kbe_tuple_int, kbe_tuple_str, kbe_tuple_tuple, kbe_tuple_list, kbe_tuple_dict, kbe_list_NoneType, kbe_list_bool, kbe_list_int, kbe_list_str, kbe_list_tuple, kbe_list_list, kbe_list_dict, kbe_list_tuple_NoneType, kbe_list_tuple_bool, kbe_list_tuple_int, kbe_list_tuple_str, kbe_list_tuple_tuple, kbe_list_tuple_list, kbe_list_tuple_dict, noOwn, noOwnS, wipeF, restF, List.all_cons, List.all_nil, lInsert, lPop, lAppend, sJoin, seqD, lstD, sp_is_number]
        exact ⟨_, rfl, ⟨List.nodup_nil, Nat.zero_le 1⟩, d, lo, 6, rfl, hv.2 d hd, ha, hN⟩
      · simp only [mSh, mVar, svK, mBin, mAndV, mOrV, mNotV, mIf, mUn, dNeg, dInv, mChain, mTst, mTru, blK, mAnd, mOr, mNot, brK_tt, brK_ff, truK, mNil, mCons, mConsT, mTup, mLst, frzAll, frzK, frzS, frzA, mSl, mNoPart, mPart, dSl, mFld, dFld, lookD, intK, valK, slK, arK, valsK, mBi, mIsi, isiK, D.tag, st1, mNext, mSeq, mBreak, mCont, mDrop, mRet, mRetN, mIfS, mAsg, asgK, mAsgG, dName, dNil, dCons, dTup, mPar, setEach, Ev.sv, hold, hold_hold, retK, retS, bodyE, HD.Fr.set, HD.Fr.put, Cel.sv, Cel.toD, Cel.own, startF, mCall, argE, arr1, arr2, arr3, arr4, arrK, arrD, callK, cellsOf, celEv, celS, backF, plEv, plS, plA, plB, id_eq, true_and, and_true, List.mem_singleton, ite_true, ite_false, goodPl, isTmp, retE, evRet, celRet, List.map_cons, List.map_nil, List.length_cons, List.length_nil, List.getD_cons_zero, List.getD_cons_succ, List.getElem?_cons_zero, List.getElem?_cons_succ, List.getElem?_nil, List.set_cons_zero, List.set_cons_succ, dInt, dInt0, dCmpI, dAdd, dMul, dEq, dIsN, isNonD, dIn, dIx, mRd, mRd0, mMu, mMu0, tyD, celK, celKs, celKa, lstC, mSetF, fldC, putN, putV, dSub, ixC, mIter, mEnum, mZip, mRange1, mRange2, itemsK, itA, itemsD, mFor, mLc, mYes, mRaise, mTryAs, suiteE, mExf, exfK, exnD, mKdIn, mKdIx, mKdT, strK, mMeth, insK, mMake, makeK, mInO, mStrO, mLenO, mListG, callG, gLen, gInt, gStr, gList, gTuple, gAll, gSum, gAbs, gMax, gMin, Bool.not_true, Bool.not_false, Bool.and_true, Bool.true_and, Bool.or_false, Bool.false_or, Bool.or_true, Bool.true_or, Bool.and_false, Bool.false_and, kbe_int_NoneType, kbe_int_bool, kbe_int_int, kbe_int_str, kbe_int_tuple, kbe_int_list, kbe_int_dict, kbe_bool_NoneType, kbe_bool_bool, kbe_bool_int, kbe_bool_str, kbe_bool_tuple, kbe_bool_list, kbe_bool_dict, kbe_str_NoneType, kbe_str_bool, kbe_str_int, kbe_str_str, kbe_str_tuple, kbe_str_list, kbe_str_dict, kbe_tuple_NoneType, kbe_tuple_bool, kbe_tuple_int, kbe_tuple_str, kbe_tuple_tuple, kbe_tuple_list, kbe_tuple_dict, kbe_list_NoneType, kbe_list_bool, kbe_list_int, kbe_list_str, kbe_list_tuple, kbe_list_list, kbe_list_dict, kbe_list_tuple_NoneType, kbe_list_tuple_bool, kbe_list_tuple_int, kbe_list_tuple_str, kbe_list_tuple_tuple, kbe_list_tuple_list, kbe_list_tuple_dict, noOwn, noOwnS, wipeF, restF, List.all_cons, List.all_nil, lInsert, lPop, lAppend, sJoin, seqD, lstD]
        refine ⟨xs.map fun d => isNum d lo 6, by rw [List.map_map]; rfl, ?_⟩
        rw [all_id]; exact q
  | ins a b c => cases hv
  | exn a b c d e f => cases hv
  | _ => simp only [mSh, mVar, svK, mBin, mAndV, mOrV, mNotV, mIf, mUn, dNeg, dInv, mChain, mTst, mTru, blK, mAnd, mOr, mNot, brK_tt, brK_ff, truK, mNil, mCons, mConsT, mTup, mLst, frzAll, frzK, frzS, frzA, mSl, mNoPart, mPart, dSl, mFld, dFld, lookD, intK, valK, slK, arK, valsK, mBi, mIsi, isiK, D.tag, st1, mNext, mSeq, mBreak, mCont, mDrop, mRet, mRetN, mIfS, mAsg, asgK, mAsgG, dName, dNil, dCons, dTup, mPar, setEach, Ev.sv, hold, hold_hold, retK, retS, bodyE, HD.Fr.set, HD.Fr.put, Cel.sv, Cel.toD, Cel.own, startF, mCall, argE, arr1, arr2, arr3, arr4, arrK, arrD, callK, cellsOf, celEv, celS, backF, plEv, plS, plA, plB, id_eq, true_and, and_true, List.mem_singleton, ite_true, ite_false, goodPl, isTmp, retE, evRet, celRet, List.map_cons, List.map_nil, List.length_cons, List.length_nil, List.getD_cons_zero, List.getD_cons_succ, List.getElem?_cons_zero, List.getElem?_cons_succ, List.getElem?_nil, List.set_cons_zero, List.set_cons_succ, dInt, dInt0, dCmpI, dAdd, dMul, dEq, dIsN, isNonD, dIn, dIx, mRd, mRd0, mMu, mMu0, tyD, celK, celKs, celKa, lstC, mSetF, fldC, putN, putV, dSub, ixC, mIter, mEnum, mZip, mRange1, mRange2, itemsK, itA, itemsD, mFor, mLc, mYes, mRaise, mTryAs, suiteE, mExf, exfK, exnD, mKdIn, mKdIx, mKdT, strK, mMeth, insK, mMake, makeK, mInO, mStrO, mLenO, mListG, callG, gLen, gInt, gStr, gList, gTuple, gAll, gSum, gAbs, gMax, gMin, Bool.not_true, Bool.not_false, Bool.and_true, Bool.true_and, Bool.or_false, Bool.false_or, Bool.or_true, Bool.true_or, Bool.and_false, Bool.false_and, kbe_int_NoneType, kbe_int_bool, kbe_int_int, kbe_int_str, kbe_int_tuple, kbe_int_list, kbe_int_dict, kbe_bool_NoneType, kbe_bool_bool, kbe_bool_int, kbe_bool_str, kbe_bool_tuple, kbe_bool_list, kbe_bool_dict, kbe_str_NoneType, kbe_str_bool, kbe_str_int, kbe_str_str, kbe_str_tuple, kbe_str_list, kbe_str_dict, kbe_tuple_NoneType, kbe_tuple_bool, kbe_tuple_int, kbe_tuple_str, kbe_tuple_tuple, kbe_tuple_list, kbe_tuple_dict, kbe_list_NoneType, kbe_list_bool, kbe_list_int, kbe_list_str, kbe_list_tuple, kbe_list_list, kbe_list_dict, kbe_list_tuple_NoneType, kbe_list_tuple_bool, kbe_list_tuple_int, kbe_list_tuple_str, kbe_list_tuple_tuple, kbe_list_tuple_list, kbe_list_tuple_dict, noOwn, noOwnS, wipeF, restF, List.all_cons, List.all_nil, lInsert, lPop, lAppend, sJoin, seqD, lstD, isSeq] at *; exact q
theorem bt_ne : (("_bits" : Str) = "_text") = False := by decide
theorem tb_ne : (("_text" : Str) = "_bits") = False := by decide
theorem ok_Room___str__ : ∀ cs Q E, cs.length = 1 → sp_Room___str__ cs Q E → m_Room___str__ (bodyE Q E) (startF 1 cs) := by
  rintro cs Q E - ⟨t, rfl, hv, q⟩
  show m_Room___str__ (bodyE Q E) ⟨[some (.ar 0)], _⟩
  unfold m_Room___str__ roomD
  simp only [mSh, mVar, svK, mBin, mAndV, mOrV, mNotV, mIf, mUn, dNeg, dInv, mChain, mTst, mTru, blK, mAnd, mOr, mNot, brK_tt, brK_ff, truK, mNil, mCons, mConsT, mTup, mLst, frzAll, frzK, frzS, frzA, mSl, mNoPart, mPart, dSl, mFld, dFld, lookD, intK, valK, slK, arK, valsK, mBi, mIsi, isiK, D.tag, st1, mNext, mSeq, mBreak, mCont, mDrop, mRet, mRetN, mIfS, mAsg, asgK, mAsgG, dName, dNil, dCons, dTup, mPar, setEach, Ev.sv, hold, hold_hold, retK, retS, bodyE, HD.Fr.set, HD.Fr.put, Cel.sv, Cel.toD, Cel.own, startF, mCall, argE, arr1, arr2, arr3, arr4, arrK, arrD, callK, cellsOf, celEv, celS, backF, plEv, plS, plA, plB, id_eq, true_and, and_true, List.mem_singleton, ite_true, ite_false, goodPl, isTmp, retE, evRet, celRet, List.map_cons, List.map_nil, List.length_cons, List.length_nil, List.getD_cons_zero, List.getD_cons_succ, List.getElem?_cons_zero, List.getElem?_cons_succ, List.getElem?_nil, List.set_cons_zero, List.set_cons_succ, dInt, dInt0, dCmpI, dAdd, dMul, dEq, dIsN, isNonD, dIn, dIx, mRd, mRd0, mMu, mMu0, tyD, celK, celKs, celKa, lstC, mSetF, fldC, putN, putV, dSub, ixC, mIter, mEnum, mZip, mRange1, mRange2, itemsK, itA, itemsD, mFor, mLc, mYes, mRaise, mTryAs, suiteE, mExf, exfK, exnD, mKdIn, mKdIx, mKdT, strK, mMeth, insK, mMake, makeK, mInO, mStrO, mLenO, mListG, callG, gLen, gInt, gStr, gList, gTuple, gAll, gSum, gAbs, gMax, gMin, Bool.not_true, Bool.not_false, Bool.and_true, Bool.true_and, Bool.or_false, Bool.false_or, Bool.or_true, Bool.true_or, Bool.and_false, Bool.false_and, kbe_int_NoneType, kbe_int_bool, kbe_int_int, kbe_int_str, kbe_int_tuple, kbe_int_list, kbe_int_dict, kbe_bool_NoneType, kbe_bool_bool, kbe_bool_int, kbe_bool_str, kbe_bool_tuple, kbe_bool_list, kbe_bool_dict, kbe_str_NoneType, kbe_str_bool, kbe_str_int, kbe_str_str, kbe_str_tuple, kbe_str_list, kbe_str_dict, kbe_tuple_NoneType, kbe_tuple_bool, kbe_tuple_int, kbe_tuple_str, kbe_tuple_tuple, kbe_tuple_list, kbe_tuple_dict, kbe_list_NoneType, kbe_list_bool, kbe_list_int, kbe_list_str, kbe_list_tuple, kbe_list_list, kbe_list_dict, kbe_list_tuple_NoneType, kbe_list_tuple_bool, kbe_list_tuple_int, kbe_list_tuple_str, kbe_list_tuple_tuple, kbe_list_tuple_list, kbe_list_tuple_dict, noOwn, noOwnS, wipeF, restF, List.all_cons, List.all_nil, lInsert, lPop, lAppend, sJoin, seqD, lstD, bt_ne, tb_ne]
  exact ⟨_, rfl, q⟩
theorem s_0 : ("0" : Str) = ⟨#[48]⟩ := by decide
theorem s_1 : ("1" : Str) = ⟨#[49]⟩ := by decide
theorem s_st : ("*" : Str) = ⟨#[42]⟩ := by decide
theorem ok_sign_of : ∀ cs Q E, cs.length = 2 → sp_sign_of cs Q E → m_sign_of (bodyE Q E) (startF 2 cs) := by
  rintro cs Q E - ⟨r, l, rfl, q⟩
  show m_sign_of (bodyE Q E) ⟨[some (.ar 0), some (.ar 1)], _⟩
  unfold m_sign_of
  unfold sgn at q
  simp only [mSh, mVar, svK, mBin, mAndV, mOrV, mNotV, mIf, mUn, dNeg, dInv, mChain, mTst, mTru, blK, mAnd, mOr, mNot, brK_tt, brK_ff, truK, mNil, mCons, mConsT, mTup, mLst, frzAll, frzK, frzS, frzA, mSl, mNoPart, mPart, dSl, mFld, dFld, lookD, intK, valK, slK, arK, valsK, mBi, mIsi, isiK, D.tag, st1, mNext, mSeq, mBreak, mCont, mDrop, mRet, mRetN, mIfS, mAsg, asgK, mAsgG, dName, dNil, dCons, dTup, mPar, setEach, Ev.sv, hold, hold_hold, retK, retS, bodyE, HD.Fr.set, HD.Fr.put, Cel.sv, Cel.toD, Cel.own, startF, mCall, argE, arr1, arr2, arr3, arr4, arrK, arrD, callK, cellsOf, celEv, celS, backF, plEv, plS, plA, plB, id_eq, true_and, and_true, List.mem_singleton, ite_true, ite_false, goodPl, isTmp, retE, evRet, celRet, List.map_cons, List.map_nil, List.length_cons, List.length_nil, List.getD_cons_zero, List.getD_cons_succ, List.getElem?_cons_zero, List.getElem?_cons_succ, List.getElem?_nil, List.set_cons_zero, List.set_cons_succ, dInt, dInt0, dCmpI, dAdd, dMul, dEq, dIsN, isNonD, dIn, dIx, mRd, mRd0, mMu, mMu0, tyD, celK, celKs, celKa, lstC, mSetF, fldC, putN, putV, dSub, ixC, mIter, mEnum, mZip, mRange1, mRange2, itemsK, itA, itemsD, mFor, mLc, mYes, mRaise, mTryAs, suiteE, mExf, exfK, exnD, mKdIn, mKdIx, mKdT, strK, mMeth, insK, mMake, makeK, mInO, mStrO, mLenO, mListG, callG, gLen, gInt, gStr, gList, gTuple, gAll, gSum, gAbs, gMax, gMin, Bool.not_true, Bool.not_false, Bool.and_true, Bool.true_and, Bool.or_false, Bool.false_or, Bool.or_true, Bool.true_or, Bool.and_false, Bool.false_and, kbe_int_NoneType, kbe_int_bool, kbe_int_int, kbe_int_str, kbe_int_tuple, kbe_int_list, kbe_int_dict, kbe_bool_NoneType, kbe_bool_bool, kbe_bool_int, kbe_bool_str, kbe_bool_tuple, kbe_bool_list, kbe_bool_dict, kbe_str_NoneType, kbe_str_bool, kbe_str_int, kbe_str_str, kbe_str_tuple, kbe_str_list, kbe_str_dict, kbe_tuple_NoneType, kbe_tuple_bool, kbe_tuple_int, kbe_tuple_str, kbe_tuple_tuple, kbe_tuple_list, kbe_tuple_dict, kbe_list_NoneType, kbe_list_bool, kbe_list_int, kbe_list_str, kbe_list_tuple, kbe_list_list, kbe_list_dict, kbe_list_tuple_NoneType, kbe_list_tuple_bool, kbe_list_tuple_int, kbe_list_tuple_str, kbe_list_tuple_tuple, kbe_list_tuple_list, kbe_list_tuple_dict, noOwn, noOwnS, wipeF, restF, List.all_cons, List.all_nil, lInsert, lPop, lAppend, sJoin, seqD, lstD, deq_int, pl_int, s_0, s_1, s_st]
  refine ⟨fun h => ?_, fun h => ⟨fun h2 => ?_, fun h2 => ?_⟩⟩
  · have h : r = 0 := by simpa using h
    rw [if_pos h] at q; exact q
  · have h : ¬ r = 0 := by simpa using h
    have h2 : r = l := by simpa using h2
    rw [if_neg h, if_pos h2] at q; exact q
  · have h : ¬ r = 0 := by simpa using h
    have h2 : ¬ r = l := by simpa using h2
    rw [if_neg h, if_neg h2] at q; exact q
theorem ok__law_is_from : ∀ cs Q E, cs.length = 3 → sp__law_is_from cs Q E → m__law_is_from (bodyE Q E) (startF 3 cs) := by
  rintro cs Q E - ⟨v, lo, hi, rfl, hv, q⟩
  show m__law_is_from (bodyE Q E) ⟨[some (.ar 0), some (.ar 1), some (.ar 2)], _⟩
  unfold m__law_is_from
  cases v with
  | int i =>
    simp only [mSh, mVar, svK, mBin, mAndV, mOrV, mNotV, mIf, mUn, dNeg, dInv, mChain, mTst, mTru, blK, mAnd, mOr, mNot, brK_tt, brK_ff, truK, mNil, mCons, mConsT, mTup, mLst, frzAll, frzK, frzS, frzA, mSl, mNoPart, mPart, dSl, mFld, dFld, lookD, intK, valK, slK, arK, valsK, mBi, mIsi, isiK, D.tag, st1, mNext, mSeq, mBreak, mCont, mDrop, mRet, mRetN, mIfS, mAsg, asgK, mAsgG, dName, dNil, dCons, dTup, mPar, setEach, Ev.sv, hold, hold_hold, retK, retS, bodyE, HD.Fr.set, HD.Fr.put, Cel.sv, Cel.toD, Cel.own, startF, mCall, argE, arr1, arr2, arr3, arr4, arrK, arrD, callK, cellsOf, celEv, celS, backF, plEv, plS, plA, plB, id_eq, true_and, and_true, List.mem_singleton, ite_true, ite_false, goodPl, isTmp, retE, evRet, celRet, List.map_cons, List.map_nil, List.length_cons, List.length_nil, List.getD_cons_zero, List.getD_cons_succ, List.getElem?_cons_zero, List.getElem?_cons_succ, List.getElem?_nil, List.set_cons_zero, List.set_cons_succ, dInt, dInt0, dCmpI, dAdd, dMul, dEq, dIsN, isNonD, dIn, dIx, mRd, mRd0, mMu, mMu0, tyD, celK, celKs, celKa, lstC, mSetF, fldC, putN, putV, dSub, ixC, mIter, mEnum, mZip, mRange1, mRange2, itemsK, itA, itemsD, mFor, mLc, mYes, mRaise, mTryAs, suiteE, mExf, exfK, exnD, mKdIn, mKdIx, mKdT, strK, mMeth, insK, mMake, makeK, mInO, mStrO, mLenO, mListG, callG, gLen, gInt, gStr, gList, gTuple, gAll, gSum, gAbs, gMax, gMin, Bool.not_true, Bool.not_false, Bool.and_true, Bool.true_and, Bool.or_false, Bool.false_or, Bool.or_true, Bool.true_or, Bool.and_false, Bool.false_and, kbe_int_NoneType, kbe_int_bool, kbe_int_int, kbe_int_str, kbe_int_tuple, kbe_int_list, kbe_int_dict, kbe_bool_NoneType, kbe_bool_bool, kbe_bool_int, kbe_bool_str, kbe_bool_tuple, kbe_bool_list, kbe_bool_dict, kbe_str_NoneType, kbe_str_bool, kbe_str_int, kbe_str_str, kbe_str_tuple, kbe_str_list, kbe_str_dict, kbe_tuple_NoneType, kbe_tuple_bool, kbe_tuple_int, kbe_tuple_str, kbe_tuple_tuple, kbe_tuple_list, kbe_tuple_dict, kbe_list_NoneType, kbe_list_bool, kbe_list_int, kbe_list_str, kbe_list_tuple, kbe_list_list, kbe_list_dict, kbe_list_tuple_NoneType, kbe_list_tuple_bool, kbe_list_tuple_int, kbe_list_tuple_str, kbe_list_tuple_tuple, kbe_list_tuple_list, kbe_list_tuple_dict, noOwn, noOwnS, wipeF, restF, List.all_cons, List.all_nil, lInsert, lPop, lAppend, sJoin, seqD, lstD, isNum] at *
    refine ⟨fun h => ?_, fun h => ?_⟩ <;> simpa [h] using q
  | ins a b c => cases hv
  | exn a b c d e f => cases hv
  | _ => simp only [mSh, mVar, svK, mBin, mAndV, mOrV, mNotV, mIf, mUn, dNeg, dInv, mChain, mTst, mTru, blK, mAnd, mOr, mNot, brK_tt, brK_ff, truK, mNil, mCons, mConsT, mTup, mLst, frzAll, frzK, frzS, frzA, mSl, mNoPart, mPart, dSl, mFld, dFld, lookD, intK, valK, slK, arK, valsK, mBi, mIsi, isiK, D.tag, st1, mNext, mSeq, mBreak, mCont, mDrop, mRet, mRetN, mIfS, mAsg, asgK, mAsgG, dName, dNil, dCons, dTup, mPar, setEach, Ev.sv, hold, hold_hold, retK, retS, bodyE, HD.Fr.set, HD.Fr.put, Cel.sv, Cel.toD, Cel.own, startF, mCall, argE, arr1, arr2, arr3, arr4, arrK, arrD, callK, cellsOf, celEv, celS, backF, plEv, plS, plA, plB, id_eq, true_and, and_true, List.mem_singleton, ite_true, ite_false, goodPl, isTmp, retE, evRet, celRet, List.map_cons, List.map_nil, List.length_cons, List.length_nil, List.getD_cons_zero, List.getD_cons_succ, List.getElem?_cons_zero, List.getElem?_cons_succ, List.getElem?_nil, List.set_cons_zero, List.set_cons_succ, dInt, dInt0, dCmpI, dAdd, dMul, dEq, dIsN, isNonD, dIn, dIx, mRd, mRd0, mMu, mMu0, tyD, celK, celKs, celKa, lstC, mSetF, fldC, putN, putV, dSub, ixC, mIter, mEnum, mZip, mRange1, mRange2, itemsK, itA, itemsD, mFor, mLc, mYes, mRaise, mTryAs, suiteE, mExf, exfK, exnD, mKdIn, mKdIx, mKdT, strK, mMeth, insK, mMake, makeK, mInO, mStrO, mLenO, mListG, callG, gLen, gInt, gStr, gList, gTuple, gAll, gSum, gAbs, gMax, gMin, Bool.not_true, Bool.not_false, Bool.and_true, Bool.true_and, Bool.or_false, Bool.false_or, Bool.or_true, Bool.true_or, Bool.and_false, Bool.false_and, kbe_int_NoneType, kbe_int_bool, kbe_int_int, kbe_int_str, kbe_int_tuple, kbe_int_list, kbe_int_dict, kbe_bool_NoneType, kbe_bool_bool, kbe_bool_int, kbe_bool_str, kbe_bool_tuple, kbe_bool_list, kbe_bool_dict, kbe_str_NoneType, kbe_str_bool, kbe_str_int, kbe_str_str, kbe_str_tuple, kbe_str_list, kbe_str_dict, kbe_tuple_NoneType, kbe_tuple_bool, kbe_tuple_int, kbe_tuple_str, kbe_tuple_tuple, kbe_tuple_list, kbe_tuple_dict, kbe_list_NoneType, kbe_list_bool, kbe_list_int, kbe_list_str, kbe_list_tuple, kbe_list_list, kbe_list_dict, kbe_list_tuple_NoneType, kbe_list_tuple_bool, kbe_list_tuple_int, kbe_list_tuple_str, kbe_list_tuple_tuple, kbe_list_tuple_list, kbe_list_tuple_dict, noOwn, noOwnS, wipeF, restF, List.all_cons, List.all_nil, lInsert, lPop, lAppend, sJoin, seqD, lstD, isNum] at *; exact q
theorem zip_ints {f : D → D → D} : ∀ (xs : List D) (ls : List Int), (zipD xs (iD ls)) = (xs.zip ls).map fun p => .tup [p.1, .int p.2]
  | [], _ => by cases ‹List Int› <;> rfl
  | x :: xs, [] => rfl
  | x :: xs, l :: ls => by
    show D.tup [x, .int l] :: zipD xs (iD ls) = _
    rw [zip_ints (f := f) xs ls]; rfl
theorem ok_is_row : ∀ cs Q E, cs.length = 2 → sp_is_row cs Q E → m_is_row (bodyE Q E) (startF 4 cs) := by
  rintro cs Q E - ⟨ls, v, rfl, hl, hv, q⟩
  show m_is_row (bodyE Q E) ⟨[some (.ar 0), some (.ar 1), none, none], _⟩
  unfold m_is_row
  cases v with
  | tup xs =>
    simp only [mSh, mVar, svK, mBin, mAndV, mOrV, mNotV, mIf, mUn, dNeg, dInv, mChain, mTst, mTru, blK, mAnd, mOr, mNot, brK_tt, brK_ff, truK, mNil, mCons, mConsT, mTup, mLst, frzAll, frzK, frzS, frzA, mSl, mNoPart, mPart, dSl, mFld, dFld, lookD, intK, valK, slK, arK, valsK, mBi, mIsi, isiK, D.tag, st1, mNext, mSeq, mBreak, mCont, mDrop, mRet, mRetN, mIfS, mAsg, asgK, mAsgG, dName, dNil, dCons, dTup, mPar, setEach, Ev.sv, hold, hold_hold, retK, retS, bodyE, HD.Fr.set, HD.Fr.put, Cel.sv, Cel.toD, Cel.own, startF, mCall, argE, arr1, arr2, arr3, arr4, arrK, arrD, callK, cellsOf, celEv, celS, backF, plEv, plS, plA, plB, id_eq, true_and, and_true, List.mem_singleton, ite_true, ite_false, goodPl, isTmp, retE, evRet, celRet, List.map_cons, List.map_nil, List.length_cons, List.length_nil, List.getD_cons_zero, List.getD_cons_succ, List.getElem?_cons_zero, List.getElem?_cons_succ, List.getElem?_nil, List.set_cons_zero, List.set_cons_succ, dInt, dInt0, dCmpI, dAdd, dMul, dEq, dIsN, isNonD, dIn, dIx, mRd, mRd0, mMu, mMu0, tyD, celK, celKs, celKa, lstC, mSetF, fldC, putN, putV, dSub, ixC, mIter, mEnum, mZip, mRange1, mRange2, itemsK, itA, itemsD, mFor, mLc, mYes, mRaise, mTryAs, suiteE, mExf, exfK, exnD, mKdIn, mKdIx, mKdT, strK, mMeth, insK, mMake, makeK, mInO, mStrO, mLenO, mListG, callG, gLen, gInt, gStr, gList, gTuple, gAll, gSum, gAbs, gMax, gMin, Bool.not_true, Bool.not_false, Bool.and_true, Bool.true_and, Bool.or_false, Bool.false_or, Bool.or_true, Bool.true_or, Bool.and_false, Bool.false_and, kbe_int_NoneType, kbe_int_bool, kbe_int_int, kbe_int_str, kbe_int_tuple, kbe_int_list, kbe_int_dict, kbe_bool_NoneType, kbe_bool_bool, kbe_bool_int, kbe_bool_str, kbe_bool_tuple, kbe_bool_list, kbe_bool_dict, kbe_str_NoneType, kbe_str_bool, kbe_str_int, kbe_str_str, kbe_str_tuple, kbe_str_list, kbe_str_dict, kbe_tuple_NoneType, kbe_tuple_bool, kbe_tuple_int, kbe_tuple_str, kbe_tuple_tuple, kbe_tuple_list, kbe_tuple_dict, kbe_list_NoneType, kbe_list_bool, kbe_list_int, kbe_list_str, kbe_list_tuple, kbe_list_list, kbe_list_dict, kbe_list_tuple_NoneType, kbe_list_tuple_bool, kbe_list_tuple_int, kbe_list_tuple_str, kbe_list_tuple_tuple, kbe_list_tuple_list, kbe_list_tuple_dict, noOwn, noOwnS, wipeF, restF, List.all_cons, List.all_nil, lInsert, lPop, lAppend, sJoin, seqD, lstD, rowOk, deq_int, pl_int, iD, List.length_map] at *
    refine ⟨fun h => ?_, fun h => ?_⟩
    · have h : decide ((xs.length : Int) = ls.length) = false := by simpa using h
      simpa [h] using q
    · have h : decide ((xs.length : Int) = ls.length) = true := by simpa using h
      simp only [h, Bool.true_and] at q
      rw [show List.map D.int ls = iD ls from rfl, zip_ints (f := fun a b => a)]
      refine compD_map (fun d => match d with | .tup [x, .int l] => .bl (isNum x 0 l) | _ => .non) ⟨rfl, rfl⟩ (by rw [List.length_map, List.length_zip]; exact Nat.lt_of_le_of_lt (Nat.min_le_left _ _) (Nat.lt_trans hv.1 (by decide))) (fun d hd acc N ha hN => ?_) ?_
      · obtain ⟨⟨x, l⟩, hp, rfl⟩ := List.mem_map.mp hd
        simp only [turnD, mSh, mVar, svK, mBin, mAndV, mOrV, mNotV, mIf, mUn, dNeg, dInv, mChain, mTst, mTru, blK, mAnd, mOr, mNot, brK_tt, brK_ff, truK, mNil, mCons, mConsT, mTup, mLst, frzAll, frzK, frzS, frzA, mSl, mNoPart, mPart, dSl, mFld, dFld, lookD, intK, valK, slK, arK, valsK, mBi, mIsi, isiK, D.tag, st1, mNext, mSeq, mBreak, mCont, mDrop, mRet, mRetN, mIfS, mAsg, asgK, mAsgG, dName, dNil, dCons, dTup, mPar, setEach, Ev.sv, hold, hold_hold, retK, retS, bodyE, HD.Fr.set, HD.Fr.put, Cel.sv, Cel.toD, Cel.own, startF, mCall, argE, arr1, arr2, arr3, arr4, arrK, arrD, callK, cellsOf, celEv, celS, backF, plEv, plS, plA, plB, id_eq, true_and, and_true, List.mem_singleton, ite_true, ite_false, goodPl, isTmp, retE, evRet, celRet, List.map_cons, List.map_nil, List.length_cons, List.length_nil, List.getD_cons_zero, List.getD_cons_succ, List.getElem?_cons_zero, List.getElem?_cons_succ, List.getElem?_nil, List.set_cons_zero, List.set_cons_succ, dInt, dInt0, dCmpI, dAdd, dMul, dEq, dIsN, isNonD, dIn, dIx, mRd, mRd0, mMu, mMu0, tyD, celK, celKs, celKa, lstC, mSetF, fldC, putN, putV, dSub, ixC, mIter, mEnum, mZip, mRange1, mRange2, itemsK, itA, itemsD, mFor, mLc, mYes, mRaise, mTryAs, suiteE, mExf, exfK, exnD, mKdIn, mKdIx, mKdT, strK, mMeth, insK, mMake, makeK, mInO, mStrO, mLenO, mListG, callG, gLen, gInt, gStr, gList, gTuple, gAll, gSum, gAbs, gMax, gMin, Bool.not_true, Bool.not_false, Bool.and_true, Bool.true_and, Bool.or_false, Bool.false_or, Bool.or_true, Bool.true_or, Bool.and_false, Bool.false_and, kbe_int_NoneType, kbe_int_bool, kbe_int_int, kbe_int_str, kbe_int_tuple, kbe_int_list, kbe_int_dict, kbe_bool_NoneType, kbe_bool_bool, kbe_bool_int, kbe_bool_str, kbe_bool_tuple, kbe_bool_list, kbe_bool_dict, kbe_str_NoneType, kbe_str_bool, kbe_str_int, kbe_str_str, kbe_str_tuple, kbe_str_list, kbe_str_dict, kbe_tuple_NoneType, kbe_tuple_bool, kbe_tuple_int, kbe_tuple_str, kbe_tuple_tuple, kbe_tuple_list, kbe_tuple_dict, kbe_list_NoneType, kbe_list_bool, kbe_list_int, kbe_list_str, kbe_list_tuple, kbe_list_list, kbe_list_dict, kbe_list_tuple_NoneType, kbe_list_tuple_bool, kbe_list_tuple_int, kbe_list_tuple_str, kbe_list_tuple_tuple, kbe_list_tuple_list, kbe_list_tuple_dict, noOwn, noOwnS, wipeF, restF, List.all_cons, List.all_nil, lInsert, lPop, lAppend, sJoin, seqD, lstD, sp_is_number]
        exact ⟨_, rfl, ⟨List.nodup_nil, Nat.zero_le 1⟩, x, 0, l, rfl, hv.2 x (List.of_mem_zip hp).1, ha, hN⟩
      · simp only [mSh, mVar, svK, mBin, mAndV, mOrV, mNotV, mIf, mUn, dNeg, dInv, mChain, mTst, mTru, blK, mAnd, mOr, mNot, brK_tt, brK_ff, truK, mNil, mCons, mConsT, mTup, mLst, frzAll, frzK, frzS, frzA, mSl, mNoPart, mPart, dSl, mFld, dFld, lookD, intK, valK, slK, arK, valsK, mBi, mIsi, isiK, D.tag, st1, mNext, mSeq, mBreak, mCont, mDrop, mRet, mRetN, mIfS, mAsg, asgK, mAsgG, dName, dNil, dCons, dTup, mPar, setEach, Ev.sv, hold, hold_hold, retK, retS, bodyE, HD.Fr.set, HD.Fr.put, Cel.sv, Cel.toD, Cel.own, startF, mCall, argE, arr1, arr2, arr3, arr4, arrK, arrD, callK, cellsOf, celEv, celS, backF, plEv, plS, plA, plB, id_eq, true_and, and_true, List.mem_singleton, ite_true, ite_false, goodPl, isTmp, retE, evRet, celRet, List.map_cons, List.map_nil, List.length_cons, List.length_nil, List.getD_cons_zero, List.getD_cons_succ, List.getElem?_cons_zero, List.getElem?_cons_succ, List.getElem?_nil, List.set_cons_zero, List.set_cons_succ, dInt, dInt0, dCmpI, dAdd, dMul, dEq, dIsN, isNonD, dIn, dIx, mRd, mRd0, mMu, mMu0, tyD, celK, celKs, celKa, lstC, mSetF, fldC, putN, putV, dSub, ixC, mIter, mEnum, mZip, mRange1, mRange2, itemsK, itA, itemsD, mFor, mLc, mYes, mRaise, mTryAs, suiteE, mExf, exfK, exnD, mKdIn, mKdIx, mKdT, strK, mMeth, insK, mMake, makeK, mInO, mStrO, mLenO, mListG, callG, gLen, gInt, gStr, gList, gTuple, gAll, gSum, gAbs, gMax, gMin, Bool.not_true, Bool.not_false, Bool.and_true, Bool.true_and, Bool.or_false, Bool.false_or, Bool.or_true, Bool.true_or, Bool.and_false, Bool.false_and, kbe_int_NoneType, kbe_int_bool, kbe_int_int, kbe_int_str, kbe_int_tuple, kbe_int_list, kbe_int_dict, kbe_bool_NoneType, kbe_bool_bool, kbe_bool_int, kbe_bool_str, kbe_bool_tuple, kbe_bool_list, kbe_bool_dict, kbe_str_NoneType, kbe_str_bool, kbe_str_int, kbe_str_str, kbe_str_tuple, kbe_str_list, kbe_str_dict, kbe_tuple_NoneType, kbe_tuple_bool, kbe_tuple_int, kbe_tuple_str, kbe_tuple_tuple, kbe_tuple_list, kbe_tuple_dict, kbe_list_NoneType, kbe_list_bool, kbe_list_int, kbe_list_str, kbe_list_tuple, kbe_list_list, kbe_list_dict, kbe_list_tuple_NoneType, kbe_list_tuple_bool, kbe_list_tuple_int, kbe_list_tuple_str, kbe_list_tuple_tuple, kbe_list_tuple_list, kbe_list_tuple_dict, noOwn, noOwnS, wipeF, restF, List.all_cons, List.all_nil, lInsert, lPop, lAppend, sJoin, seqD, lstD]
        refine ⟨(xs.zip ls).map fun p => isNum p.1 0 p.2, by rw [List.map_map, List.map_map]; rfl, ?_⟩
        rw [all_id]; exact q
  | ins a b c => cases hv
  | exn a b c d e f => cases hv
  | _ => simp only [mSh, mVar, svK, mBin, mAndV, mOrV, mNotV, mIf, mUn, dNeg, dInv, mChain, mTst, mTru, blK, mAnd, mOr, mNot, brK_tt, brK_ff, truK, mNil, mCons, mConsT, mTup, mLst, frzAll, frzK, frzS, frzA, mSl, mNoPart, mPart, dSl, mFld, dFld, lookD, intK, valK, slK, arK, valsK, mBi, mIsi, isiK, D.tag, st1, mNext, mSeq, mBreak, mCont, mDrop, mRet, mRetN, mIfS, mAsg, asgK, mAsgG, dName, dNil, dCons, dTup, mPar, setEach, Ev.sv, hold, hold_hold, retK, retS, bodyE, HD.Fr.set, HD.Fr.put, Cel.sv, Cel.toD, Cel.own, startF, mCall, argE, arr1, arr2, arr3, arr4, arrK, arrD, callK, cellsOf, celEv, celS, backF, plEv, plS, plA, plB, id_eq, true_and, and_true, List.mem_singleton, ite_true, ite_false, goodPl, isTmp, retE, evRet, celRet, List.map_cons, List.map_nil, List.length_cons, List.length_nil, List.getD_cons_zero, List.getD_cons_succ, List.getElem?_cons_zero, List.getElem?_cons_succ, List.getElem?_nil, List.set_cons_zero, List.set_cons_succ, dInt, dInt0, dCmpI, dAdd, dMul, dEq, dIsN, isNonD, dIn, dIx, mRd, mRd0, mMu, mMu0, tyD, celK, celKs, celKa, lstC, mSetF, fldC, putN, putV, dSub, ixC, mIter, mEnum, mZip, mRange1, mRange2, itemsK, itA, itemsD, mFor, mLc, mYes, mRaise, mTryAs, suiteE, mExf, exfK, exnD, mKdIn, mKdIx, mKdT, strK, mMeth, insK, mMake, makeK, mInO, mStrO, mLenO, mListG, callG, gLen, gInt, gStr, gList, gTuple, gAll, gSum, gAbs, gMax, gMin, Bool.not_true, Bool.not_false, Bool.and_true, Bool.true_and, Bool.or_false, Bool.false_or, Bool.or_true, Bool.true_or, Bool.and_false, Bool.false_and, kbe_int_NoneType, kbe_int_bool, kbe_int_int, kbe_int_str, kbe_int_tuple, kbe_int_list, kbe_int_dict, kbe_bool_NoneType, kbe_bool_bool, kbe_bool_int, kbe_bool_str, kbe_bool_tuple, kbe_bool_list, kbe_bool_dict, kbe_str_NoneType, kbe_str_bool, kbe_str_int, kbe_str_str, kbe_str_tuple, kbe_str_list, kbe_str_dict, kbe_tuple_NoneType, kbe_tuple_bool, kbe_tuple_int, kbe_tuple_str, kbe_tuple_tuple, kbe_tuple_list, kbe_tuple_dict, kbe_list_NoneType, kbe_list_bool, kbe_list_int, kbe_list_str, kbe_list_tuple, kbe_list_list, kbe_list_dict, kbe_list_tuple_NoneType, kbe_list_tuple_bool, kbe_list_tuple_int, kbe_list_tuple_str, kbe_list_tuple_tuple, kbe_list_tuple_list, kbe_list_tuple_dict, noOwn, noOwnS, wipeF, restF, List.all_cons, List.all_nil, lInsert, lPop, lAppend, sJoin, seqD, lstD, rowOk] at *; exact q
theorem exnL_eq (k : Int) : exnX "BadLevels" xs_BadLevels [.int k] = exnL k := rfl
theorem firstBad_drop {lo hi : Int} : ∀ (xs : List D) (k : Nat), firstBad lo hi xs k = match xs with
    | [] => none
    | x :: r => if isNum x lo hi = true then firstBad lo hi r (k + 1) else some (k : Int)
  | [], _ => rfl
  | _ :: _, _ => rfl
theorem ok_check_levels : ∀ cs Q E, cs.length = 3 → sp_check_levels cs Q E → m_check_levels (bodyE Q E) (startF 5 cs) := by
  rintro cs Q E - ⟨v, n, lo, rfl, hv, q⟩
  show m_check_levels (bodyE Q E) ⟨[some (.ar 0), some (.ar 1), some (.ar 2), none, none], _⟩
  unfold m_check_levels
  cases v with
  | tup xs =>
    simp only [mSh, mVar, svK, mBin, mAndV, mOrV, mNotV, mIf, mUn, dNeg, dInv, mChain, mTst, mTru, blK, mAnd, mOr, mNot, brK_tt, brK_ff, truK, mNil, mCons, mConsT, mTup, mLst, frzAll, frzK, frzS, frzA, mSl, mNoPart, mPart, dSl, mFld, dFld, lookD, intK, valK, slK, arK, valsK, mBi, mIsi, isiK, D.tag, st1, mNext, mSeq, mBreak, mCont, mDrop, mRet, mRetN, mIfS, mAsg, asgK, mAsgG, dName, dNil, dCons, dTup, mPar, setEach, Ev.sv, hold, hold_hold, retK, retS, bodyE, HD.Fr.set, HD.Fr.put, Cel.sv, Cel.toD, Cel.own, startF, mCall, argE, arr1, arr2, arr3, arr4, arrK, arrD, callK, cellsOf, celEv, celS, backF, plEv, plS, plA, plB, id_eq, true_and, and_true, List.mem_singleton, ite_true, ite_false, goodPl, isTmp, retE, evRet, celRet, List.map_cons, List.map_nil, List.length_cons, List.length_nil, List.getD_cons_zero, List.getD_cons_succ, List.getElem?_cons_zero, List.getElem?_cons_succ, List.getElem?_nil, List.set_cons_zero, List.set_cons_succ, dInt, dInt0, dCmpI, dAdd, dMul, dEq, dIsN, isNonD, dIn, dIx, mRd, mRd0, mMu, mMu0, tyD, celK, celKs, celKa, lstC, mSetF, fldC, putN, putV, dSub, ixC, mIter, mEnum, mZip, mRange1, mRange2, itemsK, itA, itemsD, mFor, mLc, mYes, mRaise, mTryAs, suiteE, mExf, exfK, exnD, mKdIn, mKdIx, mKdT, strK, mMeth, insK, mMake, makeK, mInO, mStrO, mLenO, mListG, callG, gLen, gInt, gStr, gList, gTuple, gAll, gSum, gAbs, gMax, gMin, Bool.not_true, Bool.not_false, Bool.and_true, Bool.true_and, Bool.or_false, Bool.false_or, Bool.or_true, Bool.true_or, Bool.and_false, Bool.false_and, kbe_int_NoneType, kbe_int_bool, kbe_int_int, kbe_int_str, kbe_int_tuple, kbe_int_list, kbe_int_dict, kbe_bool_NoneType, kbe_bool_bool, kbe_bool_int, kbe_bool_str, kbe_bool_tuple, kbe_bool_list, kbe_bool_dict, kbe_str_NoneType, kbe_str_bool, kbe_str_int, kbe_str_str, kbe_str_tuple, kbe_str_list, kbe_str_dict, kbe_tuple_NoneType, kbe_tuple_bool, kbe_tuple_int, kbe_tuple_str, kbe_tuple_tuple, kbe_tuple_list, kbe_tuple_dict, kbe_list_NoneType, kbe_list_bool, kbe_list_int, kbe_list_str, kbe_list_tuple, kbe_list_list, kbe_list_dict, kbe_list_tuple_NoneType, kbe_list_tuple_bool, kbe_list_tuple_int, kbe_list_tuple_str, kbe_list_tuple_tuple, kbe_list_tuple_list, kbe_list_tuple_dict, noOwn, noOwnS, wipeF, restF, List.all_cons, List.all_nil, lInsert, lPop, lAppend, sJoin, seqD, lstD, checkL, deq_int, pl_int] at *
    refine ⟨fun h => ?_, fun h => ?_⟩
    · have h : ¬ ((xs.length : Int) = n) := by simpa using h
      rw [if_neg h] at q
      simp only [exnL_eq]
      exact ⟨by decide, q⟩
    · have h : ((xs.length : Int) = n) := by simpa using h
      rw [if_pos h] at q
      have key : ∀ i, i ≤ xs.length → firstBad lo 6 xs 0 = firstBad lo 6 (xs.drop i) i → i < xs.length → ∀ x, xs[i]? = some x → (isNum x lo 6 = true → firstBad lo 6 xs 0 = firstBad lo 6 (xs.drop (i + 1)) (i + 1)) ∧ (isNum x lo 6 = false → firstBad lo 6 xs 0 = some (i : Int)) := fun i hi e hlt x hx => by
        have hx' : xs[i] = x := by rw [List.getElem?_eq_getElem hlt] at hx; exact Option.some.inj hx
        rw [List.drop_eq_getElem_cons hlt, hx'] at e
        refine ⟨fun hn => ?_, fun hn => ?_⟩
        · rw [e]; show (if isNum x lo 6 = true then _ else _) = _; rw [if_pos hn]
        · rw [e]; show (if isNum x lo 6 = true then _ else _) = _; rw [if_neg (by rw [hn]; decide)]
      refine loopD_inv (fun i F => ∃ a b, F = ⟨[some (.ar 0), some (.ar 1), some (.ar 2), a, b], [Cel.gone (D.tup xs), Cel.gone (D.int n), Cel.gone (D.int lo)]⟩ ∧ firstBad lo 6 xs 0 = firstBad lo 6 (xs.drop i) i) (fun i F ⟨a, b, h, _⟩ => by subst h; rfl) (fun i d F hi ⟨a, b, hF, he⟩ N hN => ?_) (fun F ⟨a, b, hF, he⟩ => ?_) ⟨none, none, rfl, by rw [List.drop_zero]⟩
      · obtain ⟨x, hx, rfl⟩ := enumD_get hi
        have hlt := (List.getElem?_eq_some_iff.mp hx).1
        obtain ⟨k1, k2⟩ := key i (Nat.le_of_lt hlt) he hlt x hx
        subst hF
        simp only [mSh, mVar, svK, mBin, mAndV, mOrV, mNotV, mIf, mUn, dNeg, dInv, mChain, mTst, mTru, blK, mAnd, mOr, mNot, brK_tt, brK_ff, truK, mNil, mCons, mConsT, mTup, mLst, frzAll, frzK, frzS, frzA, mSl, mNoPart, mPart, dSl, mFld, dFld, lookD, intK, valK, slK, arK, valsK, mBi, mIsi, isiK, D.tag, st1, mNext, mSeq, mBreak, mCont, mDrop, mRet, mRetN, mIfS, mAsg, asgK, mAsgG, dName, dNil, dCons, dTup, mPar, setEach, Ev.sv, hold, hold_hold, retK, retS, bodyE, HD.Fr.set, HD.Fr.put, Cel.sv, Cel.toD, Cel.own, startF, mCall, argE, arr1, arr2, arr3, arr4, arrK, arrD, callK, cellsOf, celEv, celS, backF, plEv, plS, plA, plB, id_eq, true_and, and_true, List.mem_singleton, ite_true, ite_false, goodPl, isTmp, retE, evRet, celRet, List.map_cons, List.map_nil, List.length_cons, List.length_nil, List.getD_cons_zero, List.getD_cons_succ, List.getElem?_cons_zero, List.getElem?_cons_succ, List.getElem?_nil, List.set_cons_zero, List.set_cons_succ, dInt, dInt0, dCmpI, dAdd, dMul, dEq, dIsN, isNonD, dIn, dIx, mRd, mRd0, mMu, mMu0, tyD, celK, celKs, celKa, lstC, mSetF, fldC, putN, putV, dSub, ixC, mIter, mEnum, mZip, mRange1, mRange2, itemsK, itA, itemsD, mFor, mLc, mYes, mRaise, mTryAs, suiteE, mExf, exfK, exnD, mKdIn, mKdIx, mKdT, strK, mMeth, insK, mMake, makeK, mInO, mStrO, mLenO, mListG, callG, gLen, gInt, gStr, gList, gTuple, gAll, gSum, gAbs, gMax, gMin, Bool.not_true, Bool.not_false, Bool.and_true, Bool.true_and, Bool.or_false, Bool.false_or, Bool.or_true, Bool.true_or, Bool.and_false, Bool.false_and, kbe_int_NoneType, kbe_int_bool, kbe_int_int, kbe_int_str, kbe_int_tuple, kbe_int_list, kbe_int_dict, kbe_bool_NoneType, kbe_bool_bool, kbe_bool_int, kbe_bool_str, kbe_bool_tuple, kbe_bool_list, kbe_bool_dict, kbe_str_NoneType, kbe_str_bool, kbe_str_int, kbe_str_str, kbe_str_tuple, kbe_str_list, kbe_str_dict, kbe_tuple_NoneType, kbe_tuple_bool, kbe_tuple_int, kbe_tuple_str, kbe_tuple_tuple, kbe_tuple_list, kbe_tuple_dict, kbe_list_NoneType, kbe_list_bool, kbe_list_int, kbe_list_str, kbe_list_tuple, kbe_list_list, kbe_list_dict, kbe_list_tuple_NoneType, kbe_list_tuple_bool, kbe_list_tuple_int, kbe_list_tuple_str, kbe_list_tuple_tuple, kbe_list_tuple_list, kbe_list_tuple_dict, noOwn, noOwnS, wipeF, restF, List.all_cons, List.all_nil, lInsert, lPop, lAppend, sJoin, seqD, lstD, sp_is_number, exnL_eq]
        refine ⟨_, rfl, ⟨List.nodup_nil, Nat.zero_le 1⟩, x, lo, 6, rfl, hv.2 x (List.mem_of_getElem? hx), fun h => ?_, fun h => ?_⟩
        · have h : isNum x lo 6 = false := by simpa using h
          rw [k2 h] at q
          exact ⟨by decide, q⟩
        · have h : isNum x lo 6 = true := by simpa using h
          exact hN _ ⟨_, _, rfl, k1 h⟩
      · subst hF
        rw [enumD_len, List.drop_length] at he
        rw [he] at q
        exact q
  | ins a b c => cases hv
  | exn a b c d e f => cases hv
  | _ => simp only [mSh, mVar, svK, mBin, mAndV, mOrV, mNotV, mIf, mUn, dNeg, dInv, mChain, mTst, mTru, blK, mAnd, mOr, mNot, brK_tt, brK_ff, truK, mNil, mCons, mConsT, mTup, mLst, frzAll, frzK, frzS, frzA, mSl, mNoPart, mPart, dSl, mFld, dFld, lookD, intK, valK, slK, arK, valsK, mBi, mIsi, isiK, D.tag, st1, mNext, mSeq, mBreak, mCont, mDrop, mRet, mRetN, mIfS, mAsg, asgK, mAsgG, dName, dNil, dCons, dTup, mPar, setEach, Ev.sv, hold, hold_hold, retK, retS, bodyE, HD.Fr.set, HD.Fr.put, Cel.sv, Cel.toD, Cel.own, startF, mCall, argE, arr1, arr2, arr3, arr4, arrK, arrD, callK, cellsOf, celEv, celS, backF, plEv, plS, plA, plB, id_eq, true_and, and_true, List.mem_singleton, ite_true, ite_false, goodPl, isTmp, retE, evRet, celRet, List.map_cons, List.map_nil, List.length_cons, List.length_nil, List.getD_cons_zero, List.getD_cons_succ, List.getElem?_cons_zero, List.getElem?_cons_succ, List.getElem?_nil, List.set_cons_zero, List.set_cons_succ, dInt, dInt0, dCmpI, dAdd, dMul, dEq, dIsN, isNonD, dIn, dIx, mRd, mRd0, mMu, mMu0, tyD, celK, celKs, celKa, lstC, mSetF, fldC, putN, putV, dSub, ixC, mIter, mEnum, mZip, mRange1, mRange2, itemsK, itA, itemsD, mFor, mLc, mYes, mRaise, mTryAs, suiteE, mExf, exfK, exnD, mKdIn, mKdIx, mKdT, strK, mMeth, insK, mMake, makeK, mInO, mStrO, mLenO, mListG, callG, gLen, gInt, gStr, gList, gTuple, gAll, gSum, gAbs, gMax, gMin, Bool.not_true, Bool.not_false, Bool.and_true, Bool.true_and, Bool.or_false, Bool.false_or, Bool.or_true, Bool.true_or, Bool.and_false, Bool.false_and, kbe_int_NoneType, kbe_int_bool, kbe_int_int, kbe_int_str, kbe_int_tuple, kbe_int_list, kbe_int_dict, kbe_bool_NoneType, kbe_bool_bool, kbe_bool_int, kbe_bool_str, kbe_bool_tuple, kbe_bool_list, kbe_bool_dict, kbe_str_NoneType, kbe_str_bool, kbe_str_int, kbe_str_str, kbe_str_tuple, kbe_str_list, kbe_str_dict, kbe_tuple_NoneType, kbe_tuple_bool, kbe_tuple_int, kbe_tuple_str, kbe_tuple_tuple, kbe_tuple_list, kbe_tuple_dict, kbe_list_NoneType, kbe_list_bool, kbe_list_int, kbe_list_str, kbe_list_tuple, kbe_list_list, kbe_list_dict, kbe_list_tuple_NoneType, kbe_list_tuple_bool, kbe_list_tuple_int, kbe_list_tuple_str, kbe_list_tuple_tuple, kbe_list_tuple_list, kbe_list_tuple_dict, noOwn, noOwnS, wipeF, restF, List.all_cons, List.all_nil, lInsert, lPop, lAppend, sJoin, seqD, lstD, checkL, exnL_eq] at *; exact ⟨by decide, q⟩

end K10
set_option Elab.async false
set_option linter.all false
set_option maxRecDepth 100000
set_option maxHeartbeats 4000000
namespace K10
open PySem PySem.Spec PyProof.Rows L2 HD
theorem ex_some {α : Type} {a : α} {k : α → Prop} : (∃ j, some a = some j ∧ k j) = k a := by
  apply propext
  constructor
  · rintro ⟨j, h, q⟩; cases h; exact q
  · intro q; exact ⟨a, rfl, q⟩
theorem at5_0 {a b c d e : D} : atI [a, b, c, d, e] 0 = some a := rfl
theorem at5_1 {a b c d e : D} : atI [a, b, c, d, e] 1 = some b := rfl
theorem at5_2 {a b c d e : D} : atI [a, b, c, d, e] 2 = some c := rfl
theorem at5_3 {a b c d e : D} : atI [a, b, c, d, e] 3 = some d := rfl
theorem at5_4 {a b c d e : D} : atI [a, b, c, d, e] 4 = some e := rfl
theorem ixN5_1 : ixN (0 + 1 + 1 + 1 + 1 + 1) 1 = some 1 := rfl
theorem ixN5_2 : ixN (0 + 1 + 1 + 1 + 1 + 1) 2 = some 2 := rfl
theorem ixN5_3 : ixN (0 + 1 + 1 + 1 + 1 + 1) 3 = some 3 := rfl
theorem ixN5_4 : ixN (0 + 1 + 1 + 1 + 1 + 1) 4 = some 4 := rfl
theorem atI_iD (ns : List Int) (i : Int) {k : D → Prop} : (∃ d, atI (iD ns) i = some d ∧ k d) = (∃ z, atI ns i = some z ∧ k (.int z)) := by
  have e : atI (iD ns) i = (atI ns i).map D.int := by
    unfold atI iD
    rw [List.length_map]
    cases ixN ns.length i with
    | none => rfl
    | some j => show (List.map D.int ns)[j]? = _; rw [List.getElem?_map]; rfl
  rw [e]
  cases atI ns i with
  | none => exact propext (Iff.intro (fun ⟨_, h, _⟩ => by cases h) (fun ⟨_, h, _⟩ => by cases h))
  | some z => exact (ex_some (a := D.int z)).trans (ex_some (a := z) (k := fun z => k (.int z))).symm
theorem ok__law_draw : ∀ cs Q E, cs.length = 2 → sp__law_draw cs Q E → m__law_draw (bodyE Q E) (startF 5 cs) := by
  rintro cs Q E - ⟨bag, n, rfl, ⟨ns, i, b, s, k, rfl, h0, hs0, hs⟩, n0, n1, q⟩
  show m__law_draw (bodyE Q E) ⟨[some (.ar 0), some (.ar 1), none, none, none], _⟩
  unfold m__law_draw bagL
  simp only [mSh, mVar, svK, mBin, mAndV, mOrV, mNotV, mIf, mUn, dNeg, dInv, mChain, mTst, mTru, blK, mAnd, mOr, mNot, brK_tt, brK_ff, truK, mNil, mCons, mConsT, mTup, mLst, frzAll, frzK, frzS, frzA, mSl, mNoPart, mPart, dSl, mFld, dFld, lookD, intK, valK, slK, arK, valsK, mBi, mIsi, isiK, D.tag, st1, mNext, mSeq, mBreak, mCont, mDrop, mRet, mRetN, mIfS, mAsg, asgK, mAsgG, dName, dNil, dCons, dTup, mPar, setEach, Ev.sv, hold, hold_hold, retK, retS, bodyE, HD.Fr.set, HD.Fr.put, Cel.sv, Cel.toD, Cel.own, startF, mCall, argE, arr1, arr2, arr3, arr4, arrK, arrD, callK, cellsOf, celEv, celS, backF, plEv, plS, plA, plB, id_eq, true_and, and_true, List.mem_singleton, ite_true, ite_false, goodPl, isTmp, retE, evRet, celRet, List.map_cons, List.map_nil, List.length_cons, List.length_nil, List.getD_cons_zero, List.getD_cons_succ, List.getElem?_cons_zero, List.getElem?_cons_succ, List.getElem?_nil, List.set_cons_zero, List.set_cons_succ, dInt, dInt0, dCmpI, dAdd, dMul, dEq, dIsN, isNonD, dIn, dIx, mRd, mRd0, mMu, mMu0, tyD, celK, celKs, celKa, lstC, mSetF, fldC, putN, putV, dSub, ixC, mIter, mEnum, mZip, mRange1, mRange2, itemsK, itA, itemsD, mFor, mLc, mYes, mRaise, mTryAs, suiteE, mExf, exfK, exnD, mKdIn, mKdIx, mKdT, strK, mMeth, insK, mMake, makeK, mInO, mStrO, mLenO, mListG, callG, gLen, gInt, gStr, gList, gTuple, gAll, gSum, gAbs, gMax, gMin, Bool.not_true, Bool.not_false, Bool.and_true, Bool.true_and, Bool.or_false, Bool.false_or, Bool.or_true, Bool.true_or, Bool.and_false, Bool.false_and, kbe_int_NoneType, kbe_int_bool, kbe_int_int, kbe_int_str, kbe_int_tuple, kbe_int_list, kbe_int_dict, kbe_bool_NoneType, kbe_bool_bool, kbe_bool_int, kbe_bool_str, kbe_bool_tuple, kbe_bool_list, kbe_bool_dict, kbe_str_NoneType, kbe_str_bool, kbe_str_int, kbe_str_str, kbe_str_tuple, kbe_str_list, kbe_str_dict, kbe_tuple_NoneType, kbe_tuple_bool, kbe_tuple_int, kbe_tuple_str, kbe_tuple_tuple, kbe_tuple_list, kbe_tuple_dict, kbe_list_NoneType, kbe_list_bool, kbe_list_int, kbe_list_str, kbe_list_tuple, kbe_list_list, kbe_list_dict, kbe_list_tuple_NoneType, kbe_list_tuple_bool, kbe_list_tuple_int, kbe_list_tuple_str, kbe_list_tuple_tuple, kbe_list_tuple_list, kbe_list_tuple_dict, noOwn, noOwnS, wipeF, restF, List.all_cons, List.all_nil, lInsert, lPop, lAppend, sJoin, seqD, lstD, deq_int, pl_int, atI_iD, ex_some, at5_0, at5_1, at5_2, at5_3, at5_4, ixN5_1, ixN5_2, ixN5_3, ixN5_4]
  have fin : ∀ (i' b' s' k' r : Int), 0 ≤ i' → 0 ≤ s' → s' < 2147483647 → 0 ≤ r → r < n → Q (.sh (.int r)) [.lst [.lst (iD ns), .int i', .int b', .int s', .int k'], .gone (.int n)] := fun i' b' s' k' r h1 h2 h3 h4 h5 => q r _ ⟨ns, i', b', s', k', rfl, h1, h2, h3⟩ h4 h5
  have sm : ∀ s' : Int, 0 ≤ s' → s' < 2147483647 → CMul s' s' := fun s' h1 h2 => .inl ⟨by omega, by omega⟩
  have cn : ∀ z : Int, CDiv z n := fun z => ⟨n0, n1⟩
  have e1 : ∀ z : Int, 0 ≤ z % n := fun z => Int.emod_nonneg _ (by omega)
  have e2 : ∀ z : Int, z % n < n := fun z => Int.emod_lt_of_pos _ n0
  have f1 : ∀ z : Int, 0 ≤ z % 2147483563 := fun z => Int.emod_nonneg _ (by decide)
  have f2 : ∀ z : Int, z % 2147483563 < 2147483647 := fun z => Int.lt_trans (Int.emod_lt_of_pos _ (by decide)) (by decide)
  refine ⟨fun hb => ⟨fun hi => ?_, fun hi => ?_⟩, fun hb => ⟨fun hb2 => ?_, fun hb2 => ?_⟩⟩
  · have hi : i < ((iD ns).length : Int) := by simpa using hi
    have hl : (iD ns).length = ns.length := by simp [iD]
    have hz : ∃ z, atI ns i = some z := by
      refine ⟨ns[i.toNat]'(by omega), ?_⟩
      unfold atI ixN
      rw [if_pos h0, if_pos (by omega)]
      exact List.getElem?_eq_getElem (by omega)
    obtain ⟨z, hz⟩ := hz
    refine ⟨z, hz, ⟨by decide, by decide, by decide⟩, fun h1 => ⟨fun h2 => ?_, fun h2 => ?_⟩, fun h1 => ?_⟩
    · exact ⟨n0, cn _, fin _ _ _ _ _ (by omega) hs0 hs (e1 _) (e2 _)⟩
    · exact ⟨sm _ hs0 hs, .inr ⟨by decide, by decide⟩, .inr ⟨by decide, by decide⟩, .inr ⟨by decide, by decide⟩, by decide, ⟨by decide, by decide⟩, by decide, .inr ⟨by decide, by decide⟩, n0, fin _ _ _ _ _ (by omega) (f1 _) (f2 _) (e1 _) (e2 _)⟩
    · refine ⟨.inr ⟨by decide, by decide⟩, by decide, .inr ⟨by decide, by decide⟩, by decide, fun h2 => ?_, fun h2 => ?_⟩
      · exact ⟨n0, cn _, fin _ _ _ _ _ (by omega) (f1 _) (f2 _) (e1 _) (e2 _)⟩
      · exact ⟨sm _ (f1 _) (f2 _), .inr ⟨by decide, by decide⟩, .inr ⟨by decide, by decide⟩, .inr ⟨by decide, by decide⟩, by decide, ⟨by decide, by decide⟩, by decide, .inr ⟨by decide, by decide⟩, n0, fin _ _ _ _ _ (by omega) (f1 _) (f2 _) (e1 _) (e2 _)⟩
  all_goals first
    | exact ⟨fun h2 => ⟨n0, cn _, fin _ _ _ _ _ h0 hs0 hs (e1 _) (e2 _)⟩, fun h2 => ⟨sm _ hs0 hs, .inr ⟨by decide, by decide⟩, .inr ⟨by decide, by decide⟩, .inr ⟨by decide, by decide⟩, by decide, ⟨by decide, by decide⟩, by decide, .inr ⟨by decide, by decide⟩, n0, fin _ _ _ _ _ h0 (f1 _) (f2 _) (e1 _) (e2 _)⟩⟩
    | exact ⟨n0, cn _, fin _ _ _ _ _ h0 hs0 hs (e1 _) (e2 _)⟩
    | exact ⟨sm _ hs0 hs, .inr ⟨by decide, by decide⟩, .inr ⟨by decide, by decide⟩, .inr ⟨by decide, by decide⟩, by decide, ⟨by decide, by decide⟩, by decide, .inr ⟨by decide, by decide⟩, n0, fin _ _ _ _ _ h0 (f1 _) (f2 _) (e1 _) (e2 _)⟩

end K10
set_option Elab.async false
set_option linter.all false
set_option maxRecDepth 100000
set_option maxHeartbeats 4000000
namespace K10
open PySem PySem.Spec PyProof.Rows L2 HD
theorem nd1 {α : Type} (a : α) : [a].Nodup := List.nodup_cons.mpr ⟨List.not_mem_nil, List.nodup_nil⟩
theorem atI_get {α : Type} (xs : List α) (r : Int) (h0 : 0 ≤ r) (h1 : r < xs.length) : atI xs r = some (xs[r.toNat]'(by omega)) := by
  unfold atI ixN
  rw [if_pos h0, if_pos (by omega)]
  exact List.getElem?_eq_getElem (by omega)
theorem ok__law_of : ∀ cs Q E, cs.length = 2 → sp__law_of cs Q E → m__law_of (bodyE Q E) (startF 2 cs) := by
  rintro cs Q E - ⟨bag, xs, rfl, hb, h1, h2, q⟩
  show m__law_of (bodyE Q E) ⟨[some (.ar 0), some (.ar 1)], _⟩
  unfold m__law_of
  simp only [mSh, mVar, svK, mBin, mAndV, mOrV, mNotV, mIf, mUn, dNeg, dInv, mChain, mTst, mTru, blK, mAnd, mOr, mNot, brK_tt, brK_ff, truK, mNil, mCons, mConsT, mTup, mLst, frzAll, frzK, frzS, frzA, mSl, mNoPart, mPart, dSl, mFld, dFld, lookD, intK, valK, slK, arK, valsK, mBi, mIsi, isiK, D.tag, st1, mNext, mSeq, mBreak, mCont, mDrop, mRet, mRetN, mIfS, mAsg, asgK, mAsgG, dName, dNil, dCons, dTup, mPar, setEach, Ev.sv, hold, hold_hold, retK, retS, bodyE, HD.Fr.set, HD.Fr.put, Cel.sv, Cel.toD, Cel.own, startF, mCall, argE, arr1, arr2, arr3, arr4, arrK, arrD, callK, cellsOf, celEv, celS, backF, plEv, plS, plA, plB, id_eq, true_and, and_true, List.mem_singleton, ite_true, ite_false, goodPl, isTmp, retE, evRet, celRet, List.map_cons, List.map_nil, List.length_cons, List.length_nil, List.getD_cons_zero, List.getD_cons_succ, List.getElem?_cons_zero, List.getElem?_cons_succ, List.getElem?_nil, List.set_cons_zero, List.set_cons_succ, dInt, dInt0, dCmpI, dAdd, dMul, dEq, dIsN, isNonD, dIn, dIx, mRd, mRd0, mMu, mMu0, tyD, celK, celKs, celKa, lstC, mSetF, fldC, putN, putV, dSub, ixC, mIter, mEnum, mZip, mRange1, mRange2, itemsK, itA, itemsD, mFor, mLc, mYes, mRaise, mTryAs, suiteE, mExf, exfK, exnD, mKdIn, mKdIx, mKdT, strK, mMeth, insK, mMake, makeK, mInO, mStrO, mLenO, mListG, callG, gLen, gInt, gStr, gList, gTuple, gAll, gSum, gAbs, gMax, gMin, Bool.not_true, Bool.not_false, Bool.and_true, Bool.true_and, Bool.or_false, Bool.false_or, Bool.or_true, Bool.true_or, Bool.and_false, Bool.false_and, kbe_int_NoneType, kbe_int_bool, kbe_int_int, kbe_int_str, kbe_int_tuple, kbe_int_list, kbe_int_dict, kbe_bool_NoneType, kbe_bool_bool, kbe_bool_int, kbe_bool_str, kbe_bool_tuple, kbe_bool_list, kbe_bool_dict, kbe_str_NoneType, kbe_str_bool, kbe_str_int, kbe_str_str, kbe_str_tuple, kbe_str_list, kbe_str_dict, kbe_tuple_NoneType, kbe_tuple_bool, kbe_tuple_int, kbe_tuple_str, kbe_tuple_tuple, kbe_tuple_list, kbe_tuple_dict, kbe_list_NoneType, kbe_list_bool, kbe_list_int, kbe_list_str, kbe_list_tuple, kbe_list_list, kbe_list_dict, kbe_list_tuple_NoneType, kbe_list_tuple_bool, kbe_list_tuple_int, kbe_list_tuple_str, kbe_list_tuple_tuple, kbe_list_tuple_list, kbe_list_tuple_dict, noOwn, noOwnS, wipeF, restF, List.all_cons, List.all_nil, lInsert, lPop, lAppend, sJoin, seqD, lstD, deq_int, pl_int, sp__law_draw]
  exact ⟨_, rfl, ⟨nd1 _, Nat.zero_le 1⟩, bag, _, rfl, hb, by omega, by omega, fun r bag' hb' r0 r1 => ⟨_, atI_get xs r r0 r1, q _ _ hb' (List.getElem_mem _)⟩⟩
theorem ok__law_bag : ∀ cs Q E, cs.length = 1 → sp__law_bag cs Q E → m__law_bag (bodyE Q E) (startF 3 cs) := by
  rintro cs Q E - ⟨ns, rfl, q⟩
  show m__law_bag (bodyE Q E) ⟨[some (.ar 0), none, none], _⟩
  unfold m__law_bag
  simp only [mSh, mVar, svK, mBin, mAndV, mOrV, mNotV, mIf, mUn, dNeg, dInv, mChain, mTst, mTru, blK, mAnd, mOr, mNot, brK_tt, brK_ff, truK, mNil, mCons, mConsT, mTup, mLst, frzAll, frzK, frzS, frzA, mSl, mNoPart, mPart, dSl, mFld, dFld, lookD, intK, valK, slK, arK, valsK, mBi, mIsi, isiK, D.tag, st1, mNext, mSeq, mBreak, mCont, mDrop, mRet, mRetN, mIfS, mAsg, asgK, mAsgG, dName, dNil, dCons, dTup, mPar, setEach, Ev.sv, hold, hold_hold, retK, retS, bodyE, HD.Fr.set, HD.Fr.put, Cel.sv, Cel.toD, Cel.own, startF, mCall, argE, arr1, arr2, arr3, arr4, arrK, arrD, callK, cellsOf, celEv, celS, backF, plEv, plS, plA, plB, id_eq, true_and, and_true, List.mem_singleton, ite_true, ite_false, goodPl, isTmp, retE, evRet, celRet, List.map_cons, List.map_nil, List.length_cons, List.length_nil, List.getD_cons_zero, List.getD_cons_succ, List.getElem?_cons_zero, List.getElem?_cons_succ, List.getElem?_nil, List.set_cons_zero, List.set_cons_succ, dInt, dInt0, dCmpI, dAdd, dMul, dEq, dIsN, isNonD, dIn, dIx, mRd, mRd0, mMu, mMu0, tyD, celK, celKs, celKa, lstC, mSetF, fldC, putN, putV, dSub, ixC, mIter, mEnum, mZip, mRange1, mRange2, itemsK, itA, itemsD, mFor, mLc, mYes, mRaise, mTryAs, suiteE, mExf, exfK, exnD, mKdIn, mKdIx, mKdT, strK, mMeth, insK, mMake, makeK, mInO, mStrO, mLenO, mListG, callG, gLen, gInt, gStr, gList, gTuple, gAll, gSum, gAbs, gMax, gMin, Bool.not_true, Bool.not_false, Bool.and_true, Bool.true_and, Bool.or_false, Bool.false_or, Bool.or_true, Bool.true_or, Bool.and_false, Bool.false_and, kbe_int_NoneType, kbe_int_bool, kbe_int_int, kbe_int_str, kbe_int_tuple, kbe_int_list, kbe_int_dict, kbe_bool_NoneType, kbe_bool_bool, kbe_bool_int, kbe_bool_str, kbe_bool_tuple, kbe_bool_list, kbe_bool_dict, kbe_str_NoneType, kbe_str_bool, kbe_str_int, kbe_str_str, kbe_str_tuple, kbe_str_list, kbe_str_dict, kbe_tuple_NoneType, kbe_tuple_bool, kbe_tuple_int, kbe_tuple_str, kbe_tuple_tuple, kbe_tuple_list, kbe_tuple_dict, kbe_list_NoneType, kbe_list_bool, kbe_list_int, kbe_list_str, kbe_list_tuple, kbe_list_list, kbe_list_dict, kbe_list_tuple_NoneType, kbe_list_tuple_bool, kbe_list_tuple_int, kbe_list_tuple_str, kbe_list_tuple_tuple, kbe_list_tuple_list, kbe_list_tuple_dict, noOwn, noOwnS, wipeF, restF, List.all_cons, List.all_nil, lInsert, lPop, lAppend, sJoin, seqD, lstD, deq_int, pl_int]
  refine loopD_inv (fun i F => ∃ s a, F = ⟨[some (.ar 0), some (.sh (.int s)), a], [Cel.gone (D.scr ns)]⟩ ∧ 0 ≤ s ∧ s < 2147483647) (fun i F _ => True.intro) ?_ ?_ ⟨13969, none, rfl, by decide, by decide⟩
  · rintro i d F hi ⟨s, a, hF, h0, h1⟩ N hN
    obtain ⟨z, hz, rfl⟩ := List.mem_map.mp (List.mem_of_getElem? hi)
    subst hF
    simp only [mSh, mVar, svK, mBin, mAndV, mOrV, mNotV, mIf, mUn, dNeg, dInv, mChain, mTst, mTru, blK, mAnd, mOr, mNot, brK_tt, brK_ff, truK, mNil, mCons, mConsT, mTup, mLst, frzAll, frzK, frzS, frzA, mSl, mNoPart, mPart, dSl, mFld, dFld, lookD, intK, valK, slK, arK, valsK, mBi, mIsi, isiK, D.tag, st1, mNext, mSeq, mBreak, mCont, mDrop, mRet, mRetN, mIfS, mAsg, asgK, mAsgG, dName, dNil, dCons, dTup, mPar, setEach, Ev.sv, hold, hold_hold, retK, retS, bodyE, HD.Fr.set, HD.Fr.put, Cel.sv, Cel.toD, Cel.own, startF, mCall, argE, arr1, arr2, arr3, arr4, arrK, arrD, callK, cellsOf, celEv, celS, backF, plEv, plS, plA, plB, id_eq, true_and, and_true, List.mem_singleton, ite_true, ite_false, goodPl, isTmp, retE, evRet, celRet, List.map_cons, List.map_nil, List.length_cons, List.length_nil, List.getD_cons_zero, List.getD_cons_succ, List.getElem?_cons_zero, List.getElem?_cons_succ, List.getElem?_nil, List.set_cons_zero, List.set_cons_succ, dInt, dInt0, dCmpI, dAdd, dMul, dEq, dIsN, isNonD, dIn, dIx, mRd, mRd0, mMu, mMu0, tyD, celK, celKs, celKa, lstC, mSetF, fldC, putN, putV, dSub, ixC, mIter, mEnum, mZip, mRange1, mRange2, itemsK, itA, itemsD, mFor, mLc, mYes, mRaise, mTryAs, suiteE, mExf, exfK, exnD, mKdIn, mKdIx, mKdT, strK, mMeth, insK, mMake, makeK, mInO, mStrO, mLenO, mListG, callG, gLen, gInt, gStr, gList, gTuple, gAll, gSum, gAbs, gMax, gMin, Bool.not_true, Bool.not_false, Bool.and_true, Bool.true_and, Bool.or_false, Bool.false_or, Bool.or_true, Bool.true_or, Bool.and_false, Bool.false_and, kbe_int_NoneType, kbe_int_bool, kbe_int_int, kbe_int_str, kbe_int_tuple, kbe_int_list, kbe_int_dict, kbe_bool_NoneType, kbe_bool_bool, kbe_bool_int, kbe_bool_str, kbe_bool_tuple, kbe_bool_list, kbe_bool_dict, kbe_str_NoneType, kbe_str_bool, kbe_str_int, kbe_str_str, kbe_str_tuple, kbe_str_list, kbe_str_dict, kbe_tuple_NoneType, kbe_tuple_bool, kbe_tuple_int, kbe_tuple_str, kbe_tuple_tuple, kbe_tuple_list, kbe_tuple_dict, kbe_list_NoneType, kbe_list_bool, kbe_list_int, kbe_list_str, kbe_list_tuple, kbe_list_list, kbe_list_dict, kbe_list_tuple_NoneType, kbe_list_tuple_bool, kbe_list_tuple_int, kbe_list_tuple_str, kbe_list_tuple_tuple, kbe_list_tuple_list, kbe_list_tuple_dict, noOwn, noOwnS, wipeF, restF, List.all_cons, List.all_nil, lInsert, lPop, lAppend, sJoin, seqD, lstD, deq_int, pl_int]
    exact ⟨.inr ⟨by decide, by decide⟩, by decide, by decide, hN _ ⟨_, _, rfl, Int.emod_nonneg _ (by decide), Int.lt_trans (Int.emod_lt_of_pos _ (by decide)) (by decide)⟩⟩
  · rintro F ⟨s, a, hF, h0, h1⟩
    subst hF
    simp only [mSh, mVar, svK, mBin, mAndV, mOrV, mNotV, mIf, mUn, dNeg, dInv, mChain, mTst, mTru, blK, mAnd, mOr, mNot, brK_tt, brK_ff, truK, mNil, mCons, mConsT, mTup, mLst, frzAll, frzK, frzS, frzA, mSl, mNoPart, mPart, dSl, mFld, dFld, lookD, intK, valK, slK, arK, valsK, mBi, mIsi, isiK, D.tag, st1, mNext, mSeq, mBreak, mCont, mDrop, mRet, mRetN, mIfS, mAsg, asgK, mAsgG, dName, dNil, dCons, dTup, mPar, setEach, Ev.sv, hold, hold_hold, retK, retS, bodyE, HD.Fr.set, HD.Fr.put, Cel.sv, Cel.toD, Cel.own, startF, mCall, argE, arr1, arr2, arr3, arr4, arrK, arrD, callK, cellsOf, celEv, celS, backF, plEv, plS, plA, plB, id_eq, true_and, and_true, List.mem_singleton, ite_true, ite_false, goodPl, isTmp, retE, evRet, celRet, List.map_cons, List.map_nil, List.length_cons, List.length_nil, List.getD_cons_zero, List.getD_cons_succ, List.getElem?_cons_zero, List.getElem?_cons_succ, List.getElem?_nil, List.set_cons_zero, List.set_cons_succ, dInt, dInt0, dCmpI, dAdd, dMul, dEq, dIsN, isNonD, dIn, dIx, mRd, mRd0, mMu, mMu0, tyD, celK, celKs, celKa, lstC, mSetF, fldC, putN, putV, dSub, ixC, mIter, mEnum, mZip, mRange1, mRange2, itemsK, itA, itemsD, mFor, mLc, mYes, mRaise, mTryAs, suiteE, mExf, exfK, exnD, mKdIn, mKdIx, mKdT, strK, mMeth, insK, mMake, makeK, mInO, mStrO, mLenO, mListG, callG, gLen, gInt, gStr, gList, gTuple, gAll, gSum, gAbs, gMax, gMin, Bool.not_true, Bool.not_false, Bool.and_true, Bool.true_and, Bool.or_false, Bool.false_or, Bool.or_true, Bool.true_or, Bool.and_false, Bool.false_and, kbe_int_NoneType, kbe_int_bool, kbe_int_int, kbe_int_str, kbe_int_tuple, kbe_int_list, kbe_int_dict, kbe_bool_NoneType, kbe_bool_bool, kbe_bool_int, kbe_bool_str, kbe_bool_tuple, kbe_bool_list, kbe_bool_dict, kbe_str_NoneType, kbe_str_bool, kbe_str_int, kbe_str_str, kbe_str_tuple, kbe_str_list, kbe_str_dict, kbe_tuple_NoneType, kbe_tuple_bool, kbe_tuple_int, kbe_tuple_str, kbe_tuple_tuple, kbe_tuple_list, kbe_tuple_dict, kbe_list_NoneType, kbe_list_bool, kbe_list_int, kbe_list_str, kbe_list_tuple, kbe_list_list, kbe_list_dict, kbe_list_tuple_NoneType, kbe_list_tuple_bool, kbe_list_tuple_int, kbe_list_tuple_str, kbe_list_tuple_tuple, kbe_list_tuple_list, kbe_list_tuple_dict, noOwn, noOwnS, wipeF, restF, List.all_cons, List.all_nil, lInsert, lPop, lAppend, sJoin, seqD, lstD, deq_int, pl_int]
    exact ⟨_, rfl, by decide, q _ ⟨_, _, _, _, _, rfl, Int.le_refl 0, h0, h1⟩⟩
theorem zip_ii : ∀ (ls bs : List Int), zipD (iD ls) (iD bs) = (ls.zip bs).map fun p => .tup [.int p.1, .int p.2]
  | [], _ => by cases ‹List Int› <;> rfl
  | x :: xs, [] => rfl
  | x :: xs, l :: ls => by
    show D.tup [.int x, .int l] :: zipD (iD xs) (iD ls) = _
    rw [zip_ii xs ls]; rfl
theorem any_id {α : Type} (f : α → Bool) : ∀ xs : List α, (xs.map f).any id = xs.any f
  | [] => rfl
  | x :: xs => by rw [List.map_cons, List.any_cons, List.any_cons, any_id f xs]; rfl
theorem zipL {α β : Type} {xs : List α} {ys : List β} {f : α × β → D} {n : Nat} (h : xs.length < n) (hn : n ≤ sizeLine) : ((xs.zip ys).map f).length < sizeLine := by
  rw [List.length_map, List.length_zip]; exact Nat.lt_of_le_of_lt (Nat.min_le_left _ _) (Nat.lt_of_lt_of_le h hn)
theorem ok_end_row : ∀ cs Q E, cs.length = 2 → sp_end_row cs Q E → m_end_row (bodyE Q E) (startF 4 cs) := by
  rintro cs Q E - ⟨ls, bs, rfl, hl, q⟩
  show m_end_row (bodyE Q E) ⟨[some (.ar 0), some (.ar 1), none, none], _⟩
  unfold m_end_row
  simp only [mSh, mVar, svK, mBin, mAndV, mOrV, mNotV, mIf, mUn, dNeg, dInv, mChain, mTst, mTru, blK, mAnd, mOr, mNot, brK_tt, brK_ff, truK, mNil, mCons, mConsT, mTup, mLst, frzAll, frzK, frzS, frzA, mSl, mNoPart, mPart, dSl, mFld, dFld, lookD, intK, valK, slK, arK, valsK, mBi, mIsi, isiK, D.tag, st1, mNext, mSeq, mBreak, mCont, mDrop, mRet, mRetN, mIfS, mAsg, asgK, mAsgG, dName, dNil, dCons, dTup, mPar, setEach, Ev.sv, hold, hold_hold, retK, retS, bodyE, HD.Fr.set, HD.Fr.put, Cel.sv, Cel.toD, Cel.own, startF, mCall, argE, arr1, arr2, arr3, arr4, arrK, arrD, callK, cellsOf, celEv, celS, backF, plEv, plS, plA, plB, id_eq, true_and, and_true, List.mem_singleton, ite_true, ite_false, goodPl, isTmp, retE, evRet, celRet, List.map_cons, List.map_nil, List.length_cons, List.length_nil, List.getD_cons_zero, List.getD_cons_succ, List.getElem?_cons_zero, List.getElem?_cons_succ, List.getElem?_nil, List.set_cons_zero, List.set_cons_succ, dInt, dInt0, dCmpI, dAdd, dMul, dEq, dIsN, isNonD, dIn, dIx, mRd, mRd0, mMu, mMu0, tyD, celK, celKs, celKa, lstC, mSetF, fldC, putN, putV, dSub, ixC, mIter, mEnum, mZip, mRange1, mRange2, itemsK, itA, itemsD, mFor, mLc, mYes, mRaise, mTryAs, suiteE, mExf, exfK, exnD, mKdIn, mKdIx, mKdT, strK, mMeth, insK, mMake, makeK, mInO, mStrO, mLenO, mListG, callG, gLen, gInt, gStr, gList, gTuple, gAll, gSum, gAbs, gMax, gMin, Bool.not_true, Bool.not_false, Bool.and_true, Bool.true_and, Bool.or_false, Bool.false_or, Bool.or_true, Bool.true_or, Bool.and_false, Bool.false_and, kbe_int_NoneType, kbe_int_bool, kbe_int_int, kbe_int_str, kbe_int_tuple, kbe_int_list, kbe_int_dict, kbe_bool_NoneType, kbe_bool_bool, kbe_bool_int, kbe_bool_str, kbe_bool_tuple, kbe_bool_list, kbe_bool_dict, kbe_str_NoneType, kbe_str_bool, kbe_str_int, kbe_str_str, kbe_str_tuple, kbe_str_list, kbe_str_dict, kbe_tuple_NoneType, kbe_tuple_bool, kbe_tuple_int, kbe_tuple_str, kbe_tuple_tuple, kbe_tuple_list, kbe_tuple_dict, kbe_list_NoneType, kbe_list_bool, kbe_list_int, kbe_list_str, kbe_list_tuple, kbe_list_list, kbe_list_dict, kbe_list_tuple_NoneType, kbe_list_tuple_bool, kbe_list_tuple_int, kbe_list_tuple_str, kbe_list_tuple_tuple, kbe_list_tuple_list, kbe_list_tuple_dict, noOwn, noOwnS, wipeF, restF, List.all_cons, List.all_nil, lInsert, lPop, lAppend, sJoin, seqD, lstD, deq_int, pl_int]
  rw [zip_ii]
  refine compD_map (fun d => match d with | .tup [.int x, .int l] => .int (if l = 1 then x else 0) | _ => .non) ⟨rfl, rfl⟩ (zipL hl (by decide)) (fun d hd acc N ha hN => ?_) ?_
  · obtain ⟨⟨x, l⟩, hp, rfl⟩ := List.mem_map.mp hd
    simp only [turnD, mSh, mVar, svK, mBin, mAndV, mOrV, mNotV, mIf, mUn, dNeg, dInv, mChain, mTst, mTru, blK, mAnd, mOr, mNot, brK_tt, brK_ff, truK, mNil, mCons, mConsT, mTup, mLst, frzAll, frzK, frzS, frzA, mSl, mNoPart, mPart, dSl, mFld, dFld, lookD, intK, valK, slK, arK, valsK, mBi, mIsi, isiK, D.tag, st1, mNext, mSeq, mBreak, mCont, mDrop, mRet, mRetN, mIfS, mAsg, asgK, mAsgG, dName, dNil, dCons, dTup, mPar, setEach, Ev.sv, hold, hold_hold, retK, retS, bodyE, HD.Fr.set, HD.Fr.put, Cel.sv, Cel.toD, Cel.own, startF, mCall, argE, arr1, arr2, arr3, arr4, arrK, arrD, callK, cellsOf, celEv, celS, backF, plEv, plS, plA, plB, id_eq, true_and, and_true, List.mem_singleton, ite_true, ite_false, goodPl, isTmp, retE, evRet, celRet, List.map_cons, List.map_nil, List.length_cons, List.length_nil, List.getD_cons_zero, List.getD_cons_succ, List.getElem?_cons_zero, List.getElem?_cons_succ, List.getElem?_nil, List.set_cons_zero, List.set_cons_succ, dInt, dInt0, dCmpI, dAdd, dMul, dEq, dIsN, isNonD, dIn, dIx, mRd, mRd0, mMu, mMu0, tyD, celK, celKs, celKa, lstC, mSetF, fldC, putN, putV, dSub, ixC, mIter, mEnum, mZip, mRange1, mRange2, itemsK, itA, itemsD, mFor, mLc, mYes, mRaise, mTryAs, suiteE, mExf, exfK, exnD, mKdIn, mKdIx, mKdT, strK, mMeth, insK, mMake, makeK, mInO, mStrO, mLenO, mListG, callG, gLen, gInt, gStr, gList, gTuple, gAll, gSum, gAbs, gMax, gMin, Bool.not_true, Bool.not_false, Bool.and_true, Bool.true_and, Bool.or_false, Bool.false_or, Bool.or_true, Bool.true_or, Bool.and_false, Bool.false_and, kbe_int_NoneType, kbe_int_bool, kbe_int_int, kbe_int_str, kbe_int_tuple, kbe_int_list, kbe_int_dict, kbe_bool_NoneType, kbe_bool_bool, kbe_bool_int, kbe_bool_str, kbe_bool_tuple, kbe_bool_list, kbe_bool_dict, kbe_str_NoneType, kbe_str_bool, kbe_str_int, kbe_str_str, kbe_str_tuple, kbe_str_list, kbe_str_dict, kbe_tuple_NoneType, kbe_tuple_bool, kbe_tuple_int, kbe_tuple_str, kbe_tuple_tuple, kbe_tuple_list, kbe_tuple_dict, kbe_list_NoneType, kbe_list_bool, kbe_list_int, kbe_list_str, kbe_list_tuple, kbe_list_list, kbe_list_dict, kbe_list_tuple_NoneType, kbe_list_tuple_bool, kbe_list_tuple_int, kbe_list_tuple_str, kbe_list_tuple_tuple, kbe_list_tuple_list, kbe_list_tuple_dict, noOwn, noOwnS, wipeF, restF, List.all_cons, List.all_nil, lInsert, lPop, lAppend, sJoin, seqD, lstD, deq_int, pl_int]
    refine ⟨fun h => ?_, fun h => ?_⟩
    · have h : l = 1 := by simpa using h
      simp only [if_pos h] at hN
      exact ⟨ha, hN⟩
    · have h : ¬ l = 1 := by simpa using h
      simp only [if_neg h] at hN
      exact ⟨ha, hN⟩
  · refine ⟨_, rfl, ?_⟩
    have e : List.map (fun d => match d with | .tup [.int x, .int l] => D.int (if l = 1 then x else 0) | _ => .non) ((ls.zip bs).map fun p => D.tup [D.int p.1, D.int p.2]) = iD (endRow ls bs) := by
      unfold iD endRow
      rw [List.map_map, List.map_map]; rfl
    rw [e]
    exact q
theorem ok_ended : ∀ cs Q E, cs.length = 2 → sp_ended cs Q E → m_ended (bodyE Q E) (startF 4 cs) := by
  rintro cs Q E - ⟨ls, rs, rfl, hl, q⟩
  show m_ended (bodyE Q E) ⟨[some (.ar 0), some (.ar 1), none, none], _⟩
  unfold m_ended
  simp only [mSh, mVar, svK, mBin, mAndV, mOrV, mNotV, mIf, mUn, dNeg, dInv, mChain, mTst, mTru, blK, mAnd, mOr, mNot, brK_tt, brK_ff, truK, mNil, mCons, mConsT, mTup, mLst, frzAll, frzK, frzS, frzA, mSl, mNoPart, mPart, dSl, mFld, dFld, lookD, intK, valK, slK, arK, valsK, mBi, mIsi, isiK, D.tag, st1, mNext, mSeq, mBreak, mCont, mDrop, mRet, mRetN, mIfS, mAsg, asgK, mAsgG, dName, dNil, dCons, dTup, mPar, setEach, Ev.sv, hold, hold_hold, retK, retS, bodyE, HD.Fr.set, HD.Fr.put, Cel.sv, Cel.toD, Cel.own, startF, mCall, argE, arr1, arr2, arr3, arr4, arrK, arrD, callK, cellsOf, celEv, celS, backF, plEv, plS, plA, plB, id_eq, true_and, and_true, List.mem_singleton, ite_true, ite_false, goodPl, isTmp, retE, evRet, celRet, List.map_cons, List.map_nil, List.length_cons, List.length_nil, List.getD_cons_zero, List.getD_cons_succ, List.getElem?_cons_zero, List.getElem?_cons_succ, List.getElem?_nil, List.set_cons_zero, List.set_cons_succ, dInt, dInt0, dCmpI, dAdd, dMul, dEq, dIsN, isNonD, dIn, dIx, mRd, mRd0, mMu, mMu0, tyD, celK, celKs, celKa, lstC, mSetF, fldC, putN, putV, dSub, ixC, mIter, mEnum, mZip, mRange1, mRange2, itemsK, itA, itemsD, mFor, mLc, mYes, mRaise, mTryAs, suiteE, mExf, exfK, exnD, mKdIn, mKdIx, mKdT, strK, mMeth, insK, mMake, makeK, mInO, mStrO, mLenO, mListG, callG, gLen, gInt, gStr, gList, gTuple, gAll, gSum, gAbs, gMax, gMin, Bool.not_true, Bool.not_false, Bool.and_true, Bool.true_and, Bool.or_false, Bool.false_or, Bool.or_true, Bool.true_or, Bool.and_false, Bool.false_and, kbe_int_NoneType, kbe_int_bool, kbe_int_int, kbe_int_str, kbe_int_tuple, kbe_int_list, kbe_int_dict, kbe_bool_NoneType, kbe_bool_bool, kbe_bool_int, kbe_bool_str, kbe_bool_tuple, kbe_bool_list, kbe_bool_dict, kbe_str_NoneType, kbe_str_bool, kbe_str_int, kbe_str_str, kbe_str_tuple, kbe_str_list, kbe_str_dict, kbe_tuple_NoneType, kbe_tuple_bool, kbe_tuple_int, kbe_tuple_str, kbe_tuple_tuple, kbe_tuple_list, kbe_tuple_dict, kbe_list_NoneType, kbe_list_bool, kbe_list_int, kbe_list_str, kbe_list_tuple, kbe_list_list, kbe_list_dict, kbe_list_tuple_NoneType, kbe_list_tuple_bool, kbe_list_tuple_int, kbe_list_tuple_str, kbe_list_tuple_tuple, kbe_list_tuple_list, kbe_list_tuple_dict, noOwn, noOwnS, wipeF, restF, List.all_cons, List.all_nil, lInsert, lPop, lAppend, sJoin, seqD, lstD, deq_int, pl_int]
  rw [zip_ii]
  refine compD_map (fun d => match d with | .tup [.int x, .int l] => .bl (decide (0 < x) && decide (x < l)) | _ => .non) ⟨rfl, rfl⟩ (zipL hl (by decide)) (fun d hd acc N ha hN => ?_) ?_
  · obtain ⟨⟨x, l⟩, hp, rfl⟩ := List.mem_map.mp hd
    simp only [turnD, mSh, mVar, svK, mBin, mAndV, mOrV, mNotV, mIf, mUn, dNeg, dInv, mChain, mTst, mTru, blK, mAnd, mOr, mNot, brK_tt, brK_ff, truK, mNil, mCons, mConsT, mTup, mLst, frzAll, frzK, frzS, frzA, mSl, mNoPart, mPart, dSl, mFld, dFld, lookD, intK, valK, slK, arK, valsK, mBi, mIsi, isiK, D.tag, st1, mNext, mSeq, mBreak, mCont, mDrop, mRet, mRetN, mIfS, mAsg, asgK, mAsgG, dName, dNil, dCons, dTup, mPar, setEach, Ev.sv, hold, hold_hold, retK, retS, bodyE, HD.Fr.set, HD.Fr.put, Cel.sv, Cel.toD, Cel.own, startF, mCall, argE, arr1, arr2, arr3, arr4, arrK, arrD, callK, cellsOf, celEv, celS, backF, plEv, plS, plA, plB, id_eq, true_and, and_true, List.mem_singleton, ite_true, ite_false, goodPl, isTmp, retE, evRet, celRet, List.map_cons, List.map_nil, List.length_cons, List.length_nil, List.getD_cons_zero, List.getD_cons_succ, List.getElem?_cons_zero, List.getElem?_cons_succ, List.getElem?_nil, List.set_cons_zero, List.set_cons_succ, dInt, dInt0, dCmpI, dAdd, dMul, dEq, dIsN, isNonD, dIn, dIx, mRd, mRd0, mMu, mMu0, tyD, celK, celKs, celKa, lstC, mSetF, fldC, putN, putV, dSub, ixC, mIter, mEnum, mZip, mRange1, mRange2, itemsK, itA, itemsD, mFor, mLc, mYes, mRaise, mTryAs, suiteE, mExf, exfK, exnD, mKdIn, mKdIx, mKdT, strK, mMeth, insK, mMake, makeK, mInO, mStrO, mLenO, mListG, callG, gLen, gInt, gStr, gList, gTuple, gAll, gSum, gAbs, gMax, gMin, Bool.not_true, Bool.not_false, Bool.and_true, Bool.true_and, Bool.or_false, Bool.false_or, Bool.or_true, Bool.true_or, Bool.and_false, Bool.false_and, kbe_int_NoneType, kbe_int_bool, kbe_int_int, kbe_int_str, kbe_int_tuple, kbe_int_list, kbe_int_dict, kbe_bool_NoneType, kbe_bool_bool, kbe_bool_int, kbe_bool_str, kbe_bool_tuple, kbe_bool_list, kbe_bool_dict, kbe_str_NoneType, kbe_str_bool, kbe_str_int, kbe_str_str, kbe_str_tuple, kbe_str_list, kbe_str_dict, kbe_tuple_NoneType, kbe_tuple_bool, kbe_tuple_int, kbe_tuple_str, kbe_tuple_tuple, kbe_tuple_list, kbe_tuple_dict, kbe_list_NoneType, kbe_list_bool, kbe_list_int, kbe_list_str, kbe_list_tuple, kbe_list_list, kbe_list_dict, kbe_list_tuple_NoneType, kbe_list_tuple_bool, kbe_list_tuple_int, kbe_list_tuple_str, kbe_list_tuple_tuple, kbe_list_tuple_list, kbe_list_tuple_dict, noOwn, noOwnS, wipeF, restF, List.all_cons, List.all_nil, lInsert, lPop, lAppend, sJoin, seqD, lstD, deq_int, pl_int]
    refine ⟨fun h => ?_, fun h => ?_⟩
    · have h : 0 < x := by simpa using h
      exact ⟨ha, by simpa [h] using hN⟩
    · have h : ¬ 0 < x := by simpa using h
      exact ⟨ha, by simpa [h] using hN⟩
  · refine ⟨(rs.zip ls).map fun p => decide (0 < p.1) && decide (p.1 < p.2), by rw [List.map_map, List.map_map]; rfl, ?_⟩
    rw [any_id]
    unfold endedD at q
    refine ⟨fun h => ?_, fun h => ?_⟩
    · rw [if_pos h] at q; exact q
    · rw [if_neg (by rw [h]; decide)] at q
      simp only [mSh, mVar, svK, mBin, mAndV, mOrV, mNotV, mIf, mUn, dNeg, dInv, mChain, mTst, mTru, blK, mAnd, mOr, mNot, brK_tt, brK_ff, truK, mNil, mCons, mConsT, mTup, mLst, frzAll, frzK, frzS, frzA, mSl, mNoPart, mPart, dSl, mFld, dFld, lookD, intK, valK, slK, arK, valsK, mBi, mIsi, isiK, D.tag, st1, mNext, mSeq, mBreak, mCont, mDrop, mRet, mRetN, mIfS, mAsg, asgK, mAsgG, dName, dNil, dCons, dTup, mPar, setEach, Ev.sv, hold, hold_hold, retK, retS, bodyE, HD.Fr.set, HD.Fr.put, Cel.sv, Cel.toD, Cel.own, startF, mCall, argE, arr1, arr2, arr3, arr4, arrK, arrD, callK, cellsOf, celEv, celS, backF, plEv, plS, plA, plB, id_eq, true_and, and_true, List.mem_singleton, ite_true, ite_false, goodPl, isTmp, retE, evRet, celRet, List.map_cons, List.map_nil, List.length_cons, List.length_nil, List.getD_cons_zero, List.getD_cons_succ, List.getElem?_cons_zero, List.getElem?_cons_succ, List.getElem?_nil, List.set_cons_zero, List.set_cons_succ, dInt, dInt0, dCmpI, dAdd, dMul, dEq, dIsN, isNonD, dIn, dIx, mRd, mRd0, mMu, mMu0, tyD, celK, celKs, celKa, lstC, mSetF, fldC, putN, putV, dSub, ixC, mIter, mEnum, mZip, mRange1, mRange2, itemsK, itA, itemsD, mFor, mLc, mYes, mRaise, mTryAs, suiteE, mExf, exfK, exnD, mKdIn, mKdIx, mKdT, strK, mMeth, insK, mMake, makeK, mInO, mStrO, mLenO, mListG, callG, gLen, gInt, gStr, gList, gTuple, gAll, gSum, gAbs, gMax, gMin, Bool.not_true, Bool.not_false, Bool.and_true, Bool.true_and, Bool.or_false, Bool.false_or, Bool.or_true, Bool.true_or, Bool.and_false, Bool.false_and, kbe_int_NoneType, kbe_int_bool, kbe_int_int, kbe_int_str, kbe_int_tuple, kbe_int_list, kbe_int_dict, kbe_bool_NoneType, kbe_bool_bool, kbe_bool_int, kbe_bool_str, kbe_bool_tuple, kbe_bool_list, kbe_bool_dict, kbe_str_NoneType, kbe_str_bool, kbe_str_int, kbe_str_str, kbe_str_tuple, kbe_str_list, kbe_str_dict, kbe_tuple_NoneType, kbe_tuple_bool, kbe_tuple_int, kbe_tuple_str, kbe_tuple_tuple, kbe_tuple_list, kbe_tuple_dict, kbe_list_NoneType, kbe_list_bool, kbe_list_int, kbe_list_str, kbe_list_tuple, kbe_list_list, kbe_list_dict, kbe_list_tuple_NoneType, kbe_list_tuple_bool, kbe_list_tuple_int, kbe_list_tuple_str, kbe_list_tuple_tuple, kbe_list_tuple_list, kbe_list_tuple_dict, noOwn, noOwnS, wipeF, restF, List.all_cons, List.all_nil, lInsert, lPop, lAppend, sJoin, seqD, lstD, deq_int, pl_int]
      refine compD_map (fun d => match d with | .int x => .int (if 0 < x then 1 else 0) | _ => .non) rfl (by unfold iD; rw [List.length_map]; exact Nat.lt_trans hl (by decide)) (fun d hd acc N ha hN => ?_) ?_
      · obtain ⟨x, hp, rfl⟩ := List.mem_map.mp hd
        simp only [turnD, mSh, mVar, svK, mBin, mAndV, mOrV, mNotV, mIf, mUn, dNeg, dInv, mChain, mTst, mTru, blK, mAnd, mOr, mNot, brK_tt, brK_ff, truK, mNil, mCons, mConsT, mTup, mLst, frzAll, frzK, frzS, frzA, mSl, mNoPart, mPart, dSl, mFld, dFld, lookD, intK, valK, slK, arK, valsK, mBi, mIsi, isiK, D.tag, st1, mNext, mSeq, mBreak, mCont, mDrop, mRet, mRetN, mIfS, mAsg, asgK, mAsgG, dName, dNil, dCons, dTup, mPar, setEach, Ev.sv, hold, hold_hold, retK, retS, bodyE, HD.Fr.set, HD.Fr.put, Cel.sv, Cel.toD, Cel.own, startF, mCall, argE, arr1, arr2, arr3, arr4, arrK, arrD, callK, cellsOf, celEv, celS, backF, plEv, plS, plA, plB, id_eq, true_and, and_true, List.mem_singleton, ite_true, ite_false, goodPl, isTmp, retE, evRet, celRet, List.map_cons, List.map_nil, List.length_cons, List.length_nil, List.getD_cons_zero, List.getD_cons_succ, List.getElem?_cons_zero, List.getElem?_cons_succ, List.getElem?_nil, List.set_cons_zero, List.set_cons_succ, dInt, dInt0, dCmpI, dAdd, dMul, dEq, dIsN, isNonD, dIn, dIx, mRd, mRd0, mMu, mMu0, tyD, celK, celKs, celKa, lstC, mSetF, fldC, putN, putV, dSub, ixC, mIter, mEnum, mZip, mRange1, mRange2, itemsK, itA, itemsD, mFor, mLc, mYes, mRaise, mTryAs, suiteE, mExf, exfK, exnD, mKdIn, mKdIx, mKdT, strK, mMeth, insK, mMake, makeK, mInO, mStrO, mLenO, mListG, callG, gLen, gInt, gStr, gList, gTuple, gAll, gSum, gAbs, gMax, gMin, Bool.not_true, Bool.not_false, Bool.and_true, Bool.true_and, Bool.or_false, Bool.false_or, Bool.or_true, Bool.true_or, Bool.and_false, Bool.false_and, kbe_int_NoneType, kbe_int_bool, kbe_int_int, kbe_int_str, kbe_int_tuple, kbe_int_list, kbe_int_dict, kbe_bool_NoneType, kbe_bool_bool, kbe_bool_int, kbe_bool_str, kbe_bool_tuple, kbe_bool_list, kbe_bool_dict, kbe_str_NoneType, kbe_str_bool, kbe_str_int, kbe_str_str, kbe_str_tuple, kbe_str_list, kbe_str_dict, kbe_tuple_NoneType, kbe_tuple_bool, kbe_tuple_int, kbe_tuple_str, kbe_tuple_tuple, kbe_tuple_list, kbe_tuple_dict, kbe_list_NoneType, kbe_list_bool, kbe_list_int, kbe_list_str, kbe_list_tuple, kbe_list_list, kbe_list_dict, kbe_list_tuple_NoneType, kbe_list_tuple_bool, kbe_list_tuple_int, kbe_list_tuple_str, kbe_list_tuple_tuple, kbe_list_tuple_list, kbe_list_tuple_dict, noOwn, noOwnS, wipeF, restF, List.all_cons, List.all_nil, lInsert, lPop, lAppend, sJoin, seqD, lstD, deq_int, pl_int]
        refine ⟨fun h => ?_, fun h => ?_⟩
        · have h : 0 < x := by simpa using h
          exact ⟨ha, by simpa [h] using hN⟩
        · have h : ¬ 0 < x := by simpa using h
          exact ⟨ha, by simpa [h] using hN⟩
      · refine ⟨_, rfl, ?_⟩
        unfold iD at q ⊢
        rw [List.map_map] at q ⊢
        exact q

end K10
set_option Elab.async false
set_option linter.all false
set_option maxRecDepth 100000
set_option maxHeartbeats 4000000
namespace K10
open PySem PySem.Spec PyProof.Rows L2 HD
theorem zip_mm {α β : Type} (f : α → D) (g : β → D) : ∀ (xs : List α) (ys : List β), zipD (xs.map f) (ys.map g) = (xs.zip ys).map fun p => .tup [f p.1, g p.2]
  | [], _ => by cases ‹List β› <;> rfl
  | x :: xs, [] => rfl
  | x :: xs, y :: ys => by
    show D.tup [f x, g y] :: zipD (xs.map f) (ys.map g) = _
    rw [zip_mm f g xs ys]; rfl
theorem deq_str (a b : Str) : deq (.str a) (.str b) = decide (a = b) := by
  have h : deq (.str a) (.str b) = (a == b) := by simp [deq, D.toPy, PyData.eqv]
  rw [h]
  by_cases e : a = b
  · rw [e, beq_self_eq_true, decide_eq_true rfl]
  · rw [beq_eq_false_iff_ne.mpr e, decide_eq_false e]
theorem all_ext {α : Type} {f g : α → Bool} : ∀ {xs : List α}, (∀ x ∈ xs, f x = g x) → xs.all f = xs.all g
  | [], _ => rfl
  | x :: xs, h => by rw [List.all_cons, List.all_cons, h x List.mem_cons_self, all_ext fun y hy => h y (List.mem_cons_of_mem _ hy)]
theorem filterMap_none {α β : Type} : ∀ xs : List α, xs.filterMap (fun _ => (none : Option β)) = []
  | [] => rfl
  | x :: xs => by rw [List.filterMap_cons]; exact filterMap_none xs
theorem bitD_ne {c : Nat} (h : c = 48 ∨ c = 49 ∨ c = 42) (n : c ≠ 42) : isNonD (bitD c) = false := by
  rcases h with rfl | rfl | rfl
  · rfl
  · rfl
  · exact absurd rfl n
theorem ok_Room_open_cells : ∀ cs Q E, cs.length = 1 → sp_Room_open_cells cs Q E → m_Room_open_cells (bodyE Q E) (startF 3 cs) := by
  rintro cs Q E - ⟨t, rfl, ht, hn, q⟩
  show m_Room_open_cells (bodyE Q E) ⟨[some (.ar 0), none, none], _⟩
  unfold m_Room_open_cells roomD
  simp only [mSh, mVar, svK, mBin, mAndV, mOrV, mNotV, mIf, mUn, dNeg, dInv, mChain, mTst, mTru, blK, mAnd, mOr, mNot, brK_tt, brK_ff, truK, mNil, mCons, mConsT, mTup, mLst, frzAll, frzK, frzS, frzA, mSl, mNoPart, mPart, dSl, mFld, dFld, lookD, intK, valK, slK, arK, valsK, mBi, mIsi, isiK, D.tag, st1, mNext, mSeq, mBreak, mCont, mDrop, mRet, mRetN, mIfS, mAsg, asgK, mAsgG, dName, dNil, dCons, dTup, mPar, setEach, Ev.sv, hold, hold_hold, retK, retS, bodyE, HD.Fr.set, HD.Fr.put, Cel.sv, Cel.toD, Cel.own, startF, mCall, argE, arr1, arr2, arr3, arr4, arrK, arrD, callK, cellsOf, celEv, celS, backF, plEv, plS, plA, plB, id_eq, true_and, and_true, List.mem_singleton, ite_true, ite_false, goodPl, isTmp, retE, evRet, celRet, List.map_cons, List.map_nil, List.length_cons, List.length_nil, List.getD_cons_zero, List.getD_cons_succ, List.getElem?_cons_zero, List.getElem?_cons_succ, List.getElem?_nil, List.set_cons_zero, List.set_cons_succ, dInt, dInt0, dCmpI, dAdd, dMul, dEq, dIsN, isNonD, dIn, dIx, mRd, mRd0, mMu, mMu0, tyD, celK, celKs, celKa, lstC, mSetF, fldC, putN, putV, dSub, ixC, mIter, mEnum, mZip, mRange1, mRange2, itemsK, itA, itemsD, mFor, mLc, mYes, mRaise, mTryAs, suiteE, mExf, exfK, exnD, mKdIn, mKdIx, mKdT, strK, mMeth, insK, mMake, makeK, mInO, mStrO, mLenO, mListG, callG, gLen, gInt, gStr, gList, gTuple, gAll, gSum, gAbs, gMax, gMin, Bool.not_true, Bool.not_false, Bool.and_true, Bool.true_and, Bool.or_false, Bool.false_or, Bool.or_true, Bool.true_or, Bool.and_false, Bool.false_and, kbe_int_NoneType, kbe_int_bool, kbe_int_int, kbe_int_str, kbe_int_tuple, kbe_int_list, kbe_int_dict, kbe_bool_NoneType, kbe_bool_bool, kbe_bool_int, kbe_bool_str, kbe_bool_tuple, kbe_bool_list, kbe_bool_dict, kbe_str_NoneType, kbe_str_bool, kbe_str_int, kbe_str_str, kbe_str_tuple, kbe_str_list, kbe_str_dict, kbe_tuple_NoneType, kbe_tuple_bool, kbe_tuple_int, kbe_tuple_str, kbe_tuple_tuple, kbe_tuple_list, kbe_tuple_dict, kbe_list_NoneType, kbe_list_bool, kbe_list_int, kbe_list_str, kbe_list_tuple, kbe_list_list, kbe_list_dict, kbe_list_tuple_NoneType, kbe_list_tuple_bool, kbe_list_tuple_int, kbe_list_tuple_str, kbe_list_tuple_tuple, kbe_list_tuple_list, kbe_list_tuple_dict, noOwn, noOwnS, wipeF, restF, List.all_cons, List.all_nil, lInsert, lPop, lAppend, sJoin, seqD, lstD, ex_some, bt_ne, tb_ne]
  refine compD_filter (fun _ => none) True.intro (by rw [enumD_len]; unfold bitsD; rw [List.length_map]; exact Nat.lt_of_le_of_lt ht.2.1 (by decide)) (fun d hd acc N ha hN => ?_) ?_
  · obtain ⟨i, hi⟩ := List.getElem?_of_mem hd
    obtain ⟨x, hx, rfl⟩ := enumD_get hi
    obtain ⟨c, hc, rfl⟩ := List.mem_map.mp (List.mem_of_getElem? hx)
    rcases ht.2.2 c hc with rfl | rfl | rfl
    · simp only [turnD, mSh, mVar, svK, mBin, mAndV, mOrV, mNotV, mIf, mUn, dNeg, dInv, mChain, mTst, mTru, blK, mAnd, mOr, mNot, brK_tt, brK_ff, truK, mNil, mCons, mConsT, mTup, mLst, frzAll, frzK, frzS, frzA, mSl, mNoPart, mPart, dSl, mFld, dFld, lookD, intK, valK, slK, arK, valsK, mBi, mIsi, isiK, D.tag, st1, mNext, mSeq, mBreak, mCont, mDrop, mRet, mRetN, mIfS, mAsg, asgK, mAsgG, dName, dNil, dCons, dTup, mPar, setEach, Ev.sv, hold, hold_hold, retK, retS, bodyE, HD.Fr.set, HD.Fr.put, Cel.sv, Cel.toD, Cel.own, startF, mCall, argE, arr1, arr2, arr3, arr4, arrK, arrD, callK, cellsOf, celEv, celS, backF, plEv, plS, plA, plB, id_eq, true_and, and_true, List.mem_singleton, ite_true, ite_false, goodPl, isTmp, retE, evRet, celRet, List.map_cons, List.map_nil, List.length_cons, List.length_nil, List.getD_cons_zero, List.getD_cons_succ, List.getElem?_cons_zero, List.getElem?_cons_succ, List.getElem?_nil, List.set_cons_zero, List.set_cons_succ, dInt, dInt0, dCmpI, dAdd, dMul, dEq, dIsN, isNonD, dIn, dIx, mRd, mRd0, mMu, mMu0, tyD, celK, celKs, celKa, lstC, mSetF, fldC, putN, putV, dSub, ixC, mIter, mEnum, mZip, mRange1, mRange2, itemsK, itA, itemsD, mFor, mLc, mYes, mRaise, mTryAs, suiteE, mExf, exfK, exnD, mKdIn, mKdIx, mKdT, strK, mMeth, insK, mMake, makeK, mInO, mStrO, mLenO, mListG, callG, gLen, gInt, gStr, gList, gTuple, gAll, gSum, gAbs, gMax, gMin, Bool.not_true, Bool.not_false, Bool.and_true, Bool.true_and, Bool.or_false, Bool.false_or, Bool.or_true, Bool.true_or, Bool.and_false, Bool.false_and, kbe_int_NoneType, kbe_int_bool, kbe_int_int, kbe_int_str, kbe_int_tuple, kbe_int_list, kbe_int_dict, kbe_bool_NoneType, kbe_bool_bool, kbe_bool_int, kbe_bool_str, kbe_bool_tuple, kbe_bool_list, kbe_bool_dict, kbe_str_NoneType, kbe_str_bool, kbe_str_int, kbe_str_str, kbe_str_tuple, kbe_str_list, kbe_str_dict, kbe_tuple_NoneType, kbe_tuple_bool, kbe_tuple_int, kbe_tuple_str, kbe_tuple_tuple, kbe_tuple_list, kbe_tuple_dict, kbe_list_NoneType, kbe_list_bool, kbe_list_int, kbe_list_str, kbe_list_tuple, kbe_list_list, kbe_list_dict, kbe_list_tuple_NoneType, kbe_list_tuple_bool, kbe_list_tuple_int, kbe_list_tuple_str, kbe_list_tuple_tuple, kbe_list_tuple_list, kbe_list_tuple_dict, noOwn, noOwnS, wipeF, restF, List.all_cons, List.all_nil, lInsert, lPop, lAppend, sJoin, seqD, lstD, ex_some, show bitD 48 = .int 0 from rfl]
      simpa using hN
    · simp only [turnD, mSh, mVar, svK, mBin, mAndV, mOrV, mNotV, mIf, mUn, dNeg, dInv, mChain, mTst, mTru, blK, mAnd, mOr, mNot, brK_tt, brK_ff, truK, mNil, mCons, mConsT, mTup, mLst, frzAll, frzK, frzS, frzA, mSl, mNoPart, mPart, dSl, mFld, dFld, lookD, intK, valK, slK, arK, valsK, mBi, mIsi, isiK, D.tag, st1, mNext, mSeq, mBreak, mCont, mDrop, mRet, mRetN, mIfS, mAsg, asgK, mAsgG, dName, dNil, dCons, dTup, mPar, setEach, Ev.sv, hold, hold_hold, retK, retS, bodyE, HD.Fr.set, HD.Fr.put, Cel.sv, Cel.toD, Cel.own, startF, mCall, argE, arr1, arr2, arr3, arr4, arrK, arrD, callK, cellsOf, celEv, celS, backF, plEv, plS, plA, plB, id_eq, true_and, and_true, List.mem_singleton, ite_true, ite_false, goodPl, isTmp, retE, evRet, celRet, List.map_cons, List.map_nil, List.length_cons, List.length_nil, List.getD_cons_zero, List.getD_cons_succ, List.getElem?_cons_zero, List.getElem?_cons_succ, List.getElem?_nil, List.set_cons_zero, List.set_cons_succ, dInt, dInt0, dCmpI, dAdd, dMul, dEq, dIsN, isNonD, dIn, dIx, mRd, mRd0, mMu, mMu0, tyD, celK, celKs, celKa, lstC, mSetF, fldC, putN, putV, dSub, ixC, mIter, mEnum, mZip, mRange1, mRange2, itemsK, itA, itemsD, mFor, mLc, mYes, mRaise, mTryAs, suiteE, mExf, exfK, exnD, mKdIn, mKdIx, mKdT, strK, mMeth, insK, mMake, makeK, mInO, mStrO, mLenO, mListG, callG, gLen, gInt, gStr, gList, gTuple, gAll, gSum, gAbs, gMax, gMin, Bool.not_true, Bool.not_false, Bool.and_true, Bool.true_and, Bool.or_false, Bool.false_or, Bool.or_true, Bool.true_or, Bool.and_false, Bool.false_and, kbe_int_NoneType, kbe_int_bool, kbe_int_int, kbe_int_str, kbe_int_tuple, kbe_int_list, kbe_int_dict, kbe_bool_NoneType, kbe_bool_bool, kbe_bool_int, kbe_bool_str, kbe_bool_tuple, kbe_bool_list, kbe_bool_dict, kbe_str_NoneType, kbe_str_bool, kbe_str_int, kbe_str_str, kbe_str_tuple, kbe_str_list, kbe_str_dict, kbe_tuple_NoneType, kbe_tuple_bool, kbe_tuple_int, kbe_tuple_str, kbe_tuple_tuple, kbe_tuple_list, kbe_tuple_dict, kbe_list_NoneType, kbe_list_bool, kbe_list_int, kbe_list_str, kbe_list_tuple, kbe_list_list, kbe_list_dict, kbe_list_tuple_NoneType, kbe_list_tuple_bool, kbe_list_tuple_int, kbe_list_tuple_str, kbe_list_tuple_tuple, kbe_list_tuple_list, kbe_list_tuple_dict, noOwn, noOwnS, wipeF, restF, List.all_cons, List.all_nil, lInsert, lPop, lAppend, sJoin, seqD, lstD, ex_some, show bitD 49 = .int 1 from rfl]
      simpa using hN
    · exact absurd rfl (hn 42 hc)
  · rw [filterMap_none]
    exact q
theorem tg_int (i : Int) : tg (.int i) := rfl
theorem isSeq_bits {bs : List Int} (h : bits01 bs) (n : Int) (hn : (bs.length : Int) = n) : isSeq 0 1 (.tup (iD bs)) n = true := by
  unfold isSeq iD allNum
  simp only [List.length_map, hn, decide_true, Bool.true_and, List.all_map, List.all_eq_true]
  intro b hb
  rcases h b hb with rfl | rfl <;> rfl
theorem ok_Room___contains__ : ∀ cs Q E, cs.length = 2 → sp_Room___contains__ cs Q E → m_Room___contains__ (bodyE Q E) (startF 4 cs) := by
  rintro cs Q E - ⟨t, bs, rfl, ht, hn, hl, q⟩
  show m_Room___contains__ (bodyE Q E) ⟨[some (.ar 0), some (.ar 1), none, none], _⟩
  unfold m_Room___contains__ roomD
  simp only [mSh, mVar, svK, mBin, mAndV, mOrV, mNotV, mIf, mUn, dNeg, dInv, mChain, mTst, mTru, blK, mAnd, mOr, mNot, brK_tt, brK_ff, truK, mNil, mCons, mConsT, mTup, mLst, frzAll, frzK, frzS, frzA, mSl, mNoPart, mPart, dSl, mFld, dFld, lookD, intK, valK, slK, arK, valsK, mBi, mIsi, isiK, D.tag, st1, mNext, mSeq, mBreak, mCont, mDrop, mRet, mRetN, mIfS, mAsg, asgK, mAsgG, dName, dNil, dCons, dTup, mPar, setEach, Ev.sv, hold, hold_hold, retK, retS, bodyE, HD.Fr.set, HD.Fr.put, Cel.sv, Cel.toD, Cel.own, startF, mCall, argE, arr1, arr2, arr3, arr4, arrK, arrD, callK, cellsOf, celEv, celS, backF, plEv, plS, plA, plB, id_eq, true_and, and_true, List.mem_singleton, ite_true, ite_false, goodPl, isTmp, retE, evRet, celRet, List.map_cons, List.map_nil, List.length_cons, List.length_nil, List.getD_cons_zero, List.getD_cons_succ, List.getElem?_cons_zero, List.getElem?_cons_succ, List.getElem?_nil, List.set_cons_zero, List.set_cons_succ, dInt, dInt0, dCmpI, dAdd, dMul, dEq, dIsN, isNonD, dIn, dIx, mRd, mRd0, mMu, mMu0, tyD, celK, celKs, celKa, lstC, mSetF, fldC, putN, putV, dSub, ixC, mIter, mEnum, mZip, mRange1, mRange2, itemsK, itA, itemsD, mFor, mLc, mYes, mRaise, mTryAs, suiteE, mExf, exfK, exnD, mKdIn, mKdIx, mKdT, strK, mMeth, insK, mMake, makeK, mInO, mStrO, mLenO, mListG, callG, gLen, gInt, gStr, gList, gTuple, gAll, gSum, gAbs, gMax, gMin, Bool.not_true, Bool.not_false, Bool.and_true, Bool.true_and, Bool.or_false, Bool.false_or, Bool.or_true, Bool.true_or, Bool.and_false, Bool.false_and, kbe_int_NoneType, kbe_int_bool, kbe_int_int, kbe_int_str, kbe_int_tuple, kbe_int_list, kbe_int_dict, kbe_bool_NoneType, kbe_bool_bool, kbe_bool_int, kbe_bool_str, kbe_bool_tuple, kbe_bool_list, kbe_bool_dict, kbe_str_NoneType, kbe_str_bool, kbe_str_int, kbe_str_str, kbe_str_tuple, kbe_str_list, kbe_str_dict, kbe_tuple_NoneType, kbe_tuple_bool, kbe_tuple_int, kbe_tuple_str, kbe_tuple_tuple, kbe_tuple_list, kbe_tuple_dict, kbe_list_NoneType, kbe_list_bool, kbe_list_int, kbe_list_str, kbe_list_tuple, kbe_list_list, kbe_list_dict, kbe_list_tuple_NoneType, kbe_list_tuple_bool, kbe_list_tuple_int, kbe_list_tuple_str, kbe_list_tuple_tuple, kbe_list_tuple_list, kbe_list_tuple_dict, noOwn, noOwnS, wipeF, restF, List.all_cons, List.all_nil, lInsert, lPop, lAppend, sJoin, seqD, lstD, ex_some, bt_ne, tb_ne, sp_is_standing]
  refine ⟨⟨List.nodup_nil, Nat.zero_le 1⟩, _, _, rfl, ⟨?_, ?_⟩, ?_⟩
  · unfold iD; rw [List.length_map, hl]; exact Nat.lt_of_le_of_lt ht.2.1 (by decide)
  · intro x hx
    obtain ⟨b, _, rfl⟩ := List.mem_map.mp hx
    exact tg_int b
  rw [isSeq_bits hn _ (by unfold bitsD; rw [List.length_map, hl])]
  simp only [mSh, mVar, svK, mBin, mAndV, mOrV, mNotV, mIf, mUn, dNeg, dInv, mChain, mTst, mTru, blK, mAnd, mOr, mNot, brK_tt, brK_ff, truK, mNil, mCons, mConsT, mTup, mLst, frzAll, frzK, frzS, frzA, mSl, mNoPart, mPart, dSl, mFld, dFld, lookD, intK, valK, slK, arK, valsK, mBi, mIsi, isiK, D.tag, st1, mNext, mSeq, mBreak, mCont, mDrop, mRet, mRetN, mIfS, mAsg, asgK, mAsgG, dName, dNil, dCons, dTup, mPar, setEach, Ev.sv, hold, hold_hold, retK, retS, bodyE, HD.Fr.set, HD.Fr.put, Cel.sv, Cel.toD, Cel.own, startF, mCall, argE, arr1, arr2, arr3, arr4, arrK, arrD, callK, cellsOf, celEv, celS, backF, plEv, plS, plA, plB, id_eq, true_and, and_true, List.mem_singleton, ite_true, ite_false, goodPl, isTmp, retE, evRet, celRet, List.map_cons, List.map_nil, List.length_cons, List.length_nil, List.getD_cons_zero, List.getD_cons_succ, List.getElem?_cons_zero, List.getElem?_cons_succ, List.getElem?_nil, List.set_cons_zero, List.set_cons_succ, dInt, dInt0, dCmpI, dAdd, dMul, dEq, dIsN, isNonD, dIn, dIx, mRd, mRd0, mMu, mMu0, tyD, celK, celKs, celKa, lstC, mSetF, fldC, putN, putV, dSub, ixC, mIter, mEnum, mZip, mRange1, mRange2, itemsK, itA, itemsD, mFor, mLc, mYes, mRaise, mTryAs, suiteE, mExf, exfK, exnD, mKdIn, mKdIx, mKdT, strK, mMeth, insK, mMake, makeK, mInO, mStrO, mLenO, mListG, callG, gLen, gInt, gStr, gList, gTuple, gAll, gSum, gAbs, gMax, gMin, Bool.not_true, Bool.not_false, Bool.and_true, Bool.true_and, Bool.or_false, Bool.false_or, Bool.or_true, Bool.true_or, Bool.and_false, Bool.false_and, kbe_int_NoneType, kbe_int_bool, kbe_int_int, kbe_int_str, kbe_int_tuple, kbe_int_list, kbe_int_dict, kbe_bool_NoneType, kbe_bool_bool, kbe_bool_int, kbe_bool_str, kbe_bool_tuple, kbe_bool_list, kbe_bool_dict, kbe_str_NoneType, kbe_str_bool, kbe_str_int, kbe_str_str, kbe_str_tuple, kbe_str_list, kbe_str_dict, kbe_tuple_NoneType, kbe_tuple_bool, kbe_tuple_int, kbe_tuple_str, kbe_tuple_tuple, kbe_tuple_list, kbe_tuple_dict, kbe_list_NoneType, kbe_list_bool, kbe_list_int, kbe_list_str, kbe_list_tuple, kbe_list_list, kbe_list_dict, kbe_list_tuple_NoneType, kbe_list_tuple_bool, kbe_list_tuple_int, kbe_list_tuple_str, kbe_list_tuple_tuple, kbe_list_tuple_list, kbe_list_tuple_dict, noOwn, noOwnS, wipeF, restF, List.all_cons, List.all_nil, lInsert, lPop, lAppend, sJoin, seqD, lstD, ex_some]
  unfold bitsD iD
  rw [zip_mm]
  refine compD_map (fun d => match d with | .tup [x, y] => .bl (isNonD x || deq x y) | _ => .non) rfl (zipL (Nat.lt_succ_of_le ht.2.1) (by decide)) (fun d hd acc N ha hN => ?_) ?_
  · obtain ⟨⟨c, b⟩, hp, rfl⟩ := List.mem_map.mp hd
    have hc := ht.2.2 c (List.of_mem_zip hp).1
    rcases hc with rfl | rfl | rfl <;> simp only [turnD, mSh, mVar, svK, mBin, mAndV, mOrV, mNotV, mIf, mUn, dNeg, dInv, mChain, mTst, mTru, blK, mAnd, mOr, mNot, brK_tt, brK_ff, truK, mNil, mCons, mConsT, mTup, mLst, frzAll, frzK, frzS, frzA, mSl, mNoPart, mPart, dSl, mFld, dFld, lookD, intK, valK, slK, arK, valsK, mBi, mIsi, isiK, D.tag, st1, mNext, mSeq, mBreak, mCont, mDrop, mRet, mRetN, mIfS, mAsg, asgK, mAsgG, dName, dNil, dCons, dTup, mPar, setEach, Ev.sv, hold, hold_hold, retK, retS, bodyE, HD.Fr.set, HD.Fr.put, Cel.sv, Cel.toD, Cel.own, startF, mCall, argE, arr1, arr2, arr3, arr4, arrK, arrD, callK, cellsOf, celEv, celS, backF, plEv, plS, plA, plB, id_eq, true_and, and_true, List.mem_singleton, ite_true, ite_false, goodPl, isTmp, retE, evRet, celRet, List.map_cons, List.map_nil, List.length_cons, List.length_nil, List.getD_cons_zero, List.getD_cons_succ, List.getElem?_cons_zero, List.getElem?_cons_succ, List.getElem?_nil, List.set_cons_zero, List.set_cons_succ, dInt, dInt0, dCmpI, dAdd, dMul, dEq, dIsN, isNonD, dIn, dIx, mRd, mRd0, mMu, mMu0, tyD, celK, celKs, celKa, lstC, mSetF, fldC, putN, putV, dSub, ixC, mIter, mEnum, mZip, mRange1, mRange2, itemsK, itA, itemsD, mFor, mLc, mYes, mRaise, mTryAs, suiteE, mExf, exfK, exnD, mKdIn, mKdIx, mKdT, strK, mMeth, insK, mMake, makeK, mInO, mStrO, mLenO, mListG, callG, gLen, gInt, gStr, gList, gTuple, gAll, gSum, gAbs, gMax, gMin, Bool.not_true, Bool.not_false, Bool.and_true, Bool.true_and, Bool.or_false, Bool.false_or, Bool.or_true, Bool.true_or, Bool.and_false, Bool.false_and, kbe_int_NoneType, kbe_int_bool, kbe_int_int, kbe_int_str, kbe_int_tuple, kbe_int_list, kbe_int_dict, kbe_bool_NoneType, kbe_bool_bool, kbe_bool_int, kbe_bool_str, kbe_bool_tuple, kbe_bool_list, kbe_bool_dict, kbe_str_NoneType, kbe_str_bool, kbe_str_int, kbe_str_str, kbe_str_tuple, kbe_str_list, kbe_str_dict, kbe_tuple_NoneType, kbe_tuple_bool, kbe_tuple_int, kbe_tuple_str, kbe_tuple_tuple, kbe_tuple_list, kbe_tuple_dict, kbe_list_NoneType, kbe_list_bool, kbe_list_int, kbe_list_str, kbe_list_tuple, kbe_list_list, kbe_list_dict, kbe_list_tuple_NoneType, kbe_list_tuple_bool, kbe_list_tuple_int, kbe_list_tuple_str, kbe_list_tuple_tuple, kbe_list_tuple_list, kbe_list_tuple_dict, noOwn, noOwnS, wipeF, restF, List.all_cons, List.all_nil, lInsert, lPop, lAppend, sJoin, seqD, lstD, ex_some, deq_int, pl_int, show bitD 48 = .int 0 from rfl, show bitD 49 = .int 1 from rfl, show bitD 42 = .non from rfl, show isNonD .non = true from rfl, show isNonD (.int 0) = false from rfl, show isNonD (.int 1) = false from rfl] at hN ⊢ <;> exact ⟨ha, hN⟩
  · simp only [mSh, mVar, svK, mBin, mAndV, mOrV, mNotV, mIf, mUn, dNeg, dInv, mChain, mTst, mTru, blK, mAnd, mOr, mNot, brK_tt, brK_ff, truK, mNil, mCons, mConsT, mTup, mLst, frzAll, frzK, frzS, frzA, mSl, mNoPart, mPart, dSl, mFld, dFld, lookD, intK, valK, slK, arK, valsK, mBi, mIsi, isiK, D.tag, st1, mNext, mSeq, mBreak, mCont, mDrop, mRet, mRetN, mIfS, mAsg, asgK, mAsgG, dName, dNil, dCons, dTup, mPar, setEach, Ev.sv, hold, hold_hold, retK, retS, bodyE, HD.Fr.set, HD.Fr.put, Cel.sv, Cel.toD, Cel.own, startF, mCall, argE, arr1, arr2, arr3, arr4, arrK, arrD, callK, cellsOf, celEv, celS, backF, plEv, plS, plA, plB, id_eq, true_and, and_true, List.mem_singleton, ite_true, ite_false, goodPl, isTmp, retE, evRet, celRet, List.map_cons, List.map_nil, List.length_cons, List.length_nil, List.getD_cons_zero, List.getD_cons_succ, List.getElem?_cons_zero, List.getElem?_cons_succ, List.getElem?_nil, List.set_cons_zero, List.set_cons_succ, dInt, dInt0, dCmpI, dAdd, dMul, dEq, dIsN, isNonD, dIn, dIx, mRd, mRd0, mMu, mMu0, tyD, celK, celKs, celKa, lstC, mSetF, fldC, putN, putV, dSub, ixC, mIter, mEnum, mZip, mRange1, mRange2, itemsK, itA, itemsD, mFor, mLc, mYes, mRaise, mTryAs, suiteE, mExf, exfK, exnD, mKdIn, mKdIx, mKdT, strK, mMeth, insK, mMake, makeK, mInO, mStrO, mLenO, mListG, callG, gLen, gInt, gStr, gList, gTuple, gAll, gSum, gAbs, gMax, gMin, Bool.not_true, Bool.not_false, Bool.and_true, Bool.true_and, Bool.or_false, Bool.false_or, Bool.or_true, Bool.true_or, Bool.and_false, Bool.false_and, kbe_int_NoneType, kbe_int_bool, kbe_int_int, kbe_int_str, kbe_int_tuple, kbe_int_list, kbe_int_dict, kbe_bool_NoneType, kbe_bool_bool, kbe_bool_int, kbe_bool_str, kbe_bool_tuple, kbe_bool_list, kbe_bool_dict, kbe_str_NoneType, kbe_str_bool, kbe_str_int, kbe_str_str, kbe_str_tuple, kbe_str_list, kbe_str_dict, kbe_tuple_NoneType, kbe_tuple_bool, kbe_tuple_int, kbe_tuple_str, kbe_tuple_tuple, kbe_tuple_list, kbe_tuple_dict, kbe_list_NoneType, kbe_list_bool, kbe_list_int, kbe_list_str, kbe_list_tuple, kbe_list_list, kbe_list_dict, kbe_list_tuple_NoneType, kbe_list_tuple_bool, kbe_list_tuple_int, kbe_list_tuple_str, kbe_list_tuple_tuple, kbe_list_tuple_list, kbe_list_tuple_dict, noOwn, noOwnS, wipeF, restF, List.all_cons, List.all_nil, lInsert, lPop, lAppend, sJoin, seqD, lstD, ex_some]
    refine ⟨(t.cps.toList.zip bs).map fun p => isNonD (bitD p.1) || deq (bitD p.1) (.int p.2), by rw [List.map_map, List.map_map]; rfl, ?_⟩
    rw [all_id, all_ext (g := fun p => decide (p.1 = 42) || (decide (p.1 = 48) && decide (p.2 = 0)) || (decide (p.1 = 49) && decide (p.2 = 1)))]
    · exact q
    · rintro ⟨c, b⟩ hp
      have hc := ht.2.2 c (List.of_mem_zip hp).1
      have hb := hn b (List.of_mem_zip hp).2
      rcases hc with rfl | rfl | rfl <;> rcases hb with rfl | rfl <;> rfl
theorem ok_Room_corners : ∀ cs Q, cs.length = 1 → sp_Room_corners cs Q → m_Room_corners (bodyG Q) [] (startF 6 cs) := by
  rintro cs Q - ⟨t, rfl, ht, hn, q⟩
  show m_Room_corners (bodyG Q) [] ⟨[some (.ar 0), none, none, none, none, none], _⟩
  unfold m_Room_corners roomD
  simp only [mSh, mVar, svK, mBin, mAndV, mOrV, mNotV, mIf, mUn, dNeg, dInv, mChain, mTst, mTru, blK, mAnd, mOr, mNot, brK_tt, brK_ff, truK, mNil, mCons, mConsT, mTup, mLst, frzAll, frzK, frzS, frzA, mSl, mNoPart, mPart, dSl, mFld, dFld, lookD, intK, valK, slK, arK, valsK, mBi, mIsi, isiK, D.tag, st1, mNext, mSeq, mBreak, mCont, mDrop, mRet, mRetN, mIfS, mAsg, asgK, mAsgG, dName, dNil, dCons, dTup, mPar, setEach, Ev.sv, hold, hold_hold, retK, retS, bodyE, HD.Fr.set, HD.Fr.put, Cel.sv, Cel.toD, Cel.own, startF, mCall, argE, arr1, arr2, arr3, arr4, arrK, arrD, callK, cellsOf, celEv, celS, backF, plEv, plS, plA, plB, id_eq, true_and, and_true, List.mem_singleton, ite_true, ite_false, goodPl, isTmp, retE, evRet, celRet, List.map_cons, List.map_nil, List.length_cons, List.length_nil, List.getD_cons_zero, List.getD_cons_succ, List.getElem?_cons_zero, List.getElem?_cons_succ, List.getElem?_nil, List.set_cons_zero, List.set_cons_succ, dInt, dInt0, dCmpI, dAdd, dMul, dEq, dIsN, isNonD, dIn, dIx, mRd, mRd0, mMu, mMu0, tyD, celK, celKs, celKa, lstC, mSetF, fldC, putN, putV, dSub, ixC, mIter, mEnum, mZip, mRange1, mRange2, itemsK, itA, itemsD, mFor, mLc, mYes, mRaise, mTryAs, suiteE, mExf, exfK, exnD, mKdIn, mKdIx, mKdT, strK, mMeth, insK, mMake, makeK, mInO, mStrO, mLenO, mListG, callG, gLen, gInt, gStr, gList, gTuple, gAll, gSum, gAbs, gMax, gMin, Bool.not_true, Bool.not_false, Bool.and_true, Bool.true_and, Bool.or_false, Bool.false_or, Bool.or_true, Bool.true_or, Bool.and_false, Bool.false_and, kbe_int_NoneType, kbe_int_bool, kbe_int_int, kbe_int_str, kbe_int_tuple, kbe_int_list, kbe_int_dict, kbe_bool_NoneType, kbe_bool_bool, kbe_bool_int, kbe_bool_str, kbe_bool_tuple, kbe_bool_list, kbe_bool_dict, kbe_str_NoneType, kbe_str_bool, kbe_str_int, kbe_str_str, kbe_str_tuple, kbe_str_list, kbe_str_dict, kbe_tuple_NoneType, kbe_tuple_bool, kbe_tuple_int, kbe_tuple_str, kbe_tuple_tuple, kbe_tuple_list, kbe_tuple_dict, kbe_list_NoneType, kbe_list_bool, kbe_list_int, kbe_list_str, kbe_list_tuple, kbe_list_list, kbe_list_dict, kbe_list_tuple_NoneType, kbe_list_tuple_bool, kbe_list_tuple_int, kbe_list_tuple_str, kbe_list_tuple_tuple, kbe_list_tuple_list, kbe_list_tuple_dict, noOwn, noOwnS, wipeF, restF, List.all_cons, List.all_nil, lInsert, lPop, lAppend, sJoin, seqD, lstD, ex_some, bt_ne, tb_ne, sp_Room_open_cells, nPlain, nSeq, nEnd, nFor, nYield, bodyG]
  refine ⟨by decide, ⟨List.nodup_nil, Nat.zero_le 1⟩, t, rfl, ht, hn, ⟨by decide, by decide, by decide⟩, by decide, by decide, ?_⟩
  show loopG _ _ _ [D.int 0] _ _ _
  simp only [loopG, mSh, mVar, svK, mBin, mAndV, mOrV, mNotV, mIf, mUn, dNeg, dInv, mChain, mTst, mTru, blK, mAnd, mOr, mNot, brK_tt, brK_ff, truK, mNil, mCons, mConsT, mTup, mLst, frzAll, frzK, frzS, frzA, mSl, mNoPart, mPart, dSl, mFld, dFld, lookD, intK, valK, slK, arK, valsK, mBi, mIsi, isiK, D.tag, st1, mNext, mSeq, mBreak, mCont, mDrop, mRet, mRetN, mIfS, mAsg, asgK, mAsgG, dName, dNil, dCons, dTup, mPar, setEach, Ev.sv, hold, hold_hold, retK, retS, bodyE, HD.Fr.set, HD.Fr.put, Cel.sv, Cel.toD, Cel.own, startF, mCall, argE, arr1, arr2, arr3, arr4, arrK, arrD, callK, cellsOf, celEv, celS, backF, plEv, plS, plA, plB, id_eq, true_and, and_true, List.mem_singleton, ite_true, ite_false, goodPl, isTmp, retE, evRet, celRet, List.map_cons, List.map_nil, List.length_cons, List.length_nil, List.getD_cons_zero, List.getD_cons_succ, List.getElem?_cons_zero, List.getElem?_cons_succ, List.getElem?_nil, List.set_cons_zero, List.set_cons_succ, dInt, dInt0, dCmpI, dAdd, dMul, dEq, dIsN, isNonD, dIn, dIx, mRd, mRd0, mMu, mMu0, tyD, celK, celKs, celKa, lstC, mSetF, fldC, putN, putV, dSub, ixC, mIter, mEnum, mZip, mRange1, mRange2, itemsK, itA, itemsD, mFor, mLc, mYes, mRaise, mTryAs, suiteE, mExf, exfK, exnD, mKdIn, mKdIx, mKdT, strK, mMeth, insK, mMake, makeK, mInO, mStrO, mLenO, mListG, callG, gLen, gInt, gStr, gList, gTuple, gAll, gSum, gAbs, gMax, gMin, Bool.not_true, Bool.not_false, Bool.and_true, Bool.true_and, Bool.or_false, Bool.false_or, Bool.or_true, Bool.true_or, Bool.and_false, Bool.false_and, kbe_int_NoneType, kbe_int_bool, kbe_int_int, kbe_int_str, kbe_int_tuple, kbe_int_list, kbe_int_dict, kbe_bool_NoneType, kbe_bool_bool, kbe_bool_int, kbe_bool_str, kbe_bool_tuple, kbe_bool_list, kbe_bool_dict, kbe_str_NoneType, kbe_str_bool, kbe_str_int, kbe_str_str, kbe_str_tuple, kbe_str_list, kbe_str_dict, kbe_tuple_NoneType, kbe_tuple_bool, kbe_tuple_int, kbe_tuple_str, kbe_tuple_tuple, kbe_tuple_list, kbe_tuple_dict, kbe_list_NoneType, kbe_list_bool, kbe_list_int, kbe_list_str, kbe_list_tuple, kbe_list_list, kbe_list_dict, kbe_list_tuple_NoneType, kbe_list_tuple_bool, kbe_list_tuple_int, kbe_list_tuple_str, kbe_list_tuple_tuple, kbe_list_tuple_list, kbe_list_tuple_dict, noOwn, noOwnS, wipeF, restF, List.all_cons, List.all_nil, lInsert, lPop, lAppend, sJoin, seqD, lstD, ex_some, bt_ne, tb_ne, nPlain, nSeq, nEnd, nFor, nYield, bodyG]
  refine ⟨True.intro, ?_⟩
  simp only [mSh, mVar, svK, mBin, mAndV, mOrV, mNotV, mIf, mUn, dNeg, dInv, mChain, mTst, mTru, blK, mAnd, mOr, mNot, brK_tt, brK_ff, truK, mNil, mCons, mConsT, mTup, mLst, frzAll, frzK, frzS, frzA, mSl, mNoPart, mPart, dSl, mFld, dFld, lookD, intK, valK, slK, arK, valsK, mBi, mIsi, isiK, D.tag, st1, mNext, mSeq, mBreak, mCont, mDrop, mRet, mRetN, mIfS, mAsg, asgK, mAsgG, dName, dNil, dCons, dTup, mPar, setEach, Ev.sv, hold, hold_hold, retK, retS, bodyE, HD.Fr.set, HD.Fr.put, Cel.sv, Cel.toD, Cel.own, startF, mCall, argE, arr1, arr2, arr3, arr4, arrK, arrD, callK, cellsOf, celEv, celS, backF, plEv, plS, plA, plB, id_eq, true_and, and_true, List.mem_singleton, ite_true, ite_false, goodPl, isTmp, retE, evRet, celRet, List.map_cons, List.map_nil, List.length_cons, List.length_nil, List.getD_cons_zero, List.getD_cons_succ, List.getElem?_cons_zero, List.getElem?_cons_succ, List.getElem?_nil, List.set_cons_zero, List.set_cons_succ, dInt, dInt0, dCmpI, dAdd, dMul, dEq, dIsN, isNonD, dIn, dIx, mRd, mRd0, mMu, mMu0, tyD, celK, celKs, celKa, lstC, mSetF, fldC, putN, putV, dSub, ixC, mIter, mEnum, mZip, mRange1, mRange2, itemsK, itA, itemsD, mFor, mLc, mYes, mRaise, mTryAs, suiteE, mExf, exfK, exnD, mKdIn, mKdIx, mKdT, strK, mMeth, insK, mMake, makeK, mInO, mStrO, mLenO, mListG, callG, gLen, gInt, gStr, gList, gTuple, gAll, gSum, gAbs, gMax, gMin, Bool.not_true, Bool.not_false, Bool.and_true, Bool.true_and, Bool.or_false, Bool.false_or, Bool.or_true, Bool.true_or, Bool.and_false, Bool.false_and, kbe_int_NoneType, kbe_int_bool, kbe_int_int, kbe_int_str, kbe_int_tuple, kbe_int_list, kbe_int_dict, kbe_bool_NoneType, kbe_bool_bool, kbe_bool_int, kbe_bool_str, kbe_bool_tuple, kbe_bool_list, kbe_bool_dict, kbe_str_NoneType, kbe_str_bool, kbe_str_int, kbe_str_str, kbe_str_tuple, kbe_str_list, kbe_str_dict, kbe_tuple_NoneType, kbe_tuple_bool, kbe_tuple_int, kbe_tuple_str, kbe_tuple_tuple, kbe_tuple_list, kbe_tuple_dict, kbe_list_NoneType, kbe_list_bool, kbe_list_int, kbe_list_str, kbe_list_tuple, kbe_list_list, kbe_list_dict, kbe_list_tuple_NoneType, kbe_list_tuple_bool, kbe_list_tuple_int, kbe_list_tuple_str, kbe_list_tuple_tuple, kbe_list_tuple_list, kbe_list_tuple_dict, noOwn, noOwnS, wipeF, restF, List.all_cons, List.all_nil, lInsert, lPop, lAppend, sJoin, seqD, lstD, ex_some, bt_ne, tb_ne]
  exact ⟨by decide, q⟩

end K10
set_option Elab.async false
set_option linter.all false
set_option maxRecDepth 100000
set_option maxHeartbeats 4000000
namespace K10
open PySem PySem.Spec PyProof.Rows L2 HD

theorem joinL_nil : ∀ cs : List Nat, TL.joinL [] (cs.map fun c => [c]) = cs
  | [] => rfl
  | [c] => rfl
  | c :: d :: r => by
    show [c] ++ ([] ++ TL.joinL [] ((d :: r).map fun c => [c])) = _
    rw [joinL_nil (d :: r)]; rfl
theorem join_signs (cs : List Nat) : Txt.join ("" : Str) (cs.map fun c => (⟨#[c]⟩ : Str)) = ⟨cs.toArray⟩ := by
  rw [TL.join_eq]
  apply TL.ext_tl
  rw [TL.tl_join, List.map_map]
  show TL.joinL [] (cs.map fun c => [c]) = _
  rw [joinL_nil]
theorem sum_signs : ∀ cs : List Nat, ((cs.map fun c => (⟨#[c]⟩ : Str)).map fun x => x.length).sum = cs.length
  | [] => rfl
  | c :: cs => by
    rw [List.map_cons, List.map_cons, List.sum_cons, sum_signs cs, List.length_cons, Nat.add_comm]; rfl
def sg2 (p : Int × Int) : Nat := sgn p.1 p.2
theorem textOf_eq (ls rs : List Int) : textOf ls rs = ⟨((rs.zip ls).map sg2).toArray⟩ := rfl
theorem sgn_ok (r l : Int) : sgn r l = 48 ∨ sgn r l = 49 ∨ sgn r l = 42 := by
  unfold sgn
  by_cases h : r = 0
  · rw [if_pos h]; exact .inl rfl
  · rw [if_neg h]
    by_cases h2 : r = l
    · rw [if_pos h2]; exact .inr (.inl rfl)
    · rw [if_neg h2]; exact .inr (.inr rfl)
theorem okText_of {ls rs : List Int} (hl : rs.length = ls.length) (h1 : 1 ≤ ls.length) (h2 : ls.length ≤ 40) : okText (textOf ls rs) := by
  have e : (textOf ls rs).cps.toList = (rs.zip ls).map sg2 := rfl
  have hn : ((rs.zip ls).map sg2).length = ls.length := by rw [List.length_map, List.length_zip, hl, Nat.min_self]
  refine ⟨fun h => ?_, by rw [e, hn]; exact h2, fun c hc => ?_⟩
  · rw [e] at h; rw [h] at hn
    exact absurd hn (by simp only [List.length_nil]; omega)
  · rw [e] at hc
    obtain ⟨p, _, rfl⟩ := List.mem_map.mp hc
    exact sgn_ok _ _
theorem ok_stands_for : ∀ cs Q E, cs.length = 2 → sp_stands_for cs Q E → m_stands_for (bodyE Q E) (startF 4 cs) := by
  rintro cs Q E - ⟨ls, rs, rfl, hl, h1, h2, q⟩
  show m_stands_for (bodyE Q E) ⟨[some (.ar 0), some (.ar 1), none, none], _⟩
  unfold m_stands_for
  simp only [mSh, mVar, svK, mBin, mAndV, mOrV, mNotV, mIf, mUn, dNeg, dInv, mChain, mTst, mTru, blK, mAnd, mOr, mNot, brK_tt, brK_ff, truK, mNil, mCons, mConsT, mTup, mLst, frzAll, frzK, frzS, frzA, mSl, mNoPart, mPart, dSl, mFld, dFld, lookD, intK, valK, slK, arK, valsK, mBi, mIsi, isiK, D.tag, st1, mNext, mSeq, mBreak, mCont, mDrop, mRet, mRetN, mIfS, mAsg, asgK, mAsgG, dName, dNil, dCons, dTup, mPar, setEach, Ev.sv, hold, hold_hold, retK, retS, bodyE, HD.Fr.set, HD.Fr.put, Cel.sv, Cel.toD, Cel.own, startF, mCall, argE, arr1, arr2, arr3, arr4, arrK, arrD, callK, cellsOf, celEv, celS, backF, plEv, plS, plA, plB, id_eq, true_and, and_true, List.mem_singleton, ite_true, ite_false, goodPl, isTmp, retE, evRet, celRet, List.map_cons, List.map_nil, List.length_cons, List.length_nil, List.getD_cons_zero, List.getD_cons_succ, List.getElem?_cons_zero, List.getElem?_cons_succ, List.getElem?_nil, List.set_cons_zero, List.set_cons_succ, dInt, dInt0, dCmpI, dAdd, dMul, dEq, dIsN, isNonD, dIn, dIx, mRd, mRd0, mMu, mMu0, tyD, celK, celKs, celKa, lstC, mSetF, fldC, putN, putV, dSub, ixC, mIter, mEnum, mZip, mRange1, mRange2, itemsK, itA, itemsD, mFor, mLc, mYes, mRaise, mTryAs, suiteE, mExf, exfK, exnD, mKdIn, mKdIx, mKdT, strK, mMeth, insK, mMake, makeK, mInO, mStrO, mLenO, mListG, callG, gLen, gInt, gStr, gList, gTuple, gAll, gSum, gAbs, gMax, gMin, Bool.not_true, Bool.not_false, Bool.and_true, Bool.true_and, Bool.or_false, Bool.false_or, Bool.or_true, Bool.true_or, Bool.and_false, Bool.false_and, kbe_int_NoneType, kbe_int_bool, kbe_int_int, kbe_int_str, kbe_int_tuple, kbe_int_list, kbe_int_dict, kbe_bool_NoneType, kbe_bool_bool, kbe_bool_int, kbe_bool_str, kbe_bool_tuple, kbe_bool_list, kbe_bool_dict, kbe_str_NoneType, kbe_str_bool, kbe_str_int, kbe_str_str, kbe_str_tuple, kbe_str_list, kbe_str_dict, kbe_tuple_NoneType, kbe_tuple_bool, kbe_tuple_int, kbe_tuple_str, kbe_tuple_tuple, kbe_tuple_list, kbe_tuple_dict, kbe_list_NoneType, kbe_list_bool, kbe_list_int, kbe_list_str, kbe_list_tuple, kbe_list_list, kbe_list_dict, kbe_list_tuple_NoneType, kbe_list_tuple_bool, kbe_list_tuple_int, kbe_list_tuple_str, kbe_list_tuple_tuple, kbe_list_tuple_list, kbe_list_tuple_dict, noOwn, noOwnS, wipeF, restF, List.all_cons, List.all_nil, lInsert, lPop, lAppend, sJoin, seqD, lstD, ex_some, deq_int, pl_int, sp_Room___init__]
  refine ⟨rfl, ?_⟩
  rw [zip_ii]
  refine compD_map (fun d => match d with | .tup [.int x, .int l] => .str ⟨#[sgn x l]⟩ | _ => .non) ⟨rfl, rfl⟩ (zipL (Nat.lt_succ_of_le (by rw [hl]; exact h2)) (by decide)) (fun d hd acc N ha hN => ?_) ?_
  · obtain ⟨⟨x, l⟩, hp, rfl⟩ := List.mem_map.mp hd
    simp only [turnD, mSh, mVar, svK, mBin, mAndV, mOrV, mNotV, mIf, mUn, dNeg, dInv, mChain, mTst, mTru, blK, mAnd, mOr, mNot, brK_tt, brK_ff, truK, mNil, mCons, mConsT, mTup, mLst, frzAll, frzK, frzS, frzA, mSl, mNoPart, mPart, dSl, mFld, dFld, lookD, intK, valK, slK, arK, valsK, mBi, mIsi, isiK, D.tag, st1, mNext, mSeq, mBreak, mCont, mDrop, mRet, mRetN, mIfS, mAsg, asgK, mAsgG, dName, dNil, dCons, dTup, mPar, setEach, Ev.sv, hold, hold_hold, retK, retS, bodyE, HD.Fr.set, HD.Fr.put, Cel.sv, Cel.toD, Cel.own, startF, mCall, argE, arr1, arr2, arr3, arr4, arrK, arrD, callK, cellsOf, celEv, celS, backF, plEv, plS, plA, plB, id_eq, true_and, and_true, List.mem_singleton, ite_true, ite_false, goodPl, isTmp, retE, evRet, celRet, List.map_cons, List.map_nil, List.length_cons, List.length_nil, List.getD_cons_zero, List.getD_cons_succ, List.getElem?_cons_zero, List.getElem?_cons_succ, List.getElem?_nil, List.set_cons_zero, List.set_cons_succ, dInt, dInt0, dCmpI, dAdd, dMul, dEq, dIsN, isNonD, dIn, dIx, mRd, mRd0, mMu, mMu0, tyD, celK, celKs, celKa, lstC, mSetF, fldC, putN, putV, dSub, ixC, mIter, mEnum, mZip, mRange1, mRange2, itemsK, itA, itemsD, mFor, mLc, mYes, mRaise, mTryAs, suiteE, mExf, exfK, exnD, mKdIn, mKdIx, mKdT, strK, mMeth, insK, mMake, makeK, mInO, mStrO, mLenO, mListG, callG, gLen, gInt, gStr, gList, gTuple, gAll, gSum, gAbs, gMax, gMin, Bool.not_true, Bool.not_false, Bool.and_true, Bool.true_and, Bool.or_false, Bool.false_or, Bool.or_true, Bool.true_or, Bool.and_false, Bool.false_and, kbe_int_NoneType, kbe_int_bool, kbe_int_int, kbe_int_str, kbe_int_tuple, kbe_int_list, kbe_int_dict, kbe_bool_NoneType, kbe_bool_bool, kbe_bool_int, kbe_bool_str, kbe_bool_tuple, kbe_bool_list, kbe_bool_dict, kbe_str_NoneType, kbe_str_bool, kbe_str_int, kbe_str_str, kbe_str_tuple, kbe_str_list, kbe_str_dict, kbe_tuple_NoneType, kbe_tuple_bool, kbe_tuple_int, kbe_tuple_str, kbe_tuple_tuple, kbe_tuple_list, kbe_tuple_dict, kbe_list_NoneType, kbe_list_bool, kbe_list_int, kbe_list_str, kbe_list_tuple, kbe_list_list, kbe_list_dict, kbe_list_tuple_NoneType, kbe_list_tuple_bool, kbe_list_tuple_int, kbe_list_tuple_str, kbe_list_tuple_tuple, kbe_list_tuple_list, kbe_list_tuple_dict, noOwn, noOwnS, wipeF, restF, List.all_cons, List.all_nil, lInsert, lPop, lAppend, sJoin, seqD, lstD, ex_some, deq_int, pl_int, sp_sign_of]
    exact ⟨⟨List.nodup_nil, Nat.zero_le 1⟩, x, l, rfl, ha, hN⟩
  · have hz : ((rs.zip ls).map sg2).length ≤ 40 := by rw [List.length_map, List.length_zip]; exact Nat.le_trans (Nat.min_le_right _ _) h2
    refine ⟨((rs.zip ls).map sg2).map fun c => ⟨#[c]⟩, by rw [List.map_map, List.map_map, List.map_map]; rfl, ?_, ?_⟩
    · rw [sum_signs, show (("" : Str)).length = 0 from rfl, Nat.mul_zero, Nat.add_zero]
      exact Nat.le_trans hz (by decide)
    · rw [join_signs]
      simp only [mSh, mVar, svK, mBin, mAndV, mOrV, mNotV, mIf, mUn, dNeg, dInv, mChain, mTst, mTru, blK, mAnd, mOr, mNot, brK_tt, brK_ff, truK, mNil, mCons, mConsT, mTup, mLst, frzAll, frzK, frzS, frzA, mSl, mNoPart, mPart, dSl, mFld, dFld, lookD, intK, valK, slK, arK, valsK, mBi, mIsi, isiK, D.tag, st1, mNext, mSeq, mBreak, mCont, mDrop, mRet, mRetN, mIfS, mAsg, asgK, mAsgG, dName, dNil, dCons, dTup, mPar, setEach, Ev.sv, hold, hold_hold, retK, retS, bodyE, HD.Fr.set, HD.Fr.put, Cel.sv, Cel.toD, Cel.own, startF, mCall, argE, arr1, arr2, arr3, arr4, arrK, arrD, callK, cellsOf, celEv, celS, backF, plEv, plS, plA, plB, id_eq, true_and, and_true, List.mem_singleton, ite_true, ite_false, goodPl, isTmp, retE, evRet, celRet, List.map_cons, List.map_nil, List.length_cons, List.length_nil, List.getD_cons_zero, List.getD_cons_succ, List.getElem?_cons_zero, List.getElem?_cons_succ, List.getElem?_nil, List.set_cons_zero, List.set_cons_succ, dInt, dInt0, dCmpI, dAdd, dMul, dEq, dIsN, isNonD, dIn, dIx, mRd, mRd0, mMu, mMu0, tyD, celK, celKs, celKa, lstC, mSetF, fldC, putN, putV, dSub, ixC, mIter, mEnum, mZip, mRange1, mRange2, itemsK, itA, itemsD, mFor, mLc, mYes, mRaise, mTryAs, suiteE, mExf, exfK, exnD, mKdIn, mKdIx, mKdT, strK, mMeth, insK, mMake, makeK, mInO, mStrO, mLenO, mListG, callG, gLen, gInt, gStr, gList, gTuple, gAll, gSum, gAbs, gMax, gMin, Bool.not_true, Bool.not_false, Bool.and_true, Bool.true_and, Bool.or_false, Bool.false_or, Bool.or_true, Bool.true_or, Bool.and_false, Bool.false_and, kbe_int_NoneType, kbe_int_bool, kbe_int_int, kbe_int_str, kbe_int_tuple, kbe_int_list, kbe_int_dict, kbe_bool_NoneType, kbe_bool_bool, kbe_bool_int, kbe_bool_str, kbe_bool_tuple, kbe_bool_list, kbe_bool_dict, kbe_str_NoneType, kbe_str_bool, kbe_str_int, kbe_str_str, kbe_str_tuple, kbe_str_list, kbe_str_dict, kbe_tuple_NoneType, kbe_tuple_bool, kbe_tuple_int, kbe_tuple_str, kbe_tuple_tuple, kbe_tuple_list, kbe_tuple_dict, kbe_list_NoneType, kbe_list_bool, kbe_list_int, kbe_list_str, kbe_list_tuple, kbe_list_list, kbe_list_dict, kbe_list_tuple_NoneType, kbe_list_tuple_bool, kbe_list_tuple_int, kbe_list_tuple_str, kbe_list_tuple_tuple, kbe_list_tuple_list, kbe_list_tuple_dict, noOwn, noOwnS, wipeF, restF, List.all_cons, List.all_nil, lInsert, lPop, lAppend, sJoin, seqD, lstD, ex_some]
      exact ⟨⟨List.nodup_nil, Nat.le_refl 1⟩, _, rfl, okText_of hl h1 h2, q⟩
theorem ok__law_text : ∀ cs Q E, cs.length = 2 → sp__law_text cs Q E → m__law_text (bodyE Q E) (startF 4 cs) := by
  rintro cs Q E - ⟨ls, rs, rfl, hl, h2, q⟩
  show m__law_text (bodyE Q E) ⟨[some (.ar 0), some (.ar 1), none, none], _⟩
  unfold m__law_text
  simp only [mSh, mVar, svK, mBin, mAndV, mOrV, mNotV, mIf, mUn, dNeg, dInv, mChain, mTst, mTru, blK, mAnd, mOr, mNot, brK_tt, brK_ff, truK, mNil, mCons, mConsT, mTup, mLst, frzAll, frzK, frzS, frzA, mSl, mNoPart, mPart, dSl, mFld, dFld, lookD, intK, valK, slK, arK, valsK, mBi, mIsi, isiK, D.tag, st1, mNext, mSeq, mBreak, mCont, mDrop, mRet, mRetN, mIfS, mAsg, asgK, mAsgG, dName, dNil, dCons, dTup, mPar, setEach, Ev.sv, hold, hold_hold, retK, retS, bodyE, HD.Fr.set, HD.Fr.put, Cel.sv, Cel.toD, Cel.own, startF, mCall, argE, arr1, arr2, arr3, arr4, arrK, arrD, callK, cellsOf, celEv, celS, backF, plEv, plS, plA, plB, id_eq, true_and, and_true, List.mem_singleton, ite_true, ite_false, goodPl, isTmp, retE, evRet, celRet, List.map_cons, List.map_nil, List.length_cons, List.length_nil, List.getD_cons_zero, List.getD_cons_succ, List.getElem?_cons_zero, List.getElem?_cons_succ, List.getElem?_nil, List.set_cons_zero, List.set_cons_succ, dInt, dInt0, dCmpI, dAdd, dMul, dEq, dIsN, isNonD, dIn, dIx, mRd, mRd0, mMu, mMu0, tyD, celK, celKs, celKa, lstC, mSetF, fldC, putN, putV, dSub, ixC, mIter, mEnum, mZip, mRange1, mRange2, itemsK, itA, itemsD, mFor, mLc, mYes, mRaise, mTryAs, suiteE, mExf, exfK, exnD, mKdIn, mKdIx, mKdT, strK, mMeth, insK, mMake, makeK, mInO, mStrO, mLenO, mListG, callG, gLen, gInt, gStr, gList, gTuple, gAll, gSum, gAbs, gMax, gMin, Bool.not_true, Bool.not_false, Bool.and_true, Bool.true_and, Bool.or_false, Bool.false_or, Bool.or_true, Bool.true_or, Bool.and_false, Bool.false_and, kbe_int_NoneType, kbe_int_bool, kbe_int_int, kbe_int_str, kbe_int_tuple, kbe_int_list, kbe_int_dict, kbe_bool_NoneType, kbe_bool_bool, kbe_bool_int, kbe_bool_str, kbe_bool_tuple, kbe_bool_list, kbe_bool_dict, kbe_str_NoneType, kbe_str_bool, kbe_str_int, kbe_str_str, kbe_str_tuple, kbe_str_list, kbe_str_dict, kbe_tuple_NoneType, kbe_tuple_bool, kbe_tuple_int, kbe_tuple_str, kbe_tuple_tuple, kbe_tuple_list, kbe_tuple_dict, kbe_list_NoneType, kbe_list_bool, kbe_list_int, kbe_list_str, kbe_list_tuple, kbe_list_list, kbe_list_dict, kbe_list_tuple_NoneType, kbe_list_tuple_bool, kbe_list_tuple_int, kbe_list_tuple_str, kbe_list_tuple_tuple, kbe_list_tuple_list, kbe_list_tuple_dict, noOwn, noOwnS, wipeF, restF, List.all_cons, List.all_nil, lInsert, lPop, lAppend, sJoin, seqD, lstD, ex_some, deq_int, pl_int]
  refine ⟨rfl, ?_⟩
  rw [zip_ii]
  refine compD_map (fun d => match d with | .tup [.int x, .int l] => .str ⟨#[sgn x l]⟩ | _ => .non) ⟨rfl, rfl⟩ (zipL (Nat.lt_succ_of_le (by rw [hl]; exact h2)) (by decide)) (fun d hd acc N ha hN => ?_) ?_
  · obtain ⟨⟨r, l⟩, hp, rfl⟩ := List.mem_map.mp hd
    simp only [turnD, mSh, mVar, svK, mBin, mAndV, mOrV, mNotV, mIf, mUn, dNeg, dInv, mChain, mTst, mTru, blK, mAnd, mOr, mNot, brK_tt, brK_ff, truK, mNil, mCons, mConsT, mTup, mLst, frzAll, frzK, frzS, frzA, mSl, mNoPart, mPart, dSl, mFld, dFld, lookD, intK, valK, slK, arK, valsK, mBi, mIsi, isiK, D.tag, st1, mNext, mSeq, mBreak, mCont, mDrop, mRet, mRetN, mIfS, mAsg, asgK, mAsgG, dName, dNil, dCons, dTup, mPar, setEach, Ev.sv, hold, hold_hold, retK, retS, bodyE, HD.Fr.set, HD.Fr.put, Cel.sv, Cel.toD, Cel.own, startF, mCall, argE, arr1, arr2, arr3, arr4, arrK, arrD, callK, cellsOf, celEv, celS, backF, plEv, plS, plA, plB, id_eq, true_and, and_true, List.mem_singleton, ite_true, ite_false, goodPl, isTmp, retE, evRet, celRet, List.map_cons, List.map_nil, List.length_cons, List.length_nil, List.getD_cons_zero, List.getD_cons_succ, List.getElem?_cons_zero, List.getElem?_cons_succ, List.getElem?_nil, List.set_cons_zero, List.set_cons_succ, dInt, dInt0, dCmpI, dAdd, dMul, dEq, dIsN, isNonD, dIn, dIx, mRd, mRd0, mMu, mMu0, tyD, celK, celKs, celKa, lstC, mSetF, fldC, putN, putV, dSub, ixC, mIter, mEnum, mZip, mRange1, mRange2, itemsK, itA, itemsD, mFor, mLc, mYes, mRaise, mTryAs, suiteE, mExf, exfK, exnD, mKdIn, mKdIx, mKdT, strK, mMeth, insK, mMake, makeK, mInO, mStrO, mLenO, mListG, callG, gLen, gInt, gStr, gList, gTuple, gAll, gSum, gAbs, gMax, gMin, Bool.not_true, Bool.not_false, Bool.and_true, Bool.true_and, Bool.or_false, Bool.false_or, Bool.or_true, Bool.true_or, Bool.and_false, Bool.false_and, kbe_int_NoneType, kbe_int_bool, kbe_int_int, kbe_int_str, kbe_int_tuple, kbe_int_list, kbe_int_dict, kbe_bool_NoneType, kbe_bool_bool, kbe_bool_int, kbe_bool_str, kbe_bool_tuple, kbe_bool_list, kbe_bool_dict, kbe_str_NoneType, kbe_str_bool, kbe_str_int, kbe_str_str, kbe_str_tuple, kbe_str_list, kbe_str_dict, kbe_tuple_NoneType, kbe_tuple_bool, kbe_tuple_int, kbe_tuple_str, kbe_tuple_tuple, kbe_tuple_list, kbe_tuple_dict, kbe_list_NoneType, kbe_list_bool, kbe_list_int, kbe_list_str, kbe_list_tuple, kbe_list_list, kbe_list_dict, kbe_list_tuple_NoneType, kbe_list_tuple_bool, kbe_list_tuple_int, kbe_list_tuple_str, kbe_list_tuple_tuple, kbe_list_tuple_list, kbe_list_tuple_dict, noOwn, noOwnS, wipeF, restF, List.all_cons, List.all_nil, lInsert, lPop, lAppend, sJoin, seqD, lstD, ex_some, deq_int, pl_int, s_0, s_1, s_st]
    unfold sgn at hN
    refine ⟨fun h => ?_, fun h => ⟨fun h2 => ?_, fun h2 => ?_⟩⟩
    · have h : r = 0 := by simpa using h
      simp only [if_pos h] at hN; exact ⟨ha, hN⟩
    · have h : ¬ r = 0 := by simpa using h
      have h2 : r = l := by simpa using h2
      simp only [if_neg h, if_pos h2] at hN; exact ⟨ha, hN⟩
    · have h : ¬ r = 0 := by simpa using h
      have h2 : ¬ r = l := by simpa using h2
      simp only [if_neg h, if_neg h2] at hN; exact ⟨ha, hN⟩
  · have hz : ((rs.zip ls).map sg2).length ≤ 40 := by rw [List.length_map, List.length_zip]; exact Nat.le_trans (Nat.min_le_right _ _) h2
    refine ⟨((rs.zip ls).map sg2).map fun c => ⟨#[c]⟩, by rw [List.map_map, List.map_map, List.map_map]; rfl, ?_, ?_⟩
    · rw [sum_signs, show (("" : Str)).length = 0 from rfl, Nat.mul_zero, Nat.add_zero]
      exact Nat.le_trans hz (by decide)
    · rw [join_signs]
      exact q
theorem ok_Room___init__ : ∀ cs Q E, cs.length = 2 → sp_Room___init__ cs Q E → m_Room___init__ (bodyE Q E) (startF 4 cs) := by
  rintro cs Q E - ⟨t, rfl, ht, q⟩
  show m_Room___init__ (bodyE Q E) ⟨[some (.ar 0), some (.ar 1), none, none], _⟩
  unfold m_Room___init__
  simp only [mSh, mVar, svK, mBin, mAndV, mOrV, mNotV, mIf, mUn, dNeg, dInv, mChain, mTst, mTru, blK, mAnd, mOr, mNot, brK_tt, brK_ff, truK, mNil, mCons, mConsT, mTup, mLst, frzAll, frzK, frzS, frzA, mSl, mNoPart, mPart, dSl, mFld, dFld, lookD, intK, valK, slK, arK, valsK, mBi, mIsi, isiK, D.tag, st1, mNext, mSeq, mBreak, mCont, mDrop, mRet, mRetN, mIfS, mAsg, asgK, mAsgG, dName, dNil, dCons, dTup, mPar, setEach, Ev.sv, hold, hold_hold, retK, retS, bodyE, HD.Fr.set, HD.Fr.put, Cel.sv, Cel.toD, Cel.own, startF, mCall, argE, arr1, arr2, arr3, arr4, arrK, arrD, callK, cellsOf, celEv, celS, backF, plEv, plS, plA, plB, id_eq, true_and, and_true, List.mem_singleton, ite_true, ite_false, goodPl, isTmp, retE, evRet, celRet, List.map_cons, List.map_nil, List.length_cons, List.length_nil, List.getD_cons_zero, List.getD_cons_succ, List.getElem?_cons_zero, List.getElem?_cons_succ, List.getElem?_nil, List.set_cons_zero, List.set_cons_succ, dInt, dInt0, dCmpI, dAdd, dMul, dEq, dIsN, isNonD, dIn, dIx, mRd, mRd0, mMu, mMu0, tyD, celK, celKs, celKa, lstC, mSetF, fldC, putN, putV, dSub, ixC, mIter, mEnum, mZip, mRange1, mRange2, itemsK, itA, itemsD, mFor, mLc, mYes, mRaise, mTryAs, suiteE, mExf, exfK, exnD, mKdIn, mKdIx, mKdT, strK, mMeth, insK, mMake, makeK, mInO, mStrO, mLenO, mListG, callG, gLen, gInt, gStr, gList, gTuple, gAll, gSum, gAbs, gMax, gMin, Bool.not_true, Bool.not_false, Bool.and_true, Bool.true_and, Bool.or_false, Bool.false_or, Bool.or_true, Bool.true_or, Bool.and_false, Bool.false_and, kbe_int_NoneType, kbe_int_bool, kbe_int_int, kbe_int_str, kbe_int_tuple, kbe_int_list, kbe_int_dict, kbe_bool_NoneType, kbe_bool_bool, kbe_bool_int, kbe_bool_str, kbe_bool_tuple, kbe_bool_list, kbe_bool_dict, kbe_str_NoneType, kbe_str_bool, kbe_str_int, kbe_str_str, kbe_str_tuple, kbe_str_list, kbe_str_dict, kbe_tuple_NoneType, kbe_tuple_bool, kbe_tuple_int, kbe_tuple_str, kbe_tuple_tuple, kbe_tuple_list, kbe_tuple_dict, kbe_list_NoneType, kbe_list_bool, kbe_list_int, kbe_list_str, kbe_list_tuple, kbe_list_list, kbe_list_dict, kbe_list_tuple_NoneType, kbe_list_tuple_bool, kbe_list_tuple_int, kbe_list_tuple_str, kbe_list_tuple_tuple, kbe_list_tuple_list, kbe_list_tuple_dict, noOwn, noOwnS, wipeF, restF, List.all_cons, List.all_nil, lInsert, lPop, lAppend, sJoin, seqD, lstD, ex_some, deq_str]
  have hl : t.length = t.cps.toList.length := rfl
  have h1 := ht.1
  have h2 := ht.2.1
  refine ⟨pl_str _, pl_str _, fun h => ?_, fun h => ⟨by rw [hl]; exact Nat.le_trans h2 (by decide), fun h => ?_, fun h => ?_⟩⟩
  · have h : t = "" := by simpa using h
    subst h
    exact absurd rfl h1
  · have h : (40 : Int) < (t.length : Int) := by simpa using h
    omega
  refine loopD_inv (fun i F => ∃ a b, F = ⟨[some (.ar 0), some (.ar 1), a, Option.map Sv.sh b], [Cel.ins "Room" [] [], Cel.gone (D.str t)]⟩) (fun i F ⟨a, b, h⟩ => by subst h; rfl) ?_ ?_ ⟨none, none, rfl⟩
  · rintro i d F hi ⟨a, b, hF⟩ N hN
    obtain ⟨x, hx, rfl⟩ := enumD_get hi
    obtain ⟨c, hc, rfl⟩ := List.mem_map.mp (List.mem_of_getElem? hx)
    subst hF
    simp only [mSh, mVar, svK, mBin, mAndV, mOrV, mNotV, mIf, mUn, dNeg, dInv, mChain, mTst, mTru, blK, mAnd, mOr, mNot, brK_tt, brK_ff, truK, mNil, mCons, mConsT, mTup, mLst, frzAll, frzK, frzS, frzA, mSl, mNoPart, mPart, dSl, mFld, dFld, lookD, intK, valK, slK, arK, valsK, mBi, mIsi, isiK, D.tag, st1, mNext, mSeq, mBreak, mCont, mDrop, mRet, mRetN, mIfS, mAsg, asgK, mAsgG, dName, dNil, dCons, dTup, mPar, setEach, Ev.sv, hold, hold_hold, retK, retS, bodyE, HD.Fr.set, HD.Fr.put, Cel.sv, Cel.toD, Cel.own, startF, mCall, argE, arr1, arr2, arr3, arr4, arrK, arrD, callK, cellsOf, celEv, celS, backF, plEv, plS, plA, plB, id_eq, true_and, and_true, List.mem_singleton, ite_true, ite_false, goodPl, isTmp, retE, evRet, celRet, List.map_cons, List.map_nil, List.length_cons, List.length_nil, List.getD_cons_zero, List.getD_cons_succ, List.getElem?_cons_zero, List.getElem?_cons_succ, List.getElem?_nil, List.set_cons_zero, List.set_cons_succ, dInt, dInt0, dCmpI, dAdd, dMul, dEq, dIsN, isNonD, dIn, dIx, mRd, mRd0, mMu, mMu0, tyD, celK, celKs, celKa, lstC, mSetF, fldC, putN, putV, dSub, ixC, mIter, mEnum, mZip, mRange1, mRange2, itemsK, itA, itemsD, mFor, mLc, mYes, mRaise, mTryAs, suiteE, mExf, exfK, exnD, mKdIn, mKdIx, mKdT, strK, mMeth, insK, mMake, makeK, mInO, mStrO, mLenO, mListG, callG, gLen, gInt, gStr, gList, gTuple, gAll, gSum, gAbs, gMax, gMin, Bool.not_true, Bool.not_false, Bool.and_true, Bool.true_and, Bool.or_false, Bool.false_or, Bool.or_true, Bool.true_or, Bool.and_false, Bool.false_and, kbe_int_NoneType, kbe_int_bool, kbe_int_int, kbe_int_str, kbe_int_tuple, kbe_int_list, kbe_int_dict, kbe_bool_NoneType, kbe_bool_bool, kbe_bool_int, kbe_bool_str, kbe_bool_tuple, kbe_bool_list, kbe_bool_dict, kbe_str_NoneType, kbe_str_bool, kbe_str_int, kbe_str_str, kbe_str_tuple, kbe_str_list, kbe_str_dict, kbe_tuple_NoneType, kbe_tuple_bool, kbe_tuple_int, kbe_tuple_str, kbe_tuple_tuple, kbe_tuple_list, kbe_tuple_dict, kbe_list_NoneType, kbe_list_bool, kbe_list_int, kbe_list_str, kbe_list_tuple, kbe_list_list, kbe_list_dict, kbe_list_tuple_NoneType, kbe_list_tuple_bool, kbe_list_tuple_int, kbe_list_tuple_str, kbe_list_tuple_tuple, kbe_list_tuple_list, kbe_list_tuple_dict, noOwn, noOwnS, wipeF, restF, List.all_cons, List.all_nil, lInsert, lPop, lAppend, sJoin, seqD, lstD, ex_some]
    refine ⟨true, .inl ⟨rfl, ?_⟩, ?_⟩
    · rcases ht.2.2 c hc with rfl | rfl | rfl
      · exact ⟨_, List.mem_cons_self⟩
      · exact ⟨_, List.mem_cons_of_mem _ List.mem_cons_self⟩
      · exact ⟨_, List.mem_cons_of_mem _ (List.mem_cons_of_mem _ List.mem_cons_self)⟩
    · simp only [mSh, mVar, svK, mBin, mAndV, mOrV, mNotV, mIf, mUn, dNeg, dInv, mChain, mTst, mTru, blK, mAnd, mOr, mNot, brK_tt, brK_ff, truK, mNil, mCons, mConsT, mTup, mLst, frzAll, frzK, frzS, frzA, mSl, mNoPart, mPart, dSl, mFld, dFld, lookD, intK, valK, slK, arK, valsK, mBi, mIsi, isiK, D.tag, st1, mNext, mSeq, mBreak, mCont, mDrop, mRet, mRetN, mIfS, mAsg, asgK, mAsgG, dName, dNil, dCons, dTup, mPar, setEach, Ev.sv, hold, hold_hold, retK, retS, bodyE, HD.Fr.set, HD.Fr.put, Cel.sv, Cel.toD, Cel.own, startF, mCall, argE, arr1, arr2, arr3, arr4, arrK, arrD, callK, cellsOf, celEv, celS, backF, plEv, plS, plA, plB, id_eq, true_and, and_true, List.mem_singleton, ite_true, ite_false, goodPl, isTmp, retE, evRet, celRet, List.map_cons, List.map_nil, List.length_cons, List.length_nil, List.getD_cons_zero, List.getD_cons_succ, List.getElem?_cons_zero, List.getElem?_cons_succ, List.getElem?_nil, List.set_cons_zero, List.set_cons_succ, dInt, dInt0, dCmpI, dAdd, dMul, dEq, dIsN, isNonD, dIn, dIx, mRd, mRd0, mMu, mMu0, tyD, celK, celKs, celKa, lstC, mSetF, fldC, putN, putV, dSub, ixC, mIter, mEnum, mZip, mRange1, mRange2, itemsK, itA, itemsD, mFor, mLc, mYes, mRaise, mTryAs, suiteE, mExf, exfK, exnD, mKdIn, mKdIx, mKdT, strK, mMeth, insK, mMake, makeK, mInO, mStrO, mLenO, mListG, callG, gLen, gInt, gStr, gList, gTuple, gAll, gSum, gAbs, gMax, gMin, Bool.not_true, Bool.not_false, Bool.and_true, Bool.true_and, Bool.or_false, Bool.false_or, Bool.or_true, Bool.true_or, Bool.and_false, Bool.false_and, kbe_int_NoneType, kbe_int_bool, kbe_int_int, kbe_int_str, kbe_int_tuple, kbe_int_list, kbe_int_dict, kbe_bool_NoneType, kbe_bool_bool, kbe_bool_int, kbe_bool_str, kbe_bool_tuple, kbe_bool_list, kbe_bool_dict, kbe_str_NoneType, kbe_str_bool, kbe_str_int, kbe_str_str, kbe_str_tuple, kbe_str_list, kbe_str_dict, kbe_tuple_NoneType, kbe_tuple_bool, kbe_tuple_int, kbe_tuple_str, kbe_tuple_tuple, kbe_tuple_list, kbe_tuple_dict, kbe_list_NoneType, kbe_list_bool, kbe_list_int, kbe_list_str, kbe_list_tuple, kbe_list_list, kbe_list_dict, kbe_list_tuple_NoneType, kbe_list_tuple_bool, kbe_list_tuple_int, kbe_list_tuple_str, kbe_list_tuple_tuple, kbe_list_tuple_list, kbe_list_tuple_dict, noOwn, noOwnS, wipeF, restF, List.all_cons, List.all_nil, lInsert, lPop, lAppend, sJoin, seqD, lstD, ex_some]
      exact hN _ ⟨_, some _, rfl⟩
  · rintro F ⟨a, b, hF⟩
    subst hF
    have fin : ∀ (Q' : List D → HD.Fr → Prop) (c0 : Cel), Q' (bitsD t) ⟨[some (.ar 0), some (.ar 1), a, none], [c0, Cel.gone (D.str t)]⟩ → compD (dName 3) mYes (mKdIx tab__BITS (mVar 3)) [3] (fun F' => F'.ar[1]? = some (Cel.gone (D.str t))) Q' (signsD t) [] ⟨[some (.ar 0), some (.ar 1), a, none], [c0, Cel.gone (D.str t)]⟩ := fun Q' c0 hq => by
      refine compD_map (fun d => match d with | .str z => bitD (z.cps.toList.headD 0) | _ => .non) rfl (by unfold signsD; rw [List.length_map]; exact Nat.lt_of_le_of_lt h2 (by decide)) (fun d hd acc N ha hN => ?_) ?_
      · obtain ⟨c, hc, rfl⟩ := List.mem_map.mp hd
        simp only [turnD, mSh, mVar, svK, mBin, mAndV, mOrV, mNotV, mIf, mUn, dNeg, dInv, mChain, mTst, mTru, blK, mAnd, mOr, mNot, brK_tt, brK_ff, truK, mNil, mCons, mConsT, mTup, mLst, frzAll, frzK, frzS, frzA, mSl, mNoPart, mPart, dSl, mFld, dFld, lookD, intK, valK, slK, arK, valsK, mBi, mIsi, isiK, D.tag, st1, mNext, mSeq, mBreak, mCont, mDrop, mRet, mRetN, mIfS, mAsg, asgK, mAsgG, dName, dNil, dCons, dTup, mPar, setEach, Ev.sv, hold, hold_hold, retK, retS, bodyE, HD.Fr.set, HD.Fr.put, Cel.sv, Cel.toD, Cel.own, startF, mCall, argE, arr1, arr2, arr3, arr4, arrK, arrD, callK, cellsOf, celEv, celS, backF, plEv, plS, plA, plB, id_eq, true_and, and_true, List.mem_singleton, ite_true, ite_false, goodPl, isTmp, retE, evRet, celRet, List.map_cons, List.map_nil, List.length_cons, List.length_nil, List.getD_cons_zero, List.getD_cons_succ, List.getElem?_cons_zero, List.getElem?_cons_succ, List.getElem?_nil, List.set_cons_zero, List.set_cons_succ, dInt, dInt0, dCmpI, dAdd, dMul, dEq, dIsN, isNonD, dIn, dIx, mRd, mRd0, mMu, mMu0, tyD, celK, celKs, celKa, lstC, mSetF, fldC, putN, putV, dSub, ixC, mIter, mEnum, mZip, mRange1, mRange2, itemsK, itA, itemsD, mFor, mLc, mYes, mRaise, mTryAs, suiteE, mExf, exfK, exnD, mKdIn, mKdIx, mKdT, strK, mMeth, insK, mMake, makeK, mInO, mStrO, mLenO, mListG, callG, gLen, gInt, gStr, gList, gTuple, gAll, gSum, gAbs, gMax, gMin, Bool.not_true, Bool.not_false, Bool.and_true, Bool.true_and, Bool.or_false, Bool.false_or, Bool.or_true, Bool.true_or, Bool.and_false, Bool.false_and, kbe_int_NoneType, kbe_int_bool, kbe_int_int, kbe_int_str, kbe_int_tuple, kbe_int_list, kbe_int_dict, kbe_bool_NoneType, kbe_bool_bool, kbe_bool_int, kbe_bool_str, kbe_bool_tuple, kbe_bool_list, kbe_bool_dict, kbe_str_NoneType, kbe_str_bool, kbe_str_int, kbe_str_str, kbe_str_tuple, kbe_str_list, kbe_str_dict, kbe_tuple_NoneType, kbe_tuple_bool, kbe_tuple_int, kbe_tuple_str, kbe_tuple_tuple, kbe_tuple_list, kbe_tuple_dict, kbe_list_NoneType, kbe_list_bool, kbe_list_int, kbe_list_str, kbe_list_tuple, kbe_list_list, kbe_list_dict, kbe_list_tuple_NoneType, kbe_list_tuple_bool, kbe_list_tuple_int, kbe_list_tuple_str, kbe_list_tuple_tuple, kbe_list_tuple_list, kbe_list_tuple_dict, noOwn, noOwnS, wipeF, restF, List.all_cons, List.all_nil, lInsert, lPop, lAppend, sJoin, seqD, lstD, ex_some]
        rcases ht.2.2 c hc with rfl | rfl | rfl
        · exact ⟨_, List.mem_cons_self, ha, hN⟩
        · exact ⟨_, List.mem_cons_of_mem _ List.mem_cons_self, ha, hN⟩
        · exact ⟨_, List.mem_cons_of_mem _ (List.mem_cons_of_mem _ List.mem_cons_self), ha, hN⟩
      · have e : List.map (fun d => match d with | .str z => bitD (z.cps.toList.headD 0) | _ => .non) (signsD t) = bitsD t := by
          unfold signsD bitsD
          rw [List.map_map]; rfl
        rw [e]; exact hq
    cases b with
    | none =>
      simp only [mSh, mVar, svK, mBin, mAndV, mOrV, mNotV, mIf, mUn, dNeg, dInv, mChain, mTst, mTru, blK, mAnd, mOr, mNot, brK_tt, brK_ff, truK, mNil, mCons, mConsT, mTup, mLst, frzAll, frzK, frzS, frzA, mSl, mNoPart, mPart, dSl, mFld, dFld, lookD, intK, valK, slK, arK, valsK, mBi, mIsi, isiK, D.tag, st1, mNext, mSeq, mBreak, mCont, mDrop, mRet, mRetN, mIfS, mAsg, asgK, mAsgG, dName, dNil, dCons, dTup, mPar, setEach, Ev.sv, hold, hold_hold, retK, retS, bodyE, HD.Fr.set, HD.Fr.put, Cel.sv, Cel.toD, Cel.own, startF, mCall, argE, arr1, arr2, arr3, arr4, arrK, arrD, callK, cellsOf, celEv, celS, backF, plEv, plS, plA, plB, id_eq, true_and, and_true, List.mem_singleton, ite_true, ite_false, goodPl, isTmp, retE, evRet, celRet, List.map_cons, List.map_nil, List.length_cons, List.length_nil, List.getD_cons_zero, List.getD_cons_succ, List.getElem?_cons_zero, List.getElem?_cons_succ, List.getElem?_nil, List.set_cons_zero, List.set_cons_succ, dInt, dInt0, dCmpI, dAdd, dMul, dEq, dIsN, isNonD, dIn, dIx, mRd, mRd0, mMu, mMu0, tyD, celK, celKs, celKa, lstC, mSetF, fldC, putN, putV, dSub, ixC, mIter, mEnum, mZip, mRange1, mRange2, itemsK, itA, itemsD, mFor, mLc, mYes, mRaise, mTryAs, suiteE, mExf, exfK, exnD, mKdIn, mKdIx, mKdT, strK, mMeth, insK, mMake, makeK, mInO, mStrO, mLenO, mListG, callG, gLen, gInt, gStr, gList, gTuple, gAll, gSum, gAbs, gMax, gMin, Bool.not_true, Bool.not_false, Bool.and_true, Bool.true_and, Bool.or_false, Bool.false_or, Bool.or_true, Bool.true_or, Bool.and_false, Bool.false_and, kbe_int_NoneType, kbe_int_bool, kbe_int_int, kbe_int_str, kbe_int_tuple, kbe_int_list, kbe_int_dict, kbe_bool_NoneType, kbe_bool_bool, kbe_bool_int, kbe_bool_str, kbe_bool_tuple, kbe_bool_list, kbe_bool_dict, kbe_str_NoneType, kbe_str_bool, kbe_str_int, kbe_str_str, kbe_str_tuple, kbe_str_list, kbe_str_dict, kbe_tuple_NoneType, kbe_tuple_bool, kbe_tuple_int, kbe_tuple_str, kbe_tuple_tuple, kbe_tuple_list, kbe_tuple_dict, kbe_list_NoneType, kbe_list_bool, kbe_list_int, kbe_list_str, kbe_list_tuple, kbe_list_list, kbe_list_dict, kbe_list_tuple_NoneType, kbe_list_tuple_bool, kbe_list_tuple_int, kbe_list_tuple_str, kbe_list_tuple_tuple, kbe_list_tuple_list, kbe_list_tuple_dict, noOwn, noOwnS, wipeF, restF, List.all_cons, List.all_nil, lInsert, lPop, lAppend, sJoin, seqD, lstD, ex_some, Option.map_none]
      refine ⟨by decide, fin _ _ ?_⟩
      simp only [mSh, mVar, svK, mBin, mAndV, mOrV, mNotV, mIf, mUn, dNeg, dInv, mChain, mTst, mTru, blK, mAnd, mOr, mNot, brK_tt, brK_ff, truK, mNil, mCons, mConsT, mTup, mLst, frzAll, frzK, frzS, frzA, mSl, mNoPart, mPart, dSl, mFld, dFld, lookD, intK, valK, slK, arK, valsK, mBi, mIsi, isiK, D.tag, st1, mNext, mSeq, mBreak, mCont, mDrop, mRet, mRetN, mIfS, mAsg, asgK, mAsgG, dName, dNil, dCons, dTup, mPar, setEach, Ev.sv, hold, hold_hold, retK, retS, bodyE, HD.Fr.set, HD.Fr.put, Cel.sv, Cel.toD, Cel.own, startF, mCall, argE, arr1, arr2, arr3, arr4, arrK, arrD, callK, cellsOf, celEv, celS, backF, plEv, plS, plA, plB, id_eq, true_and, and_true, List.mem_singleton, ite_true, ite_false, goodPl, isTmp, retE, evRet, celRet, List.map_cons, List.map_nil, List.length_cons, List.length_nil, List.getD_cons_zero, List.getD_cons_succ, List.getElem?_cons_zero, List.getElem?_cons_succ, List.getElem?_nil, List.set_cons_zero, List.set_cons_succ, dInt, dInt0, dCmpI, dAdd, dMul, dEq, dIsN, isNonD, dIn, dIx, mRd, mRd0, mMu, mMu0, tyD, celK, celKs, celKa, lstC, mSetF, fldC, putN, putV, dSub, ixC, mIter, mEnum, mZip, mRange1, mRange2, itemsK, itA, itemsD, mFor, mLc, mYes, mRaise, mTryAs, suiteE, mExf, exfK, exnD, mKdIn, mKdIx, mKdT, strK, mMeth, insK, mMake, makeK, mInO, mStrO, mLenO, mListG, callG, gLen, gInt, gStr, gList, gTuple, gAll, gSum, gAbs, gMax, gMin, Bool.not_true, Bool.not_false, Bool.and_true, Bool.true_and, Bool.or_false, Bool.false_or, Bool.or_true, Bool.true_or, Bool.and_false, Bool.false_and, kbe_int_NoneType, kbe_int_bool, kbe_int_int, kbe_int_str, kbe_int_tuple, kbe_int_list, kbe_int_dict, kbe_bool_NoneType, kbe_bool_bool, kbe_bool_int, kbe_bool_str, kbe_bool_tuple, kbe_bool_list, kbe_bool_dict, kbe_str_NoneType, kbe_str_bool, kbe_str_int, kbe_str_str, kbe_str_tuple, kbe_str_list, kbe_str_dict, kbe_tuple_NoneType, kbe_tuple_bool, kbe_tuple_int, kbe_tuple_str, kbe_tuple_tuple, kbe_tuple_list, kbe_tuple_dict, kbe_list_NoneType, kbe_list_bool, kbe_list_int, kbe_list_str, kbe_list_tuple, kbe_list_list, kbe_list_dict, kbe_list_tuple_NoneType, kbe_list_tuple_bool, kbe_list_tuple_int, kbe_list_tuple_str, kbe_list_tuple_tuple, kbe_list_tuple_list, kbe_list_tuple_dict, noOwn, noOwnS, wipeF, restF, List.all_cons, List.all_nil, lInsert, lPop, lAppend, sJoin, seqD, lstD, ex_some, bt_ne, tb_ne]
      exact ⟨by decide, q⟩
    | some b =>
      simp only [mSh, mVar, svK, mBin, mAndV, mOrV, mNotV, mIf, mUn, dNeg, dInv, mChain, mTst, mTru, blK, mAnd, mOr, mNot, brK_tt, brK_ff, truK, mNil, mCons, mConsT, mTup, mLst, frzAll, frzK, frzS, frzA, mSl, mNoPart, mPart, dSl, mFld, dFld, lookD, intK, valK, slK, arK, valsK, mBi, mIsi, isiK, D.tag, st1, mNext, mSeq, mBreak, mCont, mDrop, mRet, mRetN, mIfS, mAsg, asgK, mAsgG, dName, dNil, dCons, dTup, mPar, setEach, Ev.sv, hold, hold_hold, retK, retS, bodyE, HD.Fr.set, HD.Fr.put, Cel.sv, Cel.toD, Cel.own, startF, mCall, argE, arr1, arr2, arr3, arr4, arrK, arrD, callK, cellsOf, celEv, celS, backF, plEv, plS, plA, plB, id_eq, true_and, and_true, List.mem_singleton, ite_true, ite_false, goodPl, isTmp, retE, evRet, celRet, List.map_cons, List.map_nil, List.length_cons, List.length_nil, List.getD_cons_zero, List.getD_cons_succ, List.getElem?_cons_zero, List.getElem?_cons_succ, List.getElem?_nil, List.set_cons_zero, List.set_cons_succ, dInt, dInt0, dCmpI, dAdd, dMul, dEq, dIsN, isNonD, dIn, dIx, mRd, mRd0, mMu, mMu0, tyD, celK, celKs, celKa, lstC, mSetF, fldC, putN, putV, dSub, ixC, mIter, mEnum, mZip, mRange1, mRange2, itemsK, itA, itemsD, mFor, mLc, mYes, mRaise, mTryAs, suiteE, mExf, exfK, exnD, mKdIn, mKdIx, mKdT, strK, mMeth, insK, mMake, makeK, mInO, mStrO, mLenO, mListG, callG, gLen, gInt, gStr, gList, gTuple, gAll, gSum, gAbs, gMax, gMin, Bool.not_true, Bool.not_false, Bool.and_true, Bool.true_and, Bool.or_false, Bool.false_or, Bool.or_true, Bool.true_or, Bool.and_false, Bool.false_and, kbe_int_NoneType, kbe_int_bool, kbe_int_int, kbe_int_str, kbe_int_tuple, kbe_int_list, kbe_int_dict, kbe_bool_NoneType, kbe_bool_bool, kbe_bool_int, kbe_bool_str, kbe_bool_tuple, kbe_bool_list, kbe_bool_dict, kbe_str_NoneType, kbe_str_bool, kbe_str_int, kbe_str_str, kbe_str_tuple, kbe_str_list, kbe_str_dict, kbe_tuple_NoneType, kbe_tuple_bool, kbe_tuple_int, kbe_tuple_str, kbe_tuple_tuple, kbe_tuple_list, kbe_tuple_dict, kbe_list_NoneType, kbe_list_bool, kbe_list_int, kbe_list_str, kbe_list_tuple, kbe_list_list, kbe_list_dict, kbe_list_tuple_NoneType, kbe_list_tuple_bool, kbe_list_tuple_int, kbe_list_tuple_str, kbe_list_tuple_tuple, kbe_list_tuple_list, kbe_list_tuple_dict, noOwn, noOwnS, wipeF, restF, List.all_cons, List.all_nil, lInsert, lPop, lAppend, sJoin, seqD, lstD, ex_some, Option.map_some]
      refine ⟨by decide, fin _ _ ?_⟩
      simp only [mSh, mVar, svK, mBin, mAndV, mOrV, mNotV, mIf, mUn, dNeg, dInv, mChain, mTst, mTru, blK, mAnd, mOr, mNot, brK_tt, brK_ff, truK, mNil, mCons, mConsT, mTup, mLst, frzAll, frzK, frzS, frzA, mSl, mNoPart, mPart, dSl, mFld, dFld, lookD, intK, valK, slK, arK, valsK, mBi, mIsi, isiK, D.tag, st1, mNext, mSeq, mBreak, mCont, mDrop, mRet, mRetN, mIfS, mAsg, asgK, mAsgG, dName, dNil, dCons, dTup, mPar, setEach, Ev.sv, hold, hold_hold, retK, retS, bodyE, HD.Fr.set, HD.Fr.put, Cel.sv, Cel.toD, Cel.own, startF, mCall, argE, arr1, arr2, arr3, arr4, arrK, arrD, callK, cellsOf, celEv, celS, backF, plEv, plS, plA, plB, id_eq, true_and, and_true, List.mem_singleton, ite_true, ite_false, goodPl, isTmp, retE, evRet, celRet, List.map_cons, List.map_nil, List.length_cons, List.length_nil, List.getD_cons_zero, List.getD_cons_succ, List.getElem?_cons_zero, List.getElem?_cons_succ, List.getElem?_nil, List.set_cons_zero, List.set_cons_succ, dInt, dInt0, dCmpI, dAdd, dMul, dEq, dIsN, isNonD, dIn, dIx, mRd, mRd0, mMu, mMu0, tyD, celK, celKs, celKa, lstC, mSetF, fldC, putN, putV, dSub, ixC, mIter, mEnum, mZip, mRange1, mRange2, itemsK, itA, itemsD, mFor, mLc, mYes, mRaise, mTryAs, suiteE, mExf, exfK, exnD, mKdIn, mKdIx, mKdT, strK, mMeth, insK, mMake, makeK, mInO, mStrO, mLenO, mListG, callG, gLen, gInt, gStr, gList, gTuple, gAll, gSum, gAbs, gMax, gMin, Bool.not_true, Bool.not_false, Bool.and_true, Bool.true_and, Bool.or_false, Bool.false_or, Bool.or_true, Bool.true_or, Bool.and_false, Bool.false_and, kbe_int_NoneType, kbe_int_bool, kbe_int_int, kbe_int_str, kbe_int_tuple, kbe_int_list, kbe_int_dict, kbe_bool_NoneType, kbe_bool_bool, kbe_bool_int, kbe_bool_str, kbe_bool_tuple, kbe_bool_list, kbe_bool_dict, kbe_str_NoneType, kbe_str_bool, kbe_str_int, kbe_str_str, kbe_str_tuple, kbe_str_list, kbe_str_dict, kbe_tuple_NoneType, kbe_tuple_bool, kbe_tuple_int, kbe_tuple_str, kbe_tuple_tuple, kbe_tuple_list, kbe_tuple_dict, kbe_list_NoneType, kbe_list_bool, kbe_list_int, kbe_list_str, kbe_list_tuple, kbe_list_list, kbe_list_dict, kbe_list_tuple_NoneType, kbe_list_tuple_bool, kbe_list_tuple_int, kbe_list_tuple_str, kbe_list_tuple_tuple, kbe_list_tuple_list, kbe_list_tuple_dict, noOwn, noOwnS, wipeF, restF, List.all_cons, List.all_nil, lInsert, lPop, lAppend, sJoin, seqD, lstD, ex_some, bt_ne, tb_ne]
      exact ⟨by decide, q⟩

end K10
set_option Elab.async false
set_option linter.all false
set_option maxRecDepth 100000
set_option maxHeartbeats 4000000
namespace K10
open PySem PySem.Spec PyProof.Rows L2 HD

theorem lists_like {n : Nat} {xs : List D} (h : ∀ x ∈ xs, plainD n x) {Q : List D → HD.Fr → Prop} {ok : HD.Fr → Prop} {c0 c1 : Cel} (h0 : c0.own = false) (h1 : c1.own = false) (hl : xs.length < 1000) (hok : ok ⟨[some (.ar 0), some (.ar 1), none, none], [c0, c1]⟩)
    (q : Q (xs.map fun _ => .bl true) ⟨[some (.ar 0), some (.ar 1), none, none], [c0, c1]⟩) :
    compD (dTup 2 (dCons (dName 2) (dCons (dName 3) dNil))) mYes (mCall [Arg.p 0, Arg.p 1] 2 0 (sp__law_like n) (mCons (mVar 2) (mCons (mVar 3) mNil)) mNil) [2, 3] ok Q (zipD xs xs) [] ⟨[some (.ar 0), some (.ar 1), none, none], [c0, c1]⟩ := by
  have e : zipD xs xs = (xs.zip xs).map fun p => .tup [p.1, p.2] := by
    have := zip_mm (fun x : D => x) (fun x : D => x) xs xs
    rwa [List.map_id'] at this
  have e2 : ∀ ys : List D, (ys.zip ys) = ys.map fun y => (y, y) := fun ys => by
    induction ys with
    | nil => rfl
    | cons y ys ih => rw [List.zip_cons_cons, ih, List.map_cons]
  rw [e, e2, List.map_map]
  refine compD_map (fun _ => .bl true) hok (by rw [List.length_map]; exact Nat.lt_trans hl (by decide)) (fun d hd acc N ha hN => ?_) ?_
  · obtain ⟨x, hx, rfl⟩ := List.mem_map.mp hd
    simp only [turnD, mSh, mVar, svK, mBin, mAndV, mOrV, mNotV, mIf, mUn, dNeg, dInv, mChain, mTst, mTru, blK, mAnd, mOr, mNot, brK_tt, brK_ff, truK, mNil, mCons, mConsT, mTup, mLst, frzAll, frzK, frzS, frzA, mSl, mNoPart, mPart, dSl, mFld, dFld, lookD, intK, valK, slK, arK, valsK, mBi, mIsi, isiK, D.tag, st1, mNext, mSeq, mBreak, mCont, mDrop, mRet, mRetN, mIfS, mAsg, asgK, mAsgG, dName, dNil, dCons, dTup, mPar, setEach, Ev.sv, hold, hold_hold, retK, retS, bodyE, HD.Fr.set, HD.Fr.put, Cel.sv, Cel.toD, Cel.own, startF, mCall, argE, arr1, arr2, arr3, arr4, arrK, arrD, callK, cellsOf, celEv, celS, backF, plEv, plS, plA, plB, id_eq, true_and, and_true, List.mem_singleton, ite_true, ite_false, goodPl, isTmp, retE, evRet, celRet, List.map_cons, List.map_nil, List.length_cons, List.length_nil, List.getD_cons_zero, List.getD_cons_succ, List.getElem?_cons_zero, List.getElem?_cons_succ, List.getElem?_nil, List.set_cons_zero, List.set_cons_succ, dInt, dInt0, dCmpI, dAdd, dMul, dEq, dIsN, isNonD, dIn, dIx, mRd, mRd0, mMu, mMu0, tyD, celK, celKs, celKa, lstC, mSetF, fldC, putN, putV, dSub, ixC, mIter, mEnum, mZip, mRange1, mRange2, itemsK, itA, itemsD, mFor, mLc, mYes, mRaise, mTryAs, suiteE, mExf, exfK, exnD, mKdIn, mKdIx, mKdT, strK, mMeth, insK, mMake, makeK, mInO, mStrO, mLenO, mListG, callG, gLen, gInt, gStr, gList, gTuple, gAll, gSum, gAbs, gMax, gMin, Bool.not_true, Bool.not_false, Bool.and_true, Bool.true_and, Bool.or_false, Bool.false_or, Bool.or_true, Bool.true_or, Bool.and_false, Bool.false_and, kbe_int_NoneType, kbe_int_bool, kbe_int_int, kbe_int_str, kbe_int_tuple, kbe_int_list, kbe_int_dict, kbe_bool_NoneType, kbe_bool_bool, kbe_bool_int, kbe_bool_str, kbe_bool_tuple, kbe_bool_list, kbe_bool_dict, kbe_str_NoneType, kbe_str_bool, kbe_str_int, kbe_str_str, kbe_str_tuple, kbe_str_list, kbe_str_dict, kbe_tuple_NoneType, kbe_tuple_bool, kbe_tuple_int, kbe_tuple_str, kbe_tuple_tuple, kbe_tuple_list, kbe_tuple_dict, kbe_list_NoneType, kbe_list_bool, kbe_list_int, kbe_list_str, kbe_list_tuple, kbe_list_list, kbe_list_dict, kbe_list_tuple_NoneType, kbe_list_tuple_bool, kbe_list_tuple_int, kbe_list_tuple_str, kbe_list_tuple_tuple, kbe_list_tuple_list, kbe_list_tuple_dict, noOwn, noOwnS, wipeF, restF, List.all_cons, List.all_nil, lInsert, lPop, lAppend, sJoin, seqD, lstD, ex_some, deq_int, deq_bl, deq_str, pl_int, pl_bl, pl_str, decide_true, decide_false, eq_self, Function.comp]
    exact ⟨⟨List.nodup_nil, Nat.zero_le 1⟩, x, rfl, h x hx, ha, hN⟩
  · rw [List.map_map]; exact q
theorem all_tt {α : Type} : ∀ xs : List α, (xs.map fun _ => true).all id = true
  | [] => rfl
  | x :: xs => all_tt xs
theorem ok__law_like (n : Nat) : ∀ cs Q E, cs.length = 2 → sp__law_like (n + 1) cs Q E → m__law_like n (bodyE Q E) (startF 4 cs) := by
  rintro cs Q E - ⟨d, rfl, hd, q⟩
  show m__law_like n (bodyE Q E) ⟨[some (.ar 0), some (.ar 1), none, none], _⟩
  unfold m__law_like
  cases d with
  | non => simp only [mSh, mVar, svK, mBin, mAndV, mOrV, mNotV, mIf, mUn, dNeg, dInv, mChain, mTst, mTru, blK, mAnd, mOr, mNot, brK_tt, brK_ff, truK, mNil, mCons, mConsT, mTup, mLst, frzAll, frzK, frzS, frzA, mSl, mNoPart, mPart, dSl, mFld, dFld, lookD, intK, valK, slK, arK, valsK, mBi, mIsi, isiK, D.tag, st1, mNext, mSeq, mBreak, mCont, mDrop, mRet, mRetN, mIfS, mAsg, asgK, mAsgG, dName, dNil, dCons, dTup, mPar, setEach, Ev.sv, hold, hold_hold, retK, retS, bodyE, HD.Fr.set, HD.Fr.put, Cel.sv, Cel.toD, Cel.own, startF, mCall, argE, arr1, arr2, arr3, arr4, arrK, arrD, callK, cellsOf, celEv, celS, backF, plEv, plS, plA, plB, id_eq, true_and, and_true, List.mem_singleton, ite_true, ite_false, goodPl, isTmp, retE, evRet, celRet, List.map_cons, List.map_nil, List.length_cons, List.length_nil, List.getD_cons_zero, List.getD_cons_succ, List.getElem?_cons_zero, List.getElem?_cons_succ, List.getElem?_nil, List.set_cons_zero, List.set_cons_succ, dInt, dInt0, dCmpI, dAdd, dMul, dEq, dIsN, isNonD, dIn, dIx, mRd, mRd0, mMu, mMu0, tyD, celK, celKs, celKa, lstC, mSetF, fldC, putN, putV, dSub, ixC, mIter, mEnum, mZip, mRange1, mRange2, itemsK, itA, itemsD, mFor, mLc, mYes, mRaise, mTryAs, suiteE, mExf, exfK, exnD, mKdIn, mKdIx, mKdT, strK, mMeth, insK, mMake, makeK, mInO, mStrO, mLenO, mListG, callG, gLen, gInt, gStr, gList, gTuple, gAll, gSum, gAbs, gMax, gMin, Bool.not_true, Bool.not_false, Bool.and_true, Bool.true_and, Bool.or_false, Bool.false_or, Bool.or_true, Bool.true_or, Bool.and_false, Bool.false_and, kbe_int_NoneType, kbe_int_bool, kbe_int_int, kbe_int_str, kbe_int_tuple, kbe_int_list, kbe_int_dict, kbe_bool_NoneType, kbe_bool_bool, kbe_bool_int, kbe_bool_str, kbe_bool_tuple, kbe_bool_list, kbe_bool_dict, kbe_str_NoneType, kbe_str_bool, kbe_str_int, kbe_str_str, kbe_str_tuple, kbe_str_list, kbe_str_dict, kbe_tuple_NoneType, kbe_tuple_bool, kbe_tuple_int, kbe_tuple_str, kbe_tuple_tuple, kbe_tuple_list, kbe_tuple_dict, kbe_list_NoneType, kbe_list_bool, kbe_list_int, kbe_list_str, kbe_list_tuple, kbe_list_list, kbe_list_dict, kbe_list_tuple_NoneType, kbe_list_tuple_bool, kbe_list_tuple_int, kbe_list_tuple_str, kbe_list_tuple_tuple, kbe_list_tuple_list, kbe_list_tuple_dict, noOwn, noOwnS, wipeF, restF, List.all_cons, List.all_nil, lInsert, lPop, lAppend, sJoin, seqD, lstD, ex_some, deq_int, deq_bl, deq_str, pl_int, pl_bl, pl_str, decide_true, decide_false, eq_self]; exact q
  | bl b => cases b <;> simp only [mSh, mVar, svK, mBin, mAndV, mOrV, mNotV, mIf, mUn, dNeg, dInv, mChain, mTst, mTru, blK, mAnd, mOr, mNot, brK_tt, brK_ff, truK, mNil, mCons, mConsT, mTup, mLst, frzAll, frzK, frzS, frzA, mSl, mNoPart, mPart, dSl, mFld, dFld, lookD, intK, valK, slK, arK, valsK, mBi, mIsi, isiK, D.tag, st1, mNext, mSeq, mBreak, mCont, mDrop, mRet, mRetN, mIfS, mAsg, asgK, mAsgG, dName, dNil, dCons, dTup, mPar, setEach, Ev.sv, hold, hold_hold, retK, retS, bodyE, HD.Fr.set, HD.Fr.put, Cel.sv, Cel.toD, Cel.own, startF, mCall, argE, arr1, arr2, arr3, arr4, arrK, arrD, callK, cellsOf, celEv, celS, backF, plEv, plS, plA, plB, id_eq, true_and, and_true, List.mem_singleton, ite_true, ite_false, goodPl, isTmp, retE, evRet, celRet, List.map_cons, List.map_nil, List.length_cons, List.length_nil, List.getD_cons_zero, List.getD_cons_succ, List.getElem?_cons_zero, List.getElem?_cons_succ, List.getElem?_nil, List.set_cons_zero, List.set_cons_succ, dInt, dInt0, dCmpI, dAdd, dMul, dEq, dIsN, isNonD, dIn, dIx, mRd, mRd0, mMu, mMu0, tyD, celK, celKs, celKa, lstC, mSetF, fldC, putN, putV, dSub, ixC, mIter, mEnum, mZip, mRange1, mRange2, itemsK, itA, itemsD, mFor, mLc, mYes, mRaise, mTryAs, suiteE, mExf, exfK, exnD, mKdIn, mKdIx, mKdT, strK, mMeth, insK, mMake, makeK, mInO, mStrO, mLenO, mListG, callG, gLen, gInt, gStr, gList, gTuple, gAll, gSum, gAbs, gMax, gMin, Bool.not_true, Bool.not_false, Bool.and_true, Bool.true_and, Bool.or_false, Bool.false_or, Bool.or_true, Bool.true_or, Bool.and_false, Bool.false_and, kbe_int_NoneType, kbe_int_bool, kbe_int_int, kbe_int_str, kbe_int_tuple, kbe_int_list, kbe_int_dict, kbe_bool_NoneType, kbe_bool_bool, kbe_bool_int, kbe_bool_str, kbe_bool_tuple, kbe_bool_list, kbe_bool_dict, kbe_str_NoneType, kbe_str_bool, kbe_str_int, kbe_str_str, kbe_str_tuple, kbe_str_list, kbe_str_dict, kbe_tuple_NoneType, kbe_tuple_bool, kbe_tuple_int, kbe_tuple_str, kbe_tuple_tuple, kbe_tuple_list, kbe_tuple_dict, kbe_list_NoneType, kbe_list_bool, kbe_list_int, kbe_list_str, kbe_list_tuple, kbe_list_list, kbe_list_dict, kbe_list_tuple_NoneType, kbe_list_tuple_bool, kbe_list_tuple_int, kbe_list_tuple_str, kbe_list_tuple_tuple, kbe_list_tuple_list, kbe_list_tuple_dict, noOwn, noOwnS, wipeF, restF, List.all_cons, List.all_nil, lInsert, lPop, lAppend, sJoin, seqD, lstD, ex_some, deq_int, deq_bl, deq_str, pl_int, pl_bl, pl_str, decide_true, decide_false, eq_self] <;> exact q
  | int i => simp only [mSh, mVar, svK, mBin, mAndV, mOrV, mNotV, mIf, mUn, dNeg, dInv, mChain, mTst, mTru, blK, mAnd, mOr, mNot, brK_tt, brK_ff, truK, mNil, mCons, mConsT, mTup, mLst, frzAll, frzK, frzS, frzA, mSl, mNoPart, mPart, dSl, mFld, dFld, lookD, intK, valK, slK, arK, valsK, mBi, mIsi, isiK, D.tag, st1, mNext, mSeq, mBreak, mCont, mDrop, mRet, mRetN, mIfS, mAsg, asgK, mAsgG, dName, dNil, dCons, dTup, mPar, setEach, Ev.sv, hold, hold_hold, retK, retS, bodyE, HD.Fr.set, HD.Fr.put, Cel.sv, Cel.toD, Cel.own, startF, mCall, argE, arr1, arr2, arr3, arr4, arrK, arrD, callK, cellsOf, celEv, celS, backF, plEv, plS, plA, plB, id_eq, true_and, and_true, List.mem_singleton, ite_true, ite_false, goodPl, isTmp, retE, evRet, celRet, List.map_cons, List.map_nil, List.length_cons, List.length_nil, List.getD_cons_zero, List.getD_cons_succ, List.getElem?_cons_zero, List.getElem?_cons_succ, List.getElem?_nil, List.set_cons_zero, List.set_cons_succ, dInt, dInt0, dCmpI, dAdd, dMul, dEq, dIsN, isNonD, dIn, dIx, mRd, mRd0, mMu, mMu0, tyD, celK, celKs, celKa, lstC, mSetF, fldC, putN, putV, dSub, ixC, mIter, mEnum, mZip, mRange1, mRange2, itemsK, itA, itemsD, mFor, mLc, mYes, mRaise, mTryAs, suiteE, mExf, exfK, exnD, mKdIn, mKdIx, mKdT, strK, mMeth, insK, mMake, makeK, mInO, mStrO, mLenO, mListG, callG, gLen, gInt, gStr, gList, gTuple, gAll, gSum, gAbs, gMax, gMin, Bool.not_true, Bool.not_false, Bool.and_true, Bool.true_and, Bool.or_false, Bool.false_or, Bool.or_true, Bool.true_or, Bool.and_false, Bool.false_and, kbe_int_NoneType, kbe_int_bool, kbe_int_int, kbe_int_str, kbe_int_tuple, kbe_int_list, kbe_int_dict, kbe_bool_NoneType, kbe_bool_bool, kbe_bool_int, kbe_bool_str, kbe_bool_tuple, kbe_bool_list, kbe_bool_dict, kbe_str_NoneType, kbe_str_bool, kbe_str_int, kbe_str_str, kbe_str_tuple, kbe_str_list, kbe_str_dict, kbe_tuple_NoneType, kbe_tuple_bool, kbe_tuple_int, kbe_tuple_str, kbe_tuple_tuple, kbe_tuple_list, kbe_tuple_dict, kbe_list_NoneType, kbe_list_bool, kbe_list_int, kbe_list_str, kbe_list_tuple, kbe_list_list, kbe_list_dict, kbe_list_tuple_NoneType, kbe_list_tuple_bool, kbe_list_tuple_int, kbe_list_tuple_str, kbe_list_tuple_tuple, kbe_list_tuple_list, kbe_list_tuple_dict, noOwn, noOwnS, wipeF, restF, List.all_cons, List.all_nil, lInsert, lPop, lAppend, sJoin, seqD, lstD, ex_some, deq_int, deq_bl, deq_str, pl_int, pl_bl, pl_str, decide_true, decide_false, eq_self]; exact q
  | str s => simp only [mSh, mVar, svK, mBin, mAndV, mOrV, mNotV, mIf, mUn, dNeg, dInv, mChain, mTst, mTru, blK, mAnd, mOr, mNot, brK_tt, brK_ff, truK, mNil, mCons, mConsT, mTup, mLst, frzAll, frzK, frzS, frzA, mSl, mNoPart, mPart, dSl, mFld, dFld, lookD, intK, valK, slK, arK, valsK, mBi, mIsi, isiK, D.tag, st1, mNext, mSeq, mBreak, mCont, mDrop, mRet, mRetN, mIfS, mAsg, asgK, mAsgG, dName, dNil, dCons, dTup, mPar, setEach, Ev.sv, hold, hold_hold, retK, retS, bodyE, HD.Fr.set, HD.Fr.put, Cel.sv, Cel.toD, Cel.own, startF, mCall, argE, arr1, arr2, arr3, arr4, arrK, arrD, callK, cellsOf, celEv, celS, backF, plEv, plS, plA, plB, id_eq, true_and, and_true, List.mem_singleton, ite_true, ite_false, goodPl, isTmp, retE, evRet, celRet, List.map_cons, List.map_nil, List.length_cons, List.length_nil, List.getD_cons_zero, List.getD_cons_succ, List.getElem?_cons_zero, List.getElem?_cons_succ, List.getElem?_nil, List.set_cons_zero, List.set_cons_succ, dInt, dInt0, dCmpI, dAdd, dMul, dEq, dIsN, isNonD, dIn, dIx, mRd, mRd0, mMu, mMu0, tyD, celK, celKs, celKa, lstC, mSetF, fldC, putN, putV, dSub, ixC, mIter, mEnum, mZip, mRange1, mRange2, itemsK, itA, itemsD, mFor, mLc, mYes, mRaise, mTryAs, suiteE, mExf, exfK, exnD, mKdIn, mKdIx, mKdT, strK, mMeth, insK, mMake, makeK, mInO, mStrO, mLenO, mListG, callG, gLen, gInt, gStr, gList, gTuple, gAll, gSum, gAbs, gMax, gMin, Bool.not_true, Bool.not_false, Bool.and_true, Bool.true_and, Bool.or_false, Bool.false_or, Bool.or_true, Bool.true_or, Bool.and_false, Bool.false_and, kbe_int_NoneType, kbe_int_bool, kbe_int_int, kbe_int_str, kbe_int_tuple, kbe_int_list, kbe_int_dict, kbe_bool_NoneType, kbe_bool_bool, kbe_bool_int, kbe_bool_str, kbe_bool_tuple, kbe_bool_list, kbe_bool_dict, kbe_str_NoneType, kbe_str_bool, kbe_str_int, kbe_str_str, kbe_str_tuple, kbe_str_list, kbe_str_dict, kbe_tuple_NoneType, kbe_tuple_bool, kbe_tuple_int, kbe_tuple_str, kbe_tuple_tuple, kbe_tuple_list, kbe_tuple_dict, kbe_list_NoneType, kbe_list_bool, kbe_list_int, kbe_list_str, kbe_list_tuple, kbe_list_list, kbe_list_dict, kbe_list_tuple_NoneType, kbe_list_tuple_bool, kbe_list_tuple_int, kbe_list_tuple_str, kbe_list_tuple_tuple, kbe_list_tuple_list, kbe_list_tuple_dict, noOwn, noOwnS, wipeF, restF, List.all_cons, List.all_nil, lInsert, lPop, lAppend, sJoin, seqD, lstD, ex_some, deq_int, deq_bl, deq_str, pl_int, pl_bl, pl_str, decide_true, decide_false, eq_self]; exact q
  | lst xs =>
    simp only [mSh, mVar, svK, mBin, mAndV, mOrV, mNotV, mIf, mUn, dNeg, dInv, mChain, mTst, mTru, blK, mAnd, mOr, mNot, brK_tt, brK_ff, truK, mNil, mCons, mConsT, mTup, mLst, frzAll, frzK, frzS, frzA, mSl, mNoPart, mPart, dSl, mFld, dFld, lookD, intK, valK, slK, arK, valsK, mBi, mIsi, isiK, D.tag, st1, mNext, mSeq, mBreak, mCont, mDrop, mRet, mRetN, mIfS, mAsg, asgK, mAsgG, dName, dNil, dCons, dTup, mPar, setEach, Ev.sv, hold, hold_hold, retK, retS, bodyE, HD.Fr.set, HD.Fr.put, Cel.sv, Cel.toD, Cel.own, startF, mCall, argE, arr1, arr2, arr3, arr4, arrK, arrD, callK, cellsOf, celEv, celS, backF, plEv, plS, plA, plB, id_eq, true_and, and_true, List.mem_singleton, ite_true, ite_false, goodPl, isTmp, retE, evRet, celRet, List.map_cons, List.map_nil, List.length_cons, List.length_nil, List.getD_cons_zero, List.getD_cons_succ, List.getElem?_cons_zero, List.getElem?_cons_succ, List.getElem?_nil, List.set_cons_zero, List.set_cons_succ, dInt, dInt0, dCmpI, dAdd, dMul, dEq, dIsN, isNonD, dIn, dIx, mRd, mRd0, mMu, mMu0, tyD, celK, celKs, celKa, lstC, mSetF, fldC, putN, putV, dSub, ixC, mIter, mEnum, mZip, mRange1, mRange2, itemsK, itA, itemsD, mFor, mLc, mYes, mRaise, mTryAs, suiteE, mExf, exfK, exnD, mKdIn, mKdIx, mKdT, strK, mMeth, insK, mMake, makeK, mInO, mStrO, mLenO, mListG, callG, gLen, gInt, gStr, gList, gTuple, gAll, gSum, gAbs, gMax, gMin, Bool.not_true, Bool.not_false, Bool.and_true, Bool.true_and, Bool.or_false, Bool.false_or, Bool.or_true, Bool.true_or, Bool.and_false, Bool.false_and, kbe_int_NoneType, kbe_int_bool, kbe_int_int, kbe_int_str, kbe_int_tuple, kbe_int_list, kbe_int_dict, kbe_bool_NoneType, kbe_bool_bool, kbe_bool_int, kbe_bool_str, kbe_bool_tuple, kbe_bool_list, kbe_bool_dict, kbe_str_NoneType, kbe_str_bool, kbe_str_int, kbe_str_str, kbe_str_tuple, kbe_str_list, kbe_str_dict, kbe_tuple_NoneType, kbe_tuple_bool, kbe_tuple_int, kbe_tuple_str, kbe_tuple_tuple, kbe_tuple_list, kbe_tuple_dict, kbe_list_NoneType, kbe_list_bool, kbe_list_int, kbe_list_str, kbe_list_tuple, kbe_list_list, kbe_list_dict, kbe_list_tuple_NoneType, kbe_list_tuple_bool, kbe_list_tuple_int, kbe_list_tuple_str, kbe_list_tuple_tuple, kbe_list_tuple_list, kbe_list_tuple_dict, noOwn, noOwnS, wipeF, restF, List.all_cons, List.all_nil, lInsert, lPop, lAppend, sJoin, seqD, lstD, ex_some, deq_int, deq_bl, deq_str, pl_int, pl_bl, pl_str, decide_true, decide_false, eq_self]
    refine lists_like hd.2 rfl rfl hd.1 ⟨rfl, rfl⟩ ⟨xs.map fun _ => true, by rw [List.map_map]; rfl, ?_⟩
    rw [all_tt]; exact q
  | tup xs =>
    simp only [mSh, mVar, svK, mBin, mAndV, mOrV, mNotV, mIf, mUn, dNeg, dInv, mChain, mTst, mTru, blK, mAnd, mOr, mNot, brK_tt, brK_ff, truK, mNil, mCons, mConsT, mTup, mLst, frzAll, frzK, frzS, frzA, mSl, mNoPart, mPart, dSl, mFld, dFld, lookD, intK, valK, slK, arK, valsK, mBi, mIsi, isiK, D.tag, st1, mNext, mSeq, mBreak, mCont, mDrop, mRet, mRetN, mIfS, mAsg, asgK, mAsgG, dName, dNil, dCons, dTup, mPar, setEach, Ev.sv, hold, hold_hold, retK, retS, bodyE, HD.Fr.set, HD.Fr.put, Cel.sv, Cel.toD, Cel.own, startF, mCall, argE, arr1, arr2, arr3, arr4, arrK, arrD, callK, cellsOf, celEv, celS, backF, plEv, plS, plA, plB, id_eq, true_and, and_true, List.mem_singleton, ite_true, ite_false, goodPl, isTmp, retE, evRet, celRet, List.map_cons, List.map_nil, List.length_cons, List.length_nil, List.getD_cons_zero, List.getD_cons_succ, List.getElem?_cons_zero, List.getElem?_cons_succ, List.getElem?_nil, List.set_cons_zero, List.set_cons_succ, dInt, dInt0, dCmpI, dAdd, dMul, dEq, dIsN, isNonD, dIn, dIx, mRd, mRd0, mMu, mMu0, tyD, celK, celKs, celKa, lstC, mSetF, fldC, putN, putV, dSub, ixC, mIter, mEnum, mZip, mRange1, mRange2, itemsK, itA, itemsD, mFor, mLc, mYes, mRaise, mTryAs, suiteE, mExf, exfK, exnD, mKdIn, mKdIx, mKdT, strK, mMeth, insK, mMake, makeK, mInO, mStrO, mLenO, mListG, callG, gLen, gInt, gStr, gList, gTuple, gAll, gSum, gAbs, gMax, gMin, Bool.not_true, Bool.not_false, Bool.and_true, Bool.true_and, Bool.or_false, Bool.false_or, Bool.or_true, Bool.true_or, Bool.and_false, Bool.false_and, kbe_int_NoneType, kbe_int_bool, kbe_int_int, kbe_int_str, kbe_int_tuple, kbe_int_list, kbe_int_dict, kbe_bool_NoneType, kbe_bool_bool, kbe_bool_int, kbe_bool_str, kbe_bool_tuple, kbe_bool_list, kbe_bool_dict, kbe_str_NoneType, kbe_str_bool, kbe_str_int, kbe_str_str, kbe_str_tuple, kbe_str_list, kbe_str_dict, kbe_tuple_NoneType, kbe_tuple_bool, kbe_tuple_int, kbe_tuple_str, kbe_tuple_tuple, kbe_tuple_list, kbe_tuple_dict, kbe_list_NoneType, kbe_list_bool, kbe_list_int, kbe_list_str, kbe_list_tuple, kbe_list_list, kbe_list_dict, kbe_list_tuple_NoneType, kbe_list_tuple_bool, kbe_list_tuple_int, kbe_list_tuple_str, kbe_list_tuple_tuple, kbe_list_tuple_list, kbe_list_tuple_dict, noOwn, noOwnS, wipeF, restF, List.all_cons, List.all_nil, lInsert, lPop, lAppend, sJoin, seqD, lstD, ex_some, deq_int, deq_bl, deq_str, pl_int, pl_bl, pl_str, decide_true, decide_false, eq_self]
    refine lists_like hd.2 rfl rfl hd.1 ⟨rfl, rfl⟩ ⟨xs.map fun _ => true, by rw [List.map_map]; rfl, ?_⟩
    rw [all_tt]; exact q
  | ins a b c => cases hd
  | exn a b c d e f => cases hd
  | scr a => cases hd
  | dct a b => cases hd
theorem ok__law_checked : ∀ cs Q E, cs.length = 4 → sp__law_checked cs Q E → m__law_checked (bodyE Q E) (startF 5 cs) := by
  rintro cs Q E - ⟨v, n, lo, way, rfl, hv, hw, q⟩
  show m__law_checked (bodyE Q E) ⟨[some (.ar 0), some (.ar 1), some (.ar 2), some (.ar 3), none], _⟩
  unfold m__law_checked
  simp only [mSh, mVar, svK, mBin, mAndV, mOrV, mNotV, mIf, mUn, dNeg, dInv, mChain, mTst, mTru, blK, mAnd, mOr, mNot, brK_tt, brK_ff, truK, mNil, mCons, mConsT, mTup, mLst, frzAll, frzK, frzS, frzA, mSl, mNoPart, mPart, dSl, mFld, dFld, lookD, intK, valK, slK, arK, valsK, mBi, mIsi, isiK, D.tag, st1, mNext, mSeq, mBreak, mCont, mDrop, mRet, mRetN, mIfS, mAsg, asgK, mAsgG, dName, dNil, dCons, dTup, mPar, setEach, Ev.sv, hold, hold_hold, retK, retS, bodyE, HD.Fr.set, HD.Fr.put, Cel.sv, Cel.toD, Cel.own, startF, mCall, argE, arr1, arr2, arr3, arr4, arrK, arrD, callK, cellsOf, celEv, celS, backF, plEv, plS, plA, plB, id_eq, true_and, and_true, List.mem_singleton, ite_true, ite_false, goodPl, isTmp, retE, evRet, celRet, List.map_cons, List.map_nil, List.length_cons, List.length_nil, List.getD_cons_zero, List.getD_cons_succ, List.getElem?_cons_zero, List.getElem?_cons_succ, List.getElem?_nil, List.set_cons_zero, List.set_cons_succ, dInt, dInt0, dCmpI, dAdd, dMul, dEq, dIsN, isNonD, dIn, dIx, mRd, mRd0, mMu, mMu0, tyD, celK, celKs, celKa, lstC, mSetF, fldC, putN, putV, dSub, ixC, mIter, mEnum, mZip, mRange1, mRange2, itemsK, itA, itemsD, mFor, mLc, mYes, mRaise, mTryAs, suiteE, mExf, exfK, exnD, mKdIn, mKdIx, mKdT, strK, mMeth, insK, mMake, makeK, mInO, mStrO, mLenO, mListG, callG, gLen, gInt, gStr, gList, gTuple, gAll, gSum, gAbs, gMax, gMin, Bool.not_true, Bool.not_false, Bool.and_true, Bool.true_and, Bool.or_false, Bool.false_or, Bool.or_true, Bool.true_or, Bool.and_false, Bool.false_and, kbe_int_NoneType, kbe_int_bool, kbe_int_int, kbe_int_str, kbe_int_tuple, kbe_int_list, kbe_int_dict, kbe_bool_NoneType, kbe_bool_bool, kbe_bool_int, kbe_bool_str, kbe_bool_tuple, kbe_bool_list, kbe_bool_dict, kbe_str_NoneType, kbe_str_bool, kbe_str_int, kbe_str_str, kbe_str_tuple, kbe_str_list, kbe_str_dict, kbe_tuple_NoneType, kbe_tuple_bool, kbe_tuple_int, kbe_tuple_str, kbe_tuple_tuple, kbe_tuple_list, kbe_tuple_dict, kbe_list_NoneType, kbe_list_bool, kbe_list_int, kbe_list_str, kbe_list_tuple, kbe_list_list, kbe_list_dict, kbe_list_tuple_NoneType, kbe_list_tuple_bool, kbe_list_tuple_int, kbe_list_tuple_str, kbe_list_tuple_tuple, kbe_list_tuple_list, kbe_list_tuple_dict, noOwn, noOwnS, wipeF, restF, List.all_cons, List.all_nil, lInsert, lPop, lAppend, sJoin, seqD, lstD, ex_some, deq_int, deq_bl, deq_str, pl_int, pl_bl, pl_str, decide_true, decide_false, eq_self, sp_check_levels]
  refine ⟨fun h => ⟨⟨List.nodup_nil, Nat.zero_le 1⟩, v, n, lo, rfl, hv, ?_⟩, fun h => ⟨⟨List.nodup_nil, Nat.zero_le 1⟩, v, n, 1, rfl, hv, ?_⟩⟩
  · cases e : checkL v n lo with
    | none => rw [e] at q; exact ⟨Nat.zero_le _, q⟩
    | some k => rw [e] at q; exact ⟨rfl, fun a cls dx => ⟨rfl, _, rfl, rfl, _, rfl, by decide, q⟩⟩
  · have h : ¬ way = 0 := by simpa using h
    have hlo : lo = 1 := hw.resolve_left h
    subst hlo
    cases e : checkL v n 1 with
    | none => rw [e] at q; exact ⟨Nat.zero_le _, q⟩
    | some k => rw [e] at q; exact ⟨rfl, fun a cls dx => ⟨rfl, _, rfl, rfl, _, rfl, by decide, q⟩⟩

end K10
set_option Elab.async false
set_option linter.all false
set_option maxRecDepth 100000
set_option maxHeartbeats 4000000
namespace K10
open PySem PySem.Spec PyProof.Rows L2 HD
theorem rowIn_snoc {ls rs : List Int} {l v : Int} (h : rowIn ls rs) (h0 : 0 ≤ v) (h1 : v ≤ l) : rowIn (ls ++ [l]) (rs ++ [v]) := by
  refine ⟨by rw [List.length_append, List.length_append, h.1]; rfl, fun p hp => ?_⟩
  rw [List.zip_append h.1] at hp
  rcases List.mem_append.mp hp with hp | hp
  · exact h.2 p hp
  · have : p = (v, l) := by simpa using hp
    subst this; exact ⟨h0, h1⟩
theorem iD_snoc (rs : List Int) (v : Int) : iD rs ++ [.int v] = iD (rs ++ [v]) := by simp [iD]
theorem row_comp {me : ME} {ls : List Int} {bag : List D} {r : Int} {Q : List D → HD.Fr → Prop} (hb : BagOk bag) (hl : lvls ls)
    (hs : ∀ bag', BagOk bag' → ∀ l, 1 ≤ l → l ≤ 6 → ∀ acc N, (∀ v bag'', BagOk bag'' → 0 ≤ v → v ≤ l → acc.length < sizeLine ∧ N (acc ++ [.int v]) ⟨[some (.ar 0), some (.ar 1), some (.sh (.int r)), none], [.lst bag'', .gone (.tup (iD ls))]⟩) → turnD (dName 3) mYes me [3] (.int l) acc N ⟨[some (.ar 0), some (.ar 1), some (.sh (.int r)), none], [.lst bag', .gone (.tup (iD ls))]⟩)
    (q : ∀ (rs : List Int) (bag' : List D), BagOk bag' → rowIn ls rs → Q (iD rs) ⟨[some (.ar 0), some (.ar 1), some (.sh (.int r)), none], [.lst bag', .gone (.tup (iD ls))]⟩) :
    compD (dName 3) mYes me [3] (fun F' => F'.ar[1]? = some (Cel.gone (D.tup (iD ls)))) Q (iD ls) [] ⟨[some (.ar 0), some (.ar 1), some (.sh (.int r)), none], [.lst bag, .gone (.tup (iD ls))]⟩ := by
  refine compD_inv (fun i acc F => ∃ bag' rs, F = ⟨[some (.ar 0), some (.ar 1), some (.sh (.int r)), none], [.lst bag', .gone (.tup (iD ls))]⟩ ∧ BagOk bag' ∧ acc = iD rs ∧ rowIn (ls.take i) rs) ?_ ?_ ?_ ⟨bag, [], rfl, hb, rfl, rfl, fun p hp => by cases hp⟩
  · rintro i acc F ⟨bag', rs, hF, _⟩
    subst hF; rfl
  · rintro i d acc F hi ⟨bag', rs, hF, hb', ha, hr⟩ N hN
    subst hF
    subst ha
    unfold iD at hi
    rw [List.getElem?_map] at hi
    have hil : i < ls.length := by
      rcases Nat.lt_or_ge i ls.length with h | h
      · exact h
      · rw [List.getElem?_eq_none h] at hi; cases hi
    rw [List.getElem?_eq_getElem hil] at hi
    have hd : d = .int ls[i] := (Option.some.inj hi).symm
    subst hd
    obtain ⟨l1, l2⟩ := hl.2.2 ls[i] (List.getElem_mem hil)
    refine hs bag' hb' _ l1 l2 _ _ fun v bag'' hb'' v0 v1 => ⟨?_, hN _ _ ⟨bag'', rs ++ [v], rfl, hb'', iD_snoc rs v, ?_⟩⟩
    · unfold iD
      rw [List.length_map, hr.1, List.length_take]
      exact Nat.lt_of_le_of_lt (Nat.min_le_right _ _) (Nat.lt_of_le_of_lt hl.2.1 (by decide))
    · rw [List.take_add_one, List.getElem?_eq_getElem hil]
      exact rowIn_snoc hr v0 v1
  · rintro acc F ⟨bag', rs, hF, hb', ha, hr⟩
    subst hF
    subst ha
    have : (iD ls).length = ls.length := by simp [iD]
    rw [this, List.take_length] at hr
    exact q rs bag' hb' hr
theorem ok__law_row : ∀ cs Q E, cs.length = 2 → sp__law_row cs Q E → m__law_row (bodyE Q E) (startF 4 cs) := by
  rintro cs Q E - ⟨bag, ls, rfl, hb, hl, q⟩
  show m__law_row (bodyE Q E) ⟨[some (.ar 0), some (.ar 1), none, none], _⟩
  unfold m__law_row
  simp only [mSh, mVar, svK, mBin, mAndV, mOrV, mNotV, mIf, mUn, dNeg, dInv, mChain, mTst, mTru, blK, mAnd, mOr, mNot, brK_tt, brK_ff, truK, mNil, mCons, mConsT, mTup, mLst, frzAll, frzK, frzS, frzA, mSl, mNoPart, mPart, dSl, mFld, dFld, lookD, intK, valK, slK, arK, valsK, mBi, mIsi, isiK, D.tag, st1, mNext, mSeq, mBreak, mCont, mDrop, mRet, mRetN, mIfS, mAsg, asgK, mAsgG, dName, dNil, dCons, dTup, mPar, setEach, Ev.sv, hold, hold_hold, retK, retS, bodyE, HD.Fr.set, HD.Fr.put, Cel.sv, Cel.toD, Cel.own, startF, mCall, argE, arr1, arr2, arr3, arr4, arrK, arrD, callK, cellsOf, celEv, celS, backF, plEv, plS, plA, plB, id_eq, true_and, and_true, List.mem_singleton, ite_true, ite_false, goodPl, isTmp, retE, evRet, celRet, List.map_cons, List.map_nil, List.length_cons, List.length_nil, List.getD_cons_zero, List.getD_cons_succ, List.getElem?_cons_zero, List.getElem?_cons_succ, List.getElem?_nil, List.set_cons_zero, List.set_cons_succ, dInt, dInt0, dCmpI, dAdd, dMul, dEq, dIsN, isNonD, dIn, dIx, mRd, mRd0, mMu, mMu0, tyD, celK, celKs, celKa, lstC, mSetF, fldC, putN, putV, dSub, ixC, mIter, mEnum, mZip, mRange1, mRange2, itemsK, itA, itemsD, mFor, mLc, mYes, mRaise, mTryAs, suiteE, mExf, exfK, exnD, mKdIn, mKdIx, mKdT, strK, mMeth, insK, mMake, makeK, mInO, mStrO, mLenO, mListG, callG, gLen, gInt, gStr, gList, gTuple, gAll, gSum, gAbs, gMax, gMin, Bool.not_true, Bool.not_false, Bool.and_true, Bool.true_and, Bool.or_false, Bool.false_or, Bool.or_true, Bool.true_or, Bool.and_false, Bool.false_and, kbe_int_NoneType, kbe_int_bool, kbe_int_int, kbe_int_str, kbe_int_tuple, kbe_int_list, kbe_int_dict, kbe_bool_NoneType, kbe_bool_bool, kbe_bool_int, kbe_bool_str, kbe_bool_tuple, kbe_bool_list, kbe_bool_dict, kbe_str_NoneType, kbe_str_bool, kbe_str_int, kbe_str_str, kbe_str_tuple, kbe_str_list, kbe_str_dict, kbe_tuple_NoneType, kbe_tuple_bool, kbe_tuple_int, kbe_tuple_str, kbe_tuple_tuple, kbe_tuple_list, kbe_tuple_dict, kbe_list_NoneType, kbe_list_bool, kbe_list_int, kbe_list_str, kbe_list_tuple, kbe_list_list, kbe_list_dict, kbe_list_tuple_NoneType, kbe_list_tuple_bool, kbe_list_tuple_int, kbe_list_tuple_str, kbe_list_tuple_tuple, kbe_list_tuple_list, kbe_list_tuple_dict, noOwn, noOwnS, wipeF, restF, List.all_cons, List.all_nil, lInsert, lPop, lAppend, sJoin, seqD, lstD, ex_some, deq_int, deq_bl, deq_str, pl_int, pl_bl, pl_str, decide_true, decide_false, eq_self, sp__law_draw]
  refine ⟨⟨nd1 _, Nat.zero_le 1⟩, bag, _, rfl, hb, by decide, by decide, fun r bag1 hb1 r0 r1 => ⟨fun h => ?_, fun h => ⟨fun h => ?_, fun h => ?_⟩⟩⟩
  · refine row_comp hb1 hl (fun bag' hb' l l1 l2 acc N hN => ?_) (fun rs bag' hb' hr => q rs bag' hb' hr)
    simp only [turnD, mSh, mVar, svK, mBin, mAndV, mOrV, mNotV, mIf, mUn, dNeg, dInv, mChain, mTst, mTru, blK, mAnd, mOr, mNot, brK_tt, brK_ff, truK, mNil, mCons, mConsT, mTup, mLst, frzAll, frzK, frzS, frzA, mSl, mNoPart, mPart, dSl, mFld, dFld, lookD, intK, valK, slK, arK, valsK, mBi, mIsi, isiK, D.tag, st1, mNext, mSeq, mBreak, mCont, mDrop, mRet, mRetN, mIfS, mAsg, asgK, mAsgG, dName, dNil, dCons, dTup, mPar, setEach, Ev.sv, hold, hold_hold, retK, retS, bodyE, HD.Fr.set, HD.Fr.put, Cel.sv, Cel.toD, Cel.own, startF, mCall, argE, arr1, arr2, arr3, arr4, arrK, arrD, callK, cellsOf, celEv, celS, backF, plEv, plS, plA, plB, id_eq, true_and, and_true, List.mem_singleton, ite_true, ite_false, goodPl, isTmp, retE, evRet, celRet, List.map_cons, List.map_nil, List.length_cons, List.length_nil, List.getD_cons_zero, List.getD_cons_succ, List.getElem?_cons_zero, List.getElem?_cons_succ, List.getElem?_nil, List.set_cons_zero, List.set_cons_succ, dInt, dInt0, dCmpI, dAdd, dMul, dEq, dIsN, isNonD, dIn, dIx, mRd, mRd0, mMu, mMu0, tyD, celK, celKs, celKa, lstC, mSetF, fldC, putN, putV, dSub, ixC, mIter, mEnum, mZip, mRange1, mRange2, itemsK, itA, itemsD, mFor, mLc, mYes, mRaise, mTryAs, suiteE, mExf, exfK, exnD, mKdIn, mKdIx, mKdT, strK, mMeth, insK, mMake, makeK, mInO, mStrO, mLenO, mListG, callG, gLen, gInt, gStr, gList, gTuple, gAll, gSum, gAbs, gMax, gMin, Bool.not_true, Bool.not_false, Bool.and_true, Bool.true_and, Bool.or_false, Bool.false_or, Bool.or_true, Bool.true_or, Bool.and_false, Bool.false_and, kbe_int_NoneType, kbe_int_bool, kbe_int_int, kbe_int_str, kbe_int_tuple, kbe_int_list, kbe_int_dict, kbe_bool_NoneType, kbe_bool_bool, kbe_bool_int, kbe_bool_str, kbe_bool_tuple, kbe_bool_list, kbe_bool_dict, kbe_str_NoneType, kbe_str_bool, kbe_str_int, kbe_str_str, kbe_str_tuple, kbe_str_list, kbe_str_dict, kbe_tuple_NoneType, kbe_tuple_bool, kbe_tuple_int, kbe_tuple_str, kbe_tuple_tuple, kbe_tuple_list, kbe_tuple_dict, kbe_list_NoneType, kbe_list_bool, kbe_list_int, kbe_list_str, kbe_list_tuple, kbe_list_list, kbe_list_dict, kbe_list_tuple_NoneType, kbe_list_tuple_bool, kbe_list_tuple_int, kbe_list_tuple_str, kbe_list_tuple_tuple, kbe_list_tuple_list, kbe_list_tuple_dict, noOwn, noOwnS, wipeF, restF, List.all_cons, List.all_nil, lInsert, lPop, lAppend, sJoin, seqD, lstD, ex_some, deq_int, deq_bl, deq_str, pl_int, pl_bl, pl_str, decide_true, decide_false, eq_self, sp__law_of]
    refine ⟨by decide, ⟨nd1 _, Nat.zero_le 1⟩, bag', _, rfl, hb', (by simp), (by simp), fun d bag2 hb2 hd => ?_⟩
    have hd : d = .int 0 ∨ d = .int l := by simpa using hd
    rcases hd with rfl | rfl
    · exact hN 0 bag2 hb2 (by omega) (by omega)
    · exact hN l bag2 hb2 (by omega) (by omega)
  · refine row_comp hb1 hl (fun bag' hb' l l1 l2 acc N hN => ?_) (fun rs bag' hb' hr => q rs bag' hb' hr)
    simp only [turnD, mSh, mVar, svK, mBin, mAndV, mOrV, mNotV, mIf, mUn, dNeg, dInv, mChain, mTst, mTru, blK, mAnd, mOr, mNot, brK_tt, brK_ff, truK, mNil, mCons, mConsT, mTup, mLst, frzAll, frzK, frzS, frzA, mSl, mNoPart, mPart, dSl, mFld, dFld, lookD, intK, valK, slK, arK, valsK, mBi, mIsi, isiK, D.tag, st1, mNext, mSeq, mBreak, mCont, mDrop, mRet, mRetN, mIfS, mAsg, asgK, mAsgG, dName, dNil, dCons, dTup, mPar, setEach, Ev.sv, hold, hold_hold, retK, retS, bodyE, HD.Fr.set, HD.Fr.put, Cel.sv, Cel.toD, Cel.own, startF, mCall, argE, arr1, arr2, arr3, arr4, arrK, arrD, callK, cellsOf, celEv, celS, backF, plEv, plS, plA, plB, id_eq, true_and, and_true, List.mem_singleton, ite_true, ite_false, goodPl, isTmp, retE, evRet, celRet, List.map_cons, List.map_nil, List.length_cons, List.length_nil, List.getD_cons_zero, List.getD_cons_succ, List.getElem?_cons_zero, List.getElem?_cons_succ, List.getElem?_nil, List.set_cons_zero, List.set_cons_succ, dInt, dInt0, dCmpI, dAdd, dMul, dEq, dIsN, isNonD, dIn, dIx, mRd, mRd0, mMu, mMu0, tyD, celK, celKs, celKa, lstC, mSetF, fldC, putN, putV, dSub, ixC, mIter, mEnum, mZip, mRange1, mRange2, itemsK, itA, itemsD, mFor, mLc, mYes, mRaise, mTryAs, suiteE, mExf, exfK, exnD, mKdIn, mKdIx, mKdT, strK, mMeth, insK, mMake, makeK, mInO, mStrO, mLenO, mListG, callG, gLen, gInt, gStr, gList, gTuple, gAll, gSum, gAbs, gMax, gMin, Bool.not_true, Bool.not_false, Bool.and_true, Bool.true_and, Bool.or_false, Bool.false_or, Bool.or_true, Bool.true_or, Bool.and_false, Bool.false_and, kbe_int_NoneType, kbe_int_bool, kbe_int_int, kbe_int_str, kbe_int_tuple, kbe_int_list, kbe_int_dict, kbe_bool_NoneType, kbe_bool_bool, kbe_bool_int, kbe_bool_str, kbe_bool_tuple, kbe_bool_list, kbe_bool_dict, kbe_str_NoneType, kbe_str_bool, kbe_str_int, kbe_str_str, kbe_str_tuple, kbe_str_list, kbe_str_dict, kbe_tuple_NoneType, kbe_tuple_bool, kbe_tuple_int, kbe_tuple_str, kbe_tuple_tuple, kbe_tuple_list, kbe_tuple_dict, kbe_list_NoneType, kbe_list_bool, kbe_list_int, kbe_list_str, kbe_list_tuple, kbe_list_list, kbe_list_dict, kbe_list_tuple_NoneType, kbe_list_tuple_bool, kbe_list_tuple_int, kbe_list_tuple_str, kbe_list_tuple_tuple, kbe_list_tuple_list, kbe_list_tuple_dict, noOwn, noOwnS, wipeF, restF, List.all_cons, List.all_nil, lInsert, lPop, lAppend, sJoin, seqD, lstD, ex_some, deq_int, deq_bl, deq_str, pl_int, pl_bl, pl_str, decide_true, decide_false, eq_self, sp__law_of, sp__law_draw]
    refine ⟨⟨nd1 _, Nat.zero_le 1⟩, bag', _, rfl, hb', by omega, by omega, fun v bag3 hb3 v0 v1 => ?_⟩
    refine ⟨by decide, ⟨nd1 _, Nat.zero_le 1⟩, bag3, _, rfl, hb3, (by simp), (by simp), fun d bag2 hb2 hd => ?_⟩
    have hd : d = .int 0 ∨ d = .int l ∨ d = .int v := by simpa using hd
    rcases hd with rfl | rfl | rfl
    · exact hN 0 bag2 hb2 (by omega) (by omega)
    · exact hN l bag2 hb2 (by omega) (by omega)
    · exact hN v bag2 hb2 (by omega) (by omega)
  · refine row_comp hb1 hl (fun bag' hb' l l1 l2 acc N hN => ?_) (fun rs bag' hb' hr => q rs bag' hb' hr)
    simp only [turnD, mSh, mVar, svK, mBin, mAndV, mOrV, mNotV, mIf, mUn, dNeg, dInv, mChain, mTst, mTru, blK, mAnd, mOr, mNot, brK_tt, brK_ff, truK, mNil, mCons, mConsT, mTup, mLst, frzAll, frzK, frzS, frzA, mSl, mNoPart, mPart, dSl, mFld, dFld, lookD, intK, valK, slK, arK, valsK, mBi, mIsi, isiK, D.tag, st1, mNext, mSeq, mBreak, mCont, mDrop, mRet, mRetN, mIfS, mAsg, asgK, mAsgG, dName, dNil, dCons, dTup, mPar, setEach, Ev.sv, hold, hold_hold, retK, retS, bodyE, HD.Fr.set, HD.Fr.put, Cel.sv, Cel.toD, Cel.own, startF, mCall, argE, arr1, arr2, arr3, arr4, arrK, arrD, callK, cellsOf, celEv, celS, backF, plEv, plS, plA, plB, id_eq, true_and, and_true, List.mem_singleton, ite_true, ite_false, goodPl, isTmp, retE, evRet, celRet, List.map_cons, List.map_nil, List.length_cons, List.length_nil, List.getD_cons_zero, List.getD_cons_succ, List.getElem?_cons_zero, List.getElem?_cons_succ, List.getElem?_nil, List.set_cons_zero, List.set_cons_succ, dInt, dInt0, dCmpI, dAdd, dMul, dEq, dIsN, isNonD, dIn, dIx, mRd, mRd0, mMu, mMu0, tyD, celK, celKs, celKa, lstC, mSetF, fldC, putN, putV, dSub, ixC, mIter, mEnum, mZip, mRange1, mRange2, itemsK, itA, itemsD, mFor, mLc, mYes, mRaise, mTryAs, suiteE, mExf, exfK, exnD, mKdIn, mKdIx, mKdT, strK, mMeth, insK, mMake, makeK, mInO, mStrO, mLenO, mListG, callG, gLen, gInt, gStr, gList, gTuple, gAll, gSum, gAbs, gMax, gMin, Bool.not_true, Bool.not_false, Bool.and_true, Bool.true_and, Bool.or_false, Bool.false_or, Bool.or_true, Bool.true_or, Bool.and_false, Bool.false_and, kbe_int_NoneType, kbe_int_bool, kbe_int_int, kbe_int_str, kbe_int_tuple, kbe_int_list, kbe_int_dict, kbe_bool_NoneType, kbe_bool_bool, kbe_bool_int, kbe_bool_str, kbe_bool_tuple, kbe_bool_list, kbe_bool_dict, kbe_str_NoneType, kbe_str_bool, kbe_str_int, kbe_str_str, kbe_str_tuple, kbe_str_list, kbe_str_dict, kbe_tuple_NoneType, kbe_tuple_bool, kbe_tuple_int, kbe_tuple_str, kbe_tuple_tuple, kbe_tuple_list, kbe_tuple_dict, kbe_list_NoneType, kbe_list_bool, kbe_list_int, kbe_list_str, kbe_list_tuple, kbe_list_list, kbe_list_dict, kbe_list_tuple_NoneType, kbe_list_tuple_bool, kbe_list_tuple_int, kbe_list_tuple_str, kbe_list_tuple_tuple, kbe_list_tuple_list, kbe_list_tuple_dict, noOwn, noOwnS, wipeF, restF, List.all_cons, List.all_nil, lInsert, lPop, lAppend, sJoin, seqD, lstD, ex_some, deq_int, deq_bl, deq_str, pl_int, pl_bl, pl_str, decide_true, decide_false, eq_self, sp__law_of, sp__law_draw]
    refine ⟨⟨nd1 _, Nat.zero_le 1⟩, bag', _, rfl, hb', by omega, by omega, fun v bag3 hb3 v0 v1 => ?_⟩
    exact hN v bag3 hb3 (by omega) (by omega)

end K10
set_option Elab.async false
set_option linter.all false
set_option maxRecDepth 100000
set_option maxHeartbeats 4000000
namespace K10
open PySem PySem.Spec PyProof.Rows L2 HD

def bent_ins : MS := (mDrop (mMu lInsert (mVar 2) (mCons (mVar 4) (mCons (mBin dIx (mVar 2) (mVar 4)) mNil))))
def bent_pop : MS := (mDrop (mMu lPop (mVar 2) (mCons (mVar 4) mNil)))
def bent_set : MS := (mAsgG (dSub (mVar 2) (mVar 4)) (mCall arr2 2 0 (sp__law_of) (mCons (mVar 0) (mCons (mLst (mCons (mSh (.int 0)) (mCons (mSh (.int 7)) (mCons (mUn dNeg (mSh (.int 1))) (mCons (mSh (.bl true)) (mCons (mSh (.bl false)) (mCons (mSh .non) (mCons (mSh (.str ("1" : Str))) (mCons (mTup (mCons (mSh (.int 1)) mNil)) (mCons (mCall arr2 2 0 (sp__law_draw) (mCons (mVar 0) (mCons (mSh (.int 7)) mNil)) mNil) (mCons (mCall arr2 2 0 (sp__law_draw) (mCons (mVar 0) (mCons (mBin (dInt CPow fun i j => i ^ j.toNat) (mSh (.int 10)) (mSh (.int 9))) mNil)) mNil) mNil))))))))))) mNil)) mNil))
def bent_if : MS := (mIfS (mTst (mBin (dEq id) (mVar 5) (mSh (.int 0)))) bent_ins (mIfS (mAnd (mTst (mBin (dEq id) (mVar 5) (mSh (.int 1)))) (mTst (mBin (dCmpI fun i j => decide (j < i)) (mBi gLen (mCons (mVar 2) mNil)) (mSh (.int 1))))) bent_pop bent_set))
def BentF (ns : List Int) (bag xs : List D) (a : Option Sv) (b c : D) : HD.Fr := ⟨[some (.ar 0), some (.ar 1), some (.own (.lst xs)), a, some (.sh b), some (.sh c)], [.lst bag, .gone (.tup (iD ns))]⟩
theorem ok_bent_ins {ns : List Int} {bag xs : List D} {a : Option Sv} {sp : Int} {c : D} {D' : DE} (h0 : 0 ≤ sp) (h1 : sp < xs.length) (hx : xs.length < 1000) (q : ∀ x ∈ xs, D'.nx (BentF ns bag (xs.take sp.toNat ++ [x] ++ xs.drop sp.toNat) a (.int sp) c)) : bent_ins D' (BentF ns bag xs a (.int sp) c) := by
  unfold bent_ins
  simp only [mSh, mVar, svK, mBin, mAndV, mOrV, mNotV, mIf, mUn, dNeg, dInv, mChain, mTst, mTru, blK, mAnd, mOr, mNot, brK_tt, brK_ff, truK, mNil, mCons, mConsT, mTup, mLst, frzAll, frzK, frzS, frzA, mSl, mNoPart, mPart, dSl, mFld, dFld, lookD, intK, valK, slK, arK, valsK, mBi, mIsi, isiK, D.tag, st1, mNext, mSeq, mBreak, mCont, mDrop, mRet, mRetN, mIfS, mAsg, asgK, mAsgG, dName, dNil, dCons, dTup, mPar, setEach, Ev.sv, hold, hold_hold, retK, retS, bodyE, HD.Fr.set, HD.Fr.put, Cel.sv, Cel.toD, Cel.own, startF, mCall, argE, arr1, arr2, arr3, arr4, arrK, arrD, callK, cellsOf, celEv, celS, backF, plEv, plS, plA, plB, id_eq, true_and, and_true, List.mem_singleton, ite_true, ite_false, goodPl, isTmp, retE, evRet, celRet, List.map_cons, List.map_nil, List.length_cons, List.length_nil, List.getD_cons_zero, List.getD_cons_succ, List.getElem?_cons_zero, List.getElem?_cons_succ, List.getElem?_nil, List.set_cons_zero, List.set_cons_succ, dInt, dInt0, dCmpI, dAdd, dMul, dEq, dIsN, isNonD, dIn, dIx, mRd, mRd0, mMu, mMu0, tyD, celK, celKs, celKa, lstC, mSetF, fldC, putN, putV, dSub, ixC, mIter, mEnum, mZip, mRange1, mRange2, itemsK, itA, itemsD, mFor, mLc, mYes, mRaise, mTryAs, suiteE, mExf, exfK, exnD, mKdIn, mKdIx, mKdT, strK, mMeth, insK, mMake, makeK, mInO, mStrO, mLenO, mListG, callG, gLen, gInt, gStr, gList, gTuple, gAll, gSum, gAbs, gMax, gMin, Bool.not_true, Bool.not_false, Bool.and_true, Bool.true_and, Bool.or_false, Bool.false_or, Bool.or_true, Bool.true_or, Bool.and_false, Bool.false_and, kbe_int_NoneType, kbe_int_bool, kbe_int_int, kbe_int_str, kbe_int_tuple, kbe_int_list, kbe_int_dict, kbe_bool_NoneType, kbe_bool_bool, kbe_bool_int, kbe_bool_str, kbe_bool_tuple, kbe_bool_list, kbe_bool_dict, kbe_str_NoneType, kbe_str_bool, kbe_str_int, kbe_str_str, kbe_str_tuple, kbe_str_list, kbe_str_dict, kbe_tuple_NoneType, kbe_tuple_bool, kbe_tuple_int, kbe_tuple_str, kbe_tuple_tuple, kbe_tuple_list, kbe_tuple_dict, kbe_list_NoneType, kbe_list_bool, kbe_list_int, kbe_list_str, kbe_list_tuple, kbe_list_list, kbe_list_dict, kbe_list_tuple_NoneType, kbe_list_tuple_bool, kbe_list_tuple_int, kbe_list_tuple_str, kbe_list_tuple_tuple, kbe_list_tuple_list, kbe_list_tuple_dict, noOwn, noOwnS, wipeF, restF, List.all_cons, List.all_nil, lInsert, lPop, lAppend, sJoin, seqD, lstD, ex_some, deq_int, deq_bl, deq_str, pl_int, pl_bl, pl_str, decide_true, decide_false, eq_self, BentF, atI_get xs sp h0 h1]
  exact ⟨rfl, Nat.lt_trans hx (by decide), h0, by omega, q _ (List.getElem_mem _)⟩
theorem ok_bent_pop {ns : List Int} {bag xs : List D} {a : Option Sv} {sp : Int} {c : D} {D' : DE} (h0 : 0 ≤ sp) (h1 : sp < xs.length) (hx : xs.length < 1000) (q : D'.nx (BentF ns bag (xs.eraseIdx sp.toNat) a (.int sp) c)) : bent_pop D' (BentF ns bag xs a (.int sp) c) := by
  unfold bent_pop
  simp only [mSh, mVar, svK, mBin, mAndV, mOrV, mNotV, mIf, mUn, dNeg, dInv, mChain, mTst, mTru, blK, mAnd, mOr, mNot, brK_tt, brK_ff, truK, mNil, mCons, mConsT, mTup, mLst, frzAll, frzK, frzS, frzA, mSl, mNoPart, mPart, dSl, mFld, dFld, lookD, intK, valK, slK, arK, valsK, mBi, mIsi, isiK, D.tag, st1, mNext, mSeq, mBreak, mCont, mDrop, mRet, mRetN, mIfS, mAsg, asgK, mAsgG, dName, dNil, dCons, dTup, mPar, setEach, Ev.sv, hold, hold_hold, retK, retS, bodyE, HD.Fr.set, HD.Fr.put, Cel.sv, Cel.toD, Cel.own, startF, mCall, argE, arr1, arr2, arr3, arr4, arrK, arrD, callK, cellsOf, celEv, celS, backF, plEv, plS, plA, plB, id_eq, true_and, and_true, List.mem_singleton, ite_true, ite_false, goodPl, isTmp, retE, evRet, celRet, List.map_cons, List.map_nil, List.length_cons, List.length_nil, List.getD_cons_zero, List.getD_cons_succ, List.getElem?_cons_zero, List.getElem?_cons_succ, List.getElem?_nil, List.set_cons_zero, List.set_cons_succ, dInt, dInt0, dCmpI, dAdd, dMul, dEq, dIsN, isNonD, dIn, dIx, mRd, mRd0, mMu, mMu0, tyD, celK, celKs, celKa, lstC, mSetF, fldC, putN, putV, dSub, ixC, mIter, mEnum, mZip, mRange1, mRange2, itemsK, itA, itemsD, mFor, mLc, mYes, mRaise, mTryAs, suiteE, mExf, exfK, exnD, mKdIn, mKdIx, mKdT, strK, mMeth, insK, mMake, makeK, mInO, mStrO, mLenO, mListG, callG, gLen, gInt, gStr, gList, gTuple, gAll, gSum, gAbs, gMax, gMin, Bool.not_true, Bool.not_false, Bool.and_true, Bool.true_and, Bool.or_false, Bool.false_or, Bool.or_true, Bool.true_or, Bool.and_false, Bool.false_and, kbe_int_NoneType, kbe_int_bool, kbe_int_int, kbe_int_str, kbe_int_tuple, kbe_int_list, kbe_int_dict, kbe_bool_NoneType, kbe_bool_bool, kbe_bool_int, kbe_bool_str, kbe_bool_tuple, kbe_bool_list, kbe_bool_dict, kbe_str_NoneType, kbe_str_bool, kbe_str_int, kbe_str_str, kbe_str_tuple, kbe_str_list, kbe_str_dict, kbe_tuple_NoneType, kbe_tuple_bool, kbe_tuple_int, kbe_tuple_str, kbe_tuple_tuple, kbe_tuple_list, kbe_tuple_dict, kbe_list_NoneType, kbe_list_bool, kbe_list_int, kbe_list_str, kbe_list_tuple, kbe_list_list, kbe_list_dict, kbe_list_tuple_NoneType, kbe_list_tuple_bool, kbe_list_tuple_int, kbe_list_tuple_str, kbe_list_tuple_tuple, kbe_list_tuple_list, kbe_list_tuple_dict, noOwn, noOwnS, wipeF, restF, List.all_cons, List.all_nil, lInsert, lPop, lAppend, sJoin, seqD, lstD, ex_some, deq_int, deq_bl, deq_str, pl_int, pl_bl, pl_str, decide_true, decide_false, eq_self, BentF]
  refine ⟨rfl, by omega, by omega, sp.toNat, xs[sp.toNat]'(by omega), ?_, List.getElem?_eq_getElem (by omega), q⟩
  show (if (decide (0 ≤ (if sp < 0 then sp + (xs.length : Int) else sp)) && decide ((if sp < 0 then sp + (xs.length : Int) else sp) < (xs.length : Int))) = true then some (if sp < 0 then sp + (xs.length : Int) else sp).toNat else none) = _
  rw [if_neg (by omega : ¬ sp < 0), if_pos (by simp only [Bool.and_eq_true, decide_eq_true_eq]; exact ⟨h0, h1⟩)]
theorem ok_bent_set {ns : List Int} {bag xs : List D} {a : Option Sv} {sp : Int} {c : D} {D' : DE} (hb : BagOk bag) (h0 : 0 ≤ sp) (h1 : sp < xs.length) (hx : xs.length < 1000) (q : ∀ d bag', BagOk bag' → tg d → D'.nx (BentF ns bag' (xs.set sp.toNat d) a (.int sp) c)) : bent_set D' (BentF ns bag xs a (.int sp) c) := by
  unfold bent_set
  simp only [mSh, mVar, svK, mBin, mAndV, mOrV, mNotV, mIf, mUn, dNeg, dInv, mChain, mTst, mTru, blK, mAnd, mOr, mNot, brK_tt, brK_ff, truK, mNil, mCons, mConsT, mTup, mLst, frzAll, frzK, frzS, frzA, mSl, mNoPart, mPart, dSl, mFld, dFld, lookD, intK, valK, slK, arK, valsK, mBi, mIsi, isiK, D.tag, st1, mNext, mSeq, mBreak, mCont, mDrop, mRet, mRetN, mIfS, mAsg, asgK, mAsgG, dName, dNil, dCons, dTup, mPar, setEach, Ev.sv, hold, hold_hold, retK, retS, bodyE, HD.Fr.set, HD.Fr.put, Cel.sv, Cel.toD, Cel.own, startF, mCall, argE, arr1, arr2, arr3, arr4, arrK, arrD, callK, cellsOf, celEv, celS, backF, plEv, plS, plA, plB, id_eq, true_and, and_true, List.mem_singleton, ite_true, ite_false, goodPl, isTmp, retE, evRet, celRet, List.map_cons, List.map_nil, List.length_cons, List.length_nil, List.getD_cons_zero, List.getD_cons_succ, List.getElem?_cons_zero, List.getElem?_cons_succ, List.getElem?_nil, List.set_cons_zero, List.set_cons_succ, dInt, dInt0, dCmpI, dAdd, dMul, dEq, dIsN, isNonD, dIn, dIx, mRd, mRd0, mMu, mMu0, tyD, celK, celKs, celKa, lstC, mSetF, fldC, putN, putV, dSub, ixC, mIter, mEnum, mZip, mRange1, mRange2, itemsK, itA, itemsD, mFor, mLc, mYes, mRaise, mTryAs, suiteE, mExf, exfK, exnD, mKdIn, mKdIx, mKdT, strK, mMeth, insK, mMake, makeK, mInO, mStrO, mLenO, mListG, callG, gLen, gInt, gStr, gList, gTuple, gAll, gSum, gAbs, gMax, gMin, Bool.not_true, Bool.not_false, Bool.and_true, Bool.true_and, Bool.or_false, Bool.false_or, Bool.or_true, Bool.true_or, Bool.and_false, Bool.false_and, kbe_int_NoneType, kbe_int_bool, kbe_int_int, kbe_int_str, kbe_int_tuple, kbe_int_list, kbe_int_dict, kbe_bool_NoneType, kbe_bool_bool, kbe_bool_int, kbe_bool_str, kbe_bool_tuple, kbe_bool_list, kbe_bool_dict, kbe_str_NoneType, kbe_str_bool, kbe_str_int, kbe_str_str, kbe_str_tuple, kbe_str_list, kbe_str_dict, kbe_tuple_NoneType, kbe_tuple_bool, kbe_tuple_int, kbe_tuple_str, kbe_tuple_tuple, kbe_tuple_list, kbe_tuple_dict, kbe_list_NoneType, kbe_list_bool, kbe_list_int, kbe_list_str, kbe_list_tuple, kbe_list_list, kbe_list_dict, kbe_list_tuple_NoneType, kbe_list_tuple_bool, kbe_list_tuple_int, kbe_list_tuple_str, kbe_list_tuple_tuple, kbe_list_tuple_list, kbe_list_tuple_dict, noOwn, noOwnS, wipeF, restF, List.all_cons, List.all_nil, lInsert, lPop, lAppend, sJoin, seqD, lstD, ex_some, deq_int, deq_bl, deq_str, pl_int, pl_bl, pl_str, decide_true, decide_false, eq_self, BentF, sp__law_draw, sp__law_of]
  refine ⟨by decide, ⟨nd1 _, Nat.zero_le 1⟩, bag, _, rfl, hb, by decide, by decide, fun r bag1 hb1 r0 r1 => ⟨⟨by decide, by decide, by decide⟩, ⟨nd1 _, Nat.zero_le 1⟩, bag1, _, rfl, hb1, by decide, by decide, fun r2 bag2 hb2 r20 r21 => ⟨by decide, ⟨nd1 _, Nat.zero_le 1⟩, bag2, _, rfl, hb2, (by simp), (by simp), fun d bag3 hb3 hd => ⟨sp.toNat, ?_, q d bag3 hb3 ?_⟩⟩⟩⟩
  · unfold ixN
    rw [if_pos h0, if_pos h1]
  · simp only [List.mem_cons, List.not_mem_nil, or_false] at hd
    rcases hd with rfl | rfl | rfl | rfl | rfl | rfl | rfl | rfl | rfl | rfl <;> rfl

theorem lt_nat {n : Nat} (h : decide ((1 : Int) < (n : Int)) = true) : 1 < n := by
  have h : (1 : Int) < (n : Int) := by simpa using h
  omega
theorem mem_ins {xs : List D} {k : Nat} {x : D} (hx : x ∈ xs) : ∀ y ∈ xs.take k ++ [x] ++ xs.drop k, y ∈ xs := by
  intro y hy
  rcases List.mem_append.mp hy with hy | hy
  · rcases List.mem_append.mp hy with hy | hy
    · exact List.mem_of_mem_take hy
    · rw [List.mem_singleton.mp hy]; exact hx
  · exact List.mem_of_mem_drop hy
theorem ok_bent_if {ns : List Int} {bag xs : List D} {a : Option Sv} {sp : Int} {c : Int} {D' : DE} {n : Nat} (hb : BagOk bag) (h0 : 0 ≤ sp) (h1 : sp < xs.length) (hx : xs.length ≤ 40 + n) (hn : n < 2) (ht : ∀ x ∈ xs, tg x) (q : ∀ bag' xs', BagOk bag' → 1 ≤ xs'.length → xs'.length ≤ 40 + (n + 1) → (∀ x ∈ xs', tg x) → D'.nx (BentF ns bag' xs' a (.int sp) (.int c))) : bent_if D' (BentF ns bag xs a (.int sp) (.int c)) := by
  unfold bent_if
  have p1 := ok_bent_ins (ns := ns) (bag := bag) (a := a) (c := .int c) (D' := D') h0 h1 (by omega) (fun x hx' => q bag _ hb (by simp only [List.length_append, List.length_take, List.length_drop, List.length_cons, List.length_nil]; omega) (by simp only [List.length_append, List.length_take, List.length_drop, List.length_cons, List.length_nil]; omega) (fun y hy => ht y (mem_ins hx' y hy)))
  have p2 := fun (h2 : 1 < xs.length) => ok_bent_pop (ns := ns) (bag := bag) (a := a) (c := .int c) (D' := D') h0 h1 (by omega) (q bag _ hb (by rw [List.length_eraseIdx]; split <;> omega) (by rw [List.length_eraseIdx]; split <;> omega) (fun y hy => ht y (List.mem_of_mem_eraseIdx hy)))
  have p3 := ok_bent_set (ns := ns) (bag := bag) (a := a) (c := .int c) (D' := D') hb h0 h1 (by omega) (fun d bag' hb' hd => q bag' _ hb' (by rw [List.length_set]; omega) (by rw [List.length_set]; omega) (fun y hy => by
    rcases List.mem_or_eq_of_mem_set hy with hy | rfl
    · exact ht y hy
    · exact hd))
  unfold BentF at p1 p2 p3 ⊢
  simp only [mSh, mVar, svK, mBin, mAndV, mOrV, mNotV, mIf, mUn, dNeg, dInv, mChain, mTst, mTru, blK, mAnd, mOr, mNot, brK_tt, brK_ff, truK, mNil, mCons, mConsT, mTup, mLst, frzAll, frzK, frzS, frzA, mSl, mNoPart, mPart, dSl, mFld, dFld, lookD, intK, valK, slK, arK, valsK, mBi, mIsi, isiK, D.tag, st1, mNext, mSeq, mBreak, mCont, mDrop, mRet, mRetN, mIfS, mAsg, asgK, mAsgG, dName, dNil, dCons, dTup, mPar, setEach, Ev.sv, hold, hold_hold, retK, retS, bodyE, HD.Fr.set, HD.Fr.put, Cel.sv, Cel.toD, Cel.own, startF, mCall, argE, arr1, arr2, arr3, arr4, arrK, arrD, callK, cellsOf, celEv, celS, backF, plEv, plS, plA, plB, id_eq, true_and, and_true, List.mem_singleton, ite_true, ite_false, goodPl, isTmp, retE, evRet, celRet, List.map_cons, List.map_nil, List.length_cons, List.length_nil, List.getD_cons_zero, List.getD_cons_succ, List.getElem?_cons_zero, List.getElem?_cons_succ, List.getElem?_nil, List.set_cons_zero, List.set_cons_succ, dInt, dInt0, dCmpI, dAdd, dMul, dEq, dIsN, isNonD, dIn, dIx, mRd, mRd0, mMu, mMu0, tyD, celK, celKs, celKa, lstC, mSetF, fldC, putN, putV, dSub, ixC, mIter, mEnum, mZip, mRange1, mRange2, itemsK, itA, itemsD, mFor, mLc, mYes, mRaise, mTryAs, suiteE, mExf, exfK, exnD, mKdIn, mKdIx, mKdT, strK, mMeth, insK, mMake, makeK, mInO, mStrO, mLenO, mListG, callG, gLen, gInt, gStr, gList, gTuple, gAll, gSum, gAbs, gMax, gMin, Bool.not_true, Bool.not_false, Bool.and_true, Bool.true_and, Bool.or_false, Bool.false_or, Bool.or_true, Bool.true_or, Bool.and_false, Bool.false_and, kbe_int_NoneType, kbe_int_bool, kbe_int_int, kbe_int_str, kbe_int_tuple, kbe_int_list, kbe_int_dict, kbe_bool_NoneType, kbe_bool_bool, kbe_bool_int, kbe_bool_str, kbe_bool_tuple, kbe_bool_list, kbe_bool_dict, kbe_str_NoneType, kbe_str_bool, kbe_str_int, kbe_str_str, kbe_str_tuple, kbe_str_list, kbe_str_dict, kbe_tuple_NoneType, kbe_tuple_bool, kbe_tuple_int, kbe_tuple_str, kbe_tuple_tuple, kbe_tuple_list, kbe_tuple_dict, kbe_list_NoneType, kbe_list_bool, kbe_list_int, kbe_list_str, kbe_list_tuple, kbe_list_list, kbe_list_dict, kbe_list_tuple_NoneType, kbe_list_tuple_bool, kbe_list_tuple_int, kbe_list_tuple_str, kbe_list_tuple_tuple, kbe_list_tuple_list, kbe_list_tuple_dict, noOwn, noOwnS, wipeF, restF, List.all_cons, List.all_nil, lInsert, lPop, lAppend, sJoin, seqD, lstD, ex_some, deq_int, deq_bl, deq_str, pl_int, pl_bl, pl_str, decide_true, decide_false, eq_self]
  refine ⟨fun _ => p1, fun _ => ⟨fun _ => ⟨fun h => p2 (lt_nat h), fun _ => p3⟩, fun _ => p3⟩⟩
theorem ok__law_bent : ∀ cs Q E, cs.length = 2 → sp__law_bent cs Q E → m__law_bent (bodyE Q E) (startF 6 cs) := by
  rintro cs Q E - ⟨bag, ns, rfl, hb, h1, h2, q⟩
  show m__law_bent (bodyE Q E) ⟨[some (.ar 0), some (.ar 1), none, none, none, none], _⟩
  unfold m__law_bent
  simp only [mSh, mVar, svK, mBin, mAndV, mOrV, mNotV, mIf, mUn, dNeg, dInv, mChain, mTst, mTru, blK, mAnd, mOr, mNot, brK_tt, brK_ff, truK, mNil, mCons, mConsT, mTup, mLst, frzAll, frzK, frzS, frzA, mSl, mNoPart, mPart, dSl, mFld, dFld, lookD, intK, valK, slK, arK, valsK, mBi, mIsi, isiK, D.tag, st1, mNext, mSeq, mBreak, mCont, mDrop, mRet, mRetN, mIfS, mAsg, asgK, mAsgG, dName, dNil, dCons, dTup, mPar, setEach, Ev.sv, hold, hold_hold, retK, retS, bodyE, HD.Fr.set, HD.Fr.put, Cel.sv, Cel.toD, Cel.own, startF, mCall, argE, arr1, arr2, arr3, arr4, arrK, arrD, callK, cellsOf, celEv, celS, backF, plEv, plS, plA, plB, id_eq, true_and, and_true, List.mem_singleton, ite_true, ite_false, goodPl, isTmp, retE, evRet, celRet, List.map_cons, List.map_nil, List.length_cons, List.length_nil, List.getD_cons_zero, List.getD_cons_succ, List.getElem?_cons_zero, List.getElem?_cons_succ, List.getElem?_nil, List.set_cons_zero, List.set_cons_succ, dInt, dInt0, dCmpI, dAdd, dMul, dEq, dIsN, isNonD, dIn, dIx, mRd, mRd0, mMu, mMu0, tyD, celK, celKs, celKa, lstC, mSetF, fldC, putN, putV, dSub, ixC, mIter, mEnum, mZip, mRange1, mRange2, itemsK, itA, itemsD, mFor, mLc, mYes, mRaise, mTryAs, suiteE, mExf, exfK, exnD, mKdIn, mKdIx, mKdT, strK, mMeth, insK, mMake, makeK, mInO, mStrO, mLenO, mListG, callG, gLen, gInt, gStr, gList, gTuple, gAll, gSum, gAbs, gMax, gMin, Bool.not_true, Bool.not_false, Bool.and_true, Bool.true_and, Bool.or_false, Bool.false_or, Bool.or_true, Bool.true_or, Bool.and_false, Bool.false_and, kbe_int_NoneType, kbe_int_bool, kbe_int_int, kbe_int_str, kbe_int_tuple, kbe_int_list, kbe_int_dict, kbe_bool_NoneType, kbe_bool_bool, kbe_bool_int, kbe_bool_str, kbe_bool_tuple, kbe_bool_list, kbe_bool_dict, kbe_str_NoneType, kbe_str_bool, kbe_str_int, kbe_str_str, kbe_str_tuple, kbe_str_list, kbe_str_dict, kbe_tuple_NoneType, kbe_tuple_bool, kbe_tuple_int, kbe_tuple_str, kbe_tuple_tuple, kbe_tuple_list, kbe_tuple_dict, kbe_list_NoneType, kbe_list_bool, kbe_list_int, kbe_list_str, kbe_list_tuple, kbe_list_list, kbe_list_dict, kbe_list_tuple_NoneType, kbe_list_tuple_bool, kbe_list_tuple_int, kbe_list_tuple_str, kbe_list_tuple_tuple, kbe_list_tuple_list, kbe_list_tuple_dict, noOwn, noOwnS, wipeF, restF, List.all_cons, List.all_nil, lInsert, lPop, lAppend, sJoin, seqD, lstD, ex_some, deq_int, deq_bl, deq_str, pl_int, pl_bl, pl_str, decide_true, decide_false, eq_self, sp__law_of]
  have hn : (iD ns).length = ns.length := by simp [iD]
  refine ⟨by decide, ⟨nd1 _, Nat.zero_le 1⟩, bag, _, rfl, hb, by decide, by decide, fun d bag1 hb1 hd => ?_⟩
  have hd : ∃ k : Int, d = .int k ∧ 0 ≤ k ∧ k ≤ 2 := by
    simp only [List.mem_cons, List.not_mem_nil, or_false] at hd
    rcases hd with rfl | rfl | rfl | rfl | rfl <;> exact ⟨_, rfl, by decide, by decide⟩
  obtain ⟨k, rfl, k0, k2⟩ := hd
  simp only [mSh, mVar, svK, mBin, mAndV, mOrV, mNotV, mIf, mUn, dNeg, dInv, mChain, mTst, mTru, blK, mAnd, mOr, mNot, brK_tt, brK_ff, truK, mNil, mCons, mConsT, mTup, mLst, frzAll, frzK, frzS, frzA, mSl, mNoPart, mPart, dSl, mFld, dFld, lookD, intK, valK, slK, arK, valsK, mBi, mIsi, isiK, D.tag, st1, mNext, mSeq, mBreak, mCont, mDrop, mRet, mRetN, mIfS, mAsg, asgK, mAsgG, dName, dNil, dCons, dTup, mPar, setEach, Ev.sv, hold, hold_hold, retK, retS, bodyE, HD.Fr.set, HD.Fr.put, Cel.sv, Cel.toD, Cel.own, startF, mCall, argE, arr1, arr2, arr3, arr4, arrK, arrD, callK, cellsOf, celEv, celS, backF, plEv, plS, plA, plB, id_eq, true_and, and_true, List.mem_singleton, ite_true, ite_false, goodPl, isTmp, retE, evRet, celRet, List.map_cons, List.map_nil, List.length_cons, List.length_nil, List.getD_cons_zero, List.getD_cons_succ, List.getElem?_cons_zero, List.getElem?_cons_succ, List.getElem?_nil, List.set_cons_zero, List.set_cons_succ, dInt, dInt0, dCmpI, dAdd, dMul, dEq, dIsN, isNonD, dIn, dIx, mRd, mRd0, mMu, mMu0, tyD, celK, celKs, celKa, lstC, mSetF, fldC, putN, putV, dSub, ixC, mIter, mEnum, mZip, mRange1, mRange2, itemsK, itA, itemsD, mFor, mLc, mYes, mRaise, mTryAs, suiteE, mExf, exfK, exnD, mKdIn, mKdIx, mKdT, strK, mMeth, insK, mMake, makeK, mInO, mStrO, mLenO, mListG, callG, gLen, gInt, gStr, gList, gTuple, gAll, gSum, gAbs, gMax, gMin, Bool.not_true, Bool.not_false, Bool.and_true, Bool.true_and, Bool.or_false, Bool.false_or, Bool.or_true, Bool.true_or, Bool.and_false, Bool.false_and, kbe_int_NoneType, kbe_int_bool, kbe_int_int, kbe_int_str, kbe_int_tuple, kbe_int_list, kbe_int_dict, kbe_bool_NoneType, kbe_bool_bool, kbe_bool_int, kbe_bool_str, kbe_bool_tuple, kbe_bool_list, kbe_bool_dict, kbe_str_NoneType, kbe_str_bool, kbe_str_int, kbe_str_str, kbe_str_tuple, kbe_str_list, kbe_str_dict, kbe_tuple_NoneType, kbe_tuple_bool, kbe_tuple_int, kbe_tuple_str, kbe_tuple_tuple, kbe_tuple_list, kbe_tuple_dict, kbe_list_NoneType, kbe_list_bool, kbe_list_int, kbe_list_str, kbe_list_tuple, kbe_list_list, kbe_list_dict, kbe_list_tuple_NoneType, kbe_list_tuple_bool, kbe_list_tuple_int, kbe_list_tuple_str, kbe_list_tuple_tuple, kbe_list_tuple_list, kbe_list_tuple_dict, noOwn, noOwnS, wipeF, restF, List.all_cons, List.all_nil, lInsert, lPop, lAppend, sJoin, seqD, lstD, ex_some, deq_int, deq_bl, deq_str, pl_int, pl_bl, pl_str, decide_true, decide_false, eq_self]
  refine ⟨by omega, by omega, ?_⟩
  refine loopD_inv (fun i F => ∃ bag' xs a b c, F = ⟨[some (.ar 0), some (.ar 1), some (.own (.lst xs)), a, Option.map Sv.sh b, Option.map Sv.sh c], [.lst bag', .gone (.tup (iD ns))]⟩ ∧ BagOk bag' ∧ 1 ≤ xs.length ∧ xs.length ≤ 40 + i ∧ ∀ x ∈ xs, tg x) (fun i F h => True.intro) ?_ ?_ ⟨bag1, iD ns, none, none, none, rfl, hb1, by rw [hn]; exact h1, by rw [hn]; exact h2, fun x hx => by obtain ⟨z, _, rfl⟩ := List.mem_map.mp hx; rfl⟩
  · rintro i d F hi ⟨bag', xs, a, b, c, hF, hb', l1, l2, ht⟩ N hN
    obtain ⟨hik, rfl⟩ := rangeD_get hi
    subst hF
    show dName 3 _ _ fun F1 => mSeq (mPar [4, 5] _) bent_if _ F1
    simp only [mSh, mVar, svK, mBin, mAndV, mOrV, mNotV, mIf, mUn, dNeg, dInv, mChain, mTst, mTru, blK, mAnd, mOr, mNot, brK_tt, brK_ff, truK, mNil, mCons, mConsT, mTup, mLst, frzAll, frzK, frzS, frzA, mSl, mNoPart, mPart, dSl, mFld, dFld, lookD, intK, valK, slK, arK, valsK, mBi, mIsi, isiK, D.tag, st1, mNext, mSeq, mBreak, mCont, mDrop, mRet, mRetN, mIfS, mAsg, asgK, mAsgG, dName, dNil, dCons, dTup, mPar, setEach, Ev.sv, hold, hold_hold, retK, retS, bodyE, HD.Fr.set, HD.Fr.put, Cel.sv, Cel.toD, Cel.own, startF, mCall, argE, arr1, arr2, arr3, arr4, arrK, arrD, callK, cellsOf, celEv, celS, backF, plEv, plS, plA, plB, id_eq, true_and, and_true, List.mem_singleton, ite_true, ite_false, goodPl, isTmp, retE, evRet, celRet, List.map_cons, List.map_nil, List.length_cons, List.length_nil, List.getD_cons_zero, List.getD_cons_succ, List.getElem?_cons_zero, List.getElem?_cons_succ, List.getElem?_nil, List.set_cons_zero, List.set_cons_succ, dInt, dInt0, dCmpI, dAdd, dMul, dEq, dIsN, isNonD, dIn, dIx, mRd, mRd0, mMu, mMu0, tyD, celK, celKs, celKa, lstC, mSetF, fldC, putN, putV, dSub, ixC, mIter, mEnum, mZip, mRange1, mRange2, itemsK, itA, itemsD, mFor, mLc, mYes, mRaise, mTryAs, suiteE, mExf, exfK, exnD, mKdIn, mKdIx, mKdT, strK, mMeth, insK, mMake, makeK, mInO, mStrO, mLenO, mListG, callG, gLen, gInt, gStr, gList, gTuple, gAll, gSum, gAbs, gMax, gMin, Bool.not_true, Bool.not_false, Bool.and_true, Bool.true_and, Bool.or_false, Bool.false_or, Bool.or_true, Bool.true_or, Bool.and_false, Bool.false_and, kbe_int_NoneType, kbe_int_bool, kbe_int_int, kbe_int_str, kbe_int_tuple, kbe_int_list, kbe_int_dict, kbe_bool_NoneType, kbe_bool_bool, kbe_bool_int, kbe_bool_str, kbe_bool_tuple, kbe_bool_list, kbe_bool_dict, kbe_str_NoneType, kbe_str_bool, kbe_str_int, kbe_str_str, kbe_str_tuple, kbe_str_list, kbe_str_dict, kbe_tuple_NoneType, kbe_tuple_bool, kbe_tuple_int, kbe_tuple_str, kbe_tuple_tuple, kbe_tuple_list, kbe_tuple_dict, kbe_list_NoneType, kbe_list_bool, kbe_list_int, kbe_list_str, kbe_list_tuple, kbe_list_list, kbe_list_dict, kbe_list_tuple_NoneType, kbe_list_tuple_bool, kbe_list_tuple_int, kbe_list_tuple_str, kbe_list_tuple_tuple, kbe_list_tuple_list, kbe_list_tuple_dict, noOwn, noOwnS, wipeF, restF, List.all_cons, List.all_nil, lInsert, lPop, lAppend, sJoin, seqD, lstD, ex_some, deq_int, deq_bl, deq_str, pl_int, pl_bl, pl_str, decide_true, decide_false, eq_self, sp__law_draw]
    refine ⟨⟨nd1 _, Nat.zero_le 1⟩, bag', _, rfl, hb', by omega, by omega, fun r bag2 hb2 r0 r1 => ⟨⟨nd1 _, Nat.zero_le 1⟩, bag2, _, rfl, hb2, by omega, by omega, fun r2 bag3 hb3 r20 r21 => ?_⟩⟩
    exact ok_bent_if hb3 r0 r1 l2 (by omega) ht fun bag4 xs' hb4 h1 h2 h3 => hN _ ⟨bag4, xs', _, some _, some _, rfl, hb4, h1, h2, h3⟩
  · rintro F ⟨bag', xs, a, b, c, hF, hb', l1, l2, ht⟩
    subst hF
    rw [rangeD_len] at l2
    simp only [mSh, mVar, svK, mBin, mAndV, mOrV, mNotV, mIf, mUn, dNeg, dInv, mChain, mTst, mTru, blK, mAnd, mOr, mNot, brK_tt, brK_ff, truK, mNil, mCons, mConsT, mTup, mLst, frzAll, frzK, frzS, frzA, mSl, mNoPart, mPart, dSl, mFld, dFld, lookD, intK, valK, slK, arK, valsK, mBi, mIsi, isiK, D.tag, st1, mNext, mSeq, mBreak, mCont, mDrop, mRet, mRetN, mIfS, mAsg, asgK, mAsgG, dName, dNil, dCons, dTup, mPar, setEach, Ev.sv, hold, hold_hold, retK, retS, bodyE, HD.Fr.set, HD.Fr.put, Cel.sv, Cel.toD, Cel.own, startF, mCall, argE, arr1, arr2, arr3, arr4, arrK, arrD, callK, cellsOf, celEv, celS, backF, plEv, plS, plA, plB, id_eq, true_and, and_true, List.mem_singleton, ite_true, ite_false, goodPl, isTmp, retE, evRet, celRet, List.map_cons, List.map_nil, List.length_cons, List.length_nil, List.getD_cons_zero, List.getD_cons_succ, List.getElem?_cons_zero, List.getElem?_cons_succ, List.getElem?_nil, List.set_cons_zero, List.set_cons_succ, dInt, dInt0, dCmpI, dAdd, dMul, dEq, dIsN, isNonD, dIn, dIx, mRd, mRd0, mMu, mMu0, tyD, celK, celKs, celKa, lstC, mSetF, fldC, putN, putV, dSub, ixC, mIter, mEnum, mZip, mRange1, mRange2, itemsK, itA, itemsD, mFor, mLc, mYes, mRaise, mTryAs, suiteE, mExf, exfK, exnD, mKdIn, mKdIx, mKdT, strK, mMeth, insK, mMake, makeK, mInO, mStrO, mLenO, mListG, callG, gLen, gInt, gStr, gList, gTuple, gAll, gSum, gAbs, gMax, gMin, Bool.not_true, Bool.not_false, Bool.and_true, Bool.true_and, Bool.or_false, Bool.false_or, Bool.or_true, Bool.true_or, Bool.and_false, Bool.false_and, kbe_int_NoneType, kbe_int_bool, kbe_int_int, kbe_int_str, kbe_int_tuple, kbe_int_list, kbe_int_dict, kbe_bool_NoneType, kbe_bool_bool, kbe_bool_int, kbe_bool_str, kbe_bool_tuple, kbe_bool_list, kbe_bool_dict, kbe_str_NoneType, kbe_str_bool, kbe_str_int, kbe_str_str, kbe_str_tuple, kbe_str_list, kbe_str_dict, kbe_tuple_NoneType, kbe_tuple_bool, kbe_tuple_int, kbe_tuple_str, kbe_tuple_tuple, kbe_tuple_list, kbe_tuple_dict, kbe_list_NoneType, kbe_list_bool, kbe_list_int, kbe_list_str, kbe_list_tuple, kbe_list_list, kbe_list_dict, kbe_list_tuple_NoneType, kbe_list_tuple_bool, kbe_list_tuple_int, kbe_list_tuple_str, kbe_list_tuple_tuple, kbe_list_tuple_list, kbe_list_tuple_dict, noOwn, noOwnS, wipeF, restF, List.all_cons, List.all_nil, lInsert, lPop, lAppend, sJoin, seqD, lstD, ex_some, deq_int, deq_bl, deq_str, pl_int, pl_bl, pl_str, decide_true, decide_false, eq_self, sp__law_draw, sp__law_of]
    refine ⟨⟨nd1 _, Nat.zero_le 1⟩, bag', _, rfl, hb', by decide, by decide, fun r bag2 hb2 r0 r1 => ⟨fun h => ?_, fun h => ?_⟩⟩
    · refine ⟨by decide, by decide, by decide, ⟨nd1 _, Nat.zero_le 1⟩, bag2, _, rfl, hb2, (by simp), (by simp), fun d bag3 hb3 hd => q d bag3 hb3 ?_⟩
      simp only [List.mem_cons, List.not_mem_nil, or_false] at hd
      rcases hd with rfl | rfl | rfl | rfl | rfl | rfl | rfl
      · exact rfl
      · exact rfl
      · exact rfl
      · exact rfl
      · exact rfl
      · exact ⟨by decide, fun x hx => by cases hx⟩
      · exact ⟨by simp, fun x hx => by rw [List.mem_singleton.mp hx]; rfl⟩
    · exact q _ bag2 hb2 ⟨by omega, ht⟩

end K10
set_option Elab.async false
set_option linter.all false
set_option maxRecDepth 100000
set_option maxHeartbeats 4000000
namespace K10
open PySem PySem.Spec PyProof.Rows L2 HD

def ll_if : MS := (mIfS (mOr (mNot (mTru (mIsi kb_tuple [] (fun _ => false) (mVar 6)))) (mTst (mBin (dEq not) (mBi gLen (mCons (mVar 6) mNil)) (mVar 7)))) (mAsg 4 (mLst (mCons (mUn dNeg (mSh (.int 1))) (mCons (mSh (.str ("BadLevels" : Str))) mNil)))) (mSeq (mAsg 8 (mLc (mRange1 (mVar 7)) (dName 9) (mNot (mTru (mCall arr3 3 0 (sp__law_is_from) (mCons (mBin dIx (mVar 6) (mVar 9)) (mCons (mVar 3) (mCons (mSh (.int 6)) mNil))) mNil))) (mVar 9) [9]))
  (mAsg 4 (mIf (mTst (mBin (dCmpI fun i j => decide (j < i)) (mBi gLen (mCons (mVar 8) mNil)) (mSh (.int 0)))) (mLst (mCons (mBin dIx (mVar 8) (mSh (.int 0))) (mCons (mSh (.str ("BadLevels" : Str))) mNil))) (mLst mNil)))))
def ll_ret : MS := (mRet (mCall arr2 2 0 (sp__law_like 5) (mCons (mLst (mCons (mVar 5) (mCons (mCall arr4 4 0 (sp__law_checked) (mCons (mVar 6) (mCons (mVar 7) (mCons (mVar 3) (mCons (mVar 2) mNil)))) mNil) mNil))) (mCons (mLst (mCons (mBin (dEq id) (mBi gLen (mCons (mVar 4) mNil)) (mSh (.int 0))) (mCons (mVar 4) mNil))) mNil)) mNil))
def ll_end : MS := (mSeq (mAsg 5 (mIf (mTst (mBin (dEq id) (mVar 2) (mSh (.int 0)))) (mCall arrK 2 1 (sp_is_levels) (mCons (mVar 6) (mCons (mVar 7) mNil)) (mCons (mVar 3) mNil)) (mCall arrD 2 0 (sp_is_levels) (mCons (mVar 6) (mCons (mVar 7) mNil)) mNil)))
  ll_ret)
def LLF (ls : List Int) (bag : List D) (way low : Int) (due : List D) (t : Option Sv) (v : D) (n : Int) (w z : Option Sv) : HD.Fr := ⟨[some (.ar 0), some (.ar 1), some (.sh (.int way)), some (.sh (.int low)), some (.own (.lst due)), t, some (.sh v), some (.sh (.int n)), w, z], [.lst bag, .gone (.tup (iD ls))]⟩
theorem firstBad_none {lo hi : Int} : ∀ (xs : List D) (k : Nat), firstBad lo hi xs k = none ↔ allNum lo hi xs = true
  | [], _ => ⟨fun _ => rfl, fun _ => rfl⟩
  | x :: xs, k => by
    have ih := firstBad_none (lo := lo) (hi := hi) xs (k + 1)
    show (if isNum x lo hi = true then _ else _) = _ ↔ (isNum x lo hi && allNum lo hi xs) = true
    by_cases h : isNum x lo hi = true
    · rw [if_pos h, h, Bool.true_and]; exact ih
    · rw [if_neg h]
      have h : isNum x lo hi = false := by simpa using h
      rw [h, Bool.false_and]
      exact ⟨fun h => (by cases h), fun h => (by cases h)⟩
theorem lvl_due {v : D} {n lo : Int} : isSeq lo 6 v n = decide (((dueL (checkL v n lo)).length : Int) = 0) := by
  have nd : ∀ k, decide (((dueL (some k)).length : Int) = 0) = false := fun k => rfl
  have nn : decide (((dueL none).length : Int) = 0) = true := rfl
  cases v with
  | tup xs =>
    show (decide ((xs.length : Int) = n) && allNum lo 6 xs) = decide (((dueL (if (xs.length : Int) = n then firstBad lo 6 xs 0 else some (-1))).length : Int) = 0)
    by_cases h : (xs.length : Int) = n
    · rw [if_pos h, decide_eq_true h, Bool.true_and]
      cases e : firstBad lo 6 xs 0 with
      | none => rw [nn]; exact (firstBad_none xs 0).mp e
      | some k =>
        rw [nd]
        cases e2 : allNum lo 6 xs with
        | false => rfl
        | true => rw [(firstBad_none xs 0).mpr e2] at e; cases e
    · rw [if_neg h, decide_eq_false h, nd]; rfl
  | _ => exact (nd _).symm
theorem plain_due (o : Option Int) (n : Nat) : ∀ x ∈ dueL o, plainD (n + 1) x := by
  intro x hx
  cases o with
  | none => cases hx
  | some k =>
    rcases List.mem_cons.mp hx with rfl | hx
    · exact True.intro
    · rw [List.mem_singleton.mp hx]; exact True.intro
theorem due_len (o : Option Int) : (dueL o).length < 1000 := by
  cases o with
  | none => decide
  | some k => exact (by decide : 2 < 1000)
theorem ok_ll_ret {ls : List Int} {bag due : List D} {way low n : Int} {v : D} {w z : Option Sv} {Q : Ev → List Cel → Prop} {E : EXc} (hv : tgs v) (hw : way = 0 ∨ low = 1) (hd : due = dueL (checkL v n low)) (q : Q (.sh (.bl true)) [.lst bag, .gone (.tup (iD ls))]) : ll_ret (bodyE Q E) (LLF ls bag way low due (some (.sh (.bl (isSeq low 6 v n)))) v n w z) := by
  unfold ll_ret LLF
  simp only [mSh, mVar, svK, mBin, mAndV, mOrV, mNotV, mIf, mUn, dNeg, dInv, mChain, mTst, mTru, blK, mAnd, mOr, mNot, brK_tt, brK_ff, truK, mNil, mCons, mConsT, mTup, mLst, frzAll, frzK, frzS, frzA, mSl, mNoPart, mPart, dSl, mFld, dFld, lookD, intK, valK, slK, arK, valsK, mBi, mIsi, isiK, D.tag, st1, mNext, mSeq, mBreak, mCont, mDrop, mRet, mRetN, mIfS, mAsg, asgK, mAsgG, dName, dNil, dCons, dTup, mPar, setEach, Ev.sv, hold, hold_hold, retK, retS, bodyE, HD.Fr.set, HD.Fr.put, Cel.sv, Cel.toD, Cel.own, startF, mCall, argE, arr1, arr2, arr3, arr4, arrK, arrD, callK, cellsOf, celEv, celS, backF, plEv, plS, plA, plB, id_eq, true_and, and_true, List.mem_singleton, ite_true, ite_false, goodPl, isTmp, retE, evRet, celRet, List.map_cons, List.map_nil, List.length_cons, List.length_nil, List.getD_cons_zero, List.getD_cons_succ, List.getElem?_cons_zero, List.getElem?_cons_succ, List.getElem?_nil, List.set_cons_zero, List.set_cons_succ, dInt, dInt0, dCmpI, dAdd, dMul, dEq, dIsN, isNonD, dIn, dIx, mRd, mRd0, mMu, mMu0, tyD, celK, celKs, celKa, lstC, mSetF, fldC, putN, putV, dSub, ixC, mIter, mEnum, mZip, mRange1, mRange2, itemsK, itA, itemsD, mFor, mLc, mYes, mRaise, mTryAs, suiteE, mExf, exfK, exnD, mKdIn, mKdIx, mKdT, strK, mMeth, insK, mMake, makeK, mInO, mStrO, mLenO, mListG, callG, gLen, gInt, gStr, gList, gTuple, gAll, gSum, gAbs, gMax, gMin, Bool.not_true, Bool.not_false, Bool.and_true, Bool.true_and, Bool.or_false, Bool.false_or, Bool.or_true, Bool.true_or, Bool.and_false, Bool.false_and, kbe_int_NoneType, kbe_int_bool, kbe_int_int, kbe_int_str, kbe_int_tuple, kbe_int_list, kbe_int_dict, kbe_bool_NoneType, kbe_bool_bool, kbe_bool_int, kbe_bool_str, kbe_bool_tuple, kbe_bool_list, kbe_bool_dict, kbe_str_NoneType, kbe_str_bool, kbe_str_int, kbe_str_str, kbe_str_tuple, kbe_str_list, kbe_str_dict, kbe_tuple_NoneType, kbe_tuple_bool, kbe_tuple_int, kbe_tuple_str, kbe_tuple_tuple, kbe_tuple_list, kbe_tuple_dict, kbe_list_NoneType, kbe_list_bool, kbe_list_int, kbe_list_str, kbe_list_tuple, kbe_list_list, kbe_list_dict, kbe_list_tuple_NoneType, kbe_list_tuple_bool, kbe_list_tuple_int, kbe_list_tuple_str, kbe_list_tuple_tuple, kbe_list_tuple_list, kbe_list_tuple_dict, noOwn, noOwnS, wipeF, restF, List.all_cons, List.all_nil, lInsert, lPop, lAppend, sJoin, seqD, lstD, ex_some, deq_int, deq_bl, deq_str, pl_int, pl_bl, pl_str, decide_true, decide_false, eq_self, sp__law_checked, sp__law_like]
  refine ⟨⟨List.nodup_nil, Nat.zero_le 1⟩, v, n, low, way, rfl, hv, hw, ?_⟩
  have e : isSeq low 6 v n = decide ((due.length : Int) = 0) := by rw [hd, ← lvl_due]
  rw [e, ← hd]
  refine ⟨by decide, by decide, ⟨List.nodup_nil, Nat.zero_le 1⟩, _, rfl, ?_, q⟩
  refine ⟨by simp, fun x hx => ?_⟩
  rcases List.mem_cons.mp hx with rfl | hx
  · exact True.intro
  · rw [List.mem_singleton.mp hx, hd]
    exact ⟨due_len _, plain_due _ _⟩
theorem ok_ll_end {ls : List Int} {bag due : List D} {way low n : Int} {v : D} {w z : Option Sv} {Q : Ev → List Cel → Prop} {E : EXc} (hv : tgs v) (hw : way = 0 ∨ low = 1) (hd : due = dueL (checkL v n low)) (q : Q (.sh (.bl true)) [.lst bag, .gone (.tup (iD ls))]) : ll_end (bodyE Q E) (LLF ls bag way low due none v n w z) := by
  have p := ok_ll_ret (ls := ls) (w := w) (z := z) (E := E) hv hw hd q
  unfold ll_end
  unfold LLF at p ⊢
  simp only [mSh, mVar, svK, mBin, mAndV, mOrV, mNotV, mIf, mUn, dNeg, dInv, mChain, mTst, mTru, blK, mAnd, mOr, mNot, brK_tt, brK_ff, truK, mNil, mCons, mConsT, mTup, mLst, frzAll, frzK, frzS, frzA, mSl, mNoPart, mPart, dSl, mFld, dFld, lookD, intK, valK, slK, arK, valsK, mBi, mIsi, isiK, D.tag, st1, mNext, mSeq, mBreak, mCont, mDrop, mRet, mRetN, mIfS, mAsg, asgK, mAsgG, dName, dNil, dCons, dTup, mPar, setEach, Ev.sv, hold, hold_hold, retK, retS, bodyE, HD.Fr.set, HD.Fr.put, Cel.sv, Cel.toD, Cel.own, startF, mCall, argE, arr1, arr2, arr3, arr4, arrK, arrD, callK, cellsOf, celEv, celS, backF, plEv, plS, plA, plB, id_eq, true_and, and_true, List.mem_singleton, ite_true, ite_false, goodPl, isTmp, retE, evRet, celRet, List.map_cons, List.map_nil, List.length_cons, List.length_nil, List.getD_cons_zero, List.getD_cons_succ, List.getElem?_cons_zero, List.getElem?_cons_succ, List.getElem?_nil, List.set_cons_zero, List.set_cons_succ, dInt, dInt0, dCmpI, dAdd, dMul, dEq, dIsN, isNonD, dIn, dIx, mRd, mRd0, mMu, mMu0, tyD, celK, celKs, celKa, lstC, mSetF, fldC, putN, putV, dSub, ixC, mIter, mEnum, mZip, mRange1, mRange2, itemsK, itA, itemsD, mFor, mLc, mYes, mRaise, mTryAs, suiteE, mExf, exfK, exnD, mKdIn, mKdIx, mKdT, strK, mMeth, insK, mMake, makeK, mInO, mStrO, mLenO, mListG, callG, gLen, gInt, gStr, gList, gTuple, gAll, gSum, gAbs, gMax, gMin, Bool.not_true, Bool.not_false, Bool.and_true, Bool.true_and, Bool.or_false, Bool.false_or, Bool.or_true, Bool.true_or, Bool.and_false, Bool.false_and, kbe_int_NoneType, kbe_int_bool, kbe_int_int, kbe_int_str, kbe_int_tuple, kbe_int_list, kbe_int_dict, kbe_bool_NoneType, kbe_bool_bool, kbe_bool_int, kbe_bool_str, kbe_bool_tuple, kbe_bool_list, kbe_bool_dict, kbe_str_NoneType, kbe_str_bool, kbe_str_int, kbe_str_str, kbe_str_tuple, kbe_str_list, kbe_str_dict, kbe_tuple_NoneType, kbe_tuple_bool, kbe_tuple_int, kbe_tuple_str, kbe_tuple_tuple, kbe_tuple_list, kbe_tuple_dict, kbe_list_NoneType, kbe_list_bool, kbe_list_int, kbe_list_str, kbe_list_tuple, kbe_list_list, kbe_list_dict, kbe_list_tuple_NoneType, kbe_list_tuple_bool, kbe_list_tuple_int, kbe_list_tuple_str, kbe_list_tuple_tuple, kbe_list_tuple_list, kbe_list_tuple_dict, noOwn, noOwnS, wipeF, restF, List.all_cons, List.all_nil, lInsert, lPop, lAppend, sJoin, seqD, lstD, ex_some, deq_int, deq_bl, deq_str, pl_int, pl_bl, pl_str, decide_true, decide_false, eq_self, sp_is_levels]
  refine ⟨fun h => ⟨⟨List.nodup_nil, Nat.zero_le 1⟩, v, n, low, rfl, hv, p⟩, fun h => ⟨⟨List.nodup_nil, Nat.zero_le 1⟩, v, n, 1, rfl, hv, ?_⟩⟩
  have h : ¬ way = 0 := by simpa using h
  have hlo : low = 1 := hw.resolve_left h
  subst hlo
  exact p
theorem rangeD_succ (k n : Nat) : rangeD (k : Int) (n + 1) = .int k :: rangeD ((k + 1 : Nat) : Int) n := by
  unfold rangeD
  rw [List.range_succ_eq_map, List.map_cons, List.map_map]
  congr 1
  apply List.map_congr_left
  intro i _
  show D.int _ = D.int _
  congr 1
  push_cast
  omega
def wrongF (low : Int) (zs : List D) : D → Option D
  | .int i => if isNum ((zs[i.toNat]?).getD .non) low 6 = true then none else some (.int i)
  | _ => none
theorem wrong_head (low : Int) (zs : List D) : ∀ (xs pre : List D), zs = pre ++ xs → ((rangeD (pre.length : Int) xs.length).filterMap (wrongF low zs)).head? = (firstBad low 6 xs pre.length).map D.int
  | [], pre, _ => rfl
  | x :: xs, pre, e => by
    have ih := wrong_head low zs xs (pre ++ [x]) (by rw [e]; simp)
    rw [List.length_append, List.length_cons, List.length_nil] at ih
    have hx : (zs[pre.length]?).getD .non = x := by rw [e]; simp
    rw [List.length_cons, rangeD_succ]
    have hf : wrongF low zs (.int (pre.length : Nat)) = if isNum x low 6 = true then none else some (.int pre.length) := by
      show (if isNum ((zs[(pre.length : Int).toNat]?).getD .non) low 6 = true then none else _) = _
      rw [Int.toNat_natCast, hx]
    show _ = Option.map D.int (if isNum x low 6 = true then firstBad low 6 xs (pre.length + 1) else some (pre.length : Int))
    by_cases h : isNum x low 6 = true
    · rw [if_pos h] at hf ⊢
      rw [List.filterMap_cons, hf]
      exact ih
    · rw [if_neg h] at hf ⊢
      rw [List.filterMap_cons, hf]
      rfl
theorem at_0 {α : Type} (w : α) (ws : List α) : atI (w :: ws) 0 = some w := atI_get (w :: ws) 0 (Int.le_refl 0) (by rw [List.length_cons]; omega)
theorem ok_ll_if {ls : List Int} {bag : List D} {way low n : Int} {v : D} {D' : DE} (hn : n = ls.length) (hl : ls.length ≤ 40) (hv : tgs v) (q : ∀ w, D'.nx (LLF ls bag way low (dueL (checkL v n low)) none v n w none)) : ll_if D' (LLF ls bag way low [] none v n none none) := by
  unfold ll_if
  unfold LLF at q ⊢
  cases v with
  | tup xs =>
    have q : ∀ w, D'.nx (LLF ls bag way low (dueL (if (xs.length : Int) = n then firstBad low 6 xs 0 else some (-1))) none (.tup xs) n w none) := q
    unfold LLF at q
    simp only [mSh, mVar, svK, mBin, mAndV, mOrV, mNotV, mIf, mUn, dNeg, dInv, mChain, mTst, mTru, blK, mAnd, mOr, mNot, brK_tt, brK_ff, truK, mNil, mCons, mConsT, mTup, mLst, frzAll, frzK, frzS, frzA, mSl, mNoPart, mPart, dSl, mFld, dFld, lookD, intK, valK, slK, arK, valsK, mBi, mIsi, isiK, D.tag, st1, mNext, mSeq, mBreak, mCont, mDrop, mRet, mRetN, mIfS, mAsg, asgK, mAsgG, dName, dNil, dCons, dTup, mPar, setEach, Ev.sv, hold, hold_hold, retK, retS, bodyE, HD.Fr.set, HD.Fr.put, Cel.sv, Cel.toD, Cel.own, startF, mCall, argE, arr1, arr2, arr3, arr4, arrK, arrD, callK, cellsOf, celEv, celS, backF, plEv, plS, plA, plB, id_eq, true_and, and_true, List.mem_singleton, ite_true, ite_false, goodPl, isTmp, retE, evRet, celRet, List.map_cons, List.map_nil, List.length_cons, List.length_nil, List.getD_cons_zero, List.getD_cons_succ, List.getElem?_cons_zero, List.getElem?_cons_succ, List.getElem?_nil, List.set_cons_zero, List.set_cons_succ, dInt, dInt0, dCmpI, dAdd, dMul, dEq, dIsN, isNonD, dIn, dIx, mRd, mRd0, mMu, mMu0, tyD, celK, celKs, celKa, lstC, mSetF, fldC, putN, putV, dSub, ixC, mIter, mEnum, mZip, mRange1, mRange2, itemsK, itA, itemsD, mFor, mLc, mYes, mRaise, mTryAs, suiteE, mExf, exfK, exnD, mKdIn, mKdIx, mKdT, strK, mMeth, insK, mMake, makeK, mInO, mStrO, mLenO, mListG, callG, gLen, gInt, gStr, gList, gTuple, gAll, gSum, gAbs, gMax, gMin, Bool.not_true, Bool.not_false, Bool.and_true, Bool.true_and, Bool.or_false, Bool.false_or, Bool.or_true, Bool.true_or, Bool.and_false, Bool.false_and, kbe_int_NoneType, kbe_int_bool, kbe_int_int, kbe_int_str, kbe_int_tuple, kbe_int_list, kbe_int_dict, kbe_bool_NoneType, kbe_bool_bool, kbe_bool_int, kbe_bool_str, kbe_bool_tuple, kbe_bool_list, kbe_bool_dict, kbe_str_NoneType, kbe_str_bool, kbe_str_int, kbe_str_str, kbe_str_tuple, kbe_str_list, kbe_str_dict, kbe_tuple_NoneType, kbe_tuple_bool, kbe_tuple_int, kbe_tuple_str, kbe_tuple_tuple, kbe_tuple_list, kbe_tuple_dict, kbe_list_NoneType, kbe_list_bool, kbe_list_int, kbe_list_str, kbe_list_tuple, kbe_list_list, kbe_list_dict, kbe_list_tuple_NoneType, kbe_list_tuple_bool, kbe_list_tuple_int, kbe_list_tuple_str, kbe_list_tuple_tuple, kbe_list_tuple_list, kbe_list_tuple_dict, noOwn, noOwnS, wipeF, restF, List.all_cons, List.all_nil, lInsert, lPop, lAppend, sJoin, seqD, lstD, ex_some, deq_int, deq_bl, deq_str, pl_int, pl_bl, pl_str, decide_true, decide_false, eq_self]
    refine ⟨fun h => ?_, fun h => ?_⟩
    · have h : ¬ (xs.length : Int) = n := by simpa using h
      rw [if_neg h] at q
      exact ⟨by decide, q _⟩
    · have h : (xs.length : Int) = n := by simpa using h
      rw [if_pos h] at q
      refine ⟨by omega, by omega, ?_⟩
      have hnx : n.toNat = xs.length := by omega
      rw [hnx]
      refine compD_filter (wrongF low xs) True.intro (by rw [rangeD_len]; exact Nat.lt_of_le_of_lt (by omega : xs.length ≤ 40) (by decide)) (fun d hd acc N ha hN => ?_) ?_
      · obtain ⟨i, hi⟩ := List.getElem?_of_mem hd
        obtain ⟨hil, rfl⟩ := rangeD_get hi
        have hg := atI_get xs (0 + (i : Int)) (by omega) (by omega)
        have e : xs[(0 + (i : Int)).toNat]? = some (xs[(0 + (i : Int)).toNat]'(by omega)) := List.getElem?_eq_getElem (by omega)
        have hm : xs[(0 + (i : Int)).toNat]'(by omega) ∈ xs := List.getElem_mem _
        simp only [turnD, mSh, mVar, svK, mBin, mAndV, mOrV, mNotV, mIf, mUn, dNeg, dInv, mChain, mTst, mTru, blK, mAnd, mOr, mNot, brK_tt, brK_ff, truK, mNil, mCons, mConsT, mTup, mLst, frzAll, frzK, frzS, frzA, mSl, mNoPart, mPart, dSl, mFld, dFld, lookD, intK, valK, slK, arK, valsK, mBi, mIsi, isiK, D.tag, st1, mNext, mSeq, mBreak, mCont, mDrop, mRet, mRetN, mIfS, mAsg, asgK, mAsgG, dName, dNil, dCons, dTup, mPar, setEach, Ev.sv, hold, hold_hold, retK, retS, bodyE, HD.Fr.set, HD.Fr.put, Cel.sv, Cel.toD, Cel.own, startF, mCall, argE, arr1, arr2, arr3, arr4, arrK, arrD, callK, cellsOf, celEv, celS, backF, plEv, plS, plA, plB, id_eq, true_and, and_true, List.mem_singleton, ite_true, ite_false, goodPl, isTmp, retE, evRet, celRet, List.map_cons, List.map_nil, List.length_cons, List.length_nil, List.getD_cons_zero, List.getD_cons_succ, List.getElem?_cons_zero, List.getElem?_cons_succ, List.getElem?_nil, List.set_cons_zero, List.set_cons_succ, dInt, dInt0, dCmpI, dAdd, dMul, dEq, dIsN, isNonD, dIn, dIx, mRd, mRd0, mMu, mMu0, tyD, celK, celKs, celKa, lstC, mSetF, fldC, putN, putV, dSub, ixC, mIter, mEnum, mZip, mRange1, mRange2, itemsK, itA, itemsD, mFor, mLc, mYes, mRaise, mTryAs, suiteE, mExf, exfK, exnD, mKdIn, mKdIx, mKdT, strK, mMeth, insK, mMake, makeK, mInO, mStrO, mLenO, mListG, callG, gLen, gInt, gStr, gList, gTuple, gAll, gSum, gAbs, gMax, gMin, Bool.not_true, Bool.not_false, Bool.and_true, Bool.true_and, Bool.or_false, Bool.false_or, Bool.or_true, Bool.true_or, Bool.and_false, Bool.false_and, kbe_int_NoneType, kbe_int_bool, kbe_int_int, kbe_int_str, kbe_int_tuple, kbe_int_list, kbe_int_dict, kbe_bool_NoneType, kbe_bool_bool, kbe_bool_int, kbe_bool_str, kbe_bool_tuple, kbe_bool_list, kbe_bool_dict, kbe_str_NoneType, kbe_str_bool, kbe_str_int, kbe_str_str, kbe_str_tuple, kbe_str_list, kbe_str_dict, kbe_tuple_NoneType, kbe_tuple_bool, kbe_tuple_int, kbe_tuple_str, kbe_tuple_tuple, kbe_tuple_list, kbe_tuple_dict, kbe_list_NoneType, kbe_list_bool, kbe_list_int, kbe_list_str, kbe_list_tuple, kbe_list_list, kbe_list_dict, kbe_list_tuple_NoneType, kbe_list_tuple_bool, kbe_list_tuple_int, kbe_list_tuple_str, kbe_list_tuple_tuple, kbe_list_tuple_list, kbe_list_tuple_dict, noOwn, noOwnS, wipeF, restF, List.all_cons, List.all_nil, lInsert, lPop, lAppend, sJoin, seqD, lstD, ex_some, deq_int, deq_bl, deq_str, pl_int, pl_bl, pl_str, decide_true, decide_false, eq_self, hg, sp__law_is_from, sp_is_number]
        have hF : wrongF low xs (.int (0 + (i : Int))) = if isNum (xs[(0 + (i : Int)).toNat]'(by omega)) low 6 = true then none else some (.int (0 + (i : Int))) := by
          show (if isNum ((xs[(0 + (i : Int)).toNat]?).getD .non) low 6 = true then none else _) = _
          rw [e]; rfl
        rw [hF] at hN
        refine ⟨⟨List.nodup_nil, Nat.zero_le 1⟩, _, low, 6, rfl, hv.2 _ hm, fun h2 => ?_, fun h2 => ?_⟩
        · have h2 : ¬ isNum (xs[(0 + (i : Int)).toNat]'(by omega)) low 6 = true := by simpa using h2
          rw [if_neg h2] at hN
          exact ⟨ha, hN⟩
        · have h2 : isNum (xs[(0 + (i : Int)).toNat]'(by omega)) low 6 = true := by simpa using h2
          rw [if_pos h2] at hN
          simpa using hN
      · have hh := wrong_head low xs xs [] rfl
        rw [List.length_nil] at hh
        have hh : (List.filterMap (wrongF low xs) (rangeD 0 xs.length)).head? = (firstBad low 6 xs 0).map D.int := hh
        generalize List.filterMap (wrongF low xs) (rangeD 0 xs.length) = W at hh ⊢
        cases e : firstBad low 6 xs 0 with
        | none =>
          rw [e] at hh q
          cases W with
          | cons w ws => cases hh
          | nil =>
            simp only [mSh, mVar, svK, mBin, mAndV, mOrV, mNotV, mIf, mUn, dNeg, dInv, mChain, mTst, mTru, blK, mAnd, mOr, mNot, brK_tt, brK_ff, truK, mNil, mCons, mConsT, mTup, mLst, frzAll, frzK, frzS, frzA, mSl, mNoPart, mPart, dSl, mFld, dFld, lookD, intK, valK, slK, arK, valsK, mBi, mIsi, isiK, D.tag, st1, mNext, mSeq, mBreak, mCont, mDrop, mRet, mRetN, mIfS, mAsg, asgK, mAsgG, dName, dNil, dCons, dTup, mPar, setEach, Ev.sv, hold, hold_hold, retK, retS, bodyE, HD.Fr.set, HD.Fr.put, Cel.sv, Cel.toD, Cel.own, startF, mCall, argE, arr1, arr2, arr3, arr4, arrK, arrD, callK, cellsOf, celEv, celS, backF, plEv, plS, plA, plB, id_eq, true_and, and_true, List.mem_singleton, ite_true, ite_false, goodPl, isTmp, retE, evRet, celRet, List.map_cons, List.map_nil, List.length_cons, List.length_nil, List.getD_cons_zero, List.getD_cons_succ, List.getElem?_cons_zero, List.getElem?_cons_succ, List.getElem?_nil, List.set_cons_zero, List.set_cons_succ, dInt, dInt0, dCmpI, dAdd, dMul, dEq, dIsN, isNonD, dIn, dIx, mRd, mRd0, mMu, mMu0, tyD, celK, celKs, celKa, lstC, mSetF, fldC, putN, putV, dSub, ixC, mIter, mEnum, mZip, mRange1, mRange2, itemsK, itA, itemsD, mFor, mLc, mYes, mRaise, mTryAs, suiteE, mExf, exfK, exnD, mKdIn, mKdIx, mKdT, strK, mMeth, insK, mMake, makeK, mInO, mStrO, mLenO, mListG, callG, gLen, gInt, gStr, gList, gTuple, gAll, gSum, gAbs, gMax, gMin, Bool.not_true, Bool.not_false, Bool.and_true, Bool.true_and, Bool.or_false, Bool.false_or, Bool.or_true, Bool.true_or, Bool.and_false, Bool.false_and, kbe_int_NoneType, kbe_int_bool, kbe_int_int, kbe_int_str, kbe_int_tuple, kbe_int_list, kbe_int_dict, kbe_bool_NoneType, kbe_bool_bool, kbe_bool_int, kbe_bool_str, kbe_bool_tuple, kbe_bool_list, kbe_bool_dict, kbe_str_NoneType, kbe_str_bool, kbe_str_int, kbe_str_str, kbe_str_tuple, kbe_str_list, kbe_str_dict, kbe_tuple_NoneType, kbe_tuple_bool, kbe_tuple_int, kbe_tuple_str, kbe_tuple_tuple, kbe_tuple_list, kbe_tuple_dict, kbe_list_NoneType, kbe_list_bool, kbe_list_int, kbe_list_str, kbe_list_tuple, kbe_list_list, kbe_list_dict, kbe_list_tuple_NoneType, kbe_list_tuple_bool, kbe_list_tuple_int, kbe_list_tuple_str, kbe_list_tuple_tuple, kbe_list_tuple_list, kbe_list_tuple_dict, noOwn, noOwnS, wipeF, restF, List.all_cons, List.all_nil, lInsert, lPop, lAppend, sJoin, seqD, lstD, ex_some, deq_int, deq_bl, deq_str, pl_int, pl_bl, pl_str, decide_true, decide_false, eq_self]
            refine ⟨fun h => ?_, fun h => ⟨by decide, q _⟩⟩
            exact absurd h (by decide)
        | some k =>
          rw [e] at hh q
          cases W with
          | nil => cases hh
          | cons w ws =>
            have hw : w = .int k := Option.some.inj hh
            subst hw
            simp only [mSh, mVar, svK, mBin, mAndV, mOrV, mNotV, mIf, mUn, dNeg, dInv, mChain, mTst, mTru, blK, mAnd, mOr, mNot, brK_tt, brK_ff, truK, mNil, mCons, mConsT, mTup, mLst, frzAll, frzK, frzS, frzA, mSl, mNoPart, mPart, dSl, mFld, dFld, lookD, intK, valK, slK, arK, valsK, mBi, mIsi, isiK, D.tag, st1, mNext, mSeq, mBreak, mCont, mDrop, mRet, mRetN, mIfS, mAsg, asgK, mAsgG, dName, dNil, dCons, dTup, mPar, setEach, Ev.sv, hold, hold_hold, retK, retS, bodyE, HD.Fr.set, HD.Fr.put, Cel.sv, Cel.toD, Cel.own, startF, mCall, argE, arr1, arr2, arr3, arr4, arrK, arrD, callK, cellsOf, celEv, celS, backF, plEv, plS, plA, plB, id_eq, true_and, and_true, List.mem_singleton, ite_true, ite_false, goodPl, isTmp, retE, evRet, celRet, List.map_cons, List.map_nil, List.length_cons, List.length_nil, List.getD_cons_zero, List.getD_cons_succ, List.getElem?_cons_zero, List.getElem?_cons_succ, List.getElem?_nil, List.set_cons_zero, List.set_cons_succ, dInt, dInt0, dCmpI, dAdd, dMul, dEq, dIsN, isNonD, dIn, dIx, mRd, mRd0, mMu, mMu0, tyD, celK, celKs, celKa, lstC, mSetF, fldC, putN, putV, dSub, ixC, mIter, mEnum, mZip, mRange1, mRange2, itemsK, itA, itemsD, mFor, mLc, mYes, mRaise, mTryAs, suiteE, mExf, exfK, exnD, mKdIn, mKdIx, mKdT, strK, mMeth, insK, mMake, makeK, mInO, mStrO, mLenO, mListG, callG, gLen, gInt, gStr, gList, gTuple, gAll, gSum, gAbs, gMax, gMin, Bool.not_true, Bool.not_false, Bool.and_true, Bool.true_and, Bool.or_false, Bool.false_or, Bool.or_true, Bool.true_or, Bool.and_false, Bool.false_and, kbe_int_NoneType, kbe_int_bool, kbe_int_int, kbe_int_str, kbe_int_tuple, kbe_int_list, kbe_int_dict, kbe_bool_NoneType, kbe_bool_bool, kbe_bool_int, kbe_bool_str, kbe_bool_tuple, kbe_bool_list, kbe_bool_dict, kbe_str_NoneType, kbe_str_bool, kbe_str_int, kbe_str_str, kbe_str_tuple, kbe_str_list, kbe_str_dict, kbe_tuple_NoneType, kbe_tuple_bool, kbe_tuple_int, kbe_tuple_str, kbe_tuple_tuple, kbe_tuple_list, kbe_tuple_dict, kbe_list_NoneType, kbe_list_bool, kbe_list_int, kbe_list_str, kbe_list_tuple, kbe_list_list, kbe_list_dict, kbe_list_tuple_NoneType, kbe_list_tuple_bool, kbe_list_tuple_int, kbe_list_tuple_str, kbe_list_tuple_tuple, kbe_list_tuple_list, kbe_list_tuple_dict, noOwn, noOwnS, wipeF, restF, List.all_cons, List.all_nil, lInsert, lPop, lAppend, sJoin, seqD, lstD, ex_some, deq_int, deq_bl, deq_str, pl_int, pl_bl, pl_str, decide_true, decide_false, eq_self, at_0]
            refine ⟨fun h => ⟨by decide, q _⟩, fun h => ?_⟩
            have h : ¬ (0 : Int) < ((ws.length + 1 : Nat) : Int) := by simpa using h
            exact absurd h (by omega)
  | ins a b c => cases hv
  | exn a b c d e f => cases hv
  | _ =>
    simp only [mSh, mVar, svK, mBin, mAndV, mOrV, mNotV, mIf, mUn, dNeg, dInv, mChain, mTst, mTru, blK, mAnd, mOr, mNot, brK_tt, brK_ff, truK, mNil, mCons, mConsT, mTup, mLst, frzAll, frzK, frzS, frzA, mSl, mNoPart, mPart, dSl, mFld, dFld, lookD, intK, valK, slK, arK, valsK, mBi, mIsi, isiK, D.tag, st1, mNext, mSeq, mBreak, mCont, mDrop, mRet, mRetN, mIfS, mAsg, asgK, mAsgG, dName, dNil, dCons, dTup, mPar, setEach, Ev.sv, hold, hold_hold, retK, retS, bodyE, HD.Fr.set, HD.Fr.put, Cel.sv, Cel.toD, Cel.own, startF, mCall, argE, arr1, arr2, arr3, arr4, arrK, arrD, callK, cellsOf, celEv, celS, backF, plEv, plS, plA, plB, id_eq, true_and, and_true, List.mem_singleton, ite_true, ite_false, goodPl, isTmp, retE, evRet, celRet, List.map_cons, List.map_nil, List.length_cons, List.length_nil, List.getD_cons_zero, List.getD_cons_succ, List.getElem?_cons_zero, List.getElem?_cons_succ, List.getElem?_nil, List.set_cons_zero, List.set_cons_succ, dInt, dInt0, dCmpI, dAdd, dMul, dEq, dIsN, isNonD, dIn, dIx, mRd, mRd0, mMu, mMu0, tyD, celK, celKs, celKa, lstC, mSetF, fldC, putN, putV, dSub, ixC, mIter, mEnum, mZip, mRange1, mRange2, itemsK, itA, itemsD, mFor, mLc, mYes, mRaise, mTryAs, suiteE, mExf, exfK, exnD, mKdIn, mKdIx, mKdT, strK, mMeth, insK, mMake, makeK, mInO, mStrO, mLenO, mListG, callG, gLen, gInt, gStr, gList, gTuple, gAll, gSum, gAbs, gMax, gMin, Bool.not_true, Bool.not_false, Bool.and_true, Bool.true_and, Bool.or_false, Bool.false_or, Bool.or_true, Bool.true_or, Bool.and_false, Bool.false_and, kbe_int_NoneType, kbe_int_bool, kbe_int_int, kbe_int_str, kbe_int_tuple, kbe_int_list, kbe_int_dict, kbe_bool_NoneType, kbe_bool_bool, kbe_bool_int, kbe_bool_str, kbe_bool_tuple, kbe_bool_list, kbe_bool_dict, kbe_str_NoneType, kbe_str_bool, kbe_str_int, kbe_str_str, kbe_str_tuple, kbe_str_list, kbe_str_dict, kbe_tuple_NoneType, kbe_tuple_bool, kbe_tuple_int, kbe_tuple_str, kbe_tuple_tuple, kbe_tuple_list, kbe_tuple_dict, kbe_list_NoneType, kbe_list_bool, kbe_list_int, kbe_list_str, kbe_list_tuple, kbe_list_list, kbe_list_dict, kbe_list_tuple_NoneType, kbe_list_tuple_bool, kbe_list_tuple_int, kbe_list_tuple_str, kbe_list_tuple_tuple, kbe_list_tuple_list, kbe_list_tuple_dict, noOwn, noOwnS, wipeF, restF, List.all_cons, List.all_nil, lInsert, lPop, lAppend, sJoin, seqD, lstD, ex_some, deq_int, deq_bl, deq_str, pl_int, pl_bl, pl_str, decide_true, decide_false, eq_self]
    exact ⟨by decide, q _⟩
theorem ok__law_levels_looked : ∀ cs Q E, cs.length = 2 → sp__law_levels_looked cs Q E → m__law_levels_looked (bodyE Q E) (startF 10 cs) := by
  rintro cs Q E - ⟨bag, ls, rfl, hb, hl, q⟩
  show m__law_levels_looked (bodyE Q E) ⟨[some (.ar 0), some (.ar 1), none, none, none, none, none, none, none, none], _⟩
  unfold m__law_levels_looked
  show mSeq _ (mSeq _ (mSeq _ (mSeq _ (mSeq ll_if ll_end)))) _ _
  simp only [mSh, mVar, svK, mBin, mAndV, mOrV, mNotV, mIf, mUn, dNeg, dInv, mChain, mTst, mTru, blK, mAnd, mOr, mNot, brK_tt, brK_ff, truK, mNil, mCons, mConsT, mTup, mLst, frzAll, frzK, frzS, frzA, mSl, mNoPart, mPart, dSl, mFld, dFld, lookD, intK, valK, slK, arK, valsK, mBi, mIsi, isiK, D.tag, st1, mNext, mSeq, mBreak, mCont, mDrop, mRet, mRetN, mIfS, mAsg, asgK, mAsgG, dName, dNil, dCons, dTup, mPar, setEach, Ev.sv, hold, hold_hold, retK, retS, bodyE, HD.Fr.set, HD.Fr.put, Cel.sv, Cel.toD, Cel.own, startF, mCall, argE, arr1, arr2, arr3, arr4, arrK, arrD, callK, cellsOf, celEv, celS, backF, plEv, plS, plA, plB, id_eq, true_and, and_true, List.mem_singleton, ite_true, ite_false, goodPl, isTmp, retE, evRet, celRet, List.map_cons, List.map_nil, List.length_cons, List.length_nil, List.getD_cons_zero, List.getD_cons_succ, List.getElem?_cons_zero, List.getElem?_cons_succ, List.getElem?_nil, List.set_cons_zero, List.set_cons_succ, dInt, dInt0, dCmpI, dAdd, dMul, dEq, dIsN, isNonD, dIn, dIx, mRd, mRd0, mMu, mMu0, tyD, celK, celKs, celKa, lstC, mSetF, fldC, putN, putV, dSub, ixC, mIter, mEnum, mZip, mRange1, mRange2, itemsK, itA, itemsD, mFor, mLc, mYes, mRaise, mTryAs, suiteE, mExf, exfK, exnD, mKdIn, mKdIx, mKdT, strK, mMeth, insK, mMake, makeK, mInO, mStrO, mLenO, mListG, callG, gLen, gInt, gStr, gList, gTuple, gAll, gSum, gAbs, gMax, gMin, Bool.not_true, Bool.not_false, Bool.and_true, Bool.true_and, Bool.or_false, Bool.false_or, Bool.or_true, Bool.true_or, Bool.and_false, Bool.false_and, kbe_int_NoneType, kbe_int_bool, kbe_int_int, kbe_int_str, kbe_int_tuple, kbe_int_list, kbe_int_dict, kbe_bool_NoneType, kbe_bool_bool, kbe_bool_int, kbe_bool_str, kbe_bool_tuple, kbe_bool_list, kbe_bool_dict, kbe_str_NoneType, kbe_str_bool, kbe_str_int, kbe_str_str, kbe_str_tuple, kbe_str_list, kbe_str_dict, kbe_tuple_NoneType, kbe_tuple_bool, kbe_tuple_int, kbe_tuple_str, kbe_tuple_tuple, kbe_tuple_list, kbe_tuple_dict, kbe_list_NoneType, kbe_list_bool, kbe_list_int, kbe_list_str, kbe_list_tuple, kbe_list_list, kbe_list_dict, kbe_list_tuple_NoneType, kbe_list_tuple_bool, kbe_list_tuple_int, kbe_list_tuple_str, kbe_list_tuple_tuple, kbe_list_tuple_list, kbe_list_tuple_dict, noOwn, noOwnS, wipeF, restF, List.all_cons, List.all_nil, lInsert, lPop, lAppend, sJoin, seqD, lstD, ex_some, deq_int, deq_bl, deq_str, pl_int, pl_bl, pl_str, decide_true, decide_false, eq_self, sp__law_bent, sp__law_draw]
  have hn : (iD ls).length = ls.length := by simp [iD]
  refine ⟨⟨nd1 _, Nat.zero_le 1⟩, bag, ls, rfl, hb, hl.1, hl.2.1, fun v bag1 hb1 hv => ⟨⟨nd1 _, Nat.zero_le 1⟩, bag1, _, rfl, hb1, by decide, by decide, fun r bag2 hb2 r0 r1 => ⟨by decide, ⟨nd1 _, Nat.zero_le 1⟩, bag2, _, rfl, hb2, by decide, by decide, fun way bag3 hb3 w0 w1 => ⟨fun h => ⟨by decide, ?_⟩, fun h => ⟨by decide, ?_⟩⟩⟩⟩⟩
  · have h : way = 0 := by simpa using h
    exact ok_ll_if (by rw [hn]) hl.2.1 hv fun w => ok_ll_end hv (.inl h) rfl (q bag3 hb3)
  · exact ok_ll_if (by rw [hn]) hl.2.1 hv fun w => ok_ll_end hv (.inr rfl) rfl (q bag3 hb3)

end K10
set_option Elab.async false
set_option linter.all false
set_option maxRecDepth 100000
set_option maxHeartbeats 4000000
namespace K10
open PySem PySem.Spec PyProof.Rows L2 HD
def rt_10 : MS := (mRet (mCall arr2 2 0 (sp__law_like 5) (mCons (mStrO [("Room" : Str)] (fun _ => arr1) (fun _ => sp_Room___str__) (mCall arr2 2 0 (sp_stands_for) (mCons (mVar 1) (mCons (mVar 7) mNil)) mNil)) (mCons (mCall arr2 2 0 (sp__law_text) (mCons (mVar 1) (mCons (mVar 7) mNil)) mNil) mNil)) mNil))
def rt_9 : MS := mSeq (mAsg 7 (mBi gTuple (mCons (mLc (mZip (mVar 2) (mVar 6)) (dTup 2 (dCons (dName 10) (dCons (dName 11) dNil))) mYes (mBin (dInt CDiv fun i j => i / j) (mBin dAdd (mVar 10) (mVar 11)) (mSh (.int 2))) [10, 11]) mNil))) rt_10
def rt_8 : MS := mSeq (mIfS (mNot (mTru (mCall arr2 2 0 (sp__law_like 5) (mCons (mInO (fun b => b) [("Room" : Str)] (fun _ => arr2) (fun _ => sp_Room___contains__) (mVar 5) (mCall arr2 2 0 (sp_stands_for) (mCons (mVar 1) (mCons (mVar 2) mNil)) mNil)) (mCons (mBi (gAll fun bs => bs.all id) (mCons (mLc (mZip (mVar 3) (mVar 5)) (dTup 2 (dCons (dName 9) (dCons (dName 12) dNil))) mYes (mBin (dIn id) (mVar 9) (mLst (mCons (mSh (.str ("*" : Str))) (mCons (mBi gStr (mCons (mVar 12) mNil)) mNil)))) [9, 12]) mNil)) mNil)) mNil))) (mRet (mSh (.bl false))) mNext) rt_9
def rt_7 : MS := mSeq (mIfS (mNot (mTru (mCall arr2 2 0 (sp__law_like 5) (mCons (mListG ("Room" : Str) ("corners" : Str) sp_Room_corners (mCall arr2 2 0 (sp_stands_for) (mCons (mVar 1) (mCons (mVar 6) mNil)) mNil)) (mCons (mLst (mCons (mVar 5) mNil)) mNil)) mNil))) (mRet (mSh (.bl false))) mNext) rt_8
def rt_6 : MS := mSeq (mIfS (mOr (mNot (mTru (mCall arr2 2 0 (sp__law_like 5) (mCons (mVar 6) (mCons (mBi gTuple (mCons (mLc (mZip (mVar 1) (mVar 5)) (dTup 2 (dCons (dName 8) (dCons (dName 12) dNil))) mYes (mBin dMul (mVar 8) (mVar 12)) [8, 12]) mNil)) mNil)) mNil))) (mNot (mTru (mCall arr2 2 0 (sp__law_like 5) (mCons (mCall arr2 2 0 (sp_ended) (mCons (mVar 1) (mCons (mVar 6) mNil)) mNil) (mCons (mVar 5) mNil)) mNil)))) (mRet (mSh (.bl false))) mNext) rt_7
def rt_5 : MS := mSeq (mAsg 6 (mCall arr2 2 0 (sp_end_row) (mCons (mVar 1) (mCons (mVar 5) mNil)) mNil)) rt_6
def rt_4 : MS := mSeq (mAsg 5 (mBi gTuple (mCons (mLc (mIter (mVar 1)) (dName 8) mYes (mCall arr2 2 0 (sp__law_draw) (mCons (mVar 0) (mCons (mSh (.int 2)) mNil)) mNil) [8]) mNil))) rt_5
def rt_3 : MS := mSeq (mIfS (mNot (mTru (mCall arr2 2 0 (sp__law_like 5) (mCons (mCall arr2 2 0 (sp_ended) (mCons (mVar 1) (mCons (mVar 2) mNil)) mNil) (mCons (mVar 4) mNil)) mNil))) (mRet (mSh (.bl false))) mNext) rt_4
def rt_2 : MS := mSeq (mAsg 4 (mIf (mTst (mBin (dIn not) (mSh (.str ("*" : Str))) (mVar 3))) (mBi gTuple (mCons (mLc (mIter (mVar 3)) (dName 9) mYes (mBi gInt (mCons (mVar 9) mNil)) [9]) mNil)) (mSh .non))) rt_3
def rt_1 : MS := mSeq (mIfS (mNot (mTru (mCall arr2 2 0 (sp__law_like 5) (mCons (mLst (mCons (mCall arr2 2 0 (sp_is_row) (mCons (mVar 1) (mCons (mVar 2) mNil)) mNil) (mCons (mStrO [("Room" : Str)] (fun _ => arr1) (fun _ => sp_Room___str__) (mCall arr2 2 0 (sp_stands_for) (mCons (mVar 1) (mCons (mVar 2) mNil)) mNil)) mNil))) (mCons (mLst (mCons (mSh (.bl true)) (mCons (mVar 3) mNil))) mNil)) mNil))) (mRet (mSh (.bl false))) mNext) rt_2
def rt_0 : MS := mSeq (mAsg 3 (mCall arr2 2 0 (sp__law_text) (mCons (mVar 1) (mCons (mVar 2) mNil)) mNil)) rt_1

def RTF (ls rs : List Int) (bag : List D) (s3 s4 s5 s6 s7 : Option Sv) : HD.Fr := ⟨[some (.ar 0), some (.ar 1), some (.ar 2), s3, s4, s5, s6, s7, none, none, none, none, none], [.lst bag, .gone (.tup (iD ls)), .gone (.tup (iD rs))]⟩
theorem textLen {ls rs : List Int} (h : rs.length = ls.length) : (textOf ls rs).cps.toList.length = ls.length := by
  show ((rs.zip ls).map sg2).length = _
  rw [List.length_map, List.length_zip, h, Nat.min_self]
theorem ok_rt_10 {ls rs ms : List Int} {bag : List D} {s3 s4 s5 s6 : Option Sv} {Q : Ev → List Cel → Prop} {E : EXc} (hl : lvls ls) (hm : ms.length = ls.length) (q : Q (.sh (.bl true)) [.lst bag, .gone (.tup (iD ls)), .gone (.tup (iD rs))]) : rt_10 (bodyE Q E) (RTF ls rs bag s3 s4 s5 s6 (some (.sh (.tup (iD ms))))) := by
  unfold rt_10 RTF
  simp only [mSh, mVar, svK, mBin, mAndV, mOrV, mNotV, mIf, mUn, dNeg, dInv, mChain, mTst, mTru, blK, mAnd, mOr, mNot, brK_tt, brK_ff, truK, mNil, mCons, mConsT, mTup, mLst, frzAll, frzK, frzS, frzA, mSl, mNoPart, mPart, dSl, mFld, dFld, lookD, intK, valK, slK, arK, valsK, mBi, mIsi, isiK, D.tag, st1, mNext, mSeq, mBreak, mCont, mDrop, mRet, mRetN, mIfS, mAsg, asgK, mAsgG, dName, dNil, dCons, dTup, mPar, setEach, Ev.sv, hold, hold_hold, retK, retS, bodyE, HD.Fr.set, HD.Fr.put, Cel.sv, Cel.toD, Cel.own, startF, mCall, argE, arr1, arr2, arr3, arr4, arrK, arrD, callK, cellsOf, celEv, celS, backF, plEv, plS, plA, plB, id_eq, true_and, and_true, List.mem_singleton, ite_true, ite_false, goodPl, isTmp, retE, evRet, celRet, List.map_cons, List.map_nil, List.length_cons, List.length_nil, List.getD_cons_zero, List.getD_cons_succ, List.getElem?_cons_zero, List.getElem?_cons_succ, List.getElem?_nil, List.set_cons_zero, List.set_cons_succ, dInt, dInt0, dCmpI, dAdd, dMul, dEq, dIsN, isNonD, dIn, dIx, mRd, mRd0, mMu, mMu0, tyD, celK, celKs, celKa, lstC, mSetF, fldC, putN, putV, dSub, ixC, mIter, mEnum, mZip, mRange1, mRange2, itemsK, itA, itemsD, mFor, mLc, mYes, mRaise, mTryAs, suiteE, mExf, exfK, exnD, mKdIn, mKdIx, mKdT, strK, mMeth, insK, mMake, makeK, mInO, mStrO, mLenO, mListG, callG, gLen, gInt, gStr, gList, gTuple, gAll, gSum, gAbs, gMax, gMin, Bool.not_true, Bool.not_false, Bool.and_true, Bool.true_and, Bool.or_false, Bool.false_or, Bool.or_true, Bool.true_or, Bool.and_false, Bool.false_and, kbe_int_NoneType, kbe_int_bool, kbe_int_int, kbe_int_str, kbe_int_tuple, kbe_int_list, kbe_int_dict, kbe_bool_NoneType, kbe_bool_bool, kbe_bool_int, kbe_bool_str, kbe_bool_tuple, kbe_bool_list, kbe_bool_dict, kbe_str_NoneType, kbe_str_bool, kbe_str_int, kbe_str_str, kbe_str_tuple, kbe_str_list, kbe_str_dict, kbe_tuple_NoneType, kbe_tuple_bool, kbe_tuple_int, kbe_tuple_str, kbe_tuple_tuple, kbe_tuple_list, kbe_tuple_dict, kbe_list_NoneType, kbe_list_bool, kbe_list_int, kbe_list_str, kbe_list_tuple, kbe_list_list, kbe_list_dict, kbe_list_tuple_NoneType, kbe_list_tuple_bool, kbe_list_tuple_int, kbe_list_tuple_str, kbe_list_tuple_tuple, kbe_list_tuple_list, kbe_list_tuple_dict, noOwn, noOwnS, wipeF, restF, List.all_cons, List.all_nil, lInsert, lPop, lAppend, sJoin, seqD, lstD, ex_some, deq_int, deq_bl, deq_str, pl_int, pl_bl, pl_str, decide_true, decide_false, eq_self, roomC, sp_stands_for, sp__law_text, sp_Room___str__, sp__law_like]
  exact ⟨⟨List.nodup_nil, Nat.zero_le 1⟩, ls, ms, rfl, hm, hl.1, hl.2.1, ⟨List.nodup_nil, Nat.zero_le 1⟩, _, rfl, okText_of hm hl.1 hl.2.1, _, rfl, ⟨List.nodup_nil, Nat.zero_le 1⟩, ls, ms, rfl, hm, hl.2.1, ⟨List.nodup_nil, Nat.zero_le 1⟩, _, rfl, True.intro, q⟩
theorem ok_rt_9 {ls rs : List Int} {bs : List Int} {bag : List D} {s3 s4 s5 : Option Sv} {Q : Ev → List Cel → Prop} {E : EXc} (hl : lvls ls) (hr : rs.length = ls.length) (hb : bs.length = ls.length) (q : Q (.sh (.bl true)) [.lst bag, .gone (.tup (iD ls)), .gone (.tup (iD rs))]) : rt_9 (bodyE Q E) (RTF ls rs bag s3 s4 s5 (some (.sh (.tup (iD bs)))) none) := by
  have p : ∀ ms : List Int, ms.length = ls.length → rt_10 (bodyE Q E) (RTF ls rs bag s3 s4 s5 (some (.sh (.tup (iD bs)))) (some (.sh (.tup (iD ms))))) := fun ms hm => ok_rt_10 hl hm q
  unfold rt_9
  unfold RTF at p ⊢
  simp only [mSh, mVar, svK, mBin, mAndV, mOrV, mNotV, mIf, mUn, dNeg, dInv, mChain, mTst, mTru, blK, mAnd, mOr, mNot, brK_tt, brK_ff, truK, mNil, mCons, mConsT, mTup, mLst, frzAll, frzK, frzS, frzA, mSl, mNoPart, mPart, dSl, mFld, dFld, lookD, intK, valK, slK, arK, valsK, mBi, mIsi, isiK, D.tag, st1, mNext, mSeq, mBreak, mCont, mDrop, mRet, mRetN, mIfS, mAsg, asgK, mAsgG, dName, dNil, dCons, dTup, mPar, setEach, Ev.sv, hold, hold_hold, retK, retS, bodyE, HD.Fr.set, HD.Fr.put, Cel.sv, Cel.toD, Cel.own, startF, mCall, argE, arr1, arr2, arr3, arr4, arrK, arrD, callK, cellsOf, celEv, celS, backF, plEv, plS, plA, plB, id_eq, true_and, and_true, List.mem_singleton, ite_true, ite_false, goodPl, isTmp, retE, evRet, celRet, List.map_cons, List.map_nil, List.length_cons, List.length_nil, List.getD_cons_zero, List.getD_cons_succ, List.getElem?_cons_zero, List.getElem?_cons_succ, List.getElem?_nil, List.set_cons_zero, List.set_cons_succ, dInt, dInt0, dCmpI, dAdd, dMul, dEq, dIsN, isNonD, dIn, dIx, mRd, mRd0, mMu, mMu0, tyD, celK, celKs, celKa, lstC, mSetF, fldC, putN, putV, dSub, ixC, mIter, mEnum, mZip, mRange1, mRange2, itemsK, itA, itemsD, mFor, mLc, mYes, mRaise, mTryAs, suiteE, mExf, exfK, exnD, mKdIn, mKdIx, mKdT, strK, mMeth, insK, mMake, makeK, mInO, mStrO, mLenO, mListG, callG, gLen, gInt, gStr, gList, gTuple, gAll, gSum, gAbs, gMax, gMin, Bool.not_true, Bool.not_false, Bool.and_true, Bool.true_and, Bool.or_false, Bool.false_or, Bool.or_true, Bool.true_or, Bool.and_false, Bool.false_and, kbe_int_NoneType, kbe_int_bool, kbe_int_int, kbe_int_str, kbe_int_tuple, kbe_int_list, kbe_int_dict, kbe_bool_NoneType, kbe_bool_bool, kbe_bool_int, kbe_bool_str, kbe_bool_tuple, kbe_bool_list, kbe_bool_dict, kbe_str_NoneType, kbe_str_bool, kbe_str_int, kbe_str_str, kbe_str_tuple, kbe_str_list, kbe_str_dict, kbe_tuple_NoneType, kbe_tuple_bool, kbe_tuple_int, kbe_tuple_str, kbe_tuple_tuple, kbe_tuple_list, kbe_tuple_dict, kbe_list_NoneType, kbe_list_bool, kbe_list_int, kbe_list_str, kbe_list_tuple, kbe_list_list, kbe_list_dict, kbe_list_tuple_NoneType, kbe_list_tuple_bool, kbe_list_tuple_int, kbe_list_tuple_str, kbe_list_tuple_tuple, kbe_list_tuple_list, kbe_list_tuple_dict, noOwn, noOwnS, wipeF, restF, List.all_cons, List.all_nil, lInsert, lPop, lAppend, sJoin, seqD, lstD, ex_some, deq_int, deq_bl, deq_str, pl_int, pl_bl, pl_str, decide_true, decide_false, eq_self]
  rw [zip_ii]
  refine compD_map (fun d => match d with | .tup [.int x, .int l] => .int ((x + l) / 2) | _ => .non) rfl (zipL (Nat.lt_succ_of_le (by rw [hr]; exact hl.2.1)) (by decide)) (fun d hd acc N ha hN => ?_) ?_
  · obtain ⟨⟨x, l⟩, hp, rfl⟩ := List.mem_map.mp hd
    simp only [turnD, mSh, mVar, svK, mBin, mAndV, mOrV, mNotV, mIf, mUn, dNeg, dInv, mChain, mTst, mTru, blK, mAnd, mOr, mNot, brK_tt, brK_ff, truK, mNil, mCons, mConsT, mTup, mLst, frzAll, frzK, frzS, frzA, mSl, mNoPart, mPart, dSl, mFld, dFld, lookD, intK, valK, slK, arK, valsK, mBi, mIsi, isiK, D.tag, st1, mNext, mSeq, mBreak, mCont, mDrop, mRet, mRetN, mIfS, mAsg, asgK, mAsgG, dName, dNil, dCons, dTup, mPar, setEach, Ev.sv, hold, hold_hold, retK, retS, bodyE, HD.Fr.set, HD.Fr.put, Cel.sv, Cel.toD, Cel.own, startF, mCall, argE, arr1, arr2, arr3, arr4, arrK, arrD, callK, cellsOf, celEv, celS, backF, plEv, plS, plA, plB, id_eq, true_and, and_true, List.mem_singleton, ite_true, ite_false, goodPl, isTmp, retE, evRet, celRet, List.map_cons, List.map_nil, List.length_cons, List.length_nil, List.getD_cons_zero, List.getD_cons_succ, List.getElem?_cons_zero, List.getElem?_cons_succ, List.getElem?_nil, List.set_cons_zero, List.set_cons_succ, dInt, dInt0, dCmpI, dAdd, dMul, dEq, dIsN, isNonD, dIn, dIx, mRd, mRd0, mMu, mMu0, tyD, celK, celKs, celKa, lstC, mSetF, fldC, putN, putV, dSub, ixC, mIter, mEnum, mZip, mRange1, mRange2, itemsK, itA, itemsD, mFor, mLc, mYes, mRaise, mTryAs, suiteE, mExf, exfK, exnD, mKdIn, mKdIx, mKdT, strK, mMeth, insK, mMake, makeK, mInO, mStrO, mLenO, mListG, callG, gLen, gInt, gStr, gList, gTuple, gAll, gSum, gAbs, gMax, gMin, Bool.not_true, Bool.not_false, Bool.and_true, Bool.true_and, Bool.or_false, Bool.false_or, Bool.or_true, Bool.true_or, Bool.and_false, Bool.false_and, kbe_int_NoneType, kbe_int_bool, kbe_int_int, kbe_int_str, kbe_int_tuple, kbe_int_list, kbe_int_dict, kbe_bool_NoneType, kbe_bool_bool, kbe_bool_int, kbe_bool_str, kbe_bool_tuple, kbe_bool_list, kbe_bool_dict, kbe_str_NoneType, kbe_str_bool, kbe_str_int, kbe_str_str, kbe_str_tuple, kbe_str_list, kbe_str_dict, kbe_tuple_NoneType, kbe_tuple_bool, kbe_tuple_int, kbe_tuple_str, kbe_tuple_tuple, kbe_tuple_list, kbe_tuple_dict, kbe_list_NoneType, kbe_list_bool, kbe_list_int, kbe_list_str, kbe_list_tuple, kbe_list_list, kbe_list_dict, kbe_list_tuple_NoneType, kbe_list_tuple_bool, kbe_list_tuple_int, kbe_list_tuple_str, kbe_list_tuple_tuple, kbe_list_tuple_list, kbe_list_tuple_dict, noOwn, noOwnS, wipeF, restF, List.all_cons, List.all_nil, lInsert, lPop, lAppend, sJoin, seqD, lstD, ex_some, deq_int, deq_bl, deq_str, pl_int, pl_bl, pl_str, decide_true, decide_false, eq_self]
    exact ⟨⟨by decide, by decide⟩, ha, hN⟩
  · have e : List.map (fun d => match d with | .tup [.int x, .int l] => D.int ((x + l) / 2) | _ => .non) ((rs.zip bs).map fun p => D.tup [D.int p.1, D.int p.2]) = iD ((rs.zip bs).map fun p => (p.1 + p.2) / 2) := by
      unfold iD
      rw [List.map_map, List.map_map]; rfl
    rw [e]
    simp only [mSh, mVar, svK, mBin, mAndV, mOrV, mNotV, mIf, mUn, dNeg, dInv, mChain, mTst, mTru, blK, mAnd, mOr, mNot, brK_tt, brK_ff, truK, mNil, mCons, mConsT, mTup, mLst, frzAll, frzK, frzS, frzA, mSl, mNoPart, mPart, dSl, mFld, dFld, lookD, intK, valK, slK, arK, valsK, mBi, mIsi, isiK, D.tag, st1, mNext, mSeq, mBreak, mCont, mDrop, mRet, mRetN, mIfS, mAsg, asgK, mAsgG, dName, dNil, dCons, dTup, mPar, setEach, Ev.sv, hold, hold_hold, retK, retS, bodyE, HD.Fr.set, HD.Fr.put, Cel.sv, Cel.toD, Cel.own, startF, mCall, argE, arr1, arr2, arr3, arr4, arrK, arrD, callK, cellsOf, celEv, celS, backF, plEv, plS, plA, plB, id_eq, true_and, and_true, List.mem_singleton, ite_true, ite_false, goodPl, isTmp, retE, evRet, celRet, List.map_cons, List.map_nil, List.length_cons, List.length_nil, List.getD_cons_zero, List.getD_cons_succ, List.getElem?_cons_zero, List.getElem?_cons_succ, List.getElem?_nil, List.set_cons_zero, List.set_cons_succ, dInt, dInt0, dCmpI, dAdd, dMul, dEq, dIsN, isNonD, dIn, dIx, mRd, mRd0, mMu, mMu0, tyD, celK, celKs, celKa, lstC, mSetF, fldC, putN, putV, dSub, ixC, mIter, mEnum, mZip, mRange1, mRange2, itemsK, itA, itemsD, mFor, mLc, mYes, mRaise, mTryAs, suiteE, mExf, exfK, exnD, mKdIn, mKdIx, mKdT, strK, mMeth, insK, mMake, makeK, mInO, mStrO, mLenO, mListG, callG, gLen, gInt, gStr, gList, gTuple, gAll, gSum, gAbs, gMax, gMin, Bool.not_true, Bool.not_false, Bool.and_true, Bool.true_and, Bool.or_false, Bool.false_or, Bool.or_true, Bool.true_or, Bool.and_false, Bool.false_and, kbe_int_NoneType, kbe_int_bool, kbe_int_int, kbe_int_str, kbe_int_tuple, kbe_int_list, kbe_int_dict, kbe_bool_NoneType, kbe_bool_bool, kbe_bool_int, kbe_bool_str, kbe_bool_tuple, kbe_bool_list, kbe_bool_dict, kbe_str_NoneType, kbe_str_bool, kbe_str_int, kbe_str_str, kbe_str_tuple, kbe_str_list, kbe_str_dict, kbe_tuple_NoneType, kbe_tuple_bool, kbe_tuple_int, kbe_tuple_str, kbe_tuple_tuple, kbe_tuple_list, kbe_tuple_dict, kbe_list_NoneType, kbe_list_bool, kbe_list_int, kbe_list_str, kbe_list_tuple, kbe_list_list, kbe_list_dict, kbe_list_tuple_NoneType, kbe_list_tuple_bool, kbe_list_tuple_int, kbe_list_tuple_str, kbe_list_tuple_tuple, kbe_list_tuple_list, kbe_list_tuple_dict, noOwn, noOwnS, wipeF, restF, List.all_cons, List.all_nil, lInsert, lPop, lAppend, sJoin, seqD, lstD, ex_some, deq_int, deq_bl, deq_str, pl_int, pl_bl, pl_str, decide_true, decide_false, eq_self]
    exact p _ (by rw [List.length_map, List.length_zip, hr, hb, Nat.min_self])
def bsg (b : Int) : Nat := if b = 1 then 49 else 48
theorem text_end : ∀ (ls bs : List Int), (∀ l ∈ ls, 1 ≤ l ∧ l ≤ 6) → bits01 bs → bs.length = ls.length → ((endRow ls bs).zip ls).map sg2 = bs.map bsg
  | [], [], _, _, _ => rfl
  | l :: ls, b :: bs, hl, hb, h => by
    have ih := text_end ls bs (fun l h => hl l (List.mem_cons_of_mem _ h)) (fun b h => hb b (List.mem_cons_of_mem _ h)) (by simpa using h)
    show sg2 (if b = 1 then l else 0, l) :: ((endRow ls bs).zip ls).map sg2 = bsg b :: bs.map bsg
    rw [ih]
    congr 1
    have h1 := (hl l List.mem_cons_self).1
    rcases hb b List.mem_cons_self with rfl | rfl
    · rfl
    · show sgn l l = 49
      unfold sgn
      rw [if_neg (by omega), if_pos rfl]
theorem ok_rt_7 {ls rs bs : List Int} {bag : List D} {s3 s4 s6 : Option Sv} {D' : DE} (hl : lvls ls) (hb : bits01 bs) (hbl : bs.length = ls.length) (q : rt_8 D' (RTF ls rs bag s3 s4 (some (.sh (.tup (iD bs)))) (some (.sh (.tup (iD (endRow ls bs))))) none)) : rt_7 D' (RTF ls rs bag s3 s4 (some (.sh (.tup (iD bs)))) (some (.sh (.tup (iD (endRow ls bs))))) none) := by
  unfold rt_7
  unfold RTF at q ⊢
  have hel : (endRow ls bs).length = ls.length := by unfold endRow; rw [List.length_map, List.length_zip, hbl, Nat.min_self]
  have ht : (textOf ls (endRow ls bs)).cps.toList = bs.map bsg := text_end ls bs hl.2.2 hb hbl
  have hbd : bitsD (textOf ls (endRow ls bs)) = iD bs := by
    unfold bitsD iD
    rw [ht, List.map_map]
    apply List.map_congr_left
    intro b hbm
    rcases hb b hbm with rfl | rfl <;> rfl
  have hns : noStar (textOf ls (endRow ls bs)) := by
    intro c hc
    rw [ht] at hc
    obtain ⟨b, hbm, rfl⟩ := List.mem_map.mp hc
    rcases hb b hbm with rfl | rfl <;> decide
  simp only [mSh, mVar, svK, mBin, mAndV, mOrV, mNotV, mIf, mUn, dNeg, dInv, mChain, mTst, mTru, blK, mAnd, mOr, mNot, brK_tt, brK_ff, truK, mNil, mCons, mConsT, mTup, mLst, frzAll, frzK, frzS, frzA, mSl, mNoPart, mPart, dSl, mFld, dFld, lookD, intK, valK, slK, arK, valsK, mBi, mIsi, isiK, D.tag, st1, mNext, mSeq, mBreak, mCont, mDrop, mRet, mRetN, mIfS, mAsg, asgK, mAsgG, dName, dNil, dCons, dTup, mPar, setEach, Ev.sv, hold, hold_hold, retK, retS, bodyE, HD.Fr.set, HD.Fr.put, Cel.sv, Cel.toD, Cel.own, startF, mCall, argE, arr1, arr2, arr3, arr4, arrK, arrD, callK, cellsOf, celEv, celS, backF, plEv, plS, plA, plB, id_eq, true_and, and_true, List.mem_singleton, ite_true, ite_false, goodPl, isTmp, retE, evRet, celRet, List.map_cons, List.map_nil, List.length_cons, List.length_nil, List.getD_cons_zero, List.getD_cons_succ, List.getElem?_cons_zero, List.getElem?_cons_succ, List.getElem?_nil, List.set_cons_zero, List.set_cons_succ, dInt, dInt0, dCmpI, dAdd, dMul, dEq, dIsN, isNonD, dIn, dIx, mRd, mRd0, mMu, mMu0, tyD, celK, celKs, celKa, lstC, mSetF, fldC, putN, putV, dSub, ixC, mIter, mEnum, mZip, mRange1, mRange2, itemsK, itA, itemsD, mFor, mLc, mYes, mRaise, mTryAs, suiteE, mExf, exfK, exnD, mKdIn, mKdIx, mKdT, strK, mMeth, insK, mMake, makeK, mInO, mStrO, mLenO, mListG, callG, gLen, gInt, gStr, gList, gTuple, gAll, gSum, gAbs, gMax, gMin, Bool.not_true, Bool.not_false, Bool.and_true, Bool.true_and, Bool.or_false, Bool.false_or, Bool.or_true, Bool.true_or, Bool.and_false, Bool.false_and, kbe_int_NoneType, kbe_int_bool, kbe_int_int, kbe_int_str, kbe_int_tuple, kbe_int_list, kbe_int_dict, kbe_bool_NoneType, kbe_bool_bool, kbe_bool_int, kbe_bool_str, kbe_bool_tuple, kbe_bool_list, kbe_bool_dict, kbe_str_NoneType, kbe_str_bool, kbe_str_int, kbe_str_str, kbe_str_tuple, kbe_str_list, kbe_str_dict, kbe_tuple_NoneType, kbe_tuple_bool, kbe_tuple_int, kbe_tuple_str, kbe_tuple_tuple, kbe_tuple_list, kbe_tuple_dict, kbe_list_NoneType, kbe_list_bool, kbe_list_int, kbe_list_str, kbe_list_tuple, kbe_list_list, kbe_list_dict, kbe_list_tuple_NoneType, kbe_list_tuple_bool, kbe_list_tuple_int, kbe_list_tuple_str, kbe_list_tuple_tuple, kbe_list_tuple_list, kbe_list_tuple_dict, noOwn, noOwnS, wipeF, restF, List.all_cons, List.all_nil, lInsert, lPop, lAppend, sJoin, seqD, lstD, ex_some, deq_int, deq_bl, deq_str, pl_int, pl_bl, pl_str, decide_true, decide_false, eq_self, roomC, sp_stands_for, sp_Room_corners, sp__law_like]
  refine ⟨⟨List.nodup_nil, Nat.zero_le 1⟩, ls, endRow ls bs, rfl, hel, hl.1, hl.2.1, by decide, ⟨List.nodup_nil, Nat.zero_le 1⟩, _, rfl, okText_of hel hl.1 hl.2.1, hns, by decide, ⟨List.nodup_nil, Nat.zero_le 1⟩, .lst [.tup (iD bs)], ?_, ?_, q⟩
  · rw [hbd]
  · refine ⟨by simp, fun x hx => ?_⟩
    rw [List.mem_singleton.mp hx]
    refine ⟨by unfold iD; rw [List.length_map, hbl]; exact Nat.lt_of_le_of_lt hl.2.1 (by decide), fun y hy => ?_⟩
    obtain ⟨z, _, rfl⟩ := List.mem_map.mp hy
    exact True.intro
theorem ok_rt_8 {ls rs bs : List Int} {bag : List D} {s4 s6 : Option Sv} {D' : DE} (hl : lvls ls) (hr : rowIn ls rs) (hb : bits01 bs) (hbl : bs.length = ls.length) (q : rt_9 D' (RTF ls rs bag (some (.sh (.str (textOf ls rs)))) s4 (some (.sh (.tup (iD bs)))) s6 none)) : rt_8 D' (RTF ls rs bag (some (.sh (.str (textOf ls rs)))) s4 (some (.sh (.tup (iD bs)))) s6 none) := by
  unfold rt_8
  unfold RTF at q ⊢
  have ot := okText_of hr.1 hl.1 hl.2.1
  simp only [mSh, mVar, svK, mBin, mAndV, mOrV, mNotV, mIf, mUn, dNeg, dInv, mChain, mTst, mTru, blK, mAnd, mOr, mNot, brK_tt, brK_ff, truK, mNil, mCons, mConsT, mTup, mLst, frzAll, frzK, frzS, frzA, mSl, mNoPart, mPart, dSl, mFld, dFld, lookD, intK, valK, slK, arK, valsK, mBi, mIsi, isiK, D.tag, st1, mNext, mSeq, mBreak, mCont, mDrop, mRet, mRetN, mIfS, mAsg, asgK, mAsgG, dName, dNil, dCons, dTup, mPar, setEach, Ev.sv, hold, hold_hold, retK, retS, bodyE, HD.Fr.set, HD.Fr.put, Cel.sv, Cel.toD, Cel.own, startF, mCall, argE, arr1, arr2, arr3, arr4, arrK, arrD, callK, cellsOf, celEv, celS, backF, plEv, plS, plA, plB, id_eq, true_and, and_true, List.mem_singleton, ite_true, ite_false, goodPl, isTmp, retE, evRet, celRet, List.map_cons, List.map_nil, List.length_cons, List.length_nil, List.getD_cons_zero, List.getD_cons_succ, List.getElem?_cons_zero, List.getElem?_cons_succ, List.getElem?_nil, List.set_cons_zero, List.set_cons_succ, dInt, dInt0, dCmpI, dAdd, dMul, dEq, dIsN, isNonD, dIn, dIx, mRd, mRd0, mMu, mMu0, tyD, celK, celKs, celKa, lstC, mSetF, fldC, putN, putV, dSub, ixC, mIter, mEnum, mZip, mRange1, mRange2, itemsK, itA, itemsD, mFor, mLc, mYes, mRaise, mTryAs, suiteE, mExf, exfK, exnD, mKdIn, mKdIx, mKdT, strK, mMeth, insK, mMake, makeK, mInO, mStrO, mLenO, mListG, callG, gLen, gInt, gStr, gList, gTuple, gAll, gSum, gAbs, gMax, gMin, Bool.not_true, Bool.not_false, Bool.and_true, Bool.true_and, Bool.or_false, Bool.false_or, Bool.or_true, Bool.true_or, Bool.and_false, Bool.false_and, kbe_int_NoneType, kbe_int_bool, kbe_int_int, kbe_int_str, kbe_int_tuple, kbe_int_list, kbe_int_dict, kbe_bool_NoneType, kbe_bool_bool, kbe_bool_int, kbe_bool_str, kbe_bool_tuple, kbe_bool_list, kbe_bool_dict, kbe_str_NoneType, kbe_str_bool, kbe_str_int, kbe_str_str, kbe_str_tuple, kbe_str_list, kbe_str_dict, kbe_tuple_NoneType, kbe_tuple_bool, kbe_tuple_int, kbe_tuple_str, kbe_tuple_tuple, kbe_tuple_list, kbe_tuple_dict, kbe_list_NoneType, kbe_list_bool, kbe_list_int, kbe_list_str, kbe_list_tuple, kbe_list_list, kbe_list_dict, kbe_list_tuple_NoneType, kbe_list_tuple_bool, kbe_list_tuple_int, kbe_list_tuple_str, kbe_list_tuple_tuple, kbe_list_tuple_list, kbe_list_tuple_dict, noOwn, noOwnS, wipeF, restF, List.all_cons, List.all_nil, lInsert, lPop, lAppend, sJoin, seqD, lstD, ex_some, deq_int, deq_bl, deq_str, pl_int, pl_bl, pl_str, decide_true, decide_false, eq_self, roomC, sp_stands_for, sp_Room___contains__, sp__law_like]
  refine ⟨⟨List.nodup_nil, Nat.zero_le 1⟩, ls, rs, rfl, hr.1, hl.1, hl.2.1, ⟨List.nodup_nil, Nat.zero_le 1⟩, _, bs, rfl, ot, hb, by rw [textLen hr.1, hbl], _, rfl, ?_⟩
  have zs : zipD (signsD (textOf ls rs)) (iD bs) = ((textOf ls rs).cps.toList.zip bs).map fun p => D.tup [D.str ⟨#[p.1]⟩, D.int p.2] := zip_mm _ _ _ _
  rw [zs]
  refine compD_map (fun d => match d with | .tup [.str z, .int b] => .bl (anyEq (.str z) [.str "*", .str (toString b)]) | _ => .non) True.intro (zipL (Nat.lt_succ_of_le ot.2.1) (by decide)) (fun d hd acc N ha hN => ?_) ?_
  · obtain ⟨⟨c, b⟩, hp, rfl⟩ := List.mem_map.mp hd
    rcases hb b (List.of_mem_zip hp).2 with rfl | rfl
    · simp only [turnD, mSh, mVar, svK, mBin, mAndV, mOrV, mNotV, mIf, mUn, dNeg, dInv, mChain, mTst, mTru, blK, mAnd, mOr, mNot, brK_tt, brK_ff, truK, mNil, mCons, mConsT, mTup, mLst, frzAll, frzK, frzS, frzA, mSl, mNoPart, mPart, dSl, mFld, dFld, lookD, intK, valK, slK, arK, valsK, mBi, mIsi, isiK, D.tag, st1, mNext, mSeq, mBreak, mCont, mDrop, mRet, mRetN, mIfS, mAsg, asgK, mAsgG, dName, dNil, dCons, dTup, mPar, setEach, Ev.sv, hold, hold_hold, retK, retS, bodyE, HD.Fr.set, HD.Fr.put, Cel.sv, Cel.toD, Cel.own, startF, mCall, argE, arr1, arr2, arr3, arr4, arrK, arrD, callK, cellsOf, celEv, celS, backF, plEv, plS, plA, plB, id_eq, true_and, and_true, List.mem_singleton, ite_true, ite_false, goodPl, isTmp, retE, evRet, celRet, List.map_cons, List.map_nil, List.length_cons, List.length_nil, List.getD_cons_zero, List.getD_cons_succ, List.getElem?_cons_zero, List.getElem?_cons_succ, List.getElem?_nil, List.set_cons_zero, List.set_cons_succ, dInt, dInt0, dCmpI, dAdd, dMul, dEq, dIsN, isNonD, dIn, dIx, mRd, mRd0, mMu, mMu0, tyD, celK, celKs, celKa, lstC, mSetF, fldC, putN, putV, dSub, ixC, mIter, mEnum, mZip, mRange1, mRange2, itemsK, itA, itemsD, mFor, mLc, mYes, mRaise, mTryAs, suiteE, mExf, exfK, exnD, mKdIn, mKdIx, mKdT, strK, mMeth, insK, mMake, makeK, mInO, mStrO, mLenO, mListG, callG, gLen, gInt, gStr, gList, gTuple, gAll, gSum, gAbs, gMax, gMin, Bool.not_true, Bool.not_false, Bool.and_true, Bool.true_and, Bool.or_false, Bool.false_or, Bool.or_true, Bool.true_or, Bool.and_false, Bool.false_and, kbe_int_NoneType, kbe_int_bool, kbe_int_int, kbe_int_str, kbe_int_tuple, kbe_int_list, kbe_int_dict, kbe_bool_NoneType, kbe_bool_bool, kbe_bool_int, kbe_bool_str, kbe_bool_tuple, kbe_bool_list, kbe_bool_dict, kbe_str_NoneType, kbe_str_bool, kbe_str_int, kbe_str_str, kbe_str_tuple, kbe_str_list, kbe_str_dict, kbe_tuple_NoneType, kbe_tuple_bool, kbe_tuple_int, kbe_tuple_str, kbe_tuple_tuple, kbe_tuple_list, kbe_tuple_dict, kbe_list_NoneType, kbe_list_bool, kbe_list_int, kbe_list_str, kbe_list_tuple, kbe_list_list, kbe_list_dict, kbe_list_tuple_NoneType, kbe_list_tuple_bool, kbe_list_tuple_int, kbe_list_tuple_str, kbe_list_tuple_tuple, kbe_list_tuple_list, kbe_list_tuple_dict, noOwn, noOwnS, wipeF, restF, List.all_cons, List.all_nil, lInsert, lPop, lAppend, sJoin, seqD, lstD, ex_some, deq_int, deq_bl, deq_str, pl_int, pl_bl, pl_str, decide_true, decide_false, eq_self]
      exact ⟨by decide, by decide, by decide +kernel, ha, hN⟩
    · simp only [turnD, mSh, mVar, svK, mBin, mAndV, mOrV, mNotV, mIf, mUn, dNeg, dInv, mChain, mTst, mTru, blK, mAnd, mOr, mNot, brK_tt, brK_ff, truK, mNil, mCons, mConsT, mTup, mLst, frzAll, frzK, frzS, frzA, mSl, mNoPart, mPart, dSl, mFld, dFld, lookD, intK, valK, slK, arK, valsK, mBi, mIsi, isiK, D.tag, st1, mNext, mSeq, mBreak, mCont, mDrop, mRet, mRetN, mIfS, mAsg, asgK, mAsgG, dName, dNil, dCons, dTup, mPar, setEach, Ev.sv, hold, hold_hold, retK, retS, bodyE, HD.Fr.set, HD.Fr.put, Cel.sv, Cel.toD, Cel.own, startF, mCall, argE, arr1, arr2, arr3, arr4, arrK, arrD, callK, cellsOf, celEv, celS, backF, plEv, plS, plA, plB, id_eq, true_and, and_true, List.mem_singleton, ite_true, ite_false, goodPl, isTmp, retE, evRet, celRet, List.map_cons, List.map_nil, List.length_cons, List.length_nil, List.getD_cons_zero, List.getD_cons_succ, List.getElem?_cons_zero, List.getElem?_cons_succ, List.getElem?_nil, List.set_cons_zero, List.set_cons_succ, dInt, dInt0, dCmpI, dAdd, dMul, dEq, dIsN, isNonD, dIn, dIx, mRd, mRd0, mMu, mMu0, tyD, celK, celKs, celKa, lstC, mSetF, fldC, putN, putV, dSub, ixC, mIter, mEnum, mZip, mRange1, mRange2, itemsK, itA, itemsD, mFor, mLc, mYes, mRaise, mTryAs, suiteE, mExf, exfK, exnD, mKdIn, mKdIx, mKdT, strK, mMeth, insK, mMake, makeK, mInO, mStrO, mLenO, mListG, callG, gLen, gInt, gStr, gList, gTuple, gAll, gSum, gAbs, gMax, gMin, Bool.not_true, Bool.not_false, Bool.and_true, Bool.true_and, Bool.or_false, Bool.false_or, Bool.or_true, Bool.true_or, Bool.and_false, Bool.false_and, kbe_int_NoneType, kbe_int_bool, kbe_int_int, kbe_int_str, kbe_int_tuple, kbe_int_list, kbe_int_dict, kbe_bool_NoneType, kbe_bool_bool, kbe_bool_int, kbe_bool_str, kbe_bool_tuple, kbe_bool_list, kbe_bool_dict, kbe_str_NoneType, kbe_str_bool, kbe_str_int, kbe_str_str, kbe_str_tuple, kbe_str_list, kbe_str_dict, kbe_tuple_NoneType, kbe_tuple_bool, kbe_tuple_int, kbe_tuple_str, kbe_tuple_tuple, kbe_tuple_list, kbe_tuple_dict, kbe_list_NoneType, kbe_list_bool, kbe_list_int, kbe_list_str, kbe_list_tuple, kbe_list_list, kbe_list_dict, kbe_list_tuple_NoneType, kbe_list_tuple_bool, kbe_list_tuple_int, kbe_list_tuple_str, kbe_list_tuple_tuple, kbe_list_tuple_list, kbe_list_tuple_dict, noOwn, noOwnS, wipeF, restF, List.all_cons, List.all_nil, lInsert, lPop, lAppend, sJoin, seqD, lstD, ex_some, deq_int, deq_bl, deq_str, pl_int, pl_bl, pl_str, decide_true, decide_false, eq_self]
      exact ⟨by decide, by decide, by decide +kernel, ha, hN⟩
  · refine ⟨((textOf ls rs).cps.toList.zip bs).map fun p => anyEq (.str ⟨#[p.1]⟩) [.str "*", .str (toString p.2)], by rw [List.map_map, List.map_map]; rfl, ?_⟩
    have e : inRoom (textOf ls rs) bs = ((textOf ls rs).cps.toList.zip bs).all fun p => anyEq (.str ⟨#[p.1]⟩) [.str "*", .str (toString p.2)] := by
      unfold inRoom
      refine all_ext ?_
      rintro ⟨c, b⟩ hp
      rcases ot.2.2 c (List.of_mem_zip hp).1 with rfl | rfl | rfl <;> rcases hb b (List.of_mem_zip hp).2 with rfl | rfl <;> decide +kernel
    rw [all_id, ← e]
    exact ⟨⟨List.nodup_nil, Nat.zero_le 1⟩, _, rfl, True.intro, q⟩
theorem endRow_mul : ∀ (ls bs : List Int), bits01 bs → (ls.zip bs).map (fun p => p.1 * p.2) = endRow ls bs := by
  intro ls bs hb
  unfold endRow
  apply List.map_congr_left
  rintro ⟨l, b⟩ hp
  rcases hb b (List.of_mem_zip hp).2 with rfl | rfl
  · show l * 0 = _
    rw [Int.mul_zero]; rfl
  · show l * 1 = _
    rw [Int.mul_one]; rfl
theorem ended_end : ∀ (ls bs : List Int), (∀ l ∈ ls, 1 ≤ l ∧ l ≤ 6) → bits01 bs → bs.length = ls.length → ((endRow ls bs).zip ls).any (fun p => decide (0 < p.1) && decide (p.1 < p.2)) = false ∧ (endRow ls bs).map (fun r => if 0 < r then (1 : Int) else 0) = bs
  | [], [], _, _, _ => ⟨rfl, rfl⟩
  | l :: ls, b :: bs, hl, hb, h => by
    obtain ⟨i1, i2⟩ := ended_end ls bs (fun l h => hl l (List.mem_cons_of_mem _ h)) (fun b h => hb b (List.mem_cons_of_mem _ h)) (by simpa using h)
    have h1 := (hl l List.mem_cons_self).1
    refine ⟨?_, ?_⟩
    · show ((decide (0 < (if b = 1 then l else 0)) && decide ((if b = 1 then l else 0) < l)) || ((endRow ls bs).zip ls).any _) = false
      rw [i1, Bool.or_false]
      rcases hb b List.mem_cons_self with rfl | rfl
      · rfl
      · rw [if_pos rfl, decide_eq_false (Int.lt_irrefl l), Bool.and_false]
    · show (if 0 < (if b = 1 then l else 0) then (1 : Int) else 0) :: (endRow ls bs).map _ = _
      rw [i2]
      rcases hb b List.mem_cons_self with rfl | rfl
      · rfl
      · rw [if_pos rfl, if_pos (by omega)]
theorem plain_iD (xs : List Int) (h : xs.length < 1000) (n : Nat) : plainD (n + 2) (.tup (iD xs)) := by
  refine ⟨by unfold iD; rw [List.length_map]; exact h, fun y hy => ?_⟩
  obtain ⟨z, _, rfl⟩ := List.mem_map.mp hy
  exact True.intro
theorem ok_rt_6 {ls rs bs : List Int} {bag : List D} {s3 s4 : Option Sv} {D' : DE} (hl : lvls ls) (hb : bits01 bs) (hbl : bs.length = ls.length) (q : rt_7 D' (RTF ls rs bag s3 s4 (some (.sh (.tup (iD bs)))) (some (.sh (.tup (iD (endRow ls bs))))) none)) : rt_6 D' (RTF ls rs bag s3 s4 (some (.sh (.tup (iD bs)))) (some (.sh (.tup (iD (endRow ls bs))))) none) := by
  unfold rt_6
  unfold RTF at q ⊢
  have hel : (endRow ls bs).length = ls.length := by unfold endRow; rw [List.length_map, List.length_zip, hbl, Nat.min_self]
  have h40 := hl.2.1
  simp only [mSh, mVar, svK, mBin, mAndV, mOrV, mNotV, mIf, mUn, dNeg, dInv, mChain, mTst, mTru, blK, mAnd, mOr, mNot, brK_tt, brK_ff, truK, mNil, mCons, mConsT, mTup, mLst, frzAll, frzK, frzS, frzA, mSl, mNoPart, mPart, dSl, mFld, dFld, lookD, intK, valK, slK, arK, valsK, mBi, mIsi, isiK, D.tag, st1, mNext, mSeq, mBreak, mCont, mDrop, mRet, mRetN, mIfS, mAsg, asgK, mAsgG, dName, dNil, dCons, dTup, mPar, setEach, Ev.sv, hold, hold_hold, retK, retS, bodyE, HD.Fr.set, HD.Fr.put, Cel.sv, Cel.toD, Cel.own, startF, mCall, argE, arr1, arr2, arr3, arr4, arrK, arrD, callK, cellsOf, celEv, celS, backF, plEv, plS, plA, plB, id_eq, true_and, and_true, List.mem_singleton, ite_true, ite_false, goodPl, isTmp, retE, evRet, celRet, List.map_cons, List.map_nil, List.length_cons, List.length_nil, List.getD_cons_zero, List.getD_cons_succ, List.getElem?_cons_zero, List.getElem?_cons_succ, List.getElem?_nil, List.set_cons_zero, List.set_cons_succ, dInt, dInt0, dCmpI, dAdd, dMul, dEq, dIsN, isNonD, dIn, dIx, mRd, mRd0, mMu, mMu0, tyD, celK, celKs, celKa, lstC, mSetF, fldC, putN, putV, dSub, ixC, mIter, mEnum, mZip, mRange1, mRange2, itemsK, itA, itemsD, mFor, mLc, mYes, mRaise, mTryAs, suiteE, mExf, exfK, exnD, mKdIn, mKdIx, mKdT, strK, mMeth, insK, mMake, makeK, mInO, mStrO, mLenO, mListG, callG, gLen, gInt, gStr, gList, gTuple, gAll, gSum, gAbs, gMax, gMin, Bool.not_true, Bool.not_false, Bool.and_true, Bool.true_and, Bool.or_false, Bool.false_or, Bool.or_true, Bool.true_or, Bool.and_false, Bool.false_and, kbe_int_NoneType, kbe_int_bool, kbe_int_int, kbe_int_str, kbe_int_tuple, kbe_int_list, kbe_int_dict, kbe_bool_NoneType, kbe_bool_bool, kbe_bool_int, kbe_bool_str, kbe_bool_tuple, kbe_bool_list, kbe_bool_dict, kbe_str_NoneType, kbe_str_bool, kbe_str_int, kbe_str_str, kbe_str_tuple, kbe_str_list, kbe_str_dict, kbe_tuple_NoneType, kbe_tuple_bool, kbe_tuple_int, kbe_tuple_str, kbe_tuple_tuple, kbe_tuple_list, kbe_tuple_dict, kbe_list_NoneType, kbe_list_bool, kbe_list_int, kbe_list_str, kbe_list_tuple, kbe_list_list, kbe_list_dict, kbe_list_tuple_NoneType, kbe_list_tuple_bool, kbe_list_tuple_int, kbe_list_tuple_str, kbe_list_tuple_tuple, kbe_list_tuple_list, kbe_list_tuple_dict, noOwn, noOwnS, wipeF, restF, List.all_cons, List.all_nil, lInsert, lPop, lAppend, sJoin, seqD, lstD, ex_some, deq_int, deq_bl, deq_str, pl_int, pl_bl, pl_str, decide_true, decide_false, eq_self, sp_ended, sp__law_like]
  rw [zip_ii]
  refine compD_map (fun d => match d with | .tup [.int x, .int l] => .int (x * l) | _ => .non) rfl (zipL (Nat.lt_succ_of_le h40) (by decide)) (fun d hd acc N ha hN => ?_) ?_
  · obtain ⟨⟨l, b⟩, hp, rfl⟩ := List.mem_map.mp hd
    have h1 := hl.2.2 l (List.of_mem_zip hp).1
    simp only [turnD, mSh, mVar, svK, mBin, mAndV, mOrV, mNotV, mIf, mUn, dNeg, dInv, mChain, mTst, mTru, blK, mAnd, mOr, mNot, brK_tt, brK_ff, truK, mNil, mCons, mConsT, mTup, mLst, frzAll, frzK, frzS, frzA, mSl, mNoPart, mPart, dSl, mFld, dFld, lookD, intK, valK, slK, arK, valsK, mBi, mIsi, isiK, D.tag, st1, mNext, mSeq, mBreak, mCont, mDrop, mRet, mRetN, mIfS, mAsg, asgK, mAsgG, dName, dNil, dCons, dTup, mPar, setEach, Ev.sv, hold, hold_hold, retK, retS, bodyE, HD.Fr.set, HD.Fr.put, Cel.sv, Cel.toD, Cel.own, startF, mCall, argE, arr1, arr2, arr3, arr4, arrK, arrD, callK, cellsOf, celEv, celS, backF, plEv, plS, plA, plB, id_eq, true_and, and_true, List.mem_singleton, ite_true, ite_false, goodPl, isTmp, retE, evRet, celRet, List.map_cons, List.map_nil, List.length_cons, List.length_nil, List.getD_cons_zero, List.getD_cons_succ, List.getElem?_cons_zero, List.getElem?_cons_succ, List.getElem?_nil, List.set_cons_zero, List.set_cons_succ, dInt, dInt0, dCmpI, dAdd, dMul, dEq, dIsN, isNonD, dIn, dIx, mRd, mRd0, mMu, mMu0, tyD, celK, celKs, celKa, lstC, mSetF, fldC, putN, putV, dSub, ixC, mIter, mEnum, mZip, mRange1, mRange2, itemsK, itA, itemsD, mFor, mLc, mYes, mRaise, mTryAs, suiteE, mExf, exfK, exnD, mKdIn, mKdIx, mKdT, strK, mMeth, insK, mMake, makeK, mInO, mStrO, mLenO, mListG, callG, gLen, gInt, gStr, gList, gTuple, gAll, gSum, gAbs, gMax, gMin, Bool.not_true, Bool.not_false, Bool.and_true, Bool.true_and, Bool.or_false, Bool.false_or, Bool.or_true, Bool.true_or, Bool.and_false, Bool.false_and, kbe_int_NoneType, kbe_int_bool, kbe_int_int, kbe_int_str, kbe_int_tuple, kbe_int_list, kbe_int_dict, kbe_bool_NoneType, kbe_bool_bool, kbe_bool_int, kbe_bool_str, kbe_bool_tuple, kbe_bool_list, kbe_bool_dict, kbe_str_NoneType, kbe_str_bool, kbe_str_int, kbe_str_str, kbe_str_tuple, kbe_str_list, kbe_str_dict, kbe_tuple_NoneType, kbe_tuple_bool, kbe_tuple_int, kbe_tuple_str, kbe_tuple_tuple, kbe_tuple_list, kbe_tuple_dict, kbe_list_NoneType, kbe_list_bool, kbe_list_int, kbe_list_str, kbe_list_tuple, kbe_list_list, kbe_list_dict, kbe_list_tuple_NoneType, kbe_list_tuple_bool, kbe_list_tuple_int, kbe_list_tuple_str, kbe_list_tuple_tuple, kbe_list_tuple_list, kbe_list_tuple_dict, noOwn, noOwnS, wipeF, restF, List.all_cons, List.all_nil, lInsert, lPop, lAppend, sJoin, seqD, lstD, ex_some, deq_int, deq_bl, deq_str, pl_int, pl_bl, pl_str, decide_true, decide_false, eq_self]
    exact ⟨.inl ⟨by omega, by omega⟩, ha, hN⟩
  · have e : List.map (fun d => match d with | .tup [.int x, .int l] => D.int (x * l) | _ => .non) ((ls.zip bs).map fun p => D.tup [D.int p.1, D.int p.2]) = iD (endRow ls bs) := by
      rw [← endRow_mul ls bs hb]
      unfold iD
      rw [List.map_map, List.map_map]; rfl
    rw [e]
    obtain ⟨i1, i2⟩ := ended_end ls bs hl.2.2 hb hbl
    have e2 : endedD ls (endRow ls bs) = .tup (iD bs) := by
      unfold endedD
      rw [if_neg (by rw [i1]; decide), i2]
    simp only [mSh, mVar, svK, mBin, mAndV, mOrV, mNotV, mIf, mUn, dNeg, dInv, mChain, mTst, mTru, blK, mAnd, mOr, mNot, brK_tt, brK_ff, truK, mNil, mCons, mConsT, mTup, mLst, frzAll, frzK, frzS, frzA, mSl, mNoPart, mPart, dSl, mFld, dFld, lookD, intK, valK, slK, arK, valsK, mBi, mIsi, isiK, D.tag, st1, mNext, mSeq, mBreak, mCont, mDrop, mRet, mRetN, mIfS, mAsg, asgK, mAsgG, dName, dNil, dCons, dTup, mPar, setEach, Ev.sv, hold, hold_hold, retK, retS, bodyE, HD.Fr.set, HD.Fr.put, Cel.sv, Cel.toD, Cel.own, startF, mCall, argE, arr1, arr2, arr3, arr4, arrK, arrD, callK, cellsOf, celEv, celS, backF, plEv, plS, plA, plB, id_eq, true_and, and_true, List.mem_singleton, ite_true, ite_false, goodPl, isTmp, retE, evRet, celRet, List.map_cons, List.map_nil, List.length_cons, List.length_nil, List.getD_cons_zero, List.getD_cons_succ, List.getElem?_cons_zero, List.getElem?_cons_succ, List.getElem?_nil, List.set_cons_zero, List.set_cons_succ, dInt, dInt0, dCmpI, dAdd, dMul, dEq, dIsN, isNonD, dIn, dIx, mRd, mRd0, mMu, mMu0, tyD, celK, celKs, celKa, lstC, mSetF, fldC, putN, putV, dSub, ixC, mIter, mEnum, mZip, mRange1, mRange2, itemsK, itA, itemsD, mFor, mLc, mYes, mRaise, mTryAs, suiteE, mExf, exfK, exnD, mKdIn, mKdIx, mKdT, strK, mMeth, insK, mMake, makeK, mInO, mStrO, mLenO, mListG, callG, gLen, gInt, gStr, gList, gTuple, gAll, gSum, gAbs, gMax, gMin, Bool.not_true, Bool.not_false, Bool.and_true, Bool.true_and, Bool.or_false, Bool.false_or, Bool.or_true, Bool.true_or, Bool.and_false, Bool.false_and, kbe_int_NoneType, kbe_int_bool, kbe_int_int, kbe_int_str, kbe_int_tuple, kbe_int_list, kbe_int_dict, kbe_bool_NoneType, kbe_bool_bool, kbe_bool_int, kbe_bool_str, kbe_bool_tuple, kbe_bool_list, kbe_bool_dict, kbe_str_NoneType, kbe_str_bool, kbe_str_int, kbe_str_str, kbe_str_tuple, kbe_str_list, kbe_str_dict, kbe_tuple_NoneType, kbe_tuple_bool, kbe_tuple_int, kbe_tuple_str, kbe_tuple_tuple, kbe_tuple_list, kbe_tuple_dict, kbe_list_NoneType, kbe_list_bool, kbe_list_int, kbe_list_str, kbe_list_tuple, kbe_list_list, kbe_list_dict, kbe_list_tuple_NoneType, kbe_list_tuple_bool, kbe_list_tuple_int, kbe_list_tuple_str, kbe_list_tuple_tuple, kbe_list_tuple_list, kbe_list_tuple_dict, noOwn, noOwnS, wipeF, restF, List.all_cons, List.all_nil, lInsert, lPop, lAppend, sJoin, seqD, lstD, ex_some, deq_int, deq_bl, deq_str, pl_int, pl_bl, pl_str, decide_true, decide_false, eq_self]
    refine ⟨⟨List.nodup_nil, Nat.zero_le 1⟩, _, rfl, plain_iD _ (by omega) 3, ?_⟩
    refine ⟨⟨List.nodup_nil, Nat.zero_le 1⟩, ls, endRow ls bs, rfl, by omega, ?_⟩
    rw [e2]
    exact ⟨⟨List.nodup_nil, Nat.zero_le 1⟩, _, rfl, plain_iD _ (by omega) 3, q⟩
theorem ok_rt_5 {ls rs bs : List Int} {bag : List D} {s3 s4 : Option Sv} {D' : DE} (hl : lvls ls) (q : rt_6 D' (RTF ls rs bag s3 s4 (some (.sh (.tup (iD bs)))) (some (.sh (.tup (iD (endRow ls bs))))) none)) : rt_5 D' (RTF ls rs bag s3 s4 (some (.sh (.tup (iD bs)))) none none) := by
  unfold rt_5
  unfold RTF at q ⊢
  simp only [mSh, mVar, svK, mBin, mAndV, mOrV, mNotV, mIf, mUn, dNeg, dInv, mChain, mTst, mTru, blK, mAnd, mOr, mNot, brK_tt, brK_ff, truK, mNil, mCons, mConsT, mTup, mLst, frzAll, frzK, frzS, frzA, mSl, mNoPart, mPart, dSl, mFld, dFld, lookD, intK, valK, slK, arK, valsK, mBi, mIsi, isiK, D.tag, st1, mNext, mSeq, mBreak, mCont, mDrop, mRet, mRetN, mIfS, mAsg, asgK, mAsgG, dName, dNil, dCons, dTup, mPar, setEach, Ev.sv, hold, hold_hold, retK, retS, bodyE, HD.Fr.set, HD.Fr.put, Cel.sv, Cel.toD, Cel.own, startF, mCall, argE, arr1, arr2, arr3, arr4, arrK, arrD, callK, cellsOf, celEv, celS, backF, plEv, plS, plA, plB, id_eq, true_and, and_true, List.mem_singleton, ite_true, ite_false, goodPl, isTmp, retE, evRet, celRet, List.map_cons, List.map_nil, List.length_cons, List.length_nil, List.getD_cons_zero, List.getD_cons_succ, List.getElem?_cons_zero, List.getElem?_cons_succ, List.getElem?_nil, List.set_cons_zero, List.set_cons_succ, dInt, dInt0, dCmpI, dAdd, dMul, dEq, dIsN, isNonD, dIn, dIx, mRd, mRd0, mMu, mMu0, tyD, celK, celKs, celKa, lstC, mSetF, fldC, putN, putV, dSub, ixC, mIter, mEnum, mZip, mRange1, mRange2, itemsK, itA, itemsD, mFor, mLc, mYes, mRaise, mTryAs, suiteE, mExf, exfK, exnD, mKdIn, mKdIx, mKdT, strK, mMeth, insK, mMake, makeK, mInO, mStrO, mLenO, mListG, callG, gLen, gInt, gStr, gList, gTuple, gAll, gSum, gAbs, gMax, gMin, Bool.not_true, Bool.not_false, Bool.and_true, Bool.true_and, Bool.or_false, Bool.false_or, Bool.or_true, Bool.true_or, Bool.and_false, Bool.false_and, kbe_int_NoneType, kbe_int_bool, kbe_int_int, kbe_int_str, kbe_int_tuple, kbe_int_list, kbe_int_dict, kbe_bool_NoneType, kbe_bool_bool, kbe_bool_int, kbe_bool_str, kbe_bool_tuple, kbe_bool_list, kbe_bool_dict, kbe_str_NoneType, kbe_str_bool, kbe_str_int, kbe_str_str, kbe_str_tuple, kbe_str_list, kbe_str_dict, kbe_tuple_NoneType, kbe_tuple_bool, kbe_tuple_int, kbe_tuple_str, kbe_tuple_tuple, kbe_tuple_list, kbe_tuple_dict, kbe_list_NoneType, kbe_list_bool, kbe_list_int, kbe_list_str, kbe_list_tuple, kbe_list_list, kbe_list_dict, kbe_list_tuple_NoneType, kbe_list_tuple_bool, kbe_list_tuple_int, kbe_list_tuple_str, kbe_list_tuple_tuple, kbe_list_tuple_list, kbe_list_tuple_dict, noOwn, noOwnS, wipeF, restF, List.all_cons, List.all_nil, lInsert, lPop, lAppend, sJoin, seqD, lstD, ex_some, deq_int, deq_bl, deq_str, pl_int, pl_bl, pl_str, decide_true, decide_false, eq_self, sp_end_row]
  have h40 := hl.2.1
  exact ⟨⟨List.nodup_nil, Nat.zero_le 1⟩, ls, bs, rfl, by omega, q⟩

theorem rt_4_bits {ls rs : List Int} {bag : List D} {s3 s4 : Option Sv} {D' : DE} (hl : lvls ls) (hb : BagOk bag) (q : ∀ bs bag', BagOk bag' → bits01 bs → bs.length = ls.length → rt_5 D' (RTF ls rs bag' s3 s4 (some (.sh (.tup (iD bs)))) none none)) : rt_4 D' (RTF ls rs bag s3 s4 none none none) := by
  unfold rt_4
  have hel : (iD ls).length = ls.length := by simp [iD]
  have h40 := hl.2.1
  unfold RTF at q ⊢
  simp only [mSh, mVar, svK, mBin, mAndV, mOrV, mNotV, mIf, mUn, dNeg, dInv, mChain, mTst, mTru, blK, mAnd, mOr, mNot, brK_tt, brK_ff, truK, mNil, mCons, mConsT, mTup, mLst, frzAll, frzK, frzS, frzA, mSl, mNoPart, mPart, dSl, mFld, dFld, lookD, intK, valK, slK, arK, valsK, mBi, mIsi, isiK, D.tag, st1, mNext, mSeq, mBreak, mCont, mDrop, mRet, mRetN, mIfS, mAsg, asgK, mAsgG, dName, dNil, dCons, dTup, mPar, setEach, Ev.sv, hold, hold_hold, retK, retS, bodyE, HD.Fr.set, HD.Fr.put, Cel.sv, Cel.toD, Cel.own, startF, mCall, argE, arr1, arr2, arr3, arr4, arrK, arrD, callK, cellsOf, celEv, celS, backF, plEv, plS, plA, plB, id_eq, true_and, and_true, List.mem_singleton, ite_true, ite_false, goodPl, isTmp, retE, evRet, celRet, List.map_cons, List.map_nil, List.length_cons, List.length_nil, List.getD_cons_zero, List.getD_cons_succ, List.getElem?_cons_zero, List.getElem?_cons_succ, List.getElem?_nil, List.set_cons_zero, List.set_cons_succ, dInt, dInt0, dCmpI, dAdd, dMul, dEq, dIsN, isNonD, dIn, dIx, mRd, mRd0, mMu, mMu0, tyD, celK, celKs, celKa, lstC, mSetF, fldC, putN, putV, dSub, ixC, mIter, mEnum, mZip, mRange1, mRange2, itemsK, itA, itemsD, mFor, mLc, mYes, mRaise, mTryAs, suiteE, mExf, exfK, exnD, mKdIn, mKdIx, mKdT, strK, mMeth, insK, mMake, makeK, mInO, mStrO, mLenO, mListG, callG, gLen, gInt, gStr, gList, gTuple, gAll, gSum, gAbs, gMax, gMin, Bool.not_true, Bool.not_false, Bool.and_true, Bool.true_and, Bool.or_false, Bool.false_or, Bool.or_true, Bool.true_or, Bool.and_false, Bool.false_and, kbe_int_NoneType, kbe_int_bool, kbe_int_int, kbe_int_str, kbe_int_tuple, kbe_int_list, kbe_int_dict, kbe_bool_NoneType, kbe_bool_bool, kbe_bool_int, kbe_bool_str, kbe_bool_tuple, kbe_bool_list, kbe_bool_dict, kbe_str_NoneType, kbe_str_bool, kbe_str_int, kbe_str_str, kbe_str_tuple, kbe_str_list, kbe_str_dict, kbe_tuple_NoneType, kbe_tuple_bool, kbe_tuple_int, kbe_tuple_str, kbe_tuple_tuple, kbe_tuple_list, kbe_tuple_dict, kbe_list_NoneType, kbe_list_bool, kbe_list_int, kbe_list_str, kbe_list_tuple, kbe_list_list, kbe_list_dict, kbe_list_tuple_NoneType, kbe_list_tuple_bool, kbe_list_tuple_int, kbe_list_tuple_str, kbe_list_tuple_tuple, kbe_list_tuple_list, kbe_list_tuple_dict, noOwn, noOwnS, wipeF, restF, List.all_cons, List.all_nil, lInsert, lPop, lAppend, sJoin, seqD, lstD, ex_some, deq_int, deq_bl, deq_str, pl_int, pl_bl, pl_str, decide_true, decide_false, eq_self]
  refine compD_inv (fun i acc F => ∃ bag' bs, F = ⟨[some (.ar 0), some (.ar 1), some (.ar 2), s3, s4, none, none, none, none, none, none, none, none], [.lst bag', .gone (.tup (iD ls)), .gone (.tup (iD rs))]⟩ ∧ BagOk bag' ∧ acc = iD bs ∧ bits01 bs ∧ bs.length = i ∧ i ≤ ls.length) ?_ ?_ ?_ ⟨bag, [], rfl, hb, rfl, (fun b h => by cases h), rfl, Nat.zero_le _⟩
  · rintro i acc F ⟨bag', bs, hF, _⟩
    subst hF; rfl
  · rintro i d acc F hi ⟨bag', bs, hF, hb', ha, h01, hbi, hil⟩ N hN
    subst hF
    subst ha
    have hi2 := (List.getElem?_eq_some_iff.mp hi).1
    have hbl : (iD bs).length = bs.length := by simp [iD]
    simp only [turnD, mSh, mVar, svK, mBin, mAndV, mOrV, mNotV, mIf, mUn, dNeg, dInv, mChain, mTst, mTru, blK, mAnd, mOr, mNot, brK_tt, brK_ff, truK, mNil, mCons, mConsT, mTup, mLst, frzAll, frzK, frzS, frzA, mSl, mNoPart, mPart, dSl, mFld, dFld, lookD, intK, valK, slK, arK, valsK, mBi, mIsi, isiK, D.tag, st1, mNext, mSeq, mBreak, mCont, mDrop, mRet, mRetN, mIfS, mAsg, asgK, mAsgG, dName, dNil, dCons, dTup, mPar, setEach, Ev.sv, hold, hold_hold, retK, retS, bodyE, HD.Fr.set, HD.Fr.put, Cel.sv, Cel.toD, Cel.own, startF, mCall, argE, arr1, arr2, arr3, arr4, arrK, arrD, callK, cellsOf, celEv, celS, backF, plEv, plS, plA, plB, id_eq, true_and, and_true, List.mem_singleton, ite_true, ite_false, goodPl, isTmp, retE, evRet, celRet, List.map_cons, List.map_nil, List.length_cons, List.length_nil, List.getD_cons_zero, List.getD_cons_succ, List.getElem?_cons_zero, List.getElem?_cons_succ, List.getElem?_nil, List.set_cons_zero, List.set_cons_succ, dInt, dInt0, dCmpI, dAdd, dMul, dEq, dIsN, isNonD, dIn, dIx, mRd, mRd0, mMu, mMu0, tyD, celK, celKs, celKa, lstC, mSetF, fldC, putN, putV, dSub, ixC, mIter, mEnum, mZip, mRange1, mRange2, itemsK, itA, itemsD, mFor, mLc, mYes, mRaise, mTryAs, suiteE, mExf, exfK, exnD, mKdIn, mKdIx, mKdT, strK, mMeth, insK, mMake, makeK, mInO, mStrO, mLenO, mListG, callG, gLen, gInt, gStr, gList, gTuple, gAll, gSum, gAbs, gMax, gMin, Bool.not_true, Bool.not_false, Bool.and_true, Bool.true_and, Bool.or_false, Bool.false_or, Bool.or_true, Bool.true_or, Bool.and_false, Bool.false_and, kbe_int_NoneType, kbe_int_bool, kbe_int_int, kbe_int_str, kbe_int_tuple, kbe_int_list, kbe_int_dict, kbe_bool_NoneType, kbe_bool_bool, kbe_bool_int, kbe_bool_str, kbe_bool_tuple, kbe_bool_list, kbe_bool_dict, kbe_str_NoneType, kbe_str_bool, kbe_str_int, kbe_str_str, kbe_str_tuple, kbe_str_list, kbe_str_dict, kbe_tuple_NoneType, kbe_tuple_bool, kbe_tuple_int, kbe_tuple_str, kbe_tuple_tuple, kbe_tuple_list, kbe_tuple_dict, kbe_list_NoneType, kbe_list_bool, kbe_list_int, kbe_list_str, kbe_list_tuple, kbe_list_list, kbe_list_dict, kbe_list_tuple_NoneType, kbe_list_tuple_bool, kbe_list_tuple_int, kbe_list_tuple_str, kbe_list_tuple_tuple, kbe_list_tuple_list, kbe_list_tuple_dict, noOwn, noOwnS, wipeF, restF, List.all_cons, List.all_nil, lInsert, lPop, lAppend, sJoin, seqD, lstD, ex_some, deq_int, deq_bl, deq_str, pl_int, pl_bl, pl_str, decide_true, decide_false, eq_self, sp__law_draw]
    refine ⟨⟨nd1 _, Nat.zero_le 1⟩, bag', _, rfl, hb', by decide, by decide, fun r bag2 hb2 r0 r1 => ?_⟩
    refine ⟨by rw [hbl]; exact Nat.lt_of_le_of_lt (by omega : bs.length ≤ 40) (by decide), hN _ _ ⟨bag2, bs ++ [r], rfl, hb2, iD_snoc bs r, fun b h => ?_, by rw [List.length_append, hbi]; rfl, by omega⟩⟩
    rcases List.mem_append.mp h with h | h
    · exact h01 b h
    · rw [List.mem_singleton.mp h]; omega
  · rintro acc F ⟨bag', bs, hF, hb', ha, h01, hbi, hil⟩
    subst hF
    subst ha
    exact q bs bag' hb' h01 (by rw [hbi, hel])
theorem plain_ended (ls rs : List Int) (h : rs.length < 1000) : plainD 5 (endedD ls rs) := by
  unfold endedD
  split
  · exact True.intro
  · exact plain_iD _ (by rw [List.length_map]; exact h) 3
theorem ok_rt_3 {ls rs : List Int} {bag : List D} {s3 : Option Sv} {D' : DE} (h40 : rs.length ≤ 40) (q : ∀ s4, rt_4 D' (RTF ls rs bag s3 s4 none none none)) : rt_3 D' (RTF ls rs bag s3 (some (.sh (endedD ls rs))) none none none) := by
  unfold rt_3
  unfold RTF at q ⊢
  simp only [mSh, mVar, svK, mBin, mAndV, mOrV, mNotV, mIf, mUn, dNeg, dInv, mChain, mTst, mTru, blK, mAnd, mOr, mNot, brK_tt, brK_ff, truK, mNil, mCons, mConsT, mTup, mLst, frzAll, frzK, frzS, frzA, mSl, mNoPart, mPart, dSl, mFld, dFld, lookD, intK, valK, slK, arK, valsK, mBi, mIsi, isiK, D.tag, st1, mNext, mSeq, mBreak, mCont, mDrop, mRet, mRetN, mIfS, mAsg, asgK, mAsgG, dName, dNil, dCons, dTup, mPar, setEach, Ev.sv, hold, hold_hold, retK, retS, bodyE, HD.Fr.set, HD.Fr.put, Cel.sv, Cel.toD, Cel.own, startF, mCall, argE, arr1, arr2, arr3, arr4, arrK, arrD, callK, cellsOf, celEv, celS, backF, plEv, plS, plA, plB, id_eq, true_and, and_true, List.mem_singleton, ite_true, ite_false, goodPl, isTmp, retE, evRet, celRet, List.map_cons, List.map_nil, List.length_cons, List.length_nil, List.getD_cons_zero, List.getD_cons_succ, List.getElem?_cons_zero, List.getElem?_cons_succ, List.getElem?_nil, List.set_cons_zero, List.set_cons_succ, dInt, dInt0, dCmpI, dAdd, dMul, dEq, dIsN, isNonD, dIn, dIx, mRd, mRd0, mMu, mMu0, tyD, celK, celKs, celKa, lstC, mSetF, fldC, putN, putV, dSub, ixC, mIter, mEnum, mZip, mRange1, mRange2, itemsK, itA, itemsD, mFor, mLc, mYes, mRaise, mTryAs, suiteE, mExf, exfK, exnD, mKdIn, mKdIx, mKdT, strK, mMeth, insK, mMake, makeK, mInO, mStrO, mLenO, mListG, callG, gLen, gInt, gStr, gList, gTuple, gAll, gSum, gAbs, gMax, gMin, Bool.not_true, Bool.not_false, Bool.and_true, Bool.true_and, Bool.or_false, Bool.false_or, Bool.or_true, Bool.true_or, Bool.and_false, Bool.false_and, kbe_int_NoneType, kbe_int_bool, kbe_int_int, kbe_int_str, kbe_int_tuple, kbe_int_list, kbe_int_dict, kbe_bool_NoneType, kbe_bool_bool, kbe_bool_int, kbe_bool_str, kbe_bool_tuple, kbe_bool_list, kbe_bool_dict, kbe_str_NoneType, kbe_str_bool, kbe_str_int, kbe_str_str, kbe_str_tuple, kbe_str_list, kbe_str_dict, kbe_tuple_NoneType, kbe_tuple_bool, kbe_tuple_int, kbe_tuple_str, kbe_tuple_tuple, kbe_tuple_list, kbe_tuple_dict, kbe_list_NoneType, kbe_list_bool, kbe_list_int, kbe_list_str, kbe_list_tuple, kbe_list_list, kbe_list_dict, kbe_list_tuple_NoneType, kbe_list_tuple_bool, kbe_list_tuple_int, kbe_list_tuple_str, kbe_list_tuple_tuple, kbe_list_tuple_list, kbe_list_tuple_dict, noOwn, noOwnS, wipeF, restF, List.all_cons, List.all_nil, lInsert, lPop, lAppend, sJoin, seqD, lstD, ex_some, deq_int, deq_bl, deq_str, pl_int, pl_bl, pl_str, decide_true, decide_false, eq_self, sp_ended, sp__law_like]
  exact ⟨⟨List.nodup_nil, Nat.zero_le 1⟩, ls, rs, rfl, by omega, ⟨List.nodup_nil, Nat.zero_le 1⟩, _, rfl, plain_ended ls rs (by omega), q _⟩
theorem sg_star {r l : Int} (h0 : 0 ≤ r) (h1 : r ≤ l) : sgn r l = 42 ↔ (decide (0 < r) && decide (r < l)) = true := by
  unfold sgn
  rw [Bool.and_eq_true, decide_eq_true_eq, decide_eq_true_eq]
  by_cases h : r = 0
  · rw [if_pos h]
    exact ⟨fun h => (by cases h), fun ⟨h2, _⟩ => (by omega)⟩
  · rw [if_neg h]
    by_cases h2 : r = l
    · rw [if_pos h2]
      exact ⟨fun h => (by cases h), fun ⟨_, h3⟩ => (by omega)⟩
    · rw [if_neg h2]
      exact ⟨fun _ => ⟨by omega, by omega⟩, fun _ => rfl⟩
theorem any_star {ls rs : List Int} (hr : rowIn ls rs) : (rs.zip ls).any (fun p => decide (0 < p.1) && decide (p.1 < p.2)) = decide (42 ∈ (rs.zip ls).map sg2) := by
  by_cases h : 42 ∈ (rs.zip ls).map sg2
  · rw [decide_eq_true h, List.any_eq_true]
    obtain ⟨p, hp, e⟩ := List.mem_map.mp h
    exact ⟨p, hp, (sg_star (hr.2 p hp).1 (hr.2 p hp).2).mp e⟩
  · rw [decide_eq_false h, List.any_eq_false]
    intro p hp hc
    exact h (List.mem_map.mpr ⟨p, hp, (sg_star (hr.2 p hp).1 (hr.2 p hp).2).mpr hc⟩)
def sgI : D → D
  | .str z => .int (if z.cps.toList = [49] then 1 else 0)
  | _ => .non
theorem sgI_all {ls rs : List Int} (hl : lvls ls) (hr : rowIn ls rs) (h : ¬ 42 ∈ (rs.zip ls).map sg2) : (signsD (textOf ls rs)).map sgI = iD (rs.map fun r => if 0 < r then 1 else 0) := by
  have e1 : rs.map (fun r => if 0 < r then (1 : Int) else 0) = (rs.zip ls).map fun p => if 0 < p.1 then (1 : Int) else 0 := by
    have := List.map_fst_zip (l₁ := rs) (l₂ := ls) (by rw [hr.1]; exact Nat.le_refl _)
    conv => lhs; rw [← this]
    rw [List.map_map]; rfl
  rw [e1]
  unfold signsD iD
  show List.map sgI (List.map _ ((rs.zip ls).map sg2)) = _
  rw [List.map_map, List.map_map, List.map_map]
  apply List.map_congr_left
  rintro ⟨r, l⟩ hp
  obtain ⟨h0, h1⟩ := hr.2 _ hp
  have h0 : 0 ≤ r := h0
  have h1 : r ≤ l := h1
  have hs : ¬ sgn r l = 42 := fun hc => h (List.mem_map.mpr ⟨_, hp, hc⟩)
  show D.int (if [sgn r l] = [49] then 1 else 0) = D.int (if 0 < r then 1 else 0)
  have hc : ¬ (decide (0 < r) && decide (r < l)) = true := fun hc => hs ((sg_star h0 h1).mpr hc)
  rw [Bool.and_eq_true, decide_eq_true_eq, decide_eq_true_eq] at hc
  have hl1 := (hl.2.2 l (List.of_mem_zip hp).2).1
  unfold sgn
  by_cases h2 : r = 0
  · rw [if_pos h2, if_neg (by omega : ¬ 0 < r)]; rfl
  · have h3 : r = l := by omega
    rw [if_neg h2, if_pos h3, if_pos (by omega : 0 < r)]; rfl
theorem ok_rt_2 {ls rs : List Int} {bag : List D} {D' : DE} (hl : lvls ls) (hr : rowIn ls rs) (q : rt_3 D' (RTF ls rs bag (some (.sh (.str (textOf ls rs)))) (some (.sh (endedD ls rs))) none none none)) : rt_2 D' (RTF ls rs bag (some (.sh (.str (textOf ls rs)))) none none none none) := by
  unfold rt_2
  unfold RTF at q ⊢
  have ot := okText_of hr.1 hl.1 hl.2.1
  have ins : inStr "*" (textOf ls rs) = decide (42 ∈ (rs.zip ls).map sg2) := rfl
  simp only [mSh, mVar, svK, mBin, mAndV, mOrV, mNotV, mIf, mUn, dNeg, dInv, mChain, mTst, mTru, blK, mAnd, mOr, mNot, brK_tt, brK_ff, truK, mNil, mCons, mConsT, mTup, mLst, frzAll, frzK, frzS, frzA, mSl, mNoPart, mPart, dSl, mFld, dFld, lookD, intK, valK, slK, arK, valsK, mBi, mIsi, isiK, D.tag, st1, mNext, mSeq, mBreak, mCont, mDrop, mRet, mRetN, mIfS, mAsg, asgK, mAsgG, dName, dNil, dCons, dTup, mPar, setEach, Ev.sv, hold, hold_hold, retK, retS, bodyE, HD.Fr.set, HD.Fr.put, Cel.sv, Cel.toD, Cel.own, startF, mCall, argE, arr1, arr2, arr3, arr4, arrK, arrD, callK, cellsOf, celEv, celS, backF, plEv, plS, plA, plB, id_eq, true_and, and_true, List.mem_singleton, ite_true, ite_false, goodPl, isTmp, retE, evRet, celRet, List.map_cons, List.map_nil, List.length_cons, List.length_nil, List.getD_cons_zero, List.getD_cons_succ, List.getElem?_cons_zero, List.getElem?_cons_succ, List.getElem?_nil, List.set_cons_zero, List.set_cons_succ, dInt, dInt0, dCmpI, dAdd, dMul, dEq, dIsN, isNonD, dIn, dIx, mRd, mRd0, mMu, mMu0, tyD, celK, celKs, celKa, lstC, mSetF, fldC, putN, putV, dSub, ixC, mIter, mEnum, mZip, mRange1, mRange2, itemsK, itA, itemsD, mFor, mLc, mYes, mRaise, mTryAs, suiteE, mExf, exfK, exnD, mKdIn, mKdIx, mKdT, strK, mMeth, insK, mMake, makeK, mInO, mStrO, mLenO, mListG, callG, gLen, gInt, gStr, gList, gTuple, gAll, gSum, gAbs, gMax, gMin, Bool.not_true, Bool.not_false, Bool.and_true, Bool.true_and, Bool.or_false, Bool.false_or, Bool.or_true, Bool.true_or, Bool.and_false, Bool.false_and, kbe_int_NoneType, kbe_int_bool, kbe_int_int, kbe_int_str, kbe_int_tuple, kbe_int_list, kbe_int_dict, kbe_bool_NoneType, kbe_bool_bool, kbe_bool_int, kbe_bool_str, kbe_bool_tuple, kbe_bool_list, kbe_bool_dict, kbe_str_NoneType, kbe_str_bool, kbe_str_int, kbe_str_str, kbe_str_tuple, kbe_str_list, kbe_str_dict, kbe_tuple_NoneType, kbe_tuple_bool, kbe_tuple_int, kbe_tuple_str, kbe_tuple_tuple, kbe_tuple_list, kbe_tuple_dict, kbe_list_NoneType, kbe_list_bool, kbe_list_int, kbe_list_str, kbe_list_tuple, kbe_list_list, kbe_list_dict, kbe_list_tuple_NoneType, kbe_list_tuple_bool, kbe_list_tuple_int, kbe_list_tuple_str, kbe_list_tuple_tuple, kbe_list_tuple_list, kbe_list_tuple_dict, noOwn, noOwnS, wipeF, restF, List.all_cons, List.all_nil, lInsert, lPop, lAppend, sJoin, seqD, lstD, ex_some, deq_int, deq_bl, deq_str, pl_int, pl_bl, pl_str, decide_true, decide_false, eq_self, ins]
  unfold endedD at q
  rw [any_star hr] at q
  refine ⟨fun h => ?_, fun h => ?_⟩
  · have h : ¬ 42 ∈ (rs.zip ls).map sg2 := by
      intro hc
      rw [decide_eq_true hc] at h; cases h
    rw [if_neg (by rw [decide_eq_false h]; decide)] at q
    refine compD_map sgI True.intro (by unfold signsD; rw [List.length_map]; exact Nat.lt_of_le_of_lt ot.2.1 (by decide)) (fun d hd acc N ha hN => ?_) ?_
    · obtain ⟨c, hc, rfl⟩ := List.mem_map.mp hd
      simp only [turnD, mSh, mVar, svK, mBin, mAndV, mOrV, mNotV, mIf, mUn, dNeg, dInv, mChain, mTst, mTru, blK, mAnd, mOr, mNot, brK_tt, brK_ff, truK, mNil, mCons, mConsT, mTup, mLst, frzAll, frzK, frzS, frzA, mSl, mNoPart, mPart, dSl, mFld, dFld, lookD, intK, valK, slK, arK, valsK, mBi, mIsi, isiK, D.tag, st1, mNext, mSeq, mBreak, mCont, mDrop, mRet, mRetN, mIfS, mAsg, asgK, mAsgG, dName, dNil, dCons, dTup, mPar, setEach, Ev.sv, hold, hold_hold, retK, retS, bodyE, HD.Fr.set, HD.Fr.put, Cel.sv, Cel.toD, Cel.own, startF, mCall, argE, arr1, arr2, arr3, arr4, arrK, arrD, callK, cellsOf, celEv, celS, backF, plEv, plS, plA, plB, id_eq, true_and, and_true, List.mem_singleton, ite_true, ite_false, goodPl, isTmp, retE, evRet, celRet, List.map_cons, List.map_nil, List.length_cons, List.length_nil, List.getD_cons_zero, List.getD_cons_succ, List.getElem?_cons_zero, List.getElem?_cons_succ, List.getElem?_nil, List.set_cons_zero, List.set_cons_succ, dInt, dInt0, dCmpI, dAdd, dMul, dEq, dIsN, isNonD, dIn, dIx, mRd, mRd0, mMu, mMu0, tyD, celK, celKs, celKa, lstC, mSetF, fldC, putN, putV, dSub, ixC, mIter, mEnum, mZip, mRange1, mRange2, itemsK, itA, itemsD, mFor, mLc, mYes, mRaise, mTryAs, suiteE, mExf, exfK, exnD, mKdIn, mKdIx, mKdT, strK, mMeth, insK, mMake, makeK, mInO, mStrO, mLenO, mListG, callG, gLen, gInt, gStr, gList, gTuple, gAll, gSum, gAbs, gMax, gMin, Bool.not_true, Bool.not_false, Bool.and_true, Bool.true_and, Bool.or_false, Bool.false_or, Bool.or_true, Bool.true_or, Bool.and_false, Bool.false_and, kbe_int_NoneType, kbe_int_bool, kbe_int_int, kbe_int_str, kbe_int_tuple, kbe_int_list, kbe_int_dict, kbe_bool_NoneType, kbe_bool_bool, kbe_bool_int, kbe_bool_str, kbe_bool_tuple, kbe_bool_list, kbe_bool_dict, kbe_str_NoneType, kbe_str_bool, kbe_str_int, kbe_str_str, kbe_str_tuple, kbe_str_list, kbe_str_dict, kbe_tuple_NoneType, kbe_tuple_bool, kbe_tuple_int, kbe_tuple_str, kbe_tuple_tuple, kbe_tuple_list, kbe_tuple_dict, kbe_list_NoneType, kbe_list_bool, kbe_list_int, kbe_list_str, kbe_list_tuple, kbe_list_list, kbe_list_dict, kbe_list_tuple_NoneType, kbe_list_tuple_bool, kbe_list_tuple_int, kbe_list_tuple_str, kbe_list_tuple_tuple, kbe_list_tuple_list, kbe_list_tuple_dict, noOwn, noOwnS, wipeF, restF, List.all_cons, List.all_nil, lInsert, lPop, lAppend, sJoin, seqD, lstD, ex_some, deq_int, deq_bl, deq_str, pl_int, pl_bl, pl_str, decide_true, decide_false, eq_self]
      have hne : c ≠ 42 := fun e => h (by rw [← e]; exact hc)
      rcases ot.2.2 c hc with rfl | rfl | rfl
      · exact ⟨by decide, 0, by decide +kernel, ha, hN⟩
      · exact ⟨by decide, 1, by decide +kernel, ha, hN⟩
      · exact absurd rfl hne
    · rw [sgI_all hl hr h]
      exact q
  · have h : 42 ∈ (rs.zip ls).map sg2 := by
      by_cases hc : 42 ∈ (rs.zip ls).map sg2
      · exact hc
      · rw [decide_eq_false hc] at h; cases h
    rw [if_pos (by rw [decide_eq_true h])] at q
    exact q
theorem rowOk_of {ls rs : List Int} (hr : rowIn ls rs) : rowOk ls (.tup (iD rs)) = true := by
  show (decide (((List.map D.int rs).length : Int) = ls.length) && ((List.map D.int rs).zip ls).all fun p => isNum p.1 0 p.2) = true
  rw [List.length_map, hr.1, decide_eq_true rfl, Bool.true_and, List.all_eq_true, List.zip_map_left]
  intro p hp
  obtain ⟨⟨r, l⟩, hq, rfl⟩ := List.mem_map.mp hp
  obtain ⟨h0, h1⟩ := hr.2 _ hq
  show (decide (0 ≤ r) && decide (r ≤ l)) = true
  rw [decide_eq_true h0, decide_eq_true h1]; rfl
theorem tgs_iD {xs : List Int} (h : xs.length < 1000) : tgs (.tup (iD xs)) := by
  refine ⟨by unfold iD; rw [List.length_map]; exact h, fun x hx => ?_⟩
  obtain ⟨b, _, rfl⟩ := List.mem_map.mp hx
  exact tg_int b
theorem ok_rt_1 {ls rs : List Int} {bag : List D} {D' : DE} (hl : lvls ls) (hr : rowIn ls rs) (q : rt_2 D' (RTF ls rs bag (some (.sh (.str (textOf ls rs)))) none none none none)) : rt_1 D' (RTF ls rs bag (some (.sh (.str (textOf ls rs)))) none none none none) := by
  have h40 := hl.2.1
  have hrl := hr.1
  unfold rt_1
  unfold RTF at q ⊢
  simp only [mSh, mVar, svK, mBin, mAndV, mOrV, mNotV, mIf, mUn, dNeg, dInv, mChain, mTst, mTru, blK, mAnd, mOr, mNot, brK_tt, brK_ff, truK, mNil, mCons, mConsT, mTup, mLst, frzAll, frzK, frzS, frzA, mSl, mNoPart, mPart, dSl, mFld, dFld, lookD, intK, valK, slK, arK, valsK, mBi, mIsi, isiK, D.tag, st1, mNext, mSeq, mBreak, mCont, mDrop, mRet, mRetN, mIfS, mAsg, asgK, mAsgG, dName, dNil, dCons, dTup, mPar, setEach, Ev.sv, hold, hold_hold, retK, retS, bodyE, HD.Fr.set, HD.Fr.put, Cel.sv, Cel.toD, Cel.own, startF, mCall, argE, arr1, arr2, arr3, arr4, arrK, arrD, callK, cellsOf, celEv, celS, backF, plEv, plS, plA, plB, id_eq, true_and, and_true, List.mem_singleton, ite_true, ite_false, goodPl, isTmp, retE, evRet, celRet, List.map_cons, List.map_nil, List.length_cons, List.length_nil, List.getD_cons_zero, List.getD_cons_succ, List.getElem?_cons_zero, List.getElem?_cons_succ, List.getElem?_nil, List.set_cons_zero, List.set_cons_succ, dInt, dInt0, dCmpI, dAdd, dMul, dEq, dIsN, isNonD, dIn, dIx, mRd, mRd0, mMu, mMu0, tyD, celK, celKs, celKa, lstC, mSetF, fldC, putN, putV, dSub, ixC, mIter, mEnum, mZip, mRange1, mRange2, itemsK, itA, itemsD, mFor, mLc, mYes, mRaise, mTryAs, suiteE, mExf, exfK, exnD, mKdIn, mKdIx, mKdT, strK, mMeth, insK, mMake, makeK, mInO, mStrO, mLenO, mListG, callG, gLen, gInt, gStr, gList, gTuple, gAll, gSum, gAbs, gMax, gMin, Bool.not_true, Bool.not_false, Bool.and_true, Bool.true_and, Bool.or_false, Bool.false_or, Bool.or_true, Bool.true_or, Bool.and_false, Bool.false_and, kbe_int_NoneType, kbe_int_bool, kbe_int_int, kbe_int_str, kbe_int_tuple, kbe_int_list, kbe_int_dict, kbe_bool_NoneType, kbe_bool_bool, kbe_bool_int, kbe_bool_str, kbe_bool_tuple, kbe_bool_list, kbe_bool_dict, kbe_str_NoneType, kbe_str_bool, kbe_str_int, kbe_str_str, kbe_str_tuple, kbe_str_list, kbe_str_dict, kbe_tuple_NoneType, kbe_tuple_bool, kbe_tuple_int, kbe_tuple_str, kbe_tuple_tuple, kbe_tuple_list, kbe_tuple_dict, kbe_list_NoneType, kbe_list_bool, kbe_list_int, kbe_list_str, kbe_list_tuple, kbe_list_list, kbe_list_dict, kbe_list_tuple_NoneType, kbe_list_tuple_bool, kbe_list_tuple_int, kbe_list_tuple_str, kbe_list_tuple_tuple, kbe_list_tuple_list, kbe_list_tuple_dict, noOwn, noOwnS, wipeF, restF, List.all_cons, List.all_nil, lInsert, lPop, lAppend, sJoin, seqD, lstD, ex_some, deq_int, deq_bl, deq_str, pl_int, pl_bl, pl_str, decide_true, decide_false, eq_self, roomC, sp_is_row, sp_stands_for, sp_Room___str__, sp__law_like]
  refine ⟨⟨List.nodup_nil, Nat.zero_le 1⟩, ls, _, rfl, by omega, tgs_iD (by omega), ⟨List.nodup_nil, Nat.zero_le 1⟩, ls, rs, rfl, hrl, hl.1, h40, ⟨List.nodup_nil, Nat.zero_le 1⟩, _, rfl, okText_of hrl hl.1 h40, _, rfl, ?_⟩
  rw [rowOk_of hr]
  refine ⟨by decide, by decide, ⟨List.nodup_nil, Nat.zero_le 1⟩, _, rfl, ⟨by simp, fun x hx => ?_⟩, q⟩
  rcases List.mem_cons.mp hx with rfl | hx
  · exact True.intro
  · rw [List.mem_singleton.mp hx]; exact True.intro
theorem ok__law_row_told : ∀ cs Q E, cs.length = 3 → sp__law_row_told cs Q E → m__law_row_told (bodyE Q E) (startF 13 cs) := by
  rintro cs Q E - ⟨bag, ls, rs, rfl, hb, hl, hr, q⟩
  show rt_0 (bodyE Q E) (RTF ls rs bag none none none none none)
  have h40 := hl.2.1
  have p := ok_rt_1 (bag := bag) (D' := bodyE Q E) hl hr (ok_rt_2 hl hr (ok_rt_3 (by rw [hr.1]; exact h40) fun s4 => rt_4_bits hl hb fun bs bag' hb' h01 hbl => ok_rt_5 hl (ok_rt_6 hl h01 hbl (ok_rt_7 (s6 := none) hl h01 hbl (ok_rt_8 hl hr h01 hbl (ok_rt_9 hl hr.1 (by unfold endRow; rw [List.length_map, List.length_zip, hbl, Nat.min_self]) (q bag' hb')))))))
  unfold rt_0
  unfold RTF at p ⊢
  simp only [mSh, mVar, svK, mBin, mAndV, mOrV, mNotV, mIf, mUn, dNeg, dInv, mChain, mTst, mTru, blK, mAnd, mOr, mNot, brK_tt, brK_ff, truK, mNil, mCons, mConsT, mTup, mLst, frzAll, frzK, frzS, frzA, mSl, mNoPart, mPart, dSl, mFld, dFld, lookD, intK, valK, slK, arK, valsK, mBi, mIsi, isiK, D.tag, st1, mNext, mSeq, mBreak, mCont, mDrop, mRet, mRetN, mIfS, mAsg, asgK, mAsgG, dName, dNil, dCons, dTup, mPar, setEach, Ev.sv, hold, hold_hold, retK, retS, bodyE, HD.Fr.set, HD.Fr.put, Cel.sv, Cel.toD, Cel.own, startF, mCall, argE, arr1, arr2, arr3, arr4, arrK, arrD, callK, cellsOf, celEv, celS, backF, plEv, plS, plA, plB, id_eq, true_and, and_true, List.mem_singleton, ite_true, ite_false, goodPl, isTmp, retE, evRet, celRet, List.map_cons, List.map_nil, List.length_cons, List.length_nil, List.getD_cons_zero, List.getD_cons_succ, List.getElem?_cons_zero, List.getElem?_cons_succ, List.getElem?_nil, List.set_cons_zero, List.set_cons_succ, dInt, dInt0, dCmpI, dAdd, dMul, dEq, dIsN, isNonD, dIn, dIx, mRd, mRd0, mMu, mMu0, tyD, celK, celKs, celKa, lstC, mSetF, fldC, putN, putV, dSub, ixC, mIter, mEnum, mZip, mRange1, mRange2, itemsK, itA, itemsD, mFor, mLc, mYes, mRaise, mTryAs, suiteE, mExf, exfK, exnD, mKdIn, mKdIx, mKdT, strK, mMeth, insK, mMake, makeK, mInO, mStrO, mLenO, mListG, callG, gLen, gInt, gStr, gList, gTuple, gAll, gSum, gAbs, gMax, gMin, Bool.not_true, Bool.not_false, Bool.and_true, Bool.true_and, Bool.or_false, Bool.false_or, Bool.or_true, Bool.true_or, Bool.and_false, Bool.false_and, kbe_int_NoneType, kbe_int_bool, kbe_int_int, kbe_int_str, kbe_int_tuple, kbe_int_list, kbe_int_dict, kbe_bool_NoneType, kbe_bool_bool, kbe_bool_int, kbe_bool_str, kbe_bool_tuple, kbe_bool_list, kbe_bool_dict, kbe_str_NoneType, kbe_str_bool, kbe_str_int, kbe_str_str, kbe_str_tuple, kbe_str_list, kbe_str_dict, kbe_tuple_NoneType, kbe_tuple_bool, kbe_tuple_int, kbe_tuple_str, kbe_tuple_tuple, kbe_tuple_list, kbe_tuple_dict, kbe_list_NoneType, kbe_list_bool, kbe_list_int, kbe_list_str, kbe_list_tuple, kbe_list_list, kbe_list_dict, kbe_list_tuple_NoneType, kbe_list_tuple_bool, kbe_list_tuple_int, kbe_list_tuple_str, kbe_list_tuple_tuple, kbe_list_tuple_list, kbe_list_tuple_dict, noOwn, noOwnS, wipeF, restF, List.all_cons, List.all_nil, lInsert, lPop, lAppend, sJoin, seqD, lstD, ex_some, deq_int, deq_bl, deq_str, pl_int, pl_bl, pl_str, decide_true, decide_false, eq_self, sp__law_text]
  exact ⟨⟨List.nodup_nil, Nat.zero_le 1⟩, ls, rs, rfl, hr.1, h40, p⟩

end K10
set_option Elab.async false
set_option linter.all false
set_option maxRecDepth 100000
set_option maxHeartbeats 4000000
namespace K10
open PySem PySem.Spec PyProof.Rows L2 HD
def lb_6 : MS := (mIfS (mNot (mTru (mCall arr2 2 0 (sp__law_like 5) (mCons (mCall arr2 2 0 (sp_is_row) (mCons (mVar 4) (mCons (mVar 7) mNil)) mNil) (mCons (mVar 8) mNil)) mNil))) (mRet (mSh (.bl false))) mNext)
def lb_5 : MS := mSeq (mIfS (mTru (mVar 8)) (mAsg 8 (mBi (gAll fun bs => bs.all id) (mCons (mLc (mZip (mVar 7) (mVar 4)) (dTup 2 (dCons (dName 9) (dCons (dName 10) dNil))) mYes (mCall arr3 3 0 (sp__law_is_from) (mCons (mVar 9) (mCons (mSh (.int 0)) (mCons (mVar 10) mNil))) mNil) [9, 10]) mNil))) mNext) lb_6
def lb_4 : MS := mSeq (mAsg 8 (mAndV (mIsi kb_tuple [] (fun _ => false) (mVar 7)) (mBin (dEq id) (mBi gLen (mCons (mVar 7) mNil)) (mVar 3)))) lb_5
def lb_3 : MS := mSeq (mAsg 7 (mCall arr2 2 0 (sp__law_bent) (mCons (mVar 1) (mCons (mVar 6) mNil)) mNil)) lb_4
def lb_2 : MS := mSeq (mIfS (mNot (mTru (mCall arr3 3 0 (sp__law_row_told) (mCons (mVar 1) (mCons (mVar 4) (mCons (mVar 6) mNil))) mNil))) (mRet (mSh (.bl false))) mNext) lb_3
def lb_1 : MS := mSeq (mAsg 6 (mCall arr2 2 0 (sp__law_row) (mCons (mVar 1) (mCons (mVar 4) mNil)) mNil)) lb_2
def lb_0 : MS := mSeq (mIfS (mNot (mTru (mCall arr2 2 0 (sp__law_levels_looked) (mCons (mVar 1) (mCons (mVar 4) mNil)) mNil))) (mRet (mSh (.bl false))) mNext) lb_1
def lw_in : MS := mFor (mRange1 (mSh (.int 4))) (dName 5) lb_0
def lw_2 : MS := mSeq (mIfS (mTst (mBin (dEq id) (mCall arr2 2 0 (sp__law_draw) (mCons (mVar 1) (mCons (mSh (.int 4)) mNil)) mNil) (mSh (.int 0)))) (mAsg 4 (mBin dMul (mTup (mCons (mCall arr2 2 0 (sp__law_of) (mCons (mVar 1) (mCons (mLst (mCons (mSh (.int 1)) (mCons (mSh (.int 1)) (mCons (mSh (.int 2)) (mCons (mSh (.int 6)) mNil))))) mNil)) mNil) mNil)) (mVar 3))) mNext) lw_in
def lw_1 : MS := mSeq (mAsg 4 (mBi gTuple (mCons (mLc (mRange1 (mVar 3)) (dName 5) mYes (mBin dAdd (mSh (.int 1)) (mCall arr2 2 0 (sp__law_draw) (mCons (mVar 1) (mCons (mSh (.int 6)) mNil)) mNil)) [5]) mNil))) lw_2
def lw_out : MS := mSeq (mAsg 3 (mCall arr2 2 0 (sp__law_of) (mCons (mVar 1) (mCons (mLst (mCons (mSh (.int 1)) (mCons (mSh (.int 2)) (mCons (mSh (.int 3)) (mCons (mSh (.int 4)) (mCons (mSh (.int 5)) (mCons (mSh (.int 6)) (mCons (mSh (.int 7)) (mCons (mSh (.int 8)) (mCons (mSh (.int 40)) mNil)))))))))) mNil)) mNil)) lw_1

def LF (ns : List Int) (bag : List D) (a : Option Sv) (n : Int) (ls : List Int) (s5 s6 s7 s8 : Option Sv) : HD.Fr := ⟨[some (.ar 0), some (.own (.lst bag)), a, some (.sh (.int n)), some (.sh (.tup (iD ls))), s5, s6, s7, s8, none, none], [.gone (.scr ns)]⟩
theorem ok_lb_6 {ns ls : List Int} {bag : List D} {n : Int} {v : D} {a s5 s6 : Option Sv} {D' : DE} (hl : ls.length ≤ 40) (hv : tgs v) (q : ∀ s6 s7 s8, D'.nx (LF ns bag a n ls s5 s6 s7 s8)) : lb_6 D' (LF ns bag a n ls s5 s6 (some (.sh v)) (some (.sh (.bl (rowOk ls v))))) := by
  unfold lb_6
  unfold LF at q ⊢
  simp only [mSh, mVar, svK, mBin, mAndV, mOrV, mNotV, mIf, mUn, dNeg, dInv, mChain, mTst, mTru, blK, mAnd, mOr, mNot, brK_tt, brK_ff, truK, mNil, mCons, mConsT, mTup, mLst, frzAll, frzK, frzS, frzA, mSl, mNoPart, mPart, dSl, mFld, dFld, lookD, intK, valK, slK, arK, valsK, mBi, mIsi, isiK, D.tag, st1, mNext, mSeq, mBreak, mCont, mDrop, mRet, mRetN, mIfS, mAsg, asgK, mAsgG, dName, dNil, dCons, dTup, mPar, setEach, Ev.sv, hold, hold_hold, retK, retS, bodyE, HD.Fr.set, HD.Fr.put, Cel.sv, Cel.toD, Cel.own, startF, mCall, argE, arr1, arr2, arr3, arr4, arrK, arrD, callK, cellsOf, celEv, celS, backF, plEv, plS, plA, plB, id_eq, true_and, and_true, List.mem_singleton, ite_true, ite_false, goodPl, isTmp, retE, evRet, celRet, List.map_cons, List.map_nil, List.length_cons, List.length_nil, List.getD_cons_zero, List.getD_cons_succ, List.getElem?_cons_zero, List.getElem?_cons_succ, List.getElem?_nil, List.set_cons_zero, List.set_cons_succ, dInt, dInt0, dCmpI, dAdd, dMul, dEq, dIsN, isNonD, dIn, dIx, mRd, mRd0, mMu, mMu0, tyD, celK, celKs, celKa, lstC, mSetF, fldC, putN, putV, dSub, ixC, mIter, mEnum, mZip, mRange1, mRange2, itemsK, itA, itemsD, mFor, mLc, mYes, mRaise, mTryAs, suiteE, mExf, exfK, exnD, mKdIn, mKdIx, mKdT, strK, mMeth, insK, mMake, makeK, mInO, mStrO, mLenO, mListG, callG, gLen, gInt, gStr, gList, gTuple, gAll, gSum, gAbs, gMax, gMin, Bool.not_true, Bool.not_false, Bool.and_true, Bool.true_and, Bool.or_false, Bool.false_or, Bool.or_true, Bool.true_or, Bool.and_false, Bool.false_and, kbe_int_NoneType, kbe_int_bool, kbe_int_int, kbe_int_str, kbe_int_tuple, kbe_int_list, kbe_int_dict, kbe_bool_NoneType, kbe_bool_bool, kbe_bool_int, kbe_bool_str, kbe_bool_tuple, kbe_bool_list, kbe_bool_dict, kbe_str_NoneType, kbe_str_bool, kbe_str_int, kbe_str_str, kbe_str_tuple, kbe_str_list, kbe_str_dict, kbe_tuple_NoneType, kbe_tuple_bool, kbe_tuple_int, kbe_tuple_str, kbe_tuple_tuple, kbe_tuple_list, kbe_tuple_dict, kbe_list_NoneType, kbe_list_bool, kbe_list_int, kbe_list_str, kbe_list_tuple, kbe_list_list, kbe_list_dict, kbe_list_tuple_NoneType, kbe_list_tuple_bool, kbe_list_tuple_int, kbe_list_tuple_str, kbe_list_tuple_tuple, kbe_list_tuple_list, kbe_list_tuple_dict, noOwn, noOwnS, wipeF, restF, List.all_cons, List.all_nil, lInsert, lPop, lAppend, sJoin, seqD, lstD, ex_some, deq_int, deq_bl, deq_str, pl_int, pl_bl, pl_str, decide_true, decide_false, eq_self, sp_is_row, sp__law_like]
  exact ⟨⟨List.nodup_nil, Nat.zero_le 1⟩, ls, v, rfl, by omega, hv, ⟨List.nodup_nil, Nat.zero_le 1⟩, _, rfl, True.intro, q _ _ _⟩
def pre_due (v : D) (n : Int) : Bool := match v with
  | .tup xs => decide ((xs.length : Int) = n)
  | _ => false
theorem ok_lb_5 {ns ls : List Int} {bag : List D} {n : Int} {v : D} {a s5 s6 : Option Sv} {D' : DE} (hl : ls.length ≤ 40) (hn : n = ls.length) (hv : tgs v) (q : lb_6 D' (LF ns bag a n ls s5 s6 (some (.sh v)) (some (.sh (.bl (rowOk ls v)))))) : lb_5 D' (LF ns bag a n ls s5 s6 (some (.sh v)) (some (.sh (.bl (pre_due v n))))) := by
  unfold lb_5
  unfold LF at q ⊢
  cases v with
  | tup xs =>
    simp only [mSh, mVar, svK, mBin, mAndV, mOrV, mNotV, mIf, mUn, dNeg, dInv, mChain, mTst, mTru, blK, mAnd, mOr, mNot, brK_tt, brK_ff, truK, mNil, mCons, mConsT, mTup, mLst, frzAll, frzK, frzS, frzA, mSl, mNoPart, mPart, dSl, mFld, dFld, lookD, intK, valK, slK, arK, valsK, mBi, mIsi, isiK, D.tag, st1, mNext, mSeq, mBreak, mCont, mDrop, mRet, mRetN, mIfS, mAsg, asgK, mAsgG, dName, dNil, dCons, dTup, mPar, setEach, Ev.sv, hold, hold_hold, retK, retS, bodyE, HD.Fr.set, HD.Fr.put, Cel.sv, Cel.toD, Cel.own, startF, mCall, argE, arr1, arr2, arr3, arr4, arrK, arrD, callK, cellsOf, celEv, celS, backF, plEv, plS, plA, plB, id_eq, true_and, and_true, List.mem_singleton, ite_true, ite_false, goodPl, isTmp, retE, evRet, celRet, List.map_cons, List.map_nil, List.length_cons, List.length_nil, List.getD_cons_zero, List.getD_cons_succ, List.getElem?_cons_zero, List.getElem?_cons_succ, List.getElem?_nil, List.set_cons_zero, List.set_cons_succ, dInt, dInt0, dCmpI, dAdd, dMul, dEq, dIsN, isNonD, dIn, dIx, mRd, mRd0, mMu, mMu0, tyD, celK, celKs, celKa, lstC, mSetF, fldC, putN, putV, dSub, ixC, mIter, mEnum, mZip, mRange1, mRange2, itemsK, itA, itemsD, mFor, mLc, mYes, mRaise, mTryAs, suiteE, mExf, exfK, exnD, mKdIn, mKdIx, mKdT, strK, mMeth, insK, mMake, makeK, mInO, mStrO, mLenO, mListG, callG, gLen, gInt, gStr, gList, gTuple, gAll, gSum, gAbs, gMax, gMin, Bool.not_true, Bool.not_false, Bool.and_true, Bool.true_and, Bool.or_false, Bool.false_or, Bool.or_true, Bool.true_or, Bool.and_false, Bool.false_and, kbe_int_NoneType, kbe_int_bool, kbe_int_int, kbe_int_str, kbe_int_tuple, kbe_int_list, kbe_int_dict, kbe_bool_NoneType, kbe_bool_bool, kbe_bool_int, kbe_bool_str, kbe_bool_tuple, kbe_bool_list, kbe_bool_dict, kbe_str_NoneType, kbe_str_bool, kbe_str_int, kbe_str_str, kbe_str_tuple, kbe_str_list, kbe_str_dict, kbe_tuple_NoneType, kbe_tuple_bool, kbe_tuple_int, kbe_tuple_str, kbe_tuple_tuple, kbe_tuple_list, kbe_tuple_dict, kbe_list_NoneType, kbe_list_bool, kbe_list_int, kbe_list_str, kbe_list_tuple, kbe_list_list, kbe_list_dict, kbe_list_tuple_NoneType, kbe_list_tuple_bool, kbe_list_tuple_int, kbe_list_tuple_str, kbe_list_tuple_tuple, kbe_list_tuple_list, kbe_list_tuple_dict, noOwn, noOwnS, wipeF, restF, List.all_cons, List.all_nil, lInsert, lPop, lAppend, sJoin, seqD, lstD, ex_some, deq_int, deq_bl, deq_str, pl_int, pl_bl, pl_str, decide_true, decide_false, eq_self, pre_due]
    refine ⟨fun h => ?_, fun h => ?_⟩
    · have h : (xs.length : Int) = n := by simpa using h
      rw [zip_ints (f := fun a b => a)]
      refine compD_map (fun d => match d with | .tup [x, .int l] => .bl (isNum x 0 l) | _ => .non) True.intro (by rw [List.length_map, List.length_zip]; exact Nat.lt_of_le_of_lt (Nat.min_le_left _ _) (Nat.lt_trans hv.1 (by decide))) (fun d hd acc N ha hN => ?_) ?_
      · obtain ⟨⟨x, l⟩, hp, rfl⟩ := List.mem_map.mp hd
        simp only [turnD, mSh, mVar, svK, mBin, mAndV, mOrV, mNotV, mIf, mUn, dNeg, dInv, mChain, mTst, mTru, blK, mAnd, mOr, mNot, brK_tt, brK_ff, truK, mNil, mCons, mConsT, mTup, mLst, frzAll, frzK, frzS, frzA, mSl, mNoPart, mPart, dSl, mFld, dFld, lookD, intK, valK, slK, arK, valsK, mBi, mIsi, isiK, D.tag, st1, mNext, mSeq, mBreak, mCont, mDrop, mRet, mRetN, mIfS, mAsg, asgK, mAsgG, dName, dNil, dCons, dTup, mPar, setEach, Ev.sv, hold, hold_hold, retK, retS, bodyE, HD.Fr.set, HD.Fr.put, Cel.sv, Cel.toD, Cel.own, startF, mCall, argE, arr1, arr2, arr3, arr4, arrK, arrD, callK, cellsOf, celEv, celS, backF, plEv, plS, plA, plB, id_eq, true_and, and_true, List.mem_singleton, ite_true, ite_false, goodPl, isTmp, retE, evRet, celRet, List.map_cons, List.map_nil, List.length_cons, List.length_nil, List.getD_cons_zero, List.getD_cons_succ, List.getElem?_cons_zero, List.getElem?_cons_succ, List.getElem?_nil, List.set_cons_zero, List.set_cons_succ, dInt, dInt0, dCmpI, dAdd, dMul, dEq, dIsN, isNonD, dIn, dIx, mRd, mRd0, mMu, mMu0, tyD, celK, celKs, celKa, lstC, mSetF, fldC, putN, putV, dSub, ixC, mIter, mEnum, mZip, mRange1, mRange2, itemsK, itA, itemsD, mFor, mLc, mYes, mRaise, mTryAs, suiteE, mExf, exfK, exnD, mKdIn, mKdIx, mKdT, strK, mMeth, insK, mMake, makeK, mInO, mStrO, mLenO, mListG, callG, gLen, gInt, gStr, gList, gTuple, gAll, gSum, gAbs, gMax, gMin, Bool.not_true, Bool.not_false, Bool.and_true, Bool.true_and, Bool.or_false, Bool.false_or, Bool.or_true, Bool.true_or, Bool.and_false, Bool.false_and, kbe_int_NoneType, kbe_int_bool, kbe_int_int, kbe_int_str, kbe_int_tuple, kbe_int_list, kbe_int_dict, kbe_bool_NoneType, kbe_bool_bool, kbe_bool_int, kbe_bool_str, kbe_bool_tuple, kbe_bool_list, kbe_bool_dict, kbe_str_NoneType, kbe_str_bool, kbe_str_int, kbe_str_str, kbe_str_tuple, kbe_str_list, kbe_str_dict, kbe_tuple_NoneType, kbe_tuple_bool, kbe_tuple_int, kbe_tuple_str, kbe_tuple_tuple, kbe_tuple_list, kbe_tuple_dict, kbe_list_NoneType, kbe_list_bool, kbe_list_int, kbe_list_str, kbe_list_tuple, kbe_list_list, kbe_list_dict, kbe_list_tuple_NoneType, kbe_list_tuple_bool, kbe_list_tuple_int, kbe_list_tuple_str, kbe_list_tuple_tuple, kbe_list_tuple_list, kbe_list_tuple_dict, noOwn, noOwnS, wipeF, restF, List.all_cons, List.all_nil, lInsert, lPop, lAppend, sJoin, seqD, lstD, ex_some, deq_int, deq_bl, deq_str, pl_int, pl_bl, pl_str, decide_true, decide_false, eq_self, sp__law_is_from, sp_is_number]
        exact ⟨⟨List.nodup_nil, Nat.zero_le 1⟩, x, 0, l, rfl, hv.2 x (List.of_mem_zip hp).1, ha, hN⟩
      · simp only [mSh, mVar, svK, mBin, mAndV, mOrV, mNotV, mIf, mUn, dNeg, dInv, mChain, mTst, mTru, blK, mAnd, mOr, mNot, brK_tt, brK_ff, truK, mNil, mCons, mConsT, mTup, mLst, frzAll, frzK, frzS, frzA, mSl, mNoPart, mPart, dSl, mFld, dFld, lookD, intK, valK, slK, arK, valsK, mBi, mIsi, isiK, D.tag, st1, mNext, mSeq, mBreak, mCont, mDrop, mRet, mRetN, mIfS, mAsg, asgK, mAsgG, dName, dNil, dCons, dTup, mPar, setEach, Ev.sv, hold, hold_hold, retK, retS, bodyE, HD.Fr.set, HD.Fr.put, Cel.sv, Cel.toD, Cel.own, startF, mCall, argE, arr1, arr2, arr3, arr4, arrK, arrD, callK, cellsOf, celEv, celS, backF, plEv, plS, plA, plB, id_eq, true_and, and_true, List.mem_singleton, ite_true, ite_false, goodPl, isTmp, retE, evRet, celRet, List.map_cons, List.map_nil, List.length_cons, List.length_nil, List.getD_cons_zero, List.getD_cons_succ, List.getElem?_cons_zero, List.getElem?_cons_succ, List.getElem?_nil, List.set_cons_zero, List.set_cons_succ, dInt, dInt0, dCmpI, dAdd, dMul, dEq, dIsN, isNonD, dIn, dIx, mRd, mRd0, mMu, mMu0, tyD, celK, celKs, celKa, lstC, mSetF, fldC, putN, putV, dSub, ixC, mIter, mEnum, mZip, mRange1, mRange2, itemsK, itA, itemsD, mFor, mLc, mYes, mRaise, mTryAs, suiteE, mExf, exfK, exnD, mKdIn, mKdIx, mKdT, strK, mMeth, insK, mMake, makeK, mInO, mStrO, mLenO, mListG, callG, gLen, gInt, gStr, gList, gTuple, gAll, gSum, gAbs, gMax, gMin, Bool.not_true, Bool.not_false, Bool.and_true, Bool.true_and, Bool.or_false, Bool.false_or, Bool.or_true, Bool.true_or, Bool.and_false, Bool.false_and, kbe_int_NoneType, kbe_int_bool, kbe_int_int, kbe_int_str, kbe_int_tuple, kbe_int_list, kbe_int_dict, kbe_bool_NoneType, kbe_bool_bool, kbe_bool_int, kbe_bool_str, kbe_bool_tuple, kbe_bool_list, kbe_bool_dict, kbe_str_NoneType, kbe_str_bool, kbe_str_int, kbe_str_str, kbe_str_tuple, kbe_str_list, kbe_str_dict, kbe_tuple_NoneType, kbe_tuple_bool, kbe_tuple_int, kbe_tuple_str, kbe_tuple_tuple, kbe_tuple_list, kbe_tuple_dict, kbe_list_NoneType, kbe_list_bool, kbe_list_int, kbe_list_str, kbe_list_tuple, kbe_list_list, kbe_list_dict, kbe_list_tuple_NoneType, kbe_list_tuple_bool, kbe_list_tuple_int, kbe_list_tuple_str, kbe_list_tuple_tuple, kbe_list_tuple_list, kbe_list_tuple_dict, noOwn, noOwnS, wipeF, restF, List.all_cons, List.all_nil, lInsert, lPop, lAppend, sJoin, seqD, lstD, ex_some, deq_int, deq_bl, deq_str, pl_int, pl_bl, pl_str, decide_true, decide_false, eq_self]
        refine ⟨(xs.zip ls).map fun p => isNum p.1 0 p.2, by rw [List.map_map, List.map_map]; rfl, ?_⟩
        rw [all_id]
        have e : rowOk ls (.tup xs) = (xs.zip ls).all fun p => isNum p.1 0 p.2 := by
          show (decide ((xs.length : Int) = ls.length) && _) = _
          rw [decide_eq_true (by omega), Bool.true_and]
        rw [← e]
        exact q
    · have e : rowOk ls (.tup xs) = false := by
        have h : ¬ (xs.length : Int) = n := by simpa using h
        show (decide ((xs.length : Int) = ls.length) && _) = _
        rw [decide_eq_false (by omega), Bool.false_and]
      rw [e] at q
      rw [h]
      exact q
  | ins a b c => cases hv
  | exn a b c d e f => cases hv
  | _ =>
    simp only [mSh, mVar, svK, mBin, mAndV, mOrV, mNotV, mIf, mUn, dNeg, dInv, mChain, mTst, mTru, blK, mAnd, mOr, mNot, brK_tt, brK_ff, truK, mNil, mCons, mConsT, mTup, mLst, frzAll, frzK, frzS, frzA, mSl, mNoPart, mPart, dSl, mFld, dFld, lookD, intK, valK, slK, arK, valsK, mBi, mIsi, isiK, D.tag, st1, mNext, mSeq, mBreak, mCont, mDrop, mRet, mRetN, mIfS, mAsg, asgK, mAsgG, dName, dNil, dCons, dTup, mPar, setEach, Ev.sv, hold, hold_hold, retK, retS, bodyE, HD.Fr.set, HD.Fr.put, Cel.sv, Cel.toD, Cel.own, startF, mCall, argE, arr1, arr2, arr3, arr4, arrK, arrD, callK, cellsOf, celEv, celS, backF, plEv, plS, plA, plB, id_eq, true_and, and_true, List.mem_singleton, ite_true, ite_false, goodPl, isTmp, retE, evRet, celRet, List.map_cons, List.map_nil, List.length_cons, List.length_nil, List.getD_cons_zero, List.getD_cons_succ, List.getElem?_cons_zero, List.getElem?_cons_succ, List.getElem?_nil, List.set_cons_zero, List.set_cons_succ, dInt, dInt0, dCmpI, dAdd, dMul, dEq, dIsN, isNonD, dIn, dIx, mRd, mRd0, mMu, mMu0, tyD, celK, celKs, celKa, lstC, mSetF, fldC, putN, putV, dSub, ixC, mIter, mEnum, mZip, mRange1, mRange2, itemsK, itA, itemsD, mFor, mLc, mYes, mRaise, mTryAs, suiteE, mExf, exfK, exnD, mKdIn, mKdIx, mKdT, strK, mMeth, insK, mMake, makeK, mInO, mStrO, mLenO, mListG, callG, gLen, gInt, gStr, gList, gTuple, gAll, gSum, gAbs, gMax, gMin, Bool.not_true, Bool.not_false, Bool.and_true, Bool.true_and, Bool.or_false, Bool.false_or, Bool.or_true, Bool.true_or, Bool.and_false, Bool.false_and, kbe_int_NoneType, kbe_int_bool, kbe_int_int, kbe_int_str, kbe_int_tuple, kbe_int_list, kbe_int_dict, kbe_bool_NoneType, kbe_bool_bool, kbe_bool_int, kbe_bool_str, kbe_bool_tuple, kbe_bool_list, kbe_bool_dict, kbe_str_NoneType, kbe_str_bool, kbe_str_int, kbe_str_str, kbe_str_tuple, kbe_str_list, kbe_str_dict, kbe_tuple_NoneType, kbe_tuple_bool, kbe_tuple_int, kbe_tuple_str, kbe_tuple_tuple, kbe_tuple_list, kbe_tuple_dict, kbe_list_NoneType, kbe_list_bool, kbe_list_int, kbe_list_str, kbe_list_tuple, kbe_list_list, kbe_list_dict, kbe_list_tuple_NoneType, kbe_list_tuple_bool, kbe_list_tuple_int, kbe_list_tuple_str, kbe_list_tuple_tuple, kbe_list_tuple_list, kbe_list_tuple_dict, noOwn, noOwnS, wipeF, restF, List.all_cons, List.all_nil, lInsert, lPop, lAppend, sJoin, seqD, lstD, ex_some, deq_int, deq_bl, deq_str, pl_int, pl_bl, pl_str, decide_true, decide_false, eq_self, pre_due]
    exact q
theorem ok_lb_4 {ns ls : List Int} {bag : List D} {n : Int} {v : D} {a s5 s6 s8 : Option Sv} {D' : DE} (hv : tgs v) (q : lb_5 D' (LF ns bag a n ls s5 s6 (some (.sh v)) (some (.sh (.bl (pre_due v n)))))) : lb_4 D' (LF ns bag a n ls s5 s6 (some (.sh v)) s8) := by
  unfold lb_4
  unfold LF at q ⊢
  cases v with
  | ins a b c => cases hv
  | exn a b c d e f => cases hv
  | _ =>
    simp only [mSh, mVar, svK, mBin, mAndV, mOrV, mNotV, mIf, mUn, dNeg, dInv, mChain, mTst, mTru, blK, mAnd, mOr, mNot, brK_tt, brK_ff, truK, mNil, mCons, mConsT, mTup, mLst, frzAll, frzK, frzS, frzA, mSl, mNoPart, mPart, dSl, mFld, dFld, lookD, intK, valK, slK, arK, valsK, mBi, mIsi, isiK, D.tag, st1, mNext, mSeq, mBreak, mCont, mDrop, mRet, mRetN, mIfS, mAsg, asgK, mAsgG, dName, dNil, dCons, dTup, mPar, setEach, Ev.sv, hold, hold_hold, retK, retS, bodyE, HD.Fr.set, HD.Fr.put, Cel.sv, Cel.toD, Cel.own, startF, mCall, argE, arr1, arr2, arr3, arr4, arrK, arrD, callK, cellsOf, celEv, celS, backF, plEv, plS, plA, plB, id_eq, true_and, and_true, List.mem_singleton, ite_true, ite_false, goodPl, isTmp, retE, evRet, celRet, List.map_cons, List.map_nil, List.length_cons, List.length_nil, List.getD_cons_zero, List.getD_cons_succ, List.getElem?_cons_zero, List.getElem?_cons_succ, List.getElem?_nil, List.set_cons_zero, List.set_cons_succ, dInt, dInt0, dCmpI, dAdd, dMul, dEq, dIsN, isNonD, dIn, dIx, mRd, mRd0, mMu, mMu0, tyD, celK, celKs, celKa, lstC, mSetF, fldC, putN, putV, dSub, ixC, mIter, mEnum, mZip, mRange1, mRange2, itemsK, itA, itemsD, mFor, mLc, mYes, mRaise, mTryAs, suiteE, mExf, exfK, exnD, mKdIn, mKdIx, mKdT, strK, mMeth, insK, mMake, makeK, mInO, mStrO, mLenO, mListG, callG, gLen, gInt, gStr, gList, gTuple, gAll, gSum, gAbs, gMax, gMin, Bool.not_true, Bool.not_false, Bool.and_true, Bool.true_and, Bool.or_false, Bool.false_or, Bool.or_true, Bool.true_or, Bool.and_false, Bool.false_and, kbe_int_NoneType, kbe_int_bool, kbe_int_int, kbe_int_str, kbe_int_tuple, kbe_int_list, kbe_int_dict, kbe_bool_NoneType, kbe_bool_bool, kbe_bool_int, kbe_bool_str, kbe_bool_tuple, kbe_bool_list, kbe_bool_dict, kbe_str_NoneType, kbe_str_bool, kbe_str_int, kbe_str_str, kbe_str_tuple, kbe_str_list, kbe_str_dict, kbe_tuple_NoneType, kbe_tuple_bool, kbe_tuple_int, kbe_tuple_str, kbe_tuple_tuple, kbe_tuple_list, kbe_tuple_dict, kbe_list_NoneType, kbe_list_bool, kbe_list_int, kbe_list_str, kbe_list_tuple, kbe_list_list, kbe_list_dict, kbe_list_tuple_NoneType, kbe_list_tuple_bool, kbe_list_tuple_int, kbe_list_tuple_str, kbe_list_tuple_tuple, kbe_list_tuple_list, kbe_list_tuple_dict, noOwn, noOwnS, wipeF, restF, List.all_cons, List.all_nil, lInsert, lPop, lAppend, sJoin, seqD, lstD, ex_some, deq_int, deq_bl, deq_str, pl_int, pl_bl, pl_str, decide_true, decide_false, eq_self, pre_due] at q ⊢
    exact q
theorem ok_lb_0 {ns ls : List Int} {bag : List D} {n : Int} {a s5 s6 s7 s8 : Option Sv} {D' : DE} (hb : BagOk bag) (hl : lvls ls) (hn : n = ls.length) (q : ∀ bag' s6 s7 s8, BagOk bag' → D'.nx (LF ns bag' a n ls s5 s6 s7 s8)) : lb_0 D' (LF ns bag a n ls s5 s6 s7 s8) := by
  have p : ∀ bag' v s6 s8, BagOk bag' → tgs v → lb_4 D' (LF ns bag' a n ls s5 s6 (some (.sh v)) s8) := fun bag' v s6 s8 hb' hv => ok_lb_4 hv (ok_lb_5 hl.2.1 hn hv (ok_lb_6 hl.2.1 hv fun s6 s7 s8 => q bag' s6 s7 s8 hb'))
  unfold lb_0 lb_1 lb_2 lb_3
  unfold LF at p ⊢
  simp only [mSh, mVar, svK, mBin, mAndV, mOrV, mNotV, mIf, mUn, dNeg, dInv, mChain, mTst, mTru, blK, mAnd, mOr, mNot, brK_tt, brK_ff, truK, mNil, mCons, mConsT, mTup, mLst, frzAll, frzK, frzS, frzA, mSl, mNoPart, mPart, dSl, mFld, dFld, lookD, intK, valK, slK, arK, valsK, mBi, mIsi, isiK, D.tag, st1, mNext, mSeq, mBreak, mCont, mDrop, mRet, mRetN, mIfS, mAsg, asgK, mAsgG, dName, dNil, dCons, dTup, mPar, setEach, Ev.sv, hold, hold_hold, retK, retS, bodyE, HD.Fr.set, HD.Fr.put, Cel.sv, Cel.toD, Cel.own, startF, mCall, argE, arr1, arr2, arr3, arr4, arrK, arrD, callK, cellsOf, celEv, celS, backF, plEv, plS, plA, plB, id_eq, true_and, and_true, List.mem_singleton, ite_true, ite_false, goodPl, isTmp, retE, evRet, celRet, List.map_cons, List.map_nil, List.length_cons, List.length_nil, List.getD_cons_zero, List.getD_cons_succ, List.getElem?_cons_zero, List.getElem?_cons_succ, List.getElem?_nil, List.set_cons_zero, List.set_cons_succ, dInt, dInt0, dCmpI, dAdd, dMul, dEq, dIsN, isNonD, dIn, dIx, mRd, mRd0, mMu, mMu0, tyD, celK, celKs, celKa, lstC, mSetF, fldC, putN, putV, dSub, ixC, mIter, mEnum, mZip, mRange1, mRange2, itemsK, itA, itemsD, mFor, mLc, mYes, mRaise, mTryAs, suiteE, mExf, exfK, exnD, mKdIn, mKdIx, mKdT, strK, mMeth, insK, mMake, makeK, mInO, mStrO, mLenO, mListG, callG, gLen, gInt, gStr, gList, gTuple, gAll, gSum, gAbs, gMax, gMin, Bool.not_true, Bool.not_false, Bool.and_true, Bool.true_and, Bool.or_false, Bool.false_or, Bool.or_true, Bool.true_or, Bool.and_false, Bool.false_and, kbe_int_NoneType, kbe_int_bool, kbe_int_int, kbe_int_str, kbe_int_tuple, kbe_int_list, kbe_int_dict, kbe_bool_NoneType, kbe_bool_bool, kbe_bool_int, kbe_bool_str, kbe_bool_tuple, kbe_bool_list, kbe_bool_dict, kbe_str_NoneType, kbe_str_bool, kbe_str_int, kbe_str_str, kbe_str_tuple, kbe_str_list, kbe_str_dict, kbe_tuple_NoneType, kbe_tuple_bool, kbe_tuple_int, kbe_tuple_str, kbe_tuple_tuple, kbe_tuple_list, kbe_tuple_dict, kbe_list_NoneType, kbe_list_bool, kbe_list_int, kbe_list_str, kbe_list_tuple, kbe_list_list, kbe_list_dict, kbe_list_tuple_NoneType, kbe_list_tuple_bool, kbe_list_tuple_int, kbe_list_tuple_str, kbe_list_tuple_tuple, kbe_list_tuple_list, kbe_list_tuple_dict, noOwn, noOwnS, wipeF, restF, List.all_cons, List.all_nil, lInsert, lPop, lAppend, sJoin, seqD, lstD, ex_some, deq_int, deq_bl, deq_str, pl_int, pl_bl, pl_str, decide_true, decide_false, eq_self, sp__law_levels_looked, sp__law_row, sp__law_row_told, sp__law_bent]
  refine ⟨⟨nd1 _, Nat.zero_le 1⟩, bag, ls, rfl, hb, hl, fun bag1 hb1 => ⟨⟨nd1 _, Nat.zero_le 1⟩, bag1, ls, rfl, hb1, hl, fun rs bag2 hb2 hr => ⟨⟨nd1 _, Nat.zero_le 1⟩, bag2, ls, rs, rfl, hb2, hl, hr, fun bag3 hb3 => ?_⟩⟩⟩
  have h1 := hl.1
  have h2 := hl.2.1
  have h3 := hr.1
  exact ⟨⟨nd1 _, Nat.zero_le 1⟩, bag3, rs, rfl, hb3, by omega, by omega, fun v bag4 hb4 hv => p bag4 v _ _ hb4 hv⟩
theorem ok_lw_in {ns ls : List Int} {bag : List D} {n : Int} {a s5 s6 s7 s8 : Option Sv} {D' : DE} (hb : BagOk bag) (hl : lvls ls) (hn : n = ls.length) (h5 : ∃ d, s5 = Option.map Sv.sh d) (q : ∀ bag' d s6 s7 s8, BagOk bag' → D'.nx (LF ns bag' a n ls (Option.map Sv.sh d) s6 s7 s8)) : lw_in D' (LF ns bag a n ls s5 s6 s7 s8) := by
  unfold lw_in
  obtain ⟨d5, h5⟩ := h5
  subst h5
  have L : ∀ (ok : HD.Fr → Prop), (∀ F, ok F) → loopD (dName 5) lb_0 ok (rangeD 0 4) D' (LF ns bag a n ls (Option.map Sv.sh d5) s6 s7 s8) := fun ok hok => by
    refine loopD_inv (fun i F => ∃ bag' d s6 s7 s8, F = LF ns bag' a n ls (Option.map Sv.sh d) s6 s7 s8 ∧ BagOk bag') (fun i F _ => hok F) ?_ ?_ ⟨bag, d5, s6, s7, s8, rfl, hb⟩
    · rintro i d F hi ⟨bag', d6, s6, s7, s8, hF, hb'⟩ N hN
      subst hF
      show lb_0 _ (LF ns bag' a n ls (some (.sh d)) s6 s7 s8)
      exact ok_lb_0 hb' hl hn fun bag2 s6 s7 s8 hb2 => hN _ ⟨bag2, some d, s6, s7, s8, rfl, hb2⟩
    · rintro F ⟨bag', d6, s6, s7, s8, hF, hb'⟩
      subst hF
      exact q bag' d6 s6 s7 s8 hb'
  exact ⟨by decide, by decide, L _ fun _ => True.intro⟩

def OF (ns : List Int) (bag : List D) (a s3 s4 : Option Sv) (d5 : Option D) (s6 s7 s8 : Option Sv) : HD.Fr := ⟨[some (.ar 0), some (.own (.lst bag)), a, s3, s4, Option.map Sv.sh d5, s6, s7, s8, none, none], [.gone (.scr ns)]⟩
theorem ok_lw_2 {ns ls : List Int} {bag : List D} {n : Int} {a s6 s7 s8 : Option Sv} {d5 : Option D} {D' : DE} (hb : BagOk bag) (hl : lvls ls) (hn : n = ls.length) (q : ∀ bag' s3 s4 d s6 s7 s8, BagOk bag' → D'.nx (OF ns bag' a s3 s4 d s6 s7 s8)) : lw_2 D' (OF ns bag a (some (.sh (.int n))) (some (.sh (.tup (iD ls)))) d5 s6 s7 s8) := by
  have p : ∀ bag' ls', BagOk bag' → lvls ls' → n = ls'.length → lw_in D' (LF ns bag' a n ls' (Option.map Sv.sh d5) s6 s7 s8) := fun bag' ls' hb' hl' hn' => ok_lw_in hb' hl' hn' ⟨d5, rfl⟩ fun bag2 d s6 s7 s8 hb2 => q bag2 _ _ d s6 s7 s8 hb2
  unfold lw_2
  unfold LF at p
  unfold OF
  simp only [mSh, mVar, svK, mBin, mAndV, mOrV, mNotV, mIf, mUn, dNeg, dInv, mChain, mTst, mTru, blK, mAnd, mOr, mNot, brK_tt, brK_ff, truK, mNil, mCons, mConsT, mTup, mLst, frzAll, frzK, frzS, frzA, mSl, mNoPart, mPart, dSl, mFld, dFld, lookD, intK, valK, slK, arK, valsK, mBi, mIsi, isiK, D.tag, st1, mNext, mSeq, mBreak, mCont, mDrop, mRet, mRetN, mIfS, mAsg, asgK, mAsgG, dName, dNil, dCons, dTup, mPar, setEach, Ev.sv, hold, hold_hold, retK, retS, bodyE, HD.Fr.set, HD.Fr.put, Cel.sv, Cel.toD, Cel.own, startF, mCall, argE, arr1, arr2, arr3, arr4, arrK, arrD, callK, cellsOf, celEv, celS, backF, plEv, plS, plA, plB, id_eq, true_and, and_true, List.mem_singleton, ite_true, ite_false, goodPl, isTmp, retE, evRet, celRet, List.map_cons, List.map_nil, List.length_cons, List.length_nil, List.getD_cons_zero, List.getD_cons_succ, List.getElem?_cons_zero, List.getElem?_cons_succ, List.getElem?_nil, List.set_cons_zero, List.set_cons_succ, dInt, dInt0, dCmpI, dAdd, dMul, dEq, dIsN, isNonD, dIn, dIx, mRd, mRd0, mMu, mMu0, tyD, celK, celKs, celKa, lstC, mSetF, fldC, putN, putV, dSub, ixC, mIter, mEnum, mZip, mRange1, mRange2, itemsK, itA, itemsD, mFor, mLc, mYes, mRaise, mTryAs, suiteE, mExf, exfK, exnD, mKdIn, mKdIx, mKdT, strK, mMeth, insK, mMake, makeK, mInO, mStrO, mLenO, mListG, callG, gLen, gInt, gStr, gList, gTuple, gAll, gSum, gAbs, gMax, gMin, Bool.not_true, Bool.not_false, Bool.and_true, Bool.true_and, Bool.or_false, Bool.false_or, Bool.or_true, Bool.true_or, Bool.and_false, Bool.false_and, kbe_int_NoneType, kbe_int_bool, kbe_int_int, kbe_int_str, kbe_int_tuple, kbe_int_list, kbe_int_dict, kbe_bool_NoneType, kbe_bool_bool, kbe_bool_int, kbe_bool_str, kbe_bool_tuple, kbe_bool_list, kbe_bool_dict, kbe_str_NoneType, kbe_str_bool, kbe_str_int, kbe_str_str, kbe_str_tuple, kbe_str_list, kbe_str_dict, kbe_tuple_NoneType, kbe_tuple_bool, kbe_tuple_int, kbe_tuple_str, kbe_tuple_tuple, kbe_tuple_list, kbe_tuple_dict, kbe_list_NoneType, kbe_list_bool, kbe_list_int, kbe_list_str, kbe_list_tuple, kbe_list_list, kbe_list_dict, kbe_list_tuple_NoneType, kbe_list_tuple_bool, kbe_list_tuple_int, kbe_list_tuple_str, kbe_list_tuple_tuple, kbe_list_tuple_list, kbe_list_tuple_dict, noOwn, noOwnS, wipeF, restF, List.all_cons, List.all_nil, lInsert, lPop, lAppend, sJoin, seqD, lstD, ex_some, deq_int, deq_bl, deq_str, pl_int, pl_bl, pl_str, decide_true, decide_false, eq_self, sp__law_draw, sp__law_of]
  have h1 := hl.1
  have h2 := hl.2.1
  have R : ∀ (v : Int) (m : Nat), (List.replicate m [D.int v]).flatten = iD (List.replicate m v) := fun v m => by
    induction m with
    | zero => rfl
    | succ m ih => rw [List.replicate_succ, List.flatten_cons, ih, List.replicate_succ]; rfl
  have fin : ∀ (v : Int) (bag' : List D), BagOk bag' → 1 ≤ v → v ≤ 6 → lw_in D' ⟨[some (.ar 0), some (.own (.lst bag')), a, some (.sh (.int n)), some (.sh (.tup (List.replicate n.toNat [D.int v]).flatten)), Option.map Sv.sh d5, s6, s7, s8, none, none], [.gone (.scr ns)]⟩ := fun v bag' hb' v1 v6 => by
    rw [R]
    refine p bag' _ hb' ⟨by rw [List.length_replicate]; omega, by rw [List.length_replicate]; omega, fun l hl' => ?_⟩ (by rw [List.length_replicate]; omega)
    rw [(List.mem_replicate.mp hl').2]; exact ⟨v1, v6⟩
  refine ⟨⟨nd1 _, Nat.zero_le 1⟩, bag, _, rfl, hb, by decide, by decide, fun r bag' hb' r0 r1 => ⟨fun _ => ⟨by decide, ⟨nd1 _, Nat.zero_le 1⟩, bag', _, rfl, hb', by decide, by decide, fun d bag2 hb2 hd => ⟨by decide, List.cons_ne_nil _ _, by omega, by omega, by decide, ?_⟩⟩, fun _ => p bag' ls hb' hl hn⟩⟩
  simp only [List.mem_cons, List.not_mem_nil, or_false] at hd
  rcases hd with rfl | rfl | rfl | rfl <;> exact fin _ bag2 hb2 (by decide) (by decide)
theorem ok_lw_1 {ns : List Int} {bag : List D} {n : Int} {a s4 s6 s7 s8 : Option Sv} {d5 : Option D} {D' : DE} (hb : BagOk bag) (n1 : 1 ≤ n) (n2 : n ≤ 40) (q : ∀ bag' s3 s4 d s6 s7 s8, BagOk bag' → D'.nx (OF ns bag' a s3 s4 d s6 s7 s8)) : lw_1 D' (OF ns bag a (some (.sh (.int n))) s4 d5 s6 s7 s8) := by
  have p : ∀ bag' ls' d5, BagOk bag' → lvls ls' → n = ls'.length → lw_2 D' (OF ns bag' a (some (.sh (.int n))) (some (.sh (.tup (iD ls')))) d5 s6 s7 s8) := fun bag' ls' d5 hb' hl' hn' => ok_lw_2 hb' hl' hn' q
  unfold lw_1
  unfold OF at p ⊢
  have L : ∀ (ok : HD.Fr → Prop) (Q' : List D → HD.Fr → Prop), (∀ F, ok F) → (∀ bag' ls', BagOk bag' → lvls ls' → n = ls'.length → Q' (iD ls') ⟨[some (.ar 0), some (.own (.lst bag')), a, some (.sh (.int n)), s4, none, s6, s7, s8, none, none], [.gone (.scr ns)]⟩) → compD (dName 5) mYes (mBin dAdd (mSh (.int 1)) (mCall arr2 2 0 sp__law_draw (mCons (mVar 1) (mCons (mSh (.int 6)) mNil)) mNil)) [5] ok Q' (rangeD 0 n.toNat) [] ⟨[some (.ar 0), some (.own (.lst bag)), a, some (.sh (.int n)), s4, none, s6, s7, s8, none, none], [.gone (.scr ns)]⟩ := fun ok Q' hok hq => by
    refine compD_inv (fun i acc F => ∃ bag' ls', F = ⟨[some (.ar 0), some (.own (.lst bag')), a, some (.sh (.int n)), s4, none, s6, s7, s8, none, none], [.gone (.scr ns)]⟩ ∧ BagOk bag' ∧ acc = iD ls' ∧ ls'.length = i ∧ ∀ l ∈ ls', 1 ≤ l ∧ l ≤ 6) (fun i acc F _ => hok F) ?_ ?_ ⟨bag, [], rfl, hb, rfl, rfl, fun l h => by cases h⟩
    · rintro i d acc F hi ⟨bag', ls', hF, hb', ha, hli, hl'⟩ N hN
      obtain ⟨hik, rfl⟩ := rangeD_get hi
      subst hF
      subst ha
      simp only [turnD, mSh, mVar, svK, mBin, mAndV, mOrV, mNotV, mIf, mUn, dNeg, dInv, mChain, mTst, mTru, blK, mAnd, mOr, mNot, brK_tt, brK_ff, truK, mNil, mCons, mConsT, mTup, mLst, frzAll, frzK, frzS, frzA, mSl, mNoPart, mPart, dSl, mFld, dFld, lookD, intK, valK, slK, arK, valsK, mBi, mIsi, isiK, D.tag, st1, mNext, mSeq, mBreak, mCont, mDrop, mRet, mRetN, mIfS, mAsg, asgK, mAsgG, dName, dNil, dCons, dTup, mPar, setEach, Ev.sv, hold, hold_hold, retK, retS, bodyE, HD.Fr.set, HD.Fr.put, Cel.sv, Cel.toD, Cel.own, startF, mCall, argE, arr1, arr2, arr3, arr4, arrK, arrD, callK, cellsOf, celEv, celS, backF, plEv, plS, plA, plB, id_eq, true_and, and_true, List.mem_singleton, ite_true, ite_false, goodPl, isTmp, retE, evRet, celRet, List.map_cons, List.map_nil, List.length_cons, List.length_nil, List.getD_cons_zero, List.getD_cons_succ, List.getElem?_cons_zero, List.getElem?_cons_succ, List.getElem?_nil, List.set_cons_zero, List.set_cons_succ, dInt, dInt0, dCmpI, dAdd, dMul, dEq, dIsN, isNonD, dIn, dIx, mRd, mRd0, mMu, mMu0, tyD, celK, celKs, celKa, lstC, mSetF, fldC, putN, putV, dSub, ixC, mIter, mEnum, mZip, mRange1, mRange2, itemsK, itA, itemsD, mFor, mLc, mYes, mRaise, mTryAs, suiteE, mExf, exfK, exnD, mKdIn, mKdIx, mKdT, strK, mMeth, insK, mMake, makeK, mInO, mStrO, mLenO, mListG, callG, gLen, gInt, gStr, gList, gTuple, gAll, gSum, gAbs, gMax, gMin, Bool.not_true, Bool.not_false, Bool.and_true, Bool.true_and, Bool.or_false, Bool.false_or, Bool.or_true, Bool.true_or, Bool.and_false, Bool.false_and, kbe_int_NoneType, kbe_int_bool, kbe_int_int, kbe_int_str, kbe_int_tuple, kbe_int_list, kbe_int_dict, kbe_bool_NoneType, kbe_bool_bool, kbe_bool_int, kbe_bool_str, kbe_bool_tuple, kbe_bool_list, kbe_bool_dict, kbe_str_NoneType, kbe_str_bool, kbe_str_int, kbe_str_str, kbe_str_tuple, kbe_str_list, kbe_str_dict, kbe_tuple_NoneType, kbe_tuple_bool, kbe_tuple_int, kbe_tuple_str, kbe_tuple_tuple, kbe_tuple_list, kbe_tuple_dict, kbe_list_NoneType, kbe_list_bool, kbe_list_int, kbe_list_str, kbe_list_tuple, kbe_list_list, kbe_list_dict, kbe_list_tuple_NoneType, kbe_list_tuple_bool, kbe_list_tuple_int, kbe_list_tuple_str, kbe_list_tuple_tuple, kbe_list_tuple_list, kbe_list_tuple_dict, noOwn, noOwnS, wipeF, restF, List.all_cons, List.all_nil, lInsert, lPop, lAppend, sJoin, seqD, lstD, ex_some, deq_int, deq_bl, deq_str, pl_int, pl_bl, pl_str, decide_true, decide_false, eq_self, sp__law_draw]
      refine ⟨⟨nd1 _, Nat.zero_le 1⟩, bag', _, rfl, hb', by decide, by decide, fun r bag2 hb2 r0 r1 => ⟨?_, hN _ _ ⟨bag2, ls' ++ [1 + r], rfl, hb2, iD_snoc ls' (1 + r), by rw [List.length_append, hli]; rfl, fun l h => ?_⟩⟩⟩
      · unfold iD
        rw [List.length_map, hli]
        exact Nat.lt_of_lt_of_le (by omega : i < 41) (by decide)
      · rcases List.mem_append.mp h with h | h
        · exact hl' l h
        · rw [List.mem_singleton.mp h]; omega
    · rintro acc F ⟨bag', ls', hF, hb', ha, hli, hl'⟩
      subst hF
      subst ha
      rw [rangeD_len] at hli
      exact hq bag' ls' hb' ⟨by omega, by omega, hl'⟩ (by omega)
  cases d5 with
  | none =>
    simp only [mSh, mVar, svK, mBin, mAndV, mOrV, mNotV, mIf, mUn, dNeg, dInv, mChain, mTst, mTru, blK, mAnd, mOr, mNot, brK_tt, brK_ff, truK, mNil, mCons, mConsT, mTup, mLst, frzAll, frzK, frzS, frzA, mSl, mNoPart, mPart, dSl, mFld, dFld, lookD, intK, valK, slK, arK, valsK, mBi, mIsi, isiK, D.tag, st1, mNext, mSeq, mBreak, mCont, mDrop, mRet, mRetN, mIfS, mAsg, asgK, mAsgG, dName, dNil, dCons, dTup, mPar, setEach, Ev.sv, hold, hold_hold, retK, retS, bodyE, HD.Fr.set, HD.Fr.put, Cel.sv, Cel.toD, Cel.own, startF, mCall, argE, arr1, arr2, arr3, arr4, arrK, arrD, callK, cellsOf, celEv, celS, backF, plEv, plS, plA, plB, id_eq, true_and, and_true, List.mem_singleton, ite_true, ite_false, goodPl, isTmp, retE, evRet, celRet, List.map_cons, List.map_nil, List.length_cons, List.length_nil, List.getD_cons_zero, List.getD_cons_succ, List.getElem?_cons_zero, List.getElem?_cons_succ, List.getElem?_nil, List.set_cons_zero, List.set_cons_succ, dInt, dInt0, dCmpI, dAdd, dMul, dEq, dIsN, isNonD, dIn, dIx, mRd, mRd0, mMu, mMu0, tyD, celK, celKs, celKa, lstC, mSetF, fldC, putN, putV, dSub, ixC, mIter, mEnum, mZip, mRange1, mRange2, itemsK, itA, itemsD, mFor, mLc, mYes, mRaise, mTryAs, suiteE, mExf, exfK, exnD, mKdIn, mKdIx, mKdT, strK, mMeth, insK, mMake, makeK, mInO, mStrO, mLenO, mListG, callG, gLen, gInt, gStr, gList, gTuple, gAll, gSum, gAbs, gMax, gMin, Bool.not_true, Bool.not_false, Bool.and_true, Bool.true_and, Bool.or_false, Bool.false_or, Bool.or_true, Bool.true_or, Bool.and_false, Bool.false_and, kbe_int_NoneType, kbe_int_bool, kbe_int_int, kbe_int_str, kbe_int_tuple, kbe_int_list, kbe_int_dict, kbe_bool_NoneType, kbe_bool_bool, kbe_bool_int, kbe_bool_str, kbe_bool_tuple, kbe_bool_list, kbe_bool_dict, kbe_str_NoneType, kbe_str_bool, kbe_str_int, kbe_str_str, kbe_str_tuple, kbe_str_list, kbe_str_dict, kbe_tuple_NoneType, kbe_tuple_bool, kbe_tuple_int, kbe_tuple_str, kbe_tuple_tuple, kbe_tuple_list, kbe_tuple_dict, kbe_list_NoneType, kbe_list_bool, kbe_list_int, kbe_list_str, kbe_list_tuple, kbe_list_list, kbe_list_dict, kbe_list_tuple_NoneType, kbe_list_tuple_bool, kbe_list_tuple_int, kbe_list_tuple_str, kbe_list_tuple_tuple, kbe_list_tuple_list, kbe_list_tuple_dict, noOwn, noOwnS, wipeF, restF, List.all_cons, List.all_nil, lInsert, lPop, lAppend, sJoin, seqD, lstD, ex_some, deq_int, deq_bl, deq_str, pl_int, pl_bl, pl_str, decide_true, decide_false, eq_self, Option.map_none]
    refine ⟨by omega, by omega, L _ _ (fun _ => True.intro) fun bag' ls' hb' hl' hn' => ?_⟩
    simp only [mSh, mVar, svK, mBin, mAndV, mOrV, mNotV, mIf, mUn, dNeg, dInv, mChain, mTst, mTru, blK, mAnd, mOr, mNot, brK_tt, brK_ff, truK, mNil, mCons, mConsT, mTup, mLst, frzAll, frzK, frzS, frzA, mSl, mNoPart, mPart, dSl, mFld, dFld, lookD, intK, valK, slK, arK, valsK, mBi, mIsi, isiK, D.tag, st1, mNext, mSeq, mBreak, mCont, mDrop, mRet, mRetN, mIfS, mAsg, asgK, mAsgG, dName, dNil, dCons, dTup, mPar, setEach, Ev.sv, hold, hold_hold, retK, retS, bodyE, HD.Fr.set, HD.Fr.put, Cel.sv, Cel.toD, Cel.own, startF, mCall, argE, arr1, arr2, arr3, arr4, arrK, arrD, callK, cellsOf, celEv, celS, backF, plEv, plS, plA, plB, id_eq, true_and, and_true, List.mem_singleton, ite_true, ite_false, goodPl, isTmp, retE, evRet, celRet, List.map_cons, List.map_nil, List.length_cons, List.length_nil, List.getD_cons_zero, List.getD_cons_succ, List.getElem?_cons_zero, List.getElem?_cons_succ, List.getElem?_nil, List.set_cons_zero, List.set_cons_succ, dInt, dInt0, dCmpI, dAdd, dMul, dEq, dIsN, isNonD, dIn, dIx, mRd, mRd0, mMu, mMu0, tyD, celK, celKs, celKa, lstC, mSetF, fldC, putN, putV, dSub, ixC, mIter, mEnum, mZip, mRange1, mRange2, itemsK, itA, itemsD, mFor, mLc, mYes, mRaise, mTryAs, suiteE, mExf, exfK, exnD, mKdIn, mKdIx, mKdT, strK, mMeth, insK, mMake, makeK, mInO, mStrO, mLenO, mListG, callG, gLen, gInt, gStr, gList, gTuple, gAll, gSum, gAbs, gMax, gMin, Bool.not_true, Bool.not_false, Bool.and_true, Bool.true_and, Bool.or_false, Bool.false_or, Bool.or_true, Bool.true_or, Bool.and_false, Bool.false_and, kbe_int_NoneType, kbe_int_bool, kbe_int_int, kbe_int_str, kbe_int_tuple, kbe_int_list, kbe_int_dict, kbe_bool_NoneType, kbe_bool_bool, kbe_bool_int, kbe_bool_str, kbe_bool_tuple, kbe_bool_list, kbe_bool_dict, kbe_str_NoneType, kbe_str_bool, kbe_str_int, kbe_str_str, kbe_str_tuple, kbe_str_list, kbe_str_dict, kbe_tuple_NoneType, kbe_tuple_bool, kbe_tuple_int, kbe_tuple_str, kbe_tuple_tuple, kbe_tuple_list, kbe_tuple_dict, kbe_list_NoneType, kbe_list_bool, kbe_list_int, kbe_list_str, kbe_list_tuple, kbe_list_list, kbe_list_dict, kbe_list_tuple_NoneType, kbe_list_tuple_bool, kbe_list_tuple_int, kbe_list_tuple_str, kbe_list_tuple_tuple, kbe_list_tuple_list, kbe_list_tuple_dict, noOwn, noOwnS, wipeF, restF, List.all_cons, List.all_nil, lInsert, lPop, lAppend, sJoin, seqD, lstD, ex_some, deq_int, deq_bl, deq_str, pl_int, pl_bl, pl_str, decide_true, decide_false, eq_self]
    exact p bag' ls' none hb' hl' hn'
  | some d5 =>
    simp only [mSh, mVar, svK, mBin, mAndV, mOrV, mNotV, mIf, mUn, dNeg, dInv, mChain, mTst, mTru, blK, mAnd, mOr, mNot, brK_tt, brK_ff, truK, mNil, mCons, mConsT, mTup, mLst, frzAll, frzK, frzS, frzA, mSl, mNoPart, mPart, dSl, mFld, dFld, lookD, intK, valK, slK, arK, valsK, mBi, mIsi, isiK, D.tag, st1, mNext, mSeq, mBreak, mCont, mDrop, mRet, mRetN, mIfS, mAsg, asgK, mAsgG, dName, dNil, dCons, dTup, mPar, setEach, Ev.sv, hold, hold_hold, retK, retS, bodyE, HD.Fr.set, HD.Fr.put, Cel.sv, Cel.toD, Cel.own, startF, mCall, argE, arr1, arr2, arr3, arr4, arrK, arrD, callK, cellsOf, celEv, celS, backF, plEv, plS, plA, plB, id_eq, true_and, and_true, List.mem_singleton, ite_true, ite_false, goodPl, isTmp, retE, evRet, celRet, List.map_cons, List.map_nil, List.length_cons, List.length_nil, List.getD_cons_zero, List.getD_cons_succ, List.getElem?_cons_zero, List.getElem?_cons_succ, List.getElem?_nil, List.set_cons_zero, List.set_cons_succ, dInt, dInt0, dCmpI, dAdd, dMul, dEq, dIsN, isNonD, dIn, dIx, mRd, mRd0, mMu, mMu0, tyD, celK, celKs, celKa, lstC, mSetF, fldC, putN, putV, dSub, ixC, mIter, mEnum, mZip, mRange1, mRange2, itemsK, itA, itemsD, mFor, mLc, mYes, mRaise, mTryAs, suiteE, mExf, exfK, exnD, mKdIn, mKdIx, mKdT, strK, mMeth, insK, mMake, makeK, mInO, mStrO, mLenO, mListG, callG, gLen, gInt, gStr, gList, gTuple, gAll, gSum, gAbs, gMax, gMin, Bool.not_true, Bool.not_false, Bool.and_true, Bool.true_and, Bool.or_false, Bool.false_or, Bool.or_true, Bool.true_or, Bool.and_false, Bool.false_and, kbe_int_NoneType, kbe_int_bool, kbe_int_int, kbe_int_str, kbe_int_tuple, kbe_int_list, kbe_int_dict, kbe_bool_NoneType, kbe_bool_bool, kbe_bool_int, kbe_bool_str, kbe_bool_tuple, kbe_bool_list, kbe_bool_dict, kbe_str_NoneType, kbe_str_bool, kbe_str_int, kbe_str_str, kbe_str_tuple, kbe_str_list, kbe_str_dict, kbe_tuple_NoneType, kbe_tuple_bool, kbe_tuple_int, kbe_tuple_str, kbe_tuple_tuple, kbe_tuple_list, kbe_tuple_dict, kbe_list_NoneType, kbe_list_bool, kbe_list_int, kbe_list_str, kbe_list_tuple, kbe_list_list, kbe_list_dict, kbe_list_tuple_NoneType, kbe_list_tuple_bool, kbe_list_tuple_int, kbe_list_tuple_str, kbe_list_tuple_tuple, kbe_list_tuple_list, kbe_list_tuple_dict, noOwn, noOwnS, wipeF, restF, List.all_cons, List.all_nil, lInsert, lPop, lAppend, sJoin, seqD, lstD, ex_some, deq_int, deq_bl, deq_str, pl_int, pl_bl, pl_str, decide_true, decide_false, eq_self, Option.map_some]
    refine ⟨by omega, by omega, L _ _ (fun _ => True.intro) fun bag' ls' hb' hl' hn' => ?_⟩
    simp only [mSh, mVar, svK, mBin, mAndV, mOrV, mNotV, mIf, mUn, dNeg, dInv, mChain, mTst, mTru, blK, mAnd, mOr, mNot, brK_tt, brK_ff, truK, mNil, mCons, mConsT, mTup, mLst, frzAll, frzK, frzS, frzA, mSl, mNoPart, mPart, dSl, mFld, dFld, lookD, intK, valK, slK, arK, valsK, mBi, mIsi, isiK, D.tag, st1, mNext, mSeq, mBreak, mCont, mDrop, mRet, mRetN, mIfS, mAsg, asgK, mAsgG, dName, dNil, dCons, dTup, mPar, setEach, Ev.sv, hold, hold_hold, retK, retS, bodyE, HD.Fr.set, HD.Fr.put, Cel.sv, Cel.toD, Cel.own, startF, mCall, argE, arr1, arr2, arr3, arr4, arrK, arrD, callK, cellsOf, celEv, celS, backF, plEv, plS, plA, plB, id_eq, true_and, and_true, List.mem_singleton, ite_true, ite_false, goodPl, isTmp, retE, evRet, celRet, List.map_cons, List.map_nil, List.length_cons, List.length_nil, List.getD_cons_zero, List.getD_cons_succ, List.getElem?_cons_zero, List.getElem?_cons_succ, List.getElem?_nil, List.set_cons_zero, List.set_cons_succ, dInt, dInt0, dCmpI, dAdd, dMul, dEq, dIsN, isNonD, dIn, dIx, mRd, mRd0, mMu, mMu0, tyD, celK, celKs, celKa, lstC, mSetF, fldC, putN, putV, dSub, ixC, mIter, mEnum, mZip, mRange1, mRange2, itemsK, itA, itemsD, mFor, mLc, mYes, mRaise, mTryAs, suiteE, mExf, exfK, exnD, mKdIn, mKdIx, mKdT, strK, mMeth, insK, mMake, makeK, mInO, mStrO, mLenO, mListG, callG, gLen, gInt, gStr, gList, gTuple, gAll, gSum, gAbs, gMax, gMin, Bool.not_true, Bool.not_false, Bool.and_true, Bool.true_and, Bool.or_false, Bool.false_or, Bool.or_true, Bool.true_or, Bool.and_false, Bool.false_and, kbe_int_NoneType, kbe_int_bool, kbe_int_int, kbe_int_str, kbe_int_tuple, kbe_int_list, kbe_int_dict, kbe_bool_NoneType, kbe_bool_bool, kbe_bool_int, kbe_bool_str, kbe_bool_tuple, kbe_bool_list, kbe_bool_dict, kbe_str_NoneType, kbe_str_bool, kbe_str_int, kbe_str_str, kbe_str_tuple, kbe_str_list, kbe_str_dict, kbe_tuple_NoneType, kbe_tuple_bool, kbe_tuple_int, kbe_tuple_str, kbe_tuple_tuple, kbe_tuple_list, kbe_tuple_dict, kbe_list_NoneType, kbe_list_bool, kbe_list_int, kbe_list_str, kbe_list_tuple, kbe_list_list, kbe_list_dict, kbe_list_tuple_NoneType, kbe_list_tuple_bool, kbe_list_tuple_int, kbe_list_tuple_str, kbe_list_tuple_tuple, kbe_list_tuple_list, kbe_list_tuple_dict, noOwn, noOwnS, wipeF, restF, List.all_cons, List.all_nil, lInsert, lPop, lAppend, sJoin, seqD, lstD, ex_some, deq_int, deq_bl, deq_str, pl_int, pl_bl, pl_str, decide_true, decide_false, eq_self]
    exact p bag' ls' (some d5) hb' hl' hn'
theorem ok_lw_out {ns : List Int} {bag : List D} {a s3 s4 s6 s7 s8 : Option Sv} {d5 : Option D} {D' : DE} (hb : BagOk bag) (q : ∀ bag' s3 s4 d s6 s7 s8, BagOk bag' → D'.nx (OF ns bag' a s3 s4 d s6 s7 s8)) : lw_out D' (OF ns bag a s3 s4 d5 s6 s7 s8) := by
  have p : ∀ bag' n, BagOk bag' → 1 ≤ n → n ≤ 40 → lw_1 D' (OF ns bag' a (some (.sh (.int n))) s4 d5 s6 s7 s8) := fun bag' n hb' n1 n2 => ok_lw_1 hb' n1 n2 q
  unfold lw_out
  unfold OF at p ⊢
  simp only [mSh, mVar, svK, mBin, mAndV, mOrV, mNotV, mIf, mUn, dNeg, dInv, mChain, mTst, mTru, blK, mAnd, mOr, mNot, brK_tt, brK_ff, truK, mNil, mCons, mConsT, mTup, mLst, frzAll, frzK, frzS, frzA, mSl, mNoPart, mPart, dSl, mFld, dFld, lookD, intK, valK, slK, arK, valsK, mBi, mIsi, isiK, D.tag, st1, mNext, mSeq, mBreak, mCont, mDrop, mRet, mRetN, mIfS, mAsg, asgK, mAsgG, dName, dNil, dCons, dTup, mPar, setEach, Ev.sv, hold, hold_hold, retK, retS, bodyE, HD.Fr.set, HD.Fr.put, Cel.sv, Cel.toD, Cel.own, startF, mCall, argE, arr1, arr2, arr3, arr4, arrK, arrD, callK, cellsOf, celEv, celS, backF, plEv, plS, plA, plB, id_eq, true_and, and_true, List.mem_singleton, ite_true, ite_false, goodPl, isTmp, retE, evRet, celRet, List.map_cons, List.map_nil, List.length_cons, List.length_nil, List.getD_cons_zero, List.getD_cons_succ, List.getElem?_cons_zero, List.getElem?_cons_succ, List.getElem?_nil, List.set_cons_zero, List.set_cons_succ, dInt, dInt0, dCmpI, dAdd, dMul, dEq, dIsN, isNonD, dIn, dIx, mRd, mRd0, mMu, mMu0, tyD, celK, celKs, celKa, lstC, mSetF, fldC, putN, putV, dSub, ixC, mIter, mEnum, mZip, mRange1, mRange2, itemsK, itA, itemsD, mFor, mLc, mYes, mRaise, mTryAs, suiteE, mExf, exfK, exnD, mKdIn, mKdIx, mKdT, strK, mMeth, insK, mMake, makeK, mInO, mStrO, mLenO, mListG, callG, gLen, gInt, gStr, gList, gTuple, gAll, gSum, gAbs, gMax, gMin, Bool.not_true, Bool.not_false, Bool.and_true, Bool.true_and, Bool.or_false, Bool.false_or, Bool.or_true, Bool.true_or, Bool.and_false, Bool.false_and, kbe_int_NoneType, kbe_int_bool, kbe_int_int, kbe_int_str, kbe_int_tuple, kbe_int_list, kbe_int_dict, kbe_bool_NoneType, kbe_bool_bool, kbe_bool_int, kbe_bool_str, kbe_bool_tuple, kbe_bool_list, kbe_bool_dict, kbe_str_NoneType, kbe_str_bool, kbe_str_int, kbe_str_str, kbe_str_tuple, kbe_str_list, kbe_str_dict, kbe_tuple_NoneType, kbe_tuple_bool, kbe_tuple_int, kbe_tuple_str, kbe_tuple_tuple, kbe_tuple_list, kbe_tuple_dict, kbe_list_NoneType, kbe_list_bool, kbe_list_int, kbe_list_str, kbe_list_tuple, kbe_list_list, kbe_list_dict, kbe_list_tuple_NoneType, kbe_list_tuple_bool, kbe_list_tuple_int, kbe_list_tuple_str, kbe_list_tuple_tuple, kbe_list_tuple_list, kbe_list_tuple_dict, noOwn, noOwnS, wipeF, restF, List.all_cons, List.all_nil, lInsert, lPop, lAppend, sJoin, seqD, lstD, ex_some, deq_int, deq_bl, deq_str, pl_int, pl_bl, pl_str, decide_true, decide_false, eq_self, sp__law_of]
  refine ⟨by decide, ⟨nd1 _, Nat.zero_le 1⟩, bag, _, rfl, hb, by decide, by decide, fun d bag' hb' hd => ?_⟩
  simp only [List.mem_cons, List.not_mem_nil, or_false] at hd
  rcases hd with rfl | rfl | rfl | rfl | rfl | rfl | rfl | rfl | rfl <;> exact p bag' _ hb' (by decide) (by decide)
theorem ok_law : ∀ cs Q E, cs.length = 1 → sp_law cs Q E → m_law (bodyE Q E) (startF 11 cs) := by
  rintro cs Q E - ⟨ns, rfl, q⟩
  show mSeq _ (mSeq (mFor _ _ lw_out) _) _ ⟨[some (.ar 0), none, none, none, none, none, none, none, none, none, none], _⟩
  simp only [mSh, mVar, svK, mBin, mAndV, mOrV, mNotV, mIf, mUn, dNeg, dInv, mChain, mTst, mTru, blK, mAnd, mOr, mNot, brK_tt, brK_ff, truK, mNil, mCons, mConsT, mTup, mLst, frzAll, frzK, frzS, frzA, mSl, mNoPart, mPart, dSl, mFld, dFld, lookD, intK, valK, slK, arK, valsK, mBi, mIsi, isiK, D.tag, st1, mNext, mSeq, mBreak, mCont, mDrop, mRet, mRetN, mIfS, mAsg, asgK, mAsgG, dName, dNil, dCons, dTup, mPar, setEach, Ev.sv, hold, hold_hold, retK, retS, bodyE, HD.Fr.set, HD.Fr.put, Cel.sv, Cel.toD, Cel.own, startF, mCall, argE, arr1, arr2, arr3, arr4, arrK, arrD, callK, cellsOf, celEv, celS, backF, plEv, plS, plA, plB, id_eq, true_and, and_true, List.mem_singleton, ite_true, ite_false, goodPl, isTmp, retE, evRet, celRet, List.map_cons, List.map_nil, List.length_cons, List.length_nil, List.getD_cons_zero, List.getD_cons_succ, List.getElem?_cons_zero, List.getElem?_cons_succ, List.getElem?_nil, List.set_cons_zero, List.set_cons_succ, dInt, dInt0, dCmpI, dAdd, dMul, dEq, dIsN, isNonD, dIn, dIx, mRd, mRd0, mMu, mMu0, tyD, celK, celKs, celKa, lstC, mSetF, fldC, putN, putV, dSub, ixC, mIter, mEnum, mZip, mRange1, mRange2, itemsK, itA, itemsD, mFor, mLc, mYes, mRaise, mTryAs, suiteE, mExf, exfK, exnD, mKdIn, mKdIx, mKdT, strK, mMeth, insK, mMake, makeK, mInO, mStrO, mLenO, mListG, callG, gLen, gInt, gStr, gList, gTuple, gAll, gSum, gAbs, gMax, gMin, Bool.not_true, Bool.not_false, Bool.and_true, Bool.true_and, Bool.or_false, Bool.false_or, Bool.or_true, Bool.true_or, Bool.and_false, Bool.false_and, kbe_int_NoneType, kbe_int_bool, kbe_int_int, kbe_int_str, kbe_int_tuple, kbe_int_list, kbe_int_dict, kbe_bool_NoneType, kbe_bool_bool, kbe_bool_int, kbe_bool_str, kbe_bool_tuple, kbe_bool_list, kbe_bool_dict, kbe_str_NoneType, kbe_str_bool, kbe_str_int, kbe_str_str, kbe_str_tuple, kbe_str_list, kbe_str_dict, kbe_tuple_NoneType, kbe_tuple_bool, kbe_tuple_int, kbe_tuple_str, kbe_tuple_tuple, kbe_tuple_list, kbe_tuple_dict, kbe_list_NoneType, kbe_list_bool, kbe_list_int, kbe_list_str, kbe_list_tuple, kbe_list_list, kbe_list_dict, kbe_list_tuple_NoneType, kbe_list_tuple_bool, kbe_list_tuple_int, kbe_list_tuple_str, kbe_list_tuple_tuple, kbe_list_tuple_list, kbe_list_tuple_dict, noOwn, noOwnS, wipeF, restF, List.all_cons, List.all_nil, lInsert, lPop, lAppend, sJoin, seqD, lstD, ex_some, deq_int, deq_bl, deq_str, pl_int, pl_bl, pl_str, decide_true, decide_false, eq_self, sp__law_bag]
  refine ⟨⟨List.nodup_nil, Nat.zero_le 1⟩, ns, rfl, fun bag hb => ⟨by decide, by decide, ?_⟩⟩
  refine loopD_inv (fun i F => ∃ bag' a s3 s4 d s6 s7 s8, F = OF ns bag' a s3 s4 d s6 s7 s8 ∧ BagOk bag') (fun i F _ => True.intro) ?_ ?_ ⟨bag, none, none, none, none, none, none, none, rfl, hb⟩
  · rintro i d F hi ⟨bag', a, s3, s4, d5, s6, s7, s8, hF, hb'⟩ N hN
    subst hF
    show lw_out _ (OF ns bag' (some (.sh d)) s3 s4 d5 s6 s7 s8)
    exact ok_lw_out hb' fun bag2 s3 s4 d s6 s7 s8 hb2 => hN _ ⟨bag2, _, s3, s4, d, s6, s7, s8, rfl, hb2⟩
  · rintro F ⟨bag', a, s3, s4, d5, s6, s7, s8, hF, hb'⟩
    subst hF
    exact q _

end K10
set_option Elab.async false
set_option linter.all false
set_option maxRecDepth 100000
set_option maxHeartbeats 4000000
namespace K10
open PySem PySem.Spec PyProof.Rows L2 HD
def top (i : Nat) : Stmt := PySem.Challenge.pw_lastrooms_k10_levels_and_rows.main.body.getD i (.Pass ⟨0, 0, 0, 0⟩)
section
variable {T : Tx}
theorem isi_int : IsiD T [.type "int"] kb_int [] (fun _ => false) := isi_ty (by decide +kernel)
theorem isi_bool : IsiD T [.type "bool"] kb_bool [] (fun _ => false) := isi_ty (by decide +kernel)
theorem isi_str : IsiD T [.type "str"] kb_str [] (fun _ => false) := isi_ty (by decide +kernel)
theorem isi_tuple : IsiD T [.type "tuple"] kb_tuple [] (fun _ => false) := isi_ty (by decide +kernel)
theorem isi_list : IsiD T [.type "list"] kb_list [] (fun _ => false) := isi_ty (by decide +kernel)
theorem isi_list_tuple : IsiD T [.type "list", .type "tuple"] kb_list_tuple [] (fun _ => false) := isi_ty2 (kb := kb_list) (kb' := kb_tuple) (by decide +kernel) (by decide +kernel)
end
abbrev s_is_number : Stmt := top 8
theorem d_is_number {P : Program} {w : World} {K : PySem.W.Frag} {mg : Str → Option Value} {base : Heap}
  (n_bool : mg "bool" = none)
  (n_int : mg "int" = none)
  (n_isinstance : mg "isinstance" = none) : SSs (txF P w K mg base N_is_number (defScope s_is_number) 2) (defBody s_is_number) (m_is_number) :=
  (sss_one (ss_ret (se_and (se_isi isi_int (se_var (i := 0) rfl (by rfl)) (cls_ty (by rfl) n_int) (by rfl) n_isinstance) (se_and (se_not (se_isi isi_bool (se_var (i := 0) rfl (by rfl)) (cls_ty (by rfl) n_bool) (by rfl) n_isinstance)) (se_one (se_chain od_leI od_leI (se_var (i := 1) rfl (by rfl)) (se_var (i := 0) rfl (by rfl)) (se_var (i := 2) rfl (by rfl)) (by with_unfolding_all rfl)))))))
abbrev s_is_standing : Stmt := top 9
theorem d_is_standing {P : Program} {w : World} {K : PySem.W.Frag} {mg : Str → Option Value} {base : Heap}
  (n_all : mg "all" = none)
  (n_isinstance : mg "isinstance" = none)
  (n_len : mg "len" = none)
  (n_tuple : mg "tuple" = none)
  (c_is_number : CalD P w K mg base "is_number" 3 3 [] arr3 (sp_is_number)) : SSs (txF P w K mg base N_is_standing (defScope s_is_standing) 4) (defBody s_is_standing) (m_is_standing) :=
  (sss_cons (ss_if (sb_w (sw_or (sb_not (sb_truth (se_isi isi_tuple (se_var (i := 0) rfl (by rfl)) (cls_ty (by rfl) n_tuple) (by rfl) n_isinstance))) (sw_or1 (sb_cmp od_ne (se_bi bi_len (sa_cons (se_var (i := 0) rfl (by rfl)) sa_nil) (by rfl) n_len) (se_var (i := 1) rfl (by rfl)) (nomark _))))) (sss_one (ss_ret se_bl)) sss_nil)
  (sss_one (ss_ret (se_bi bi_all (sa_cons (se_lc (own := [(("bit" : Str), 2)]) (si_any (se_var (i := 0) rfl (by rfl))) (by rfl) (sg_name (i := 2) rfl (by rfl)) (by rfl) sts_nil (by exact (se_callC c_is_number (sa_cons (se_var (i := 2) rfl (by rfl)) (sa_cons se_int (sa_cons se_int sa_nil))) sk_nil))) sa_nil) (by rfl) n_all))))
abbrev s_Room___init__ : Stmt := inClass (top 12) 0
theorem d_Room___init__ {P : Program} {w : World} {K : PySem.W.Frag} {mg : Str → Option Value} {base : Heap}
  (n_enumerate : mg "enumerate" = none)
  (n_isinstance : mg "isinstance" = none)
  (n_len : mg "len" = none)
  (n_str : mg "str" = none)
  (n_tuple : mg "tuple" = none)
  (g_CELLS : GlobD K mg "CELLS" (.int 40))
  (fl__bits : ∀ c ∈ [("Room" : Str)], ClsD K mg c ∧ NoA K mg c "_bits")
  (fl__text : ∀ c ∈ [("Room" : Str)], ClsD K mg c ∧ NoA K mg c "_text")
  (k__BITS : KdD w K mg "_BITS" tab__BITS no__BITS)
  (x_BadRoom : XcI P w K mg base "BadRoom" 1 xs_BadRoom 1) : SSs (txF P w K mg base N_Room___init__ (defScope s_Room___init__) 6) (defBody s_Room___init__) (m_Room___init__) :=
  (sss_cons (ss_if (sb_w (sw_or (sb_not (sb_truth (se_isi isi_str (se_var (i := 1) rfl (by rfl)) (cls_ty (by rfl) n_str) (by rfl) n_isinstance))) (sw_or1 (sb_cmp od_eq (se_var (i := 1) rfl (by rfl)) se_str (nomark _))))) (sss_one (ss_raise (XcI.d x_BadRoom) (sa_cons se_int sa_nil) (by rfl))) sss_nil)
  (sss_cons (ss_if (sb_cmp od_gtI (se_bi bi_len (sa_cons (se_var (i := 1) rfl (by rfl)) sa_nil) (by rfl) n_len) (se_glob (by rfl) g_CELLS) (nomark _)) (sss_one (ss_raise (XcI.d x_BadRoom) (sa_cons (se_glob (by rfl) g_CELLS) sa_nil) (by rfl))) sss_nil)
  (sss_cons (ss_for (si_enum (by rfl) n_enumerate (se_var (i := 1) rfl (by rfl))) (sg_tup (n := 2) (sgs_cons (sg_name (i := 2) rfl (by rfl)) (sgs_cons (sg_name (i := 3) rfl (by rfl)) sgs_nil)) rfl)
  (sss_one (ss_if (sb_kdNotIn k__BITS (se_var (i := 3) rfl (by rfl)) (by with_unfolding_all rfl) (by rfl) (by rfl)) (sss_one (ss_raise (XcI.d x_BadRoom) (sa_cons (se_var (i := 2) rfl (by rfl)) sa_nil) (by rfl))) sss_nil)))
  (sss_cons (ss_setF (cs := [("Room" : Str)]) fl__text (se_var (i := 0) rfl (by rfl)) (se_var (i := 1) rfl (by rfl)))
  (sss_one (ss_setF (cs := [("Room" : Str)]) fl__bits (se_var (i := 0) rfl (by rfl)) (se_ty bi_tuple (sa_cons (se_lc (own := [(("sign" : Str), 3)]) (si_any (se_var (i := 1) rfl (by rfl))) (by rfl) (sg_name (i := 3) rfl (by rfl)) (by rfl) sts_nil (by exact (se_kdIx k__BITS (se_var (i := 3) rfl (by rfl)) (fun _ _ => rfl) (by rfl) (by rfl)))) sa_nil) (by rfl) n_tuple)))))))
abbrev s_Room_open_cells : Stmt := inClass (top 12) 3
theorem d_Room_open_cells {P : Program} {w : World} {K : PySem.W.Frag} {mg : Str → Option Value} {base : Heap}
  (n_enumerate : mg "enumerate" = none)
  (fl__bits : ∀ c ∈ [("Room" : Str)], ClsD K mg c ∧ NoA K mg c "_bits") : SSs (txF P w K mg base N_Room_open_cells (defScope s_Room_open_cells) 8) (defBody s_Room_open_cells) (m_Room_open_cells) :=
  (sss_one (ss_ret (se_lc (own := [(("cell" : Str), 1), (("bit" : Str), 2)]) (si_enum (by rfl) n_enumerate (se_fld (cs := [("Room" : Str)]) fl__bits (se_var (i := 0) rfl (by rfl)))) (by rfl) (sg_tup (n := 2) (sgs_cons (sg_name (i := 1) rfl (by rfl)) (sgs_cons (sg_name (i := 2) rfl (by rfl)) sgs_nil)) rfl) (by rfl) (sts_one (sb_cmp od_isN (se_var (i := 2) rfl (by rfl)) se_non (nomark _))) (by exact (se_var (i := 1) rfl (by rfl))))))
abbrev s_Room_corners : Stmt := inClass (top 12) 5
theorem d_Room_corners {P : Program} {w : World} {K : PySem.W.Frag} {mg : Str → Option Value} {base : Heap}
  (n_enumerate : mg "enumerate" = none)
  (n_len : mg "len" = none)
  (n_list : mg "list" = none)
  (n_range : mg "range" = none)
  (n_tuple : mg "tuple" = none)
  (fl__bits : ∀ c ∈ [("Room" : Str)], ClsD K mg c ∧ NoA K mg c "_bits")
  (i_Room_open_cells : MethI P w K mg base "open_cells" 0 [] "Room" arr1 sp_Room_open_cells 9) : SNs (txF P w K mg base N_Room_corners (defScope s_Room_corners) 10) (defBody s_Room_corners) (m_Room_corners) :=
  (sns_cons (sn_plain (ss_set (i := 1) rfl (by rfl) (se_meth0C (arr := fun _ => arr1) (sp := fun _ => sp_Room_open_cells) (mem1 i_Room_open_cells) (se_var (i := 0) rfl (by rfl)) sk_nil)))
  (sns_cons (sn_for (si_range1 (by rfl) n_range (se_bin od_shl se_int (se_bi bi_len (sa_cons (se_var (i := 1) rfl (by rfl)) sa_nil) (by rfl) n_len))) (sg_name (i := 2) rfl (by rfl))
  (sns_cons (sn_plain (ss_set (i := 3) rfl (by rfl) (se_ty bi_list (sa_cons (se_fld (cs := [("Room" : Str)]) fl__bits (se_var (i := 0) rfl (by rfl))) sa_nil) (by rfl) n_list)))
  (sns_cons (sn_plain (ss_for (si_enum (by rfl) n_enumerate (se_var (i := 1) rfl (by rfl))) (sg_tup (n := 2) (sgs_cons (sg_name (i := 4) rfl (by rfl)) (sgs_cons (sg_name (i := 5) rfl (by rfl)) sgs_nil)) rfl)
  (sss_one (ss_asg (se_bin od_and (se_bin od_shr (se_var (i := 2) rfl (by rfl)) (se_bin od_sub (se_bin od_sub (se_bi bi_len (sa_cons (se_var (i := 1) rfl (by rfl)) sa_nil) (by rfl) n_len) se_int) (se_var (i := 4) rfl (by rfl)))) se_int) (sg_sub (se_var (i := 3) rfl (by rfl)) (se_var (i := 5) rfl (by rfl)))))))
  (sns_cons (sn_yield (se_ty bi_tuple (sa_cons (se_var (i := 3) rfl (by rfl)) sa_nil) (by rfl) n_tuple))
  sns_nil))))
  sns_nil))
abbrev s_Room___contains__ : Stmt := inClass (top 12) 11
theorem d_Room___contains__ {P : Program} {w : World} {K : PySem.W.Frag} {mg : Str → Option Value} {base : Heap}
  (n_all : mg "all" = none)
  (n_len : mg "len" = none)
  (n_zip : mg "zip" = none)
  (c_is_standing : CalD P w K mg base "is_standing" 5 2 [] arr2 (sp_is_standing))
  (fl__bits : ∀ c ∈ [("Room" : Str)], ClsD K mg c ∧ NoA K mg c "_bits") : SSs (txF P w K mg base N_Room___contains__ (defScope s_Room___contains__) 12) (defBody s_Room___contains__) (m_Room___contains__) :=
  (sss_cons (ss_if (sb_not (sb_truth (se_callC c_is_standing (sa_cons (se_var (i := 1) rfl (by rfl)) (sa_cons (se_bi bi_len (sa_cons (se_fld (cs := [("Room" : Str)]) fl__bits (se_var (i := 0) rfl (by rfl))) sa_nil) (by rfl) n_len) sa_nil)) sk_nil))) (sss_one (ss_ret se_bl)) sss_nil)
  (sss_one (ss_ret (se_bi bi_all (sa_cons (se_lc (own := [(("mine" : Str), 2), (("bit" : Str), 3)]) (si_zip (by rfl) n_zip (se_fld (cs := [("Room" : Str)]) fl__bits (se_var (i := 0) rfl (by rfl))) (se_var (i := 1) rfl (by rfl))) (by rfl) (sg_tup (n := 2) (sgs_cons (sg_name (i := 2) rfl (by rfl)) (sgs_cons (sg_name (i := 3) rfl (by rfl)) sgs_nil)) rfl) (by rfl) sts_nil (by exact (se_or (se_cmp od_isN (se_var (i := 2) rfl (by rfl)) se_non (nomark _)) (se_one (se_cmp od_eq (se_var (i := 2) rfl (by rfl)) (se_var (i := 3) rfl (by rfl)) (nomark _)))))) sa_nil) (by rfl) n_all))))
abbrev s_Room___str__ : Stmt := inClass (top 12) 15
theorem d_Room___str__ {P : Program} {w : World} {K : PySem.W.Frag} {mg : Str → Option Value} {base : Heap}
  (n_str : mg "str" = none)
  (fl__text : ∀ c ∈ [("Room" : Str)], ClsD K mg c ∧ NoA K mg c "_text") : SSs (txF P w K mg base N_Room___str__ (defScope s_Room___str__) 14) (defBody s_Room___str__) (m_Room___str__) :=
  (sss_one (ss_ret (se_ty bi_str (sa_cons (se_fld (cs := [("Room" : Str)]) fl__text (se_var (i := 0) rfl (by rfl))) sa_nil) (by rfl) n_str)))
abbrev s_is_levels : Stmt := top 14
theorem d_is_levels {P : Program} {w : World} {K : PySem.W.Frag} {mg : Str → Option Value} {base : Heap}
  (n_all : mg "all" = none)
  (n_isinstance : mg "isinstance" = none)
  (n_len : mg "len" = none)
  (n_tuple : mg "tuple" = none)
  (g_LEVELS : GlobD K mg "LEVELS" (.int 6))
  (c_is_number : CalD P w K mg base "is_number" 3 3 [] arr3 (sp_is_number)) : SSs (txF P w K mg base N_is_levels (defScope s_is_levels) 16) (defBody s_is_levels) (m_is_levels) :=
  (sss_cons (ss_if (sb_w (sw_or (sb_not (sb_truth (se_isi isi_tuple (se_var (i := 0) rfl (by rfl)) (cls_ty (by rfl) n_tuple) (by rfl) n_isinstance))) (sw_or1 (sb_cmp od_ne (se_bi bi_len (sa_cons (se_var (i := 0) rfl (by rfl)) sa_nil) (by rfl) n_len) (se_var (i := 1) rfl (by rfl)) (nomark _))))) (sss_one (ss_ret se_bl)) sss_nil)
  (sss_one (ss_ret (se_bi bi_all (sa_cons (se_lc (own := [(("level" : Str), 3)]) (si_any (se_var (i := 0) rfl (by rfl))) (by rfl) (sg_name (i := 3) rfl (by rfl)) (by rfl) sts_nil (by exact (se_callC c_is_number (sa_cons (se_var (i := 3) rfl (by rfl)) (sa_cons (se_var (i := 2) rfl (by rfl)) (sa_cons (se_glob (by rfl) g_LEVELS) sa_nil))) sk_nil))) sa_nil) (by rfl) n_all))))
abbrev s_check_levels : Stmt := top 15
theorem d_check_levels {P : Program} {w : World} {K : PySem.W.Frag} {mg : Str → Option Value} {base : Heap}
  (n_enumerate : mg "enumerate" = none)
  (n_isinstance : mg "isinstance" = none)
  (n_len : mg "len" = none)
  (n_tuple : mg "tuple" = none)
  (g_LEVELS : GlobD K mg "LEVELS" (.int 6))
  (c_is_number : CalD P w K mg base "is_number" 3 3 [] arr3 (sp_is_number))
  (x_BadLevels : XcI P w K mg base "BadLevels" 1 xs_BadLevels 1) : SSs (txF P w K mg base N_check_levels (defScope s_check_levels) 18) (defBody s_check_levels) (m_check_levels) :=
  (sss_cons (ss_if (sb_w (sw_or (sb_not (sb_truth (se_isi isi_tuple (se_var (i := 0) rfl (by rfl)) (cls_ty (by rfl) n_tuple) (by rfl) n_isinstance))) (sw_or1 (sb_cmp od_ne (se_bi bi_len (sa_cons (se_var (i := 0) rfl (by rfl)) sa_nil) (by rfl) n_len) (se_var (i := 1) rfl (by rfl)) (nomark _))))) (sss_one (ss_raise (XcI.d x_BadLevels) (sa_cons (se_neg se_int) sa_nil) (by rfl))) sss_nil)
  (sss_one (ss_for (si_enum (by rfl) n_enumerate (se_var (i := 0) rfl (by rfl))) (sg_tup (n := 2) (sgs_cons (sg_name (i := 3) rfl (by rfl)) (sgs_cons (sg_name (i := 4) rfl (by rfl)) sgs_nil)) rfl)
  (sss_one (ss_if (sb_not (sb_truth (se_callC c_is_number (sa_cons (se_var (i := 4) rfl (by rfl)) (sa_cons (se_var (i := 2) rfl (by rfl)) (sa_cons (se_glob (by rfl) g_LEVELS) sa_nil))) sk_nil))) (sss_one (ss_raise (XcI.d x_BadLevels) (sa_cons (se_var (i := 3) rfl (by rfl)) sa_nil) (by rfl))) sss_nil)))))
abbrev s_is_row : Stmt := top 16
theorem d_is_row {P : Program} {w : World} {K : PySem.W.Frag} {mg : Str → Option Value} {base : Heap}
  (n_all : mg "all" = none)
  (n_isinstance : mg "isinstance" = none)
  (n_len : mg "len" = none)
  (n_tuple : mg "tuple" = none)
  (n_zip : mg "zip" = none)
  (c_is_number : CalD P w K mg base "is_number" 3 3 [] arr3 (sp_is_number)) : SSs (txF P w K mg base N_is_row (defScope s_is_row) 20) (defBody s_is_row) (m_is_row) :=
  (sss_cons (ss_if (sb_w (sw_or (sb_not (sb_truth (se_isi isi_tuple (se_var (i := 1) rfl (by rfl)) (cls_ty (by rfl) n_tuple) (by rfl) n_isinstance))) (sw_or1 (sb_cmp od_ne (se_bi bi_len (sa_cons (se_var (i := 1) rfl (by rfl)) sa_nil) (by rfl) n_len) (se_bi bi_len (sa_cons (se_var (i := 0) rfl (by rfl)) sa_nil) (by rfl) n_len) (nomark _))))) (sss_one (ss_ret se_bl)) sss_nil)
  (sss_one (ss_ret (se_bi bi_all (sa_cons (se_lc (own := [(("number" : Str), 2), (("level" : Str), 3)]) (si_zip (by rfl) n_zip (se_var (i := 1) rfl (by rfl)) (se_var (i := 0) rfl (by rfl))) (by rfl) (sg_tup (n := 2) (sgs_cons (sg_name (i := 2) rfl (by rfl)) (sgs_cons (sg_name (i := 3) rfl (by rfl)) sgs_nil)) rfl) (by rfl) sts_nil (by exact (se_callC c_is_number (sa_cons (se_var (i := 2) rfl (by rfl)) (sa_cons se_int (sa_cons (se_var (i := 3) rfl (by rfl)) sa_nil))) sk_nil))) sa_nil) (by rfl) n_all))))
abbrev s_sign_of : Stmt := top 17
theorem d_sign_of {P : Program} {w : World} {K : PySem.W.Frag} {mg : Str → Option Value} {base : Heap} : SSs (txF P w K mg base N_sign_of (defScope s_sign_of) 22) (defBody s_sign_of) (m_sign_of) :=
  (sss_cons (ss_if (sb_cmp od_eq (se_var (i := 0) rfl (by rfl)) se_int (nomark _)) (sss_one (ss_ret se_str)) sss_nil)
  (sss_one (ss_ret (se_ife (sb_cmp od_eq (se_var (i := 0) rfl (by rfl)) (se_var (i := 1) rfl (by rfl)) (nomark _)) se_str se_str))))
abbrev s_stands_for : Stmt := top 18
theorem d_stands_for {P : Program} {w : World} {K : PySem.W.Frag} {mg : Str → Option Value} {base : Heap}
  (n_zip : mg "zip" = none)
  (c_sign_of : CalD P w K mg base "sign_of" 23 2 [] arr2 (sp_sign_of))
  (im_Room : MakeI P w K mg base "Room" 1 [] arr2 sp_Room___init__ 7) : SSs (txF P w K mg base N_stands_for (defScope s_stands_for) 24) (defBody s_stands_for) (m_stands_for) :=
  (sss_one (ss_ret (se_makeC (MakeI.d im_Room) (sa_cons (se_rd PySem.F.plainAttrs_str PySem.F.slot_str_join PySem.F.type_str_join rd_join se_str (sa_cons (se_lc (own := [(("number" : Str), 2), (("level" : Str), 3)]) (si_zip (by rfl) n_zip (se_var (i := 1) rfl (by rfl)) (se_var (i := 0) rfl (by rfl))) (by rfl) (sg_tup (n := 2) (sgs_cons (sg_name (i := 2) rfl (by rfl)) (sgs_cons (sg_name (i := 3) rfl (by rfl)) sgs_nil)) rfl) (by rfl) sts_nil (by exact (se_callC c_sign_of (sa_cons (se_var (i := 2) rfl (by rfl)) (sa_cons (se_var (i := 3) rfl (by rfl)) sa_nil)) sk_nil))) sa_nil)) sa_nil) sk_nil)))
abbrev s_end_row : Stmt := top 19
theorem d_end_row {P : Program} {w : World} {K : PySem.W.Frag} {mg : Str → Option Value} {base : Heap}
  (n_tuple : mg "tuple" = none)
  (n_zip : mg "zip" = none) : SSs (txF P w K mg base N_end_row (defScope s_end_row) 26) (defBody s_end_row) (m_end_row) :=
  (sss_one (ss_ret (se_ty bi_tuple (sa_cons (se_lc (own := [(("level" : Str), 2), (("bit" : Str), 3)]) (si_zip (by rfl) n_zip (se_var (i := 0) rfl (by rfl)) (se_var (i := 1) rfl (by rfl))) (by rfl) (sg_tup (n := 2) (sgs_cons (sg_name (i := 2) rfl (by rfl)) (sgs_cons (sg_name (i := 3) rfl (by rfl)) sgs_nil)) rfl) (by rfl) sts_nil (by exact (se_ife (sb_cmp od_eq (se_var (i := 3) rfl (by rfl)) se_int (nomark _)) (se_var (i := 2) rfl (by rfl)) se_int))) sa_nil) (by rfl) n_tuple)))
abbrev s_ended : Stmt := top 20
theorem d_ended {P : Program} {w : World} {K : PySem.W.Frag} {mg : Str → Option Value} {base : Heap}
  (n_any : mg "any" = none)
  (n_tuple : mg "tuple" = none)
  (n_zip : mg "zip" = none) : SSs (txF P w K mg base N_ended (defScope s_ended) 28) (defBody s_ended) (m_ended) :=
  (sss_cons (ss_if (sb_truth (se_bi bi_any (sa_cons (se_lc (own := [(("number" : Str), 2), (("level" : Str), 3)]) (si_zip (by rfl) n_zip (se_var (i := 1) rfl (by rfl)) (se_var (i := 0) rfl (by rfl))) (by rfl) (sg_tup (n := 2) (sgs_cons (sg_name (i := 2) rfl (by rfl)) (sgs_cons (sg_name (i := 3) rfl (by rfl)) sgs_nil)) rfl) (by rfl) sts_nil (by exact (se_chain od_ltI od_ltI se_int (se_var (i := 2) rfl (by rfl)) (se_var (i := 3) rfl (by rfl)) (by with_unfolding_all rfl)))) sa_nil) (by rfl) n_any)) (sss_one (ss_ret se_non)) sss_nil)
  (sss_one (ss_ret (se_ty bi_tuple (sa_cons (se_lc (own := [(("number" : Str), 2)]) (si_any (se_var (i := 1) rfl (by rfl))) (by rfl) (sg_name (i := 2) rfl (by rfl)) (by rfl) sts_nil (by exact (se_ife (sb_cmp od_gtI (se_var (i := 2) rfl (by rfl)) se_int (nomark _)) se_int se_int))) sa_nil) (by rfl) n_tuple))))
abbrev s__law_bag : Stmt := top 22
theorem d__law_bag {P : Program} {w : World} {K : PySem.W.Frag} {mg : Str → Option Value} {base : Heap}
  (n_int : mg "int" = none)
  (n_list : mg "list" = none) : SSs (txF P w K mg base N__law_bag (defScope s__law_bag) 30) (defBody s__law_bag) (m__law_bag) :=
  (sss_cons (ss_set (i := 1) rfl (by rfl) se_int)
  (sss_cons (ss_for (si_any (se_sl (se_var (i := 0) rfl (by rfl)) so_none (so_some se_int))) (sg_name (i := 2) rfl (by rfl))
  (sss_one (ss_set (i := 1) rfl (by rfl) (se_bin od_mod (se_ty bi_int (sa_cons (se_bin od_add (se_bin od_add (se_bin od_mul (se_var (i := 1) rfl (by rfl)) se_int) (se_bin od_mod (se_ty bi_int (sa_cons (se_var (i := 2) rfl (by rfl)) sa_nil) (by rfl) n_int) se_int)) se_int) sa_nil) (by rfl) n_int) se_int))))
  (sss_one (ss_ret (se_lst (sa_cons (se_ty bi_list (sa_cons (se_sl (se_var (i := 0) rfl (by rfl)) so_none (so_some se_int)) sa_nil) (by rfl) n_list) (sa_cons se_int (sa_cons se_int (sa_cons (se_var (i := 1) rfl (by rfl)) (sa_cons se_int sa_nil))))))))))
abbrev s__law_draw : Stmt := top 23
theorem d__law_draw {P : Program} {w : World} {K : PySem.W.Frag} {mg : Str → Option Value} {base : Heap}
  (n_int : mg "int" = none)
  (n_len : mg "len" = none) : SSs (txF P w K mg base N__law_draw (defScope s__law_draw) 32) (defBody s__law_draw) (m__law_draw) :=
  (sss_cons (ss_asg (se_bin od_add (se_ix (se_var (i := 0) rfl (by rfl)) se_int (fun _ _ => rfl)) se_int) (sg_sub (se_var (i := 0) rfl (by rfl)) se_int))
  (sss_cons (ss_if (sb_w (sw_and (sb_cmp od_eq (se_ix (se_var (i := 0) rfl (by rfl)) se_int (fun _ _ => rfl)) se_int (nomark _)) (sw_and1 (sb_cmp od_ltI (se_ix (se_var (i := 0) rfl (by rfl)) se_int (fun _ _ => rfl)) (se_bi bi_len (sa_cons (se_ix (se_var (i := 0) rfl (by rfl)) se_int (fun _ _ => rfl)) sa_nil) (by rfl) n_len) (nomark _))))) (sss_cons (ss_set (i := 3) rfl (by rfl) (se_ix (se_ix (se_var (i := 0) rfl (by rfl)) se_int (fun _ _ => rfl)) (se_ix (se_var (i := 0) rfl (by rfl)) se_int (fun _ _ => rfl)) (fun _ _ => rfl)))
  (sss_cons (ss_asg (se_bin od_add (se_ix (se_var (i := 0) rfl (by rfl)) se_int (fun _ _ => rfl)) se_int) (sg_sub (se_var (i := 0) rfl (by rfl)) se_int))
  (sss_one (ss_if (sb_cmp od_geI (se_var (i := 3) rfl (by rfl)) (se_bin od_pow se_int se_int) (nomark _)) (sss_one (ss_asg (se_var (i := 3) rfl (by rfl)) (sg_sub (se_var (i := 0) rfl (by rfl)) se_int))) (sss_one (ss_asg (se_bin od_mod (se_ty bi_int (sa_cons (se_bin od_add (se_bin od_add (se_bin od_mul (se_ix (se_var (i := 0) rfl (by rfl)) se_int (fun _ _ => rfl)) se_int) (se_bin od_mul (se_bin od_mod (se_ty bi_int (sa_cons (se_var (i := 3) rfl (by rfl)) sa_nil) (by rfl) n_int) se_int) se_int)) se_int) sa_nil) (by rfl) n_int) se_int) (sg_sub (se_var (i := 0) rfl (by rfl)) se_int))))))) sss_nil)
  (sss_cons (ss_if (sb_cmp od_gtI (se_ix (se_var (i := 0) rfl (by rfl)) se_int (fun _ _ => rfl)) se_int (nomark _)) (sss_cons (ss_set (i := 4) rfl (by rfl) (se_bin od_mod (se_ty bi_int (sa_cons (se_ix (se_var (i := 0) rfl (by rfl)) se_int (fun _ _ => rfl)) sa_nil) (by rfl) n_int) (se_var (i := 1) rfl (by rfl))))
  (sss_cons (ss_asg (se_bin od_fdiv (se_ix (se_var (i := 0) rfl (by rfl)) se_int (fun _ _ => rfl)) (se_var (i := 1) rfl (by rfl))) (sg_sub (se_var (i := 0) rfl (by rfl)) se_int))
  (sss_one (ss_ret (se_var (i := 4) rfl (by rfl)))))) sss_nil)
  (sss_cons (ss_set (i := 2) rfl (by rfl) (se_ix (se_var (i := 0) rfl (by rfl)) se_int (fun _ _ => rfl)))
  (sss_cons (ss_asg (se_bin od_mod (se_ty bi_int (sa_cons (se_bin od_add (se_bin od_add (se_bin od_add (se_bin od_mul (se_bin od_mul (se_var (i := 2) rfl (by rfl)) (se_var (i := 2) rfl (by rfl))) se_int) (se_bin od_mul (se_var (i := 2) rfl (by rfl)) se_int)) (se_bin od_mul (se_ix (se_var (i := 0) rfl (by rfl)) se_int (fun _ _ => rfl)) se_int)) se_int) sa_nil) (by rfl) n_int) se_int) (sg_sub (se_var (i := 0) rfl (by rfl)) se_int))
  (sss_one (ss_ret (se_bin od_mod (se_ty bi_int (sa_cons (se_bin od_add (se_bin od_fdiv (se_ix (se_var (i := 0) rfl (by rfl)) se_int (fun _ _ => rfl)) se_int) (se_bin od_mul (se_bin od_mod (se_ty bi_int (sa_cons (se_ix (se_var (i := 0) rfl (by rfl)) se_int (fun _ _ => rfl)) sa_nil) (by rfl) n_int) se_int) se_int)) sa_nil) (by rfl) n_int) (se_var (i := 1) rfl (by rfl))))))))))
abbrev s__law_of : Stmt := top 24
theorem d__law_of {P : Program} {w : World} {K : PySem.W.Frag} {mg : Str → Option Value} {base : Heap}
  (n_len : mg "len" = none)
  (c__law_draw : CalD P w K mg base "_law_draw" 33 2 [] arr2 (sp__law_draw)) : SSs (txF P w K mg base N__law_of (defScope s__law_of) 34) (defBody s__law_of) (m__law_of) :=
  (sss_one (ss_ret (se_ix (se_var (i := 1) rfl (by rfl)) (se_callC c__law_draw (sa_cons (se_var (i := 0) rfl (by rfl)) (sa_cons (se_bi bi_len (sa_cons (se_var (i := 1) rfl (by rfl)) sa_nil) (by rfl) n_len) sa_nil)) sk_nil) (fun _ _ => rfl))))
abbrev s__law_like : Stmt := top 25
theorem d__law_like {n lvl : Nat} {P : Program} {w : World} {K : PySem.W.Frag} {mg : Str → Option Value} {base : Heap}
  (n_all : mg "all" = none)
  (n_bool : mg "bool" = none)
  (n_int : mg "int" = none)
  (n_isinstance : mg "isinstance" = none)
  (n_len : mg "len" = none)
  (n_list : mg "list" = none)
  (n_str : mg "str" = none)
  (n_tuple : mg "tuple" = none)
  (n_zip : mg "zip" = none)
  (c__law_like : CalD P w K mg base "_law_like" lvl 2 [] arr2 (sp__law_like n)) : SSs (txF P w K mg base N__law_like (defScope s__law_like) lvl) (defBody s__law_like) (m__law_like n) :=
  (sss_cons (ss_if (sb_truth (se_isi2 isi_list_tuple (se_var (i := 1) rfl (by rfl)) (cls_ty (by rfl) n_list) (cls_ty (by rfl) n_tuple) (by rfl) n_isinstance)) (sss_cons (ss_if (sb_w (sw_or (sb_cmp od_ne (se_isi isi_list (se_var (i := 0) rfl (by rfl)) (cls_ty (by rfl) n_list) (by rfl) n_isinstance) (se_isi isi_list (se_var (i := 1) rfl (by rfl)) (cls_ty (by rfl) n_list) (by rfl) n_isinstance) (nomark _)) (sw_or1 (sb_cmp od_ne (se_isi isi_tuple (se_var (i := 0) rfl (by rfl)) (cls_ty (by rfl) n_tuple) (by rfl) n_isinstance) (se_isi isi_tuple (se_var (i := 1) rfl (by rfl)) (cls_ty (by rfl) n_tuple) (by rfl) n_isinstance) (nomark _))))) (sss_one (ss_ret se_bl)) sss_nil)
  (sss_one (ss_ret (se_and (se_cmp od_eq (se_bi bi_len (sa_cons (se_var (i := 0) rfl (by rfl)) sa_nil) (by rfl) n_len) (se_bi bi_len (sa_cons (se_var (i := 1) rfl (by rfl)) sa_nil) (by rfl) n_len) (nomark _)) (se_one (se_bi bi_all (sa_cons (se_lc (own := [(("one" : Str), 2), (("two" : Str), 3)]) (si_zip (by rfl) n_zip (se_var (i := 0) rfl (by rfl)) (se_var (i := 1) rfl (by rfl))) (by rfl) (sg_tup (n := 2) (sgs_cons (sg_name (i := 2) rfl (by rfl)) (sgs_cons (sg_name (i := 3) rfl (by rfl)) sgs_nil)) rfl) (by rfl) sts_nil (by exact (se_callC c__law_like (sa_cons (se_var (i := 2) rfl (by rfl)) (sa_cons (se_var (i := 3) rfl (by rfl)) sa_nil)) sk_nil (hl := Nat.le_refl _)))) sa_nil) (by rfl) n_all)))))) sss_nil)
  (sss_cons (ss_if (sb_w (sw_or (sb_cmp od_isN (se_var (i := 1) rfl (by rfl)) se_non (nomark _)) (sw_or1 (sb_cmp od_isN (se_var (i := 0) rfl (by rfl)) se_non (nomark _))))) (sss_one (ss_ret (se_and (se_cmp od_isN (se_var (i := 1) rfl (by rfl)) se_non (nomark _)) (se_one (se_cmp od_isN (se_var (i := 0) rfl (by rfl)) se_non (nomark _)))))) sss_nil)
  (sss_cons (ss_if (sb_w (sw_or (sb_truth (se_isi isi_bool (se_var (i := 1) rfl (by rfl)) (cls_ty (by rfl) n_bool) (by rfl) n_isinstance)) (sw_or1 (sb_truth (se_isi isi_bool (se_var (i := 0) rfl (by rfl)) (cls_ty (by rfl) n_bool) (by rfl) n_isinstance))))) (sss_one (ss_ret (se_and (se_isi isi_bool (se_var (i := 0) rfl (by rfl)) (cls_ty (by rfl) n_bool) (by rfl) n_isinstance) (se_and (se_isi isi_bool (se_var (i := 1) rfl (by rfl)) (cls_ty (by rfl) n_bool) (by rfl) n_isinstance) (se_one (se_cmp od_eq (se_var (i := 0) rfl (by rfl)) (se_var (i := 1) rfl (by rfl)) (nomark _))))))) sss_nil)
  (sss_cons (ss_if (sb_w (sw_or (sb_truth (se_isi2 isi_list_tuple (se_var (i := 0) rfl (by rfl)) (cls_ty (by rfl) n_list) (cls_ty (by rfl) n_tuple) (by rfl) n_isinstance)) (sw_or1 (sb_cmp od_ne (se_isi isi_str (se_var (i := 0) rfl (by rfl)) (cls_ty (by rfl) n_str) (by rfl) n_isinstance) (se_isi isi_str (se_var (i := 1) rfl (by rfl)) (cls_ty (by rfl) n_str) (by rfl) n_isinstance) (nomark _))))) (sss_one (ss_ret se_bl)) sss_nil)
  (sss_one (ss_ret (se_and (se_cmp od_eq (se_isi isi_int (se_var (i := 0) rfl (by rfl)) (cls_ty (by rfl) n_int) (by rfl) n_isinstance) (se_isi isi_int (se_var (i := 1) rfl (by rfl)) (cls_ty (by rfl) n_int) (by rfl) n_isinstance) (nomark _)) (se_one (se_cmp od_eq (se_var (i := 0) rfl (by rfl)) (se_var (i := 1) rfl (by rfl)) (nomark _))))))))))
abbrev s__law_is_from : Stmt := top 26
theorem d__law_is_from {P : Program} {w : World} {K : PySem.W.Frag} {mg : Str → Option Value} {base : Heap}
  (n_bool : mg "bool" = none)
  (n_int : mg "int" = none)
  (n_isinstance : mg "isinstance" = none) : SSs (txF P w K mg base N__law_is_from (defScope s__law_is_from) 48) (defBody s__law_is_from) (m__law_is_from) :=
  (sss_one (ss_ret (se_and (se_isi isi_int (se_var (i := 0) rfl (by rfl)) (cls_ty (by rfl) n_int) (by rfl) n_isinstance) (se_and (se_not (se_isi isi_bool (se_var (i := 0) rfl (by rfl)) (cls_ty (by rfl) n_bool) (by rfl) n_isinstance)) (se_and (se_cmp od_leI (se_var (i := 1) rfl (by rfl)) (se_var (i := 0) rfl (by rfl)) (nomark _)) (se_one (se_cmp od_leI (se_var (i := 0) rfl (by rfl)) (se_var (i := 2) rfl (by rfl)) (nomark _))))))))
abbrev s__law_checked : Stmt := top 27
theorem d__law_checked {P : Program} {w : World} {K : PySem.W.Frag} {mg : Str → Option Value} {base : Heap}
  (c_check_levels_d : CalD P w K mg base "check_levels" 19 2 [] arrD (sp_check_levels))
  (c_check_levels_k : CalD P w K mg base "check_levels" 19 2 ["least"] arrK (sp_check_levels))
  {cv_BadLevels : Value} (cat_BadLevels : CatI K mg "BadLevels" cv_BadLevels ["BadLevels"] (fun _ => true))
  (xf_BadLevels_cell : XfI K mg "BadLevels" "cell")
  (xf_BadLevels_code : XfI K mg "BadLevels" "code") : SSs (txF P w K mg base N__law_checked (defScope s__law_checked) 50) (defBody s__law_checked) (m__law_checked) :=
  (sss_cons (ss_try_as (i := 4) (CatI.d cat_BadLevels) rfl (by rfl) (sss_one (ss_if (sb_cmp od_eq (se_var (i := 3) rfl (by rfl)) se_int (nomark _)) (sss_one (ss_if (sb_cmp od_notN (se_callC c_check_levels_k (sa_cons (se_var (i := 0) rfl (by rfl)) (sa_cons (se_var (i := 1) rfl (by rfl)) sa_nil)) (sk_cons (se_var (i := 2) rfl (by rfl)) sk_nil)) se_non (nomark _)) (sss_one (ss_ret (se_lst (sa_cons se_str sa_nil)))) sss_nil)) (sss_one (ss_if (sb_cmp od_notN (se_callC c_check_levels_d (sa_cons (se_var (i := 0) rfl (by rfl)) (sa_cons (se_var (i := 1) rfl (by rfl)) sa_nil)) sk_nil) se_non (nomark _)) (sss_one (ss_ret (se_lst (sa_cons se_str sa_nil)))) sss_nil)))) (fun a cls dx => (sss_one (ss_ret (se_lst (sa_cons (se_exf (cs := [("BadLevels" : Str)]) rfl (XfI.d xf_BadLevels_cell) (se_var (i := 4) rfl (by rfl))) (sa_cons (se_exf (cs := [("BadLevels" : Str)]) rfl (XfI.d xf_BadLevels_code) (se_var (i := 4) rfl (by rfl))) sa_nil)))))) (by rfl))
  (sss_one (ss_ret (se_lst sa_nil))))
abbrev s__law_bent : Stmt := top 28
theorem d__law_bent {P : Program} {w : World} {K : PySem.W.Frag} {mg : Str → Option Value} {base : Heap}
  (n_len : mg "len" = none)
  (n_list : mg "list" = none)
  (n_range : mg "range" = none)
  (n_tuple : mg "tuple" = none)
  (c__law_draw : CalD P w K mg base "_law_draw" 33 2 [] arr2 (sp__law_draw))
  (c__law_of : CalD P w K mg base "_law_of" 35 2 [] arr2 (sp__law_of)) : SSs (txF P w K mg base N__law_bent (defScope s__law_bent) 52) (defBody s__law_bent) (m__law_bent) :=
  (sss_cons (ss_set (i := 2) rfl (by rfl) (se_ty bi_list (sa_cons (se_var (i := 1) rfl (by rfl)) sa_nil) (by rfl) n_list))
  (sss_cons (ss_for (si_range1 (by rfl) n_range (se_callC c__law_of (sa_cons (se_var (i := 0) rfl (by rfl)) (sa_cons (se_lst (sa_cons se_int (sa_cons se_int (sa_cons se_int (sa_cons se_int (sa_cons se_int sa_nil)))))) sa_nil)) sk_nil)) (sg_name (i := 3) rfl (by rfl))
  (sss_cons (ss_par2 (i := 4) (j := 5) rfl rfl (by decide) (by rfl) (by rfl) (sat_cons (se_callC c__law_draw (sa_cons (se_var (i := 0) rfl (by rfl)) (sa_cons (se_bi bi_len (sa_cons (se_var (i := 2) rfl (by rfl)) sa_nil) (by rfl) n_len) sa_nil)) sk_nil) (sat_cons (se_callC c__law_draw (sa_cons (se_var (i := 0) rfl (by rfl)) (sa_cons se_int sa_nil)) sk_nil) sat_nil)) (fun X h => by rw [sw_env, h]; rfl))
  (sss_one (ss_if (sb_cmp od_eq (se_var (i := 5) rfl (by rfl)) se_int (nomark _)) (sss_one (ss_expr (se_mu PySem.F.plainAttrs_list PySem.F.slot_list_insert PySem.F.type_list_insert mu_insert (se_var (i := 2) rfl (by rfl)) (sa_cons (se_var (i := 4) rfl (by rfl)) (sa_cons (se_ix (se_var (i := 2) rfl (by rfl)) (se_var (i := 4) rfl (by rfl)) (fun _ _ => rfl)) sa_nil))))) (sss_one (ss_if (sb_w (sw_and (sb_cmp od_eq (se_var (i := 5) rfl (by rfl)) se_int (nomark _)) (sw_and1 (sb_cmp od_gtI (se_bi bi_len (sa_cons (se_var (i := 2) rfl (by rfl)) sa_nil) (by rfl) n_len) se_int (nomark _))))) (sss_one (ss_expr (se_mu PySem.F.plainAttrs_list PySem.F.slot_list_pop PySem.F.type_list_pop mu_pop (se_var (i := 2) rfl (by rfl)) (sa_cons (se_var (i := 4) rfl (by rfl)) sa_nil)))) (sss_one (ss_asg (se_callC c__law_of (sa_cons (se_var (i := 0) rfl (by rfl)) (sa_cons (se_lst (sa_cons se_int (sa_cons se_int (sa_cons (se_neg se_int) (sa_cons se_bl (sa_cons se_bl (sa_cons se_non (sa_cons se_str (sa_cons (se_tup (sa_cons se_int sa_nil)) (sa_cons (se_callC c__law_draw (sa_cons (se_var (i := 0) rfl (by rfl)) (sa_cons se_int sa_nil)) sk_nil) (sa_cons (se_callC c__law_draw (sa_cons (se_var (i := 0) rfl (by rfl)) (sa_cons (se_bin od_pow se_int se_int) sa_nil)) sk_nil) sa_nil))))))))))) sa_nil)) sk_nil) (sg_sub (se_var (i := 2) rfl (by rfl)) (se_var (i := 4) rfl (by rfl)))))))))))
  (sss_cons (ss_if (sb_cmp od_eq (se_callC c__law_draw (sa_cons (se_var (i := 0) rfl (by rfl)) (sa_cons se_int sa_nil)) sk_nil) se_int (nomark _)) (sss_one (ss_ret (se_callC c__law_of (sa_cons (se_var (i := 0) rfl (by rfl)) (sa_cons (se_lst (sa_cons (se_var (i := 2) rfl (by rfl)) (sa_cons se_non (sa_cons se_int (sa_cons se_bl (sa_cons se_str (sa_cons (se_tup sa_nil) (sa_cons (se_ty bi_tuple (sa_cons (se_lst (sa_cons (se_ty bi_tuple (sa_cons (se_var (i := 2) rfl (by rfl)) sa_nil) (by rfl) n_tuple) sa_nil)) sa_nil) (by rfl) n_tuple) sa_nil)))))))) sa_nil)) sk_nil))) sss_nil)
  (sss_one (ss_ret (se_ty bi_tuple (sa_cons (se_var (i := 2) rfl (by rfl)) sa_nil) (by rfl) n_tuple))))))
abbrev s__law_levels_looked : Stmt := top 29
theorem d__law_levels_looked {P : Program} {w : World} {K : PySem.W.Frag} {mg : Str → Option Value} {base : Heap}
  (n_isinstance : mg "isinstance" = none)
  (n_len : mg "len" = none)
  (n_range : mg "range" = none)
  (n_tuple : mg "tuple" = none)
  (c__law_bent : CalD P w K mg base "_law_bent" 53 2 [] arr2 (sp__law_bent))
  (c__law_checked : CalD P w K mg base "_law_checked" 51 4 [] arr4 (sp__law_checked))
  (c__law_draw : CalD P w K mg base "_law_draw" 33 2 [] arr2 (sp__law_draw))
  (c__law_is_from : CalD P w K mg base "_law_is_from" 49 3 [] arr3 (sp__law_is_from))
  (c__law_like : CalD P w K mg base "_law_like" 42 2 [] arr2 (sp__law_like 5))
  (c_is_levels_d : CalD P w K mg base "is_levels" 17 2 [] arrD (sp_is_levels))
  (c_is_levels_k : CalD P w K mg base "is_levels" 17 2 ["least"] arrK (sp_is_levels)) : SSs (txF P w K mg base N__law_levels_looked (defScope s__law_levels_looked) 54) (defBody s__law_levels_looked) (m__law_levels_looked) :=
  (sss_cons (ss_asgW (se_tup (sa_cons (se_callC c__law_bent (sa_cons (se_var (i := 0) rfl (by rfl)) (sa_cons (se_var (i := 1) rfl (by rfl)) sa_nil)) sk_nil) (sa_cons (se_bi bi_len (sa_cons (se_var (i := 1) rfl (by rfl)) sa_nil) (by rfl) n_len) (sa_cons (se_bin od_add se_int (se_callC c__law_draw (sa_cons (se_var (i := 0) rfl (by rfl)) (sa_cons se_int sa_nil)) sk_nil)) sa_nil)))) (sg_tup (n := 3) (sgs_cons (sg_name (i := 6) rfl (by rfl)) (sgs_cons (sg_name (i := 7) rfl (by rfl)) (sgs_cons (sg_name (i := 3) rfl (by rfl)) sgs_nil))) rfl) (fun X h => by rw [sw_env, h]; rfl))
  (sss_cons (ss_set (i := 2) rfl (by rfl) (se_callC c__law_draw (sa_cons (se_var (i := 0) rfl (by rfl)) (sa_cons se_int sa_nil)) sk_nil))
  (sss_cons (ss_set (i := 3) rfl (by rfl) (se_ife (sb_cmp od_eq (se_var (i := 2) rfl (by rfl)) se_int (nomark _)) (se_var (i := 3) rfl (by rfl)) se_int))
  (sss_cons (ss_set (i := 4) rfl (by rfl) (se_lst sa_nil))
  (sss_cons (ss_if (sb_w (sw_or (sb_not (sb_truth (se_isi isi_tuple (se_var (i := 6) rfl (by rfl)) (cls_ty (by rfl) n_tuple) (by rfl) n_isinstance))) (sw_or1 (sb_cmp od_ne (se_bi bi_len (sa_cons (se_var (i := 6) rfl (by rfl)) sa_nil) (by rfl) n_len) (se_var (i := 7) rfl (by rfl)) (nomark _))))) (sss_one (ss_set (i := 4) rfl (by rfl) (se_lst (sa_cons (se_neg se_int) (sa_cons se_str sa_nil))))) (sss_cons (ss_setLc (own := [(("k" : Str), 9)]) (i := 8) rfl (by rfl) (by rfl) (by rfl) (by rfl) (si_range1 (by rfl) n_range (se_var (i := 7) rfl (by rfl))) (by rfl) (sg_name (i := 9) rfl (by rfl)) (by rfl) (sts_one (sb_not (sb_truth (se_callC c__law_is_from (sa_cons (se_ix (se_var (i := 6) rfl (by rfl)) (se_var (i := 9) rfl (by rfl)) (fun _ _ => rfl)) (sa_cons (se_var (i := 3) rfl (by rfl)) (sa_cons se_int sa_nil))) sk_nil)))) (by exact (se_var (i := 9) rfl (by rfl))))
  (sss_one (ss_set (i := 4) rfl (by rfl) (se_ife (sb_cmp od_gtI (se_bi bi_len (sa_cons (se_var (i := 8) rfl (by rfl)) sa_nil) (by rfl) n_len) se_int (nomark _)) (se_lst (sa_cons (se_ix (se_var (i := 8) rfl (by rfl)) se_int (fun _ _ => rfl)) (sa_cons se_str sa_nil))) (se_lst sa_nil))))))
  (sss_cons (ss_set (i := 5) rfl (by rfl) (se_ife (sb_cmp od_eq (se_var (i := 2) rfl (by rfl)) se_int (nomark _)) (se_callC c_is_levels_k (sa_cons (se_var (i := 6) rfl (by rfl)) (sa_cons (se_var (i := 7) rfl (by rfl)) sa_nil)) (sk_cons (se_var (i := 3) rfl (by rfl)) sk_nil)) (se_callC c_is_levels_d (sa_cons (se_var (i := 6) rfl (by rfl)) (sa_cons (se_var (i := 7) rfl (by rfl)) sa_nil)) sk_nil)))
  (sss_one (ss_ret (se_callC c__law_like (sa_cons (se_lst (sa_cons (se_var (i := 5) rfl (by rfl)) (sa_cons (se_callC c__law_checked (sa_cons (se_var (i := 6) rfl (by rfl)) (sa_cons (se_var (i := 7) rfl (by rfl)) (sa_cons (se_var (i := 3) rfl (by rfl)) (sa_cons (se_var (i := 2) rfl (by rfl)) sa_nil)))) sk_nil) sa_nil))) (sa_cons (se_lst (sa_cons (se_cmp od_eq (se_bi bi_len (sa_cons (se_var (i := 4) rfl (by rfl)) sa_nil) (by rfl) n_len) se_int (nomark _)) (sa_cons (se_var (i := 4) rfl (by rfl)) sa_nil))) sa_nil)) sk_nil)))))))))
abbrev s__law_row : Stmt := top 30
theorem d__law_row {P : Program} {w : World} {K : PySem.W.Frag} {mg : Str → Option Value} {base : Heap}
  (n_tuple : mg "tuple" = none)
  (c__law_draw : CalD P w K mg base "_law_draw" 33 2 [] arr2 (sp__law_draw))
  (c__law_of : CalD P w K mg base "_law_of" 35 2 [] arr2 (sp__law_of)) : SSs (txF P w K mg base N__law_row (defScope s__law_row) 56) (defBody s__law_row) (m__law_row) :=
  (sss_cons (ss_set (i := 2) rfl (by rfl) (se_callC c__law_draw (sa_cons (se_var (i := 0) rfl (by rfl)) (sa_cons se_int sa_nil)) sk_nil))
  (sss_cons (ss_if (sb_cmp od_eq (se_var (i := 2) rfl (by rfl)) se_int (nomark _)) (sss_one (ss_ret (se_ty bi_tuple (sa_cons (se_lc (own := [(("top" : Str), 3)]) (si_any (se_var (i := 1) rfl (by rfl))) (by rfl) (sg_name (i := 3) rfl (by rfl)) (by rfl) sts_nil (by exact (se_callC c__law_of (sa_cons (se_var (i := 0) rfl (by rfl)) (sa_cons (se_lst (sa_cons se_int (sa_cons (se_var (i := 3) rfl (by rfl)) sa_nil))) sa_nil)) sk_nil))) sa_nil) (by rfl) n_tuple))) sss_nil)
  (sss_cons (ss_if (sb_cmp od_eq (se_var (i := 2) rfl (by rfl)) se_int (nomark _)) (sss_one (ss_ret (se_ty bi_tuple (sa_cons (se_lc (own := [(("top" : Str), 3)]) (si_any (se_var (i := 1) rfl (by rfl))) (by rfl) (sg_name (i := 3) rfl (by rfl)) (by rfl) sts_nil (by exact (se_callC c__law_of (sa_cons (se_var (i := 0) rfl (by rfl)) (sa_cons (se_lst (sa_cons se_int (sa_cons (se_var (i := 3) rfl (by rfl)) (sa_cons (se_callC c__law_draw (sa_cons (se_var (i := 0) rfl (by rfl)) (sa_cons (se_bin od_add (se_var (i := 3) rfl (by rfl)) se_int) sa_nil)) sk_nil) sa_nil)))) sa_nil)) sk_nil))) sa_nil) (by rfl) n_tuple))) sss_nil)
  (sss_one (ss_ret (se_ty bi_tuple (sa_cons (se_lc (own := [(("top" : Str), 3)]) (si_any (se_var (i := 1) rfl (by rfl))) (by rfl) (sg_name (i := 3) rfl (by rfl)) (by rfl) sts_nil (by exact (se_callC c__law_draw (sa_cons (se_var (i := 0) rfl (by rfl)) (sa_cons (se_bin od_add (se_var (i := 3) rfl (by rfl)) se_int) sa_nil)) sk_nil))) sa_nil) (by rfl) n_tuple))))))
abbrev s__law_text : Stmt := top 31
theorem d__law_text {P : Program} {w : World} {K : PySem.W.Frag} {mg : Str → Option Value} {base : Heap}
  (n_zip : mg "zip" = none) : SSs (txF P w K mg base N__law_text (defScope s__law_text) 58) (defBody s__law_text) (m__law_text) :=
  (sss_one (ss_ret (se_rd PySem.F.plainAttrs_str PySem.F.slot_str_join PySem.F.type_str_join rd_join se_str (sa_cons (se_lc (own := [(("k" : Str), 2), (("top" : Str), 3)]) (si_zip (by rfl) n_zip (se_var (i := 1) rfl (by rfl)) (se_var (i := 0) rfl (by rfl))) (by rfl) (sg_tup (n := 2) (sgs_cons (sg_name (i := 2) rfl (by rfl)) (sgs_cons (sg_name (i := 3) rfl (by rfl)) sgs_nil)) rfl) (by rfl) sts_nil (by exact (se_ife (sb_cmp od_eq (se_var (i := 2) rfl (by rfl)) se_int (nomark _)) se_str (se_ife (sb_cmp od_eq (se_var (i := 2) rfl (by rfl)) (se_var (i := 3) rfl (by rfl)) (nomark _)) se_str se_str)))) sa_nil))))
abbrev s__law_row_told : Stmt := top 32
theorem d__law_row_told {P : Program} {w : World} {K : PySem.W.Frag} {mg : Str → Option Value} {base : Heap}
  (n_all : mg "all" = none)
  (n_int : mg "int" = none)
  (n_list : mg "list" = none)
  (n_str : mg "str" = none)
  (n_tuple : mg "tuple" = none)
  (n_zip : mg "zip" = none)
  (c__law_draw : CalD P w K mg base "_law_draw" 33 2 [] arr2 (sp__law_draw))
  (c__law_like : CalD P w K mg base "_law_like" 42 2 [] arr2 (sp__law_like 5))
  (c__law_text : CalD P w K mg base "_law_text" 59 2 [] arr2 (sp__law_text))
  (c_end_row : CalD P w K mg base "end_row" 27 2 [] arr2 (sp_end_row))
  (c_ended : CalD P w K mg base "ended" 29 2 [] arr2 (sp_ended))
  (c_is_row : CalD P w K mg base "is_row" 21 2 [] arr2 (sp_is_row))
  (c_stands_for : CalD P w K mg base "stands_for" 25 2 [] arr2 (sp_stands_for))
  (i_Room___contains__ : MethI P w K mg base "__contains__" 1 [] "Room" arr2 sp_Room___contains__ 13)
  (i_Room___str__ : MethI P w K mg base "__str__" 0 [] "Room" arr1 sp_Room___str__ 15)
  (ig_Room_corners : MethGI P w K mg base "corners" "Room" sp_Room_corners 11) : SSs (txF P w K mg base N__law_row_told (defScope s__law_row_told) 60) (defBody s__law_row_told) (m__law_row_told) :=
  (sss_cons (ss_set (i := 3) rfl (by rfl) (se_callC c__law_text (sa_cons (se_var (i := 1) rfl (by rfl)) (sa_cons (se_var (i := 2) rfl (by rfl)) sa_nil)) sk_nil))
  (sss_cons (ss_if (sb_not (sb_truth (se_callC c__law_like (sa_cons (se_lst (sa_cons (se_callC c_is_row (sa_cons (se_var (i := 1) rfl (by rfl)) (sa_cons (se_var (i := 2) rfl (by rfl)) sa_nil)) sk_nil) (sa_cons (se_strO (arr := fun _ => arr1) (sp := fun _ => sp_Room___str__) (mem1 i_Room___str__) (se_callC c_stands_for (sa_cons (se_var (i := 1) rfl (by rfl)) (sa_cons (se_var (i := 2) rfl (by rfl)) sa_nil)) sk_nil) (hg := by rfl) (hm := n_str)) sa_nil))) (sa_cons (se_lst (sa_cons se_bl (sa_cons (se_var (i := 3) rfl (by rfl)) sa_nil))) sa_nil)) sk_nil))) (sss_one (ss_ret se_bl)) sss_nil)
  (sss_cons (ss_set (i := 4) rfl (by rfl) (se_ife (sb_cmp od_notIn se_str (se_var (i := 3) rfl (by rfl)) (by with_unfolding_all rfl)) (se_ty bi_tuple (sa_cons (se_lc (own := [(("sign" : Str), 9)]) (si_any (se_var (i := 3) rfl (by rfl))) (by rfl) (sg_name (i := 9) rfl (by rfl)) (by rfl) sts_nil (by exact (se_ty bi_int (sa_cons (se_var (i := 9) rfl (by rfl)) sa_nil) (by rfl) n_int))) sa_nil) (by rfl) n_tuple) se_non))
  (sss_cons (ss_if (sb_not (sb_truth (se_callC c__law_like (sa_cons (se_callC c_ended (sa_cons (se_var (i := 1) rfl (by rfl)) (sa_cons (se_var (i := 2) rfl (by rfl)) sa_nil)) sk_nil) (sa_cons (se_var (i := 4) rfl (by rfl)) sa_nil)) sk_nil))) (sss_one (ss_ret se_bl)) sss_nil)
  (sss_cons (ss_set (i := 5) rfl (by rfl) (se_ty bi_tuple (sa_cons (se_lc (own := [(("top" : Str), 8)]) (si_any (se_var (i := 1) rfl (by rfl))) (by rfl) (sg_name (i := 8) rfl (by rfl)) (by rfl) sts_nil (by exact (se_callC c__law_draw (sa_cons (se_var (i := 0) rfl (by rfl)) (sa_cons se_int sa_nil)) sk_nil))) sa_nil) (by rfl) n_tuple))
  (sss_cons (ss_set (i := 6) rfl (by rfl) (se_callC c_end_row (sa_cons (se_var (i := 1) rfl (by rfl)) (sa_cons (se_var (i := 5) rfl (by rfl)) sa_nil)) sk_nil))
  (sss_cons (ss_if (sb_w (sw_or (sb_not (sb_truth (se_callC c__law_like (sa_cons (se_var (i := 6) rfl (by rfl)) (sa_cons (se_ty bi_tuple (sa_cons (se_lc (own := [(("top" : Str), 8), (("k" : Str), 12)]) (si_zip (by rfl) n_zip (se_var (i := 1) rfl (by rfl)) (se_var (i := 5) rfl (by rfl))) (by rfl) (sg_tup (n := 2) (sgs_cons (sg_name (i := 8) rfl (by rfl)) (sgs_cons (sg_name (i := 12) rfl (by rfl)) sgs_nil)) rfl) (by rfl) sts_nil (by exact (se_bin od_mul (se_var (i := 8) rfl (by rfl)) (se_var (i := 12) rfl (by rfl))))) sa_nil) (by rfl) n_tuple) sa_nil)) sk_nil))) (sw_or1 (sb_not (sb_truth (se_callC c__law_like (sa_cons (se_callC c_ended (sa_cons (se_var (i := 1) rfl (by rfl)) (sa_cons (se_var (i := 6) rfl (by rfl)) sa_nil)) sk_nil) (sa_cons (se_var (i := 5) rfl (by rfl)) sa_nil)) sk_nil)))))) (sss_one (ss_ret se_bl)) sss_nil)
  (sss_cons (ss_if (sb_not (sb_truth (se_callC c__law_like (sa_cons (se_listG (arr := []) (MethGI.d ig_Room_corners) (se_callC c_stands_for (sa_cons (se_var (i := 1) rfl (by rfl)) (sa_cons (se_var (i := 6) rfl (by rfl)) sa_nil)) sk_nil) (hg := by rfl) (hmg := n_list)) (sa_cons (se_lst (sa_cons (se_var (i := 5) rfl (by rfl)) sa_nil)) sa_nil)) sk_nil))) (sss_one (ss_ret se_bl)) sss_nil)
  (sss_cons (ss_if (sb_not (sb_truth (se_callC c__law_like (sa_cons (se_inO (arr := fun _ => arr2) (sp := fun _ => sp_Room___contains__) (mem1 i_Room___contains__) (se_var (i := 5) rfl (by rfl)) (se_callC c_stands_for (sa_cons (se_var (i := 1) rfl (by rfl)) (sa_cons (se_var (i := 2) rfl (by rfl)) sa_nil)) sk_nil) (by with_unfolding_all rfl)) (sa_cons (se_bi bi_all (sa_cons (se_lc (own := [(("sign" : Str), 9), (("k" : Str), 12)]) (si_zip (by rfl) n_zip (se_var (i := 3) rfl (by rfl)) (se_var (i := 5) rfl (by rfl))) (by rfl) (sg_tup (n := 2) (sgs_cons (sg_name (i := 9) rfl (by rfl)) (sgs_cons (sg_name (i := 12) rfl (by rfl)) sgs_nil)) rfl) (by rfl) sts_nil (by exact (se_cmp od_in (se_var (i := 9) rfl (by rfl)) (se_lst (sa_cons se_str (sa_cons (se_ty bi_str (sa_cons (se_var (i := 12) rfl (by rfl)) sa_nil) (by rfl) n_str) sa_nil))) (by with_unfolding_all rfl)))) sa_nil) (by rfl) n_all) sa_nil)) sk_nil))) (sss_one (ss_ret se_bl)) sss_nil)
  (sss_cons (ss_set (i := 7) rfl (by rfl) (se_ty bi_tuple (sa_cons (se_lc (own := [(("one" : Str), 10), (("two" : Str), 11)]) (si_zip (by rfl) n_zip (se_var (i := 2) rfl (by rfl)) (se_var (i := 6) rfl (by rfl))) (by rfl) (sg_tup (n := 2) (sgs_cons (sg_name (i := 10) rfl (by rfl)) (sgs_cons (sg_name (i := 11) rfl (by rfl)) sgs_nil)) rfl) (by rfl) sts_nil (by exact (se_bin od_fdiv (se_bin od_add (se_var (i := 10) rfl (by rfl)) (se_var (i := 11) rfl (by rfl))) se_int))) sa_nil) (by rfl) n_tuple))
  (sss_one (ss_ret (se_callC c__law_like (sa_cons (se_strO (arr := fun _ => arr1) (sp := fun _ => sp_Room___str__) (mem1 i_Room___str__) (se_callC c_stands_for (sa_cons (se_var (i := 1) rfl (by rfl)) (sa_cons (se_var (i := 7) rfl (by rfl)) sa_nil)) sk_nil) (hg := by rfl) (hm := n_str)) (sa_cons (se_callC c__law_text (sa_cons (se_var (i := 1) rfl (by rfl)) (sa_cons (se_var (i := 7) rfl (by rfl)) sa_nil)) sk_nil) sa_nil)) sk_nil)))))))))))))
abbrev s_law : Stmt := top 33
theorem d_law {P : Program} {w : World} {K : PySem.W.Frag} {mg : Str → Option Value} {base : Heap}
  (n_all : mg "all" = none)
  (n_isinstance : mg "isinstance" = none)
  (n_len : mg "len" = none)
  (n_range : mg "range" = none)
  (n_tuple : mg "tuple" = none)
  (n_zip : mg "zip" = none)
  (c__law_bag : CalD P w K mg base "_law_bag" 31 1 [] arr1 (sp__law_bag))
  (c__law_bent : CalD P w K mg base "_law_bent" 53 2 [] arr2 (sp__law_bent))
  (c__law_draw : CalD P w K mg base "_law_draw" 33 2 [] arr2 (sp__law_draw))
  (c__law_is_from : CalD P w K mg base "_law_is_from" 49 3 [] arr3 (sp__law_is_from))
  (c__law_levels_looked : CalD P w K mg base "_law_levels_looked" 55 2 [] arr2 (sp__law_levels_looked))
  (c__law_like : CalD P w K mg base "_law_like" 42 2 [] arr2 (sp__law_like 5))
  (c__law_of : CalD P w K mg base "_law_of" 35 2 [] arr2 (sp__law_of))
  (c__law_row : CalD P w K mg base "_law_row" 57 2 [] arr2 (sp__law_row))
  (c__law_row_told : CalD P w K mg base "_law_row_told" 61 3 [] arr3 (sp__law_row_told))
  (c_is_row : CalD P w K mg base "is_row" 21 2 [] arr2 (sp_is_row)) : SSs (txF P w K mg base N_law (defScope s_law) 62) (defBody s_law) (m_law) :=
  (sss_cons (ss_set (i := 1) rfl (by rfl) (se_callC c__law_bag (sa_cons (se_var (i := 0) rfl (by rfl)) sa_nil) sk_nil))
  (sss_cons (ss_for (si_range1 (by rfl) n_range se_int) (sg_name (i := 2) rfl (by rfl))
  (sss_cons (ss_set (i := 3) rfl (by rfl) (se_callC c__law_of (sa_cons (se_var (i := 1) rfl (by rfl)) (sa_cons (se_lst (sa_cons se_int (sa_cons se_int (sa_cons se_int (sa_cons se_int (sa_cons se_int (sa_cons se_int (sa_cons se_int (sa_cons se_int (sa_cons se_int sa_nil)))))))))) sa_nil)) sk_nil))
  (sss_cons (ss_set (i := 4) rfl (by rfl) (se_ty bi_tuple (sa_cons (se_lc (own := [(("k" : Str), 5)]) (si_range1 (by rfl) n_range (se_var (i := 3) rfl (by rfl))) (by rfl) (sg_name (i := 5) rfl (by rfl)) (by rfl) sts_nil (by exact (se_bin od_add se_int (se_callC c__law_draw (sa_cons (se_var (i := 1) rfl (by rfl)) (sa_cons se_int sa_nil)) sk_nil)))) sa_nil) (by rfl) n_tuple))
  (sss_cons (ss_if (sb_cmp od_eq (se_callC c__law_draw (sa_cons (se_var (i := 1) rfl (by rfl)) (sa_cons se_int sa_nil)) sk_nil) se_int (nomark _)) (sss_one (ss_set (i := 4) rfl (by rfl) (se_bin od_mul (se_tup (sa_cons (se_callC c__law_of (sa_cons (se_var (i := 1) rfl (by rfl)) (sa_cons (se_lst (sa_cons se_int (sa_cons se_int (sa_cons se_int (sa_cons se_int sa_nil))))) sa_nil)) sk_nil) sa_nil)) (se_var (i := 3) rfl (by rfl))))) sss_nil)
  (sss_one (ss_for (si_range1 (by rfl) n_range se_int) (sg_name (i := 5) rfl (by rfl))
  (sss_cons (ss_if (sb_not (sb_truth (se_callC c__law_levels_looked (sa_cons (se_var (i := 1) rfl (by rfl)) (sa_cons (se_var (i := 4) rfl (by rfl)) sa_nil)) sk_nil))) (sss_one (ss_ret se_bl)) sss_nil)
  (sss_cons (ss_set (i := 6) rfl (by rfl) (se_callC c__law_row (sa_cons (se_var (i := 1) rfl (by rfl)) (sa_cons (se_var (i := 4) rfl (by rfl)) sa_nil)) sk_nil))
  (sss_cons (ss_if (sb_not (sb_truth (se_callC c__law_row_told (sa_cons (se_var (i := 1) rfl (by rfl)) (sa_cons (se_var (i := 4) rfl (by rfl)) (sa_cons (se_var (i := 6) rfl (by rfl)) sa_nil))) sk_nil))) (sss_one (ss_ret se_bl)) sss_nil)
  (sss_cons (ss_set (i := 7) rfl (by rfl) (se_callC c__law_bent (sa_cons (se_var (i := 1) rfl (by rfl)) (sa_cons (se_var (i := 6) rfl (by rfl)) sa_nil)) sk_nil))
  (sss_cons (ss_set (i := 8) rfl (by rfl) (se_and (se_isi isi_tuple (se_var (i := 7) rfl (by rfl)) (cls_ty (by rfl) n_tuple) (by rfl) n_isinstance) (se_one (se_cmp od_eq (se_bi bi_len (sa_cons (se_var (i := 7) rfl (by rfl)) sa_nil) (by rfl) n_len) (se_var (i := 3) rfl (by rfl)) (nomark _)))))
  (sss_cons (ss_if (sb_truth (se_var (i := 8) rfl (by rfl))) (sss_one (ss_set (i := 8) rfl (by rfl) (se_bi bi_all (sa_cons (se_lc (own := [(("one" : Str), 9), (("top" : Str), 10)]) (si_zip (by rfl) n_zip (se_var (i := 7) rfl (by rfl)) (se_var (i := 4) rfl (by rfl))) (by rfl) (sg_tup (n := 2) (sgs_cons (sg_name (i := 9) rfl (by rfl)) (sgs_cons (sg_name (i := 10) rfl (by rfl)) sgs_nil)) rfl) (by rfl) sts_nil (by exact (se_callC c__law_is_from (sa_cons (se_var (i := 9) rfl (by rfl)) (sa_cons se_int (sa_cons (se_var (i := 10) rfl (by rfl)) sa_nil))) sk_nil))) sa_nil) (by rfl) n_all))) sss_nil)
  (sss_one (ss_if (sb_not (sb_truth (se_callC c__law_like (sa_cons (se_callC c_is_row (sa_cons (se_var (i := 4) rfl (by rfl)) (sa_cons (se_var (i := 7) rfl (by rfl)) sa_nil)) sk_nil) (sa_cons (se_var (i := 8) rfl (by rfl)) sa_nil)) sk_nil))) (sss_one (ss_ret se_bl)) sss_nil))))))))))))))
  (sss_one (ss_ret se_bl))))
end K10
set_option Elab.async false
set_option linter.all false
set_option maxRecDepth 100000
set_option maxHeartbeats 4000000
namespace K10
open PySem PySem.Spec PyProof.Rows L2 HD
theorem sc_is_number : FnScope N_is_number ps_is_number (defScope s_is_number) := ⟨rfl, rfl, rfl, by decide +kernel, rfl, by decide +kernel, by decide +kernel⟩
theorem cal_is_number {P : Program} {w : World} {K : PySem.W.Frag} {mg : Str → Option Value} {base : Heap} {f : Addr} {fd : FuncData} (hF : FunD K "is_number" "is_number" (defArgs s_is_number) (defBody s_is_number) (defScope s_is_number) [] [] f fd) (hm : mg "is_number" = some (.ref f))
  (n_bool : mg "bool" = none)
  (n_int : mg "int" = none)
  (n_isinstance : mg "isinstance" = none) : CalD P w K mg base "is_number" 3 3 [] arr3 sp_is_number :=
  ⟨⟨f, fd, ps_is_number, fnD_of hF sc_is_number (d_is_number n_bool n_int n_isinstance) ok_is_number, bnd_b (hF.bindsN fun _ _ _ _ _ _ us hl => match us, hl with | [_, _, _], _ => rfl) rfl rfl, hF.kp, hm, rfl⟩⟩
theorem sc_is_standing : FnScope N_is_standing ps_is_standing (defScope s_is_standing) := ⟨rfl, rfl, rfl, by decide +kernel, rfl, by decide +kernel, by decide +kernel⟩
theorem cal_is_standing {P : Program} {w : World} {K : PySem.W.Frag} {mg : Str → Option Value} {base : Heap} {f : Addr} {fd : FuncData} (hF : FunD K "is_standing" "is_standing" (defArgs s_is_standing) (defBody s_is_standing) (defScope s_is_standing) [] [] f fd) (hm : mg "is_standing" = some (.ref f))
  (n_all : mg "all" = none)
  (n_isinstance : mg "isinstance" = none)
  (n_len : mg "len" = none)
  (n_tuple : mg "tuple" = none)
  (c_is_number : CalD P w K mg base "is_number" 3 3 [] arr3 (sp_is_number)) : CalD P w K mg base "is_standing" 5 2 [] arr2 sp_is_standing :=
  ⟨⟨f, fd, ps_is_standing, fnD_of hF sc_is_standing (d_is_standing n_all n_isinstance n_len n_tuple c_is_number) ok_is_standing, bnd_b (hF.bindsN fun _ _ _ _ _ _ us hl => match us, hl with | [_, _], _ => rfl) rfl rfl, hF.kp, hm, rfl⟩⟩
theorem sc_Room___init__ : FnScope N_Room___init__ ps_Room___init__ (defScope s_Room___init__) := ⟨rfl, rfl, rfl, by decide +kernel, rfl, by decide +kernel, by decide +kernel⟩
theorem make_Room {P : Program} {w : World} {K : PySem.W.Frag} {mg : Str → Option Value} {base : Heap} {f C : Addr} {fd : FuncData} (hF : FunD K "__init__" "Room.__init__" (defArgs s_Room___init__) (defBody s_Room___init__) (defScope s_Room___init__) [] [] f fd) (hC : mg "Room" = some (.ref C)) (hM : Mk K C f)
  (n_enumerate : mg "enumerate" = none)
  (n_isinstance : mg "isinstance" = none)
  (n_len : mg "len" = none)
  (n_str : mg "str" = none)
  (n_tuple : mg "tuple" = none)
  (g_CELLS : GlobD K mg "CELLS" (.int 40))
  (fl__bits : ∀ c ∈ [("Room" : Str)], ClsD K mg c ∧ NoA K mg c "_bits")
  (fl__text : ∀ c ∈ [("Room" : Str)], ClsD K mg c ∧ NoA K mg c "_text")
  (k__BITS : KdD w K mg "_BITS" tab__BITS no__BITS)
  (x_BadRoom : XcI P w K mg base "BadRoom" 1 xs_BadRoom 1) : MakeI P w K mg base "Room" 1 [] arr2 sp_Room___init__ 7 :=
  ⟨⟨C, f, fd, ps_Room___init__, hC, hM, fnD_of hF sc_Room___init__ (d_Room___init__ n_enumerate n_isinstance n_len n_str n_tuple g_CELLS fl__bits fl__text k__BITS x_BadRoom) ok_Room___init__, bnd_b (hF.bindsN fun _ _ _ _ _ _ us hl => match us, hl with | [_, _], _ => rfl) rfl rfl, rfl⟩⟩
theorem sc_Room_open_cells : FnScope N_Room_open_cells ps_Room_open_cells (defScope s_Room_open_cells) := ⟨rfl, rfl, rfl, by decide +kernel, rfl, by decide +kernel, by decide +kernel⟩
theorem meth_Room_open_cells {P : Program} {w : World} {K : PySem.W.Frag} {mg : Str → Option Value} {base : Heap} {f C : Addr} {fd : FuncData} (hF : FunD K "open_cells" "Room.open_cells" (defArgs s_Room_open_cells) (defBody s_Room_open_cells) (defScope s_Room_open_cells) [] [] f fd) (hC : mg "Room" = some (.ref C)) (cl : Cls K C) (hM : Meth K C "open_cells" f)
  (n_enumerate : mg "enumerate" = none)
  (fl__bits : ∀ c ∈ [("Room" : Str)], ClsD K mg c ∧ NoA K mg c "_bits") : MethI P w K mg base "open_cells" 0 [] "Room" arr1 sp_Room_open_cells 9 :=
  ⟨⟨C, f, fd, ps_Room_open_cells, hC, cl, hM, fnD_of hF sc_Room_open_cells (d_Room_open_cells n_enumerate fl__bits) ok_Room_open_cells, bnd_b (hF.bindsN fun _ _ _ _ _ _ us hl => match us, hl with | [_], _ => rfl) rfl rfl, rfl⟩⟩
theorem sc_Room_corners : GScope N_Room_corners ps_Room_corners (defScope s_Room_corners) := ⟨rfl, rfl, rfl, by decide +kernel, rfl, by decide +kernel, by decide +kernel⟩
theorem meth_Room_corners {P : Program} {w : World} {K : PySem.W.Frag} {mg : Str → Option Value} {base : Heap} {f C : Addr} {fd : FuncData} (hF : FunD K "corners" "Room.corners" (defArgs s_Room_corners) (defBody s_Room_corners) (defScope s_Room_corners) [] [] f fd) (hC : mg "Room" = some (.ref C)) (cl : Cls K C) (hM : Meth K C "corners" f)
  (n_enumerate : mg "enumerate" = none)
  (n_len : mg "len" = none)
  (n_list : mg "list" = none)
  (n_range : mg "range" = none)
  (n_tuple : mg "tuple" = none)
  (fl__bits : ∀ c ∈ [("Room" : Str)], ClsD K mg c ∧ NoA K mg c "_bits")
  (i_Room_open_cells : MethI P w K mg base "open_cells" 0 [] "Room" arr1 sp_Room_open_cells 9) : MethGI P w K mg base "corners" "Room" sp_Room_corners 11 :=
  ⟨⟨C, f, fd, ps_Room_corners, hC, cl, hM, gfnD_of hF sc_Room_corners (d_Room_corners n_enumerate n_len n_list n_range n_tuple fl__bits i_Room_open_cells) ok_Room_corners, (hF.bindsN fun _ _ _ _ _ _ us hl => match us, hl with | [_], _ => rfl), rfl⟩⟩
theorem sc_Room___contains__ : FnScope N_Room___contains__ ps_Room___contains__ (defScope s_Room___contains__) := ⟨rfl, rfl, rfl, by decide +kernel, rfl, by decide +kernel, by decide +kernel⟩
theorem meth_Room___contains__ {P : Program} {w : World} {K : PySem.W.Frag} {mg : Str → Option Value} {base : Heap} {f C : Addr} {fd : FuncData} (hF : FunD K "__contains__" "Room.__contains__" (defArgs s_Room___contains__) (defBody s_Room___contains__) (defScope s_Room___contains__) [] [] f fd) (hC : mg "Room" = some (.ref C)) (cl : Cls K C) (hM : Meth K C "__contains__" f)
  (n_all : mg "all" = none)
  (n_len : mg "len" = none)
  (n_zip : mg "zip" = none)
  (c_is_standing : CalD P w K mg base "is_standing" 5 2 [] arr2 (sp_is_standing))
  (fl__bits : ∀ c ∈ [("Room" : Str)], ClsD K mg c ∧ NoA K mg c "_bits") : MethI P w K mg base "__contains__" 1 [] "Room" arr2 sp_Room___contains__ 13 :=
  ⟨⟨C, f, fd, ps_Room___contains__, hC, cl, hM, fnD_of hF sc_Room___contains__ (d_Room___contains__ n_all n_len n_zip c_is_standing fl__bits) ok_Room___contains__, bnd_b (hF.bindsN fun _ _ _ _ _ _ us hl => match us, hl with | [_, _], _ => rfl) rfl rfl, rfl⟩⟩
theorem sc_Room___str__ : FnScope N_Room___str__ ps_Room___str__ (defScope s_Room___str__) := ⟨rfl, rfl, rfl, by decide +kernel, rfl, by decide +kernel, by decide +kernel⟩
theorem meth_Room___str__ {P : Program} {w : World} {K : PySem.W.Frag} {mg : Str → Option Value} {base : Heap} {f C : Addr} {fd : FuncData} (hF : FunD K "__str__" "Room.__str__" (defArgs s_Room___str__) (defBody s_Room___str__) (defScope s_Room___str__) [] [] f fd) (hC : mg "Room" = some (.ref C)) (cl : Cls K C) (hM : Meth K C "__str__" f)
  (n_str : mg "str" = none)
  (fl__text : ∀ c ∈ [("Room" : Str)], ClsD K mg c ∧ NoA K mg c "_text") : MethI P w K mg base "__str__" 0 [] "Room" arr1 sp_Room___str__ 15 :=
  ⟨⟨C, f, fd, ps_Room___str__, hC, cl, hM, fnD_of hF sc_Room___str__ (d_Room___str__ n_str fl__text) ok_Room___str__, bnd_b (hF.bindsN fun _ _ _ _ _ _ us hl => match us, hl with | [_], _ => rfl) rfl rfl, rfl⟩⟩
theorem sc_is_levels : FnScope N_is_levels ps_is_levels (defScope s_is_levels) := ⟨rfl, rfl, rfl, by decide +kernel, rfl, by decide +kernel, by decide +kernel⟩
theorem fn_is_levels {P : Program} {w : World} {K : PySem.W.Frag} {mg : Str → Option Value} {base : Heap} {f : Addr} {fd : FuncData} (hF : FunD K "is_levels" "is_levels" (defArgs s_is_levels) (defBody s_is_levels) (defScope s_is_levels) [] [("least", .int 1)] f fd)
  (n_all : mg "all" = none)
  (n_isinstance : mg "isinstance" = none)
  (n_len : mg "len" = none)
  (n_tuple : mg "tuple" = none)
  (g_LEVELS : GlobD K mg "LEVELS" (.int 6))
  (c_is_number : CalD P w K mg base "is_number" 3 3 [] arr3 (sp_is_number)) : FnD P w K mg base 17 f fd ps_is_levels sp_is_levels := fnD_of hF sc_is_levels (d_is_levels n_all n_isinstance n_len n_tuple g_LEVELS c_is_number) ok_is_levels
theorem bd_is_levels {K : PySem.W.Frag} {f : Addr} {fd : FuncData} (hF : FunD K "is_levels" "is_levels" (defArgs s_is_levels) (defBody s_is_levels) (defScope s_is_levels) [] [("least", .int 1)] f fd) : BnD K fd ps_is_levels 2 [] arrD := bnd_one (hF.binds0 2 (by simp) rfl fun _ _ _ _ _ _ us ks h1 h2 => match us, ks, h1, h2 with | [_, _], [_], _, _ => ⟨_, _, _, _, _, _, rfl, rfl, rfl⟩) rfl rfl (fun K mg S => by unfold Rep; rfl)
theorem bk_is_levels {K : PySem.W.Frag} {f : Addr} {fd : FuncData} (hF : FunD K "is_levels" "is_levels" (defArgs s_is_levels) (defBody s_is_levels) (defScope s_is_levels) [] [("least", .int 1)] f fd) : BnD K fd ps_is_levels 2 ["least"] arrK := by
  obtain ⟨oc, od, dV, kV, doc, pm, an, cdv, ct, osl, rfl, lk, hcd, hD, hK⟩ := hF.ex
  rcases hD with ⟨_, rfl⟩ | ⟨e, _⟩
  · exact bnd_kw1 (fun us u h => match us, h with | [_, _], _ => rfl) rfl
  · exact absurd rfl e
theorem cal_is_levels_d {P : Program} {w : World} {K : PySem.W.Frag} {mg : Str → Option Value} {base : Heap} {f : Addr} {fd : FuncData} (hF : FunD K "is_levels" "is_levels" (defArgs s_is_levels) (defBody s_is_levels) (defScope s_is_levels) [] [("least", .int 1)] f fd) (hm : mg "is_levels" = some (.ref f))
  (n_all : mg "all" = none)
  (n_isinstance : mg "isinstance" = none)
  (n_len : mg "len" = none)
  (n_tuple : mg "tuple" = none)
  (g_LEVELS : GlobD K mg "LEVELS" (.int 6))
  (c_is_number : CalD P w K mg base "is_number" 3 3 [] arr3 (sp_is_number)) : CalD P w K mg base "is_levels" 17 2 [] arrD sp_is_levels :=
  ⟨⟨f, fd, ps_is_levels, fn_is_levels hF n_all n_isinstance n_len n_tuple g_LEVELS c_is_number, bd_is_levels hF, hF.kp, hm, rfl⟩⟩
theorem cal_is_levels_k {P : Program} {w : World} {K : PySem.W.Frag} {mg : Str → Option Value} {base : Heap} {f : Addr} {fd : FuncData} (hF : FunD K "is_levels" "is_levels" (defArgs s_is_levels) (defBody s_is_levels) (defScope s_is_levels) [] [("least", .int 1)] f fd) (hm : mg "is_levels" = some (.ref f))
  (n_all : mg "all" = none)
  (n_isinstance : mg "isinstance" = none)
  (n_len : mg "len" = none)
  (n_tuple : mg "tuple" = none)
  (g_LEVELS : GlobD K mg "LEVELS" (.int 6))
  (c_is_number : CalD P w K mg base "is_number" 3 3 [] arr3 (sp_is_number)) : CalD P w K mg base "is_levels" 17 2 ["least"] arrK sp_is_levels :=
  ⟨⟨f, fd, ps_is_levels, fn_is_levels hF n_all n_isinstance n_len n_tuple g_LEVELS c_is_number, bk_is_levels hF, hF.kp, hm, rfl⟩⟩
theorem sc_check_levels : FnScope N_check_levels ps_check_levels (defScope s_check_levels) := ⟨rfl, rfl, rfl, by decide +kernel, rfl, by decide +kernel, by decide +kernel⟩
theorem fn_check_levels {P : Program} {w : World} {K : PySem.W.Frag} {mg : Str → Option Value} {base : Heap} {f : Addr} {fd : FuncData} (hF : FunD K "check_levels" "check_levels" (defArgs s_check_levels) (defBody s_check_levels) (defScope s_check_levels) [] [("least", .int 1)] f fd)
  (n_enumerate : mg "enumerate" = none)
  (n_isinstance : mg "isinstance" = none)
  (n_len : mg "len" = none)
  (n_tuple : mg "tuple" = none)
  (g_LEVELS : GlobD K mg "LEVELS" (.int 6))
  (c_is_number : CalD P w K mg base "is_number" 3 3 [] arr3 (sp_is_number))
  (x_BadLevels : XcI P w K mg base "BadLevels" 1 xs_BadLevels 1) : FnD P w K mg base 19 f fd ps_check_levels sp_check_levels := fnD_of hF sc_check_levels (d_check_levels n_enumerate n_isinstance n_len n_tuple g_LEVELS c_is_number x_BadLevels) ok_check_levels
theorem bd_check_levels {K : PySem.W.Frag} {f : Addr} {fd : FuncData} (hF : FunD K "check_levels" "check_levels" (defArgs s_check_levels) (defBody s_check_levels) (defScope s_check_levels) [] [("least", .int 1)] f fd) : BnD K fd ps_check_levels 2 [] arrD := bnd_one (hF.binds0 2 (by simp) rfl fun _ _ _ _ _ _ us ks h1 h2 => match us, ks, h1, h2 with | [_, _], [_], _, _ => ⟨_, _, _, _, _, _, rfl, rfl, rfl⟩) rfl rfl (fun K mg S => by unfold Rep; rfl)
theorem bk_check_levels {K : PySem.W.Frag} {f : Addr} {fd : FuncData} (hF : FunD K "check_levels" "check_levels" (defArgs s_check_levels) (defBody s_check_levels) (defScope s_check_levels) [] [("least", .int 1)] f fd) : BnD K fd ps_check_levels 2 ["least"] arrK := by
  obtain ⟨oc, od, dV, kV, doc, pm, an, cdv, ct, osl, rfl, lk, hcd, hD, hK⟩ := hF.ex
  rcases hD with ⟨_, rfl⟩ | ⟨e, _⟩
  · exact bnd_kw1 (fun us u h => match us, h with | [_, _], _ => rfl) rfl
  · exact absurd rfl e
theorem cal_check_levels_d {P : Program} {w : World} {K : PySem.W.Frag} {mg : Str → Option Value} {base : Heap} {f : Addr} {fd : FuncData} (hF : FunD K "check_levels" "check_levels" (defArgs s_check_levels) (defBody s_check_levels) (defScope s_check_levels) [] [("least", .int 1)] f fd) (hm : mg "check_levels" = some (.ref f))
  (n_enumerate : mg "enumerate" = none)
  (n_isinstance : mg "isinstance" = none)
  (n_len : mg "len" = none)
  (n_tuple : mg "tuple" = none)
  (g_LEVELS : GlobD K mg "LEVELS" (.int 6))
  (c_is_number : CalD P w K mg base "is_number" 3 3 [] arr3 (sp_is_number))
  (x_BadLevels : XcI P w K mg base "BadLevels" 1 xs_BadLevels 1) : CalD P w K mg base "check_levels" 19 2 [] arrD sp_check_levels :=
  ⟨⟨f, fd, ps_check_levels, fn_check_levels hF n_enumerate n_isinstance n_len n_tuple g_LEVELS c_is_number x_BadLevels, bd_check_levels hF, hF.kp, hm, rfl⟩⟩
theorem cal_check_levels_k {P : Program} {w : World} {K : PySem.W.Frag} {mg : Str → Option Value} {base : Heap} {f : Addr} {fd : FuncData} (hF : FunD K "check_levels" "check_levels" (defArgs s_check_levels) (defBody s_check_levels) (defScope s_check_levels) [] [("least", .int 1)] f fd) (hm : mg "check_levels" = some (.ref f))
  (n_enumerate : mg "enumerate" = none)
  (n_isinstance : mg "isinstance" = none)
  (n_len : mg "len" = none)
  (n_tuple : mg "tuple" = none)
  (g_LEVELS : GlobD K mg "LEVELS" (.int 6))
  (c_is_number : CalD P w K mg base "is_number" 3 3 [] arr3 (sp_is_number))
  (x_BadLevels : XcI P w K mg base "BadLevels" 1 xs_BadLevels 1) : CalD P w K mg base "check_levels" 19 2 ["least"] arrK sp_check_levels :=
  ⟨⟨f, fd, ps_check_levels, fn_check_levels hF n_enumerate n_isinstance n_len n_tuple g_LEVELS c_is_number x_BadLevels, bk_check_levels hF, hF.kp, hm, rfl⟩⟩
theorem sc_is_row : FnScope N_is_row ps_is_row (defScope s_is_row) := ⟨rfl, rfl, rfl, by decide +kernel, rfl, by decide +kernel, by decide +kernel⟩
theorem cal_is_row {P : Program} {w : World} {K : PySem.W.Frag} {mg : Str → Option Value} {base : Heap} {f : Addr} {fd : FuncData} (hF : FunD K "is_row" "is_row" (defArgs s_is_row) (defBody s_is_row) (defScope s_is_row) [] [] f fd) (hm : mg "is_row" = some (.ref f))
  (n_all : mg "all" = none)
  (n_isinstance : mg "isinstance" = none)
  (n_len : mg "len" = none)
  (n_tuple : mg "tuple" = none)
  (n_zip : mg "zip" = none)
  (c_is_number : CalD P w K mg base "is_number" 3 3 [] arr3 (sp_is_number)) : CalD P w K mg base "is_row" 21 2 [] arr2 sp_is_row :=
  ⟨⟨f, fd, ps_is_row, fnD_of hF sc_is_row (d_is_row n_all n_isinstance n_len n_tuple n_zip c_is_number) ok_is_row, bnd_b (hF.bindsN fun _ _ _ _ _ _ us hl => match us, hl with | [_, _], _ => rfl) rfl rfl, hF.kp, hm, rfl⟩⟩
theorem sc_sign_of : FnScope N_sign_of ps_sign_of (defScope s_sign_of) := ⟨rfl, rfl, rfl, by decide +kernel, rfl, by decide +kernel, by decide +kernel⟩
theorem cal_sign_of {P : Program} {w : World} {K : PySem.W.Frag} {mg : Str → Option Value} {base : Heap} {f : Addr} {fd : FuncData} (hF : FunD K "sign_of" "sign_of" (defArgs s_sign_of) (defBody s_sign_of) (defScope s_sign_of) [] [] f fd) (hm : mg "sign_of" = some (.ref f)) : CalD P w K mg base "sign_of" 23 2 [] arr2 sp_sign_of :=
  ⟨⟨f, fd, ps_sign_of, fnD_of hF sc_sign_of (d_sign_of ) ok_sign_of, bnd_b (hF.bindsN fun _ _ _ _ _ _ us hl => match us, hl with | [_, _], _ => rfl) rfl rfl, hF.kp, hm, rfl⟩⟩
theorem sc_stands_for : FnScope N_stands_for ps_stands_for (defScope s_stands_for) := ⟨rfl, rfl, rfl, by decide +kernel, rfl, by decide +kernel, by decide +kernel⟩
theorem cal_stands_for {P : Program} {w : World} {K : PySem.W.Frag} {mg : Str → Option Value} {base : Heap} {f : Addr} {fd : FuncData} (hF : FunD K "stands_for" "stands_for" (defArgs s_stands_for) (defBody s_stands_for) (defScope s_stands_for) [] [] f fd) (hm : mg "stands_for" = some (.ref f))
  (n_zip : mg "zip" = none)
  (c_sign_of : CalD P w K mg base "sign_of" 23 2 [] arr2 (sp_sign_of))
  (im_Room : MakeI P w K mg base "Room" 1 [] arr2 sp_Room___init__ 7) : CalD P w K mg base "stands_for" 25 2 [] arr2 sp_stands_for :=
  ⟨⟨f, fd, ps_stands_for, fnD_of hF sc_stands_for (d_stands_for n_zip c_sign_of im_Room) ok_stands_for, bnd_b (hF.bindsN fun _ _ _ _ _ _ us hl => match us, hl with | [_, _], _ => rfl) rfl rfl, hF.kp, hm, rfl⟩⟩
theorem sc_end_row : FnScope N_end_row ps_end_row (defScope s_end_row) := ⟨rfl, rfl, rfl, by decide +kernel, rfl, by decide +kernel, by decide +kernel⟩
theorem cal_end_row {P : Program} {w : World} {K : PySem.W.Frag} {mg : Str → Option Value} {base : Heap} {f : Addr} {fd : FuncData} (hF : FunD K "end_row" "end_row" (defArgs s_end_row) (defBody s_end_row) (defScope s_end_row) [] [] f fd) (hm : mg "end_row" = some (.ref f))
  (n_tuple : mg "tuple" = none)
  (n_zip : mg "zip" = none) : CalD P w K mg base "end_row" 27 2 [] arr2 sp_end_row :=
  ⟨⟨f, fd, ps_end_row, fnD_of hF sc_end_row (d_end_row n_tuple n_zip) ok_end_row, bnd_b (hF.bindsN fun _ _ _ _ _ _ us hl => match us, hl with | [_, _], _ => rfl) rfl rfl, hF.kp, hm, rfl⟩⟩
theorem sc_ended : FnScope N_ended ps_ended (defScope s_ended) := ⟨rfl, rfl, rfl, by decide +kernel, rfl, by decide +kernel, by decide +kernel⟩
theorem cal_ended {P : Program} {w : World} {K : PySem.W.Frag} {mg : Str → Option Value} {base : Heap} {f : Addr} {fd : FuncData} (hF : FunD K "ended" "ended" (defArgs s_ended) (defBody s_ended) (defScope s_ended) [] [] f fd) (hm : mg "ended" = some (.ref f))
  (n_any : mg "any" = none)
  (n_tuple : mg "tuple" = none)
  (n_zip : mg "zip" = none) : CalD P w K mg base "ended" 29 2 [] arr2 sp_ended :=
  ⟨⟨f, fd, ps_ended, fnD_of hF sc_ended (d_ended n_any n_tuple n_zip) ok_ended, bnd_b (hF.bindsN fun _ _ _ _ _ _ us hl => match us, hl with | [_, _], _ => rfl) rfl rfl, hF.kp, hm, rfl⟩⟩
theorem sc__law_bag : FnScope N__law_bag ps__law_bag (defScope s__law_bag) := ⟨rfl, rfl, rfl, by decide +kernel, rfl, by decide +kernel, by decide +kernel⟩
theorem cal__law_bag {P : Program} {w : World} {K : PySem.W.Frag} {mg : Str → Option Value} {base : Heap} {f : Addr} {fd : FuncData} (hF : FunD K "_law_bag" "_law_bag" (defArgs s__law_bag) (defBody s__law_bag) (defScope s__law_bag) [] [] f fd) (hm : mg "_law_bag" = some (.ref f))
  (n_int : mg "int" = none)
  (n_list : mg "list" = none) : CalD P w K mg base "_law_bag" 31 1 [] arr1 sp__law_bag :=
  ⟨⟨f, fd, ps__law_bag, fnD_of hF sc__law_bag (d__law_bag n_int n_list) ok__law_bag, bnd_b (hF.bindsN fun _ _ _ _ _ _ us hl => match us, hl with | [_], _ => rfl) rfl rfl, hF.kp, hm, rfl⟩⟩
theorem sc__law_draw : FnScope N__law_draw ps__law_draw (defScope s__law_draw) := ⟨rfl, rfl, rfl, by decide +kernel, rfl, by decide +kernel, by decide +kernel⟩
theorem cal__law_draw {P : Program} {w : World} {K : PySem.W.Frag} {mg : Str → Option Value} {base : Heap} {f : Addr} {fd : FuncData} (hF : FunD K "_law_draw" "_law_draw" (defArgs s__law_draw) (defBody s__law_draw) (defScope s__law_draw) [] [] f fd) (hm : mg "_law_draw" = some (.ref f))
  (n_int : mg "int" = none)
  (n_len : mg "len" = none) : CalD P w K mg base "_law_draw" 33 2 [] arr2 sp__law_draw :=
  ⟨⟨f, fd, ps__law_draw, fnD_of hF sc__law_draw (d__law_draw n_int n_len) ok__law_draw, bnd_b (hF.bindsN fun _ _ _ _ _ _ us hl => match us, hl with | [_, _], _ => rfl) rfl rfl, hF.kp, hm, rfl⟩⟩
theorem sc__law_of : FnScope N__law_of ps__law_of (defScope s__law_of) := ⟨rfl, rfl, rfl, by decide +kernel, rfl, by decide +kernel, by decide +kernel⟩
theorem cal__law_of {P : Program} {w : World} {K : PySem.W.Frag} {mg : Str → Option Value} {base : Heap} {f : Addr} {fd : FuncData} (hF : FunD K "_law_of" "_law_of" (defArgs s__law_of) (defBody s__law_of) (defScope s__law_of) [] [] f fd) (hm : mg "_law_of" = some (.ref f))
  (n_len : mg "len" = none)
  (c__law_draw : CalD P w K mg base "_law_draw" 33 2 [] arr2 (sp__law_draw)) : CalD P w K mg base "_law_of" 35 2 [] arr2 sp__law_of :=
  ⟨⟨f, fd, ps__law_of, fnD_of hF sc__law_of (d__law_of n_len c__law_draw) ok__law_of, bnd_b (hF.bindsN fun _ _ _ _ _ _ us hl => match us, hl with | [_, _], _ => rfl) rfl rfl, hF.kp, hm, rfl⟩⟩
theorem sc__law_like : FnScope N__law_like ps__law_like (defScope s__law_like) := ⟨rfl, rfl, rfl, by decide +kernel, rfl, by decide +kernel, by decide +kernel⟩
theorem like_0 {P : Program} {w : World} {K : PySem.W.Frag} {mg : Str → Option Value} {base : Heap} {f : Addr} {fd : FuncData} (hF : FunD K "_law_like" "_law_like" (defArgs s__law_like) (defBody s__law_like) (defScope s__law_like) [] [] f fd) : FnD P w K mg base 37 f fd ps__law_like (sp__law_like 0) :=
  hF.ok sc__law_like (fun vs H Q E h => h.1) fun cdv A outer s H vs Q E hr ⟨hl, S0, P0, cs, QD, ED, R, q, kq, ke⟩ => by
    obtain ⟨d, _, hd, _⟩ := q
    cases d <;> cases hd
theorem cal__law_like {P : Program} {w : World} {K : PySem.W.Frag} {mg : Str → Option Value} {base : Heap} {f : Addr} {fd : FuncData} (hF : FunD K "_law_like" "_law_like" (defArgs s__law_like) (defBody s__law_like) (defScope s__law_like) [] [] f fd) (hm : mg "_law_like" = some (.ref f))
  (n_all : mg "all" = none)
  (n_bool : mg "bool" = none)
  (n_int : mg "int" = none)
  (n_isinstance : mg "isinstance" = none)
  (n_len : mg "len" = none)
  (n_list : mg "list" = none)
  (n_str : mg "str" = none)
  (n_tuple : mg "tuple" = none)
  (n_zip : mg "zip" = none) : ∀ n, CalD P w K mg base "_law_like" (37 + n) 2 [] arr2 (sp__law_like n)
  | 0 => ⟨⟨f, fd, ps__law_like, like_0 hF, bnd_b (hF.bindsN fun _ _ _ _ _ _ us hl => match us, hl with | [_, _], _ => rfl) rfl rfl, hF.kp, hm, rfl⟩⟩
  | n + 1 => ⟨⟨f, fd, ps__law_like, fnD_of hF sc__law_like (d__law_like n_all n_bool n_int n_isinstance n_len n_list n_str n_tuple n_zip (cal__law_like hF hm n_all n_bool n_int n_isinstance n_len n_list n_str n_tuple n_zip n)) (ok__law_like n), bnd_b (hF.bindsN fun _ _ _ _ _ _ us hl => match us, hl with | [_, _], _ => rfl) rfl rfl, hF.kp, hm, rfl⟩⟩
theorem sc__law_is_from : FnScope N__law_is_from ps__law_is_from (defScope s__law_is_from) := ⟨rfl, rfl, rfl, by decide +kernel, rfl, by decide +kernel, by decide +kernel⟩
theorem cal__law_is_from {P : Program} {w : World} {K : PySem.W.Frag} {mg : Str → Option Value} {base : Heap} {f : Addr} {fd : FuncData} (hF : FunD K "_law_is_from" "_law_is_from" (defArgs s__law_is_from) (defBody s__law_is_from) (defScope s__law_is_from) [] [] f fd) (hm : mg "_law_is_from" = some (.ref f))
  (n_bool : mg "bool" = none)
  (n_int : mg "int" = none)
  (n_isinstance : mg "isinstance" = none) : CalD P w K mg base "_law_is_from" 49 3 [] arr3 sp__law_is_from :=
  ⟨⟨f, fd, ps__law_is_from, fnD_of hF sc__law_is_from (d__law_is_from n_bool n_int n_isinstance) ok__law_is_from, bnd_b (hF.bindsN fun _ _ _ _ _ _ us hl => match us, hl with | [_, _, _], _ => rfl) rfl rfl, hF.kp, hm, rfl⟩⟩
theorem sc__law_checked : FnScope N__law_checked ps__law_checked (defScope s__law_checked) := ⟨rfl, rfl, rfl, by decide +kernel, rfl, by decide +kernel, by decide +kernel⟩
theorem cal__law_checked {P : Program} {w : World} {K : PySem.W.Frag} {mg : Str → Option Value} {base : Heap} {f : Addr} {fd : FuncData} (hF : FunD K "_law_checked" "_law_checked" (defArgs s__law_checked) (defBody s__law_checked) (defScope s__law_checked) [] [] f fd) (hm : mg "_law_checked" = some (.ref f))
  (c_check_levels_d : CalD P w K mg base "check_levels" 19 2 [] arrD (sp_check_levels))
  (c_check_levels_k : CalD P w K mg base "check_levels" 19 2 ["least"] arrK (sp_check_levels))
  {cv_BadLevels : Value} (cat_BadLevels : CatI K mg "BadLevels" cv_BadLevels ["BadLevels"] (fun _ => true))
  (xf_BadLevels_cell : XfI K mg "BadLevels" "cell")
  (xf_BadLevels_code : XfI K mg "BadLevels" "code") : CalD P w K mg base "_law_checked" 51 4 [] arr4 sp__law_checked :=
  ⟨⟨f, fd, ps__law_checked, fnD_of hF sc__law_checked (d__law_checked c_check_levels_d c_check_levels_k cat_BadLevels xf_BadLevels_cell xf_BadLevels_code) ok__law_checked, bnd_b (hF.bindsN fun _ _ _ _ _ _ us hl => match us, hl with | [_, _, _, _], _ => rfl) rfl rfl, hF.kp, hm, rfl⟩⟩
theorem sc__law_bent : FnScope N__law_bent ps__law_bent (defScope s__law_bent) := ⟨rfl, rfl, rfl, by decide +kernel, rfl, by decide +kernel, by decide +kernel⟩
theorem cal__law_bent {P : Program} {w : World} {K : PySem.W.Frag} {mg : Str → Option Value} {base : Heap} {f : Addr} {fd : FuncData} (hF : FunD K "_law_bent" "_law_bent" (defArgs s__law_bent) (defBody s__law_bent) (defScope s__law_bent) [] [] f fd) (hm : mg "_law_bent" = some (.ref f))
  (n_len : mg "len" = none)
  (n_list : mg "list" = none)
  (n_range : mg "range" = none)
  (n_tuple : mg "tuple" = none)
  (c__law_draw : CalD P w K mg base "_law_draw" 33 2 [] arr2 (sp__law_draw))
  (c__law_of : CalD P w K mg base "_law_of" 35 2 [] arr2 (sp__law_of)) : CalD P w K mg base "_law_bent" 53 2 [] arr2 sp__law_bent :=
  ⟨⟨f, fd, ps__law_bent, fnD_of hF sc__law_bent (d__law_bent n_len n_list n_range n_tuple c__law_draw c__law_of) ok__law_bent, bnd_b (hF.bindsN fun _ _ _ _ _ _ us hl => match us, hl with | [_, _], _ => rfl) rfl rfl, hF.kp, hm, rfl⟩⟩
theorem sc__law_levels_looked : FnScope N__law_levels_looked ps__law_levels_looked (defScope s__law_levels_looked) := ⟨rfl, rfl, rfl, by decide +kernel, rfl, by decide +kernel, by decide +kernel⟩
theorem cal__law_levels_looked {P : Program} {w : World} {K : PySem.W.Frag} {mg : Str → Option Value} {base : Heap} {f : Addr} {fd : FuncData} (hF : FunD K "_law_levels_looked" "_law_levels_looked" (defArgs s__law_levels_looked) (defBody s__law_levels_looked) (defScope s__law_levels_looked) [] [] f fd) (hm : mg "_law_levels_looked" = some (.ref f))
  (n_isinstance : mg "isinstance" = none)
  (n_len : mg "len" = none)
  (n_range : mg "range" = none)
  (n_tuple : mg "tuple" = none)
  (c__law_bent : CalD P w K mg base "_law_bent" 53 2 [] arr2 (sp__law_bent))
  (c__law_checked : CalD P w K mg base "_law_checked" 51 4 [] arr4 (sp__law_checked))
  (c__law_draw : CalD P w K mg base "_law_draw" 33 2 [] arr2 (sp__law_draw))
  (c__law_is_from : CalD P w K mg base "_law_is_from" 49 3 [] arr3 (sp__law_is_from))
  (c__law_like : CalD P w K mg base "_law_like" 42 2 [] arr2 (sp__law_like 5))
  (c_is_levels_d : CalD P w K mg base "is_levels" 17 2 [] arrD (sp_is_levels))
  (c_is_levels_k : CalD P w K mg base "is_levels" 17 2 ["least"] arrK (sp_is_levels)) : CalD P w K mg base "_law_levels_looked" 55 2 [] arr2 sp__law_levels_looked :=
  ⟨⟨f, fd, ps__law_levels_looked, fnD_of hF sc__law_levels_looked (d__law_levels_looked n_isinstance n_len n_range n_tuple c__law_bent c__law_checked c__law_draw c__law_is_from c__law_like c_is_levels_d c_is_levels_k) ok__law_levels_looked, bnd_b (hF.bindsN fun _ _ _ _ _ _ us hl => match us, hl with | [_, _], _ => rfl) rfl rfl, hF.kp, hm, rfl⟩⟩
theorem sc__law_row : FnScope N__law_row ps__law_row (defScope s__law_row) := ⟨rfl, rfl, rfl, by decide +kernel, rfl, by decide +kernel, by decide +kernel⟩
theorem cal__law_row {P : Program} {w : World} {K : PySem.W.Frag} {mg : Str → Option Value} {base : Heap} {f : Addr} {fd : FuncData} (hF : FunD K "_law_row" "_law_row" (defArgs s__law_row) (defBody s__law_row) (defScope s__law_row) [] [] f fd) (hm : mg "_law_row" = some (.ref f))
  (n_tuple : mg "tuple" = none)
  (c__law_draw : CalD P w K mg base "_law_draw" 33 2 [] arr2 (sp__law_draw))
  (c__law_of : CalD P w K mg base "_law_of" 35 2 [] arr2 (sp__law_of)) : CalD P w K mg base "_law_row" 57 2 [] arr2 sp__law_row :=
  ⟨⟨f, fd, ps__law_row, fnD_of hF sc__law_row (d__law_row n_tuple c__law_draw c__law_of) ok__law_row, bnd_b (hF.bindsN fun _ _ _ _ _ _ us hl => match us, hl with | [_, _], _ => rfl) rfl rfl, hF.kp, hm, rfl⟩⟩
theorem sc__law_text : FnScope N__law_text ps__law_text (defScope s__law_text) := ⟨rfl, rfl, rfl, by decide +kernel, rfl, by decide +kernel, by decide +kernel⟩
theorem cal__law_text {P : Program} {w : World} {K : PySem.W.Frag} {mg : Str → Option Value} {base : Heap} {f : Addr} {fd : FuncData} (hF : FunD K "_law_text" "_law_text" (defArgs s__law_text) (defBody s__law_text) (defScope s__law_text) [] [] f fd) (hm : mg "_law_text" = some (.ref f))
  (n_zip : mg "zip" = none) : CalD P w K mg base "_law_text" 59 2 [] arr2 sp__law_text :=
  ⟨⟨f, fd, ps__law_text, fnD_of hF sc__law_text (d__law_text n_zip) ok__law_text, bnd_b (hF.bindsN fun _ _ _ _ _ _ us hl => match us, hl with | [_, _], _ => rfl) rfl rfl, hF.kp, hm, rfl⟩⟩
theorem sc__law_row_told : FnScope N__law_row_told ps__law_row_told (defScope s__law_row_told) := ⟨rfl, rfl, rfl, by decide +kernel, rfl, by decide +kernel, by decide +kernel⟩
theorem cal__law_row_told {P : Program} {w : World} {K : PySem.W.Frag} {mg : Str → Option Value} {base : Heap} {f : Addr} {fd : FuncData} (hF : FunD K "_law_row_told" "_law_row_told" (defArgs s__law_row_told) (defBody s__law_row_told) (defScope s__law_row_told) [] [] f fd) (hm : mg "_law_row_told" = some (.ref f))
  (n_all : mg "all" = none)
  (n_int : mg "int" = none)
  (n_list : mg "list" = none)
  (n_str : mg "str" = none)
  (n_tuple : mg "tuple" = none)
  (n_zip : mg "zip" = none)
  (c__law_draw : CalD P w K mg base "_law_draw" 33 2 [] arr2 (sp__law_draw))
  (c__law_like : CalD P w K mg base "_law_like" 42 2 [] arr2 (sp__law_like 5))
  (c__law_text : CalD P w K mg base "_law_text" 59 2 [] arr2 (sp__law_text))
  (c_end_row : CalD P w K mg base "end_row" 27 2 [] arr2 (sp_end_row))
  (c_ended : CalD P w K mg base "ended" 29 2 [] arr2 (sp_ended))
  (c_is_row : CalD P w K mg base "is_row" 21 2 [] arr2 (sp_is_row))
  (c_stands_for : CalD P w K mg base "stands_for" 25 2 [] arr2 (sp_stands_for))
  (i_Room___contains__ : MethI P w K mg base "__contains__" 1 [] "Room" arr2 sp_Room___contains__ 13)
  (i_Room___str__ : MethI P w K mg base "__str__" 0 [] "Room" arr1 sp_Room___str__ 15)
  (ig_Room_corners : MethGI P w K mg base "corners" "Room" sp_Room_corners 11) : CalD P w K mg base "_law_row_told" 61 3 [] arr3 sp__law_row_told :=
  ⟨⟨f, fd, ps__law_row_told, fnD_of hF sc__law_row_told (d__law_row_told n_all n_int n_list n_str n_tuple n_zip c__law_draw c__law_like c__law_text c_end_row c_ended c_is_row c_stands_for i_Room___contains__ i_Room___str__ ig_Room_corners) ok__law_row_told, bnd_b (hF.bindsN fun _ _ _ _ _ _ us hl => match us, hl with | [_, _, _], _ => rfl) rfl rfl, hF.kp, hm, rfl⟩⟩
theorem sc_law : FnScope N_law ps_law (defScope s_law) := ⟨rfl, rfl, rfl, by decide +kernel, rfl, by decide +kernel, by decide +kernel⟩
theorem fn_law {P : Program} {w : World} {K : PySem.W.Frag} {mg : Str → Option Value} {base : Heap} {f : Addr} {fd : FuncData} (hF : FunD K "law" "law" (defArgs s_law) (defBody s_law) (defScope s_law) [] [] f fd)
  (n_all : mg "all" = none)
  (n_isinstance : mg "isinstance" = none)
  (n_len : mg "len" = none)
  (n_range : mg "range" = none)
  (n_tuple : mg "tuple" = none)
  (n_zip : mg "zip" = none)
  (c__law_bag : CalD P w K mg base "_law_bag" 31 1 [] arr1 (sp__law_bag))
  (c__law_bent : CalD P w K mg base "_law_bent" 53 2 [] arr2 (sp__law_bent))
  (c__law_draw : CalD P w K mg base "_law_draw" 33 2 [] arr2 (sp__law_draw))
  (c__law_is_from : CalD P w K mg base "_law_is_from" 49 3 [] arr3 (sp__law_is_from))
  (c__law_levels_looked : CalD P w K mg base "_law_levels_looked" 55 2 [] arr2 (sp__law_levels_looked))
  (c__law_like : CalD P w K mg base "_law_like" 42 2 [] arr2 (sp__law_like 5))
  (c__law_of : CalD P w K mg base "_law_of" 35 2 [] arr2 (sp__law_of))
  (c__law_row : CalD P w K mg base "_law_row" 57 2 [] arr2 (sp__law_row))
  (c__law_row_told : CalD P w K mg base "_law_row_told" 61 3 [] arr3 (sp__law_row_told))
  (c_is_row : CalD P w K mg base "is_row" 21 2 [] arr2 (sp_is_row)) : FnD P w K mg base 63 f fd ps_law sp_law := fnD_of hF sc_law (d_law n_all n_isinstance n_len n_range n_tuple n_zip c__law_bag c__law_bent c__law_draw c__law_is_from c__law_levels_looked c__law_like c__law_of c__law_row c__law_row_told c_is_row) ok_law
end K10
set_option Elab.async false
set_option linter.all false
set_option maxRecDepth 100000
set_option maxHeartbeats 8000000
namespace K10
open PySem PySem.Spec PyProof.Rows L2 HD
theorem exm_self {K : PySem.W.Frag} {S : Addr} (h1 : PySem.W.subIn K (.ref S) (.type "BaseException") = some true) (h2 : PySem.W.isClsIn K S = true) (h3 : PySem.W.typeIn K (.ref S) = some (.type "type")) (h4 : PySem.W.subIn K (.ref S) (.ref S) = some true) :
    PySem.W.exmOne K (.ref S) (.ref S) = some true := by
  have e1 : (PySem.W.subIn K (.ref S) (.type "BaseException") == some true) = true := by rw [h1] <;> rfl
  have e2 : ((PySem.W.clsIn K S).isSome && PySem.W.typeIn K (.ref S) == some (.type "type")) = true := by
    have h2' : (PySem.W.clsIn K S).isSome = true := h2
    rw [h2', h3] <;> rfl
  show (if (PySem.W.subIn K (.ref S) (.type "BaseException") == some true) = true then (if ((PySem.W.clsIn K S).isSome && PySem.W.typeIn K (.ref S) == some (.type "type")) = true then PySem.W.subIn K (.ref S) (.ref S) else none) else none) = some true
  rw [if_pos e1, if_pos e2]
  exact h4
abbrev s_BadRoom : Stmt := inClass (top 3) 0
theorem xc_BadRoom {P : Program} {w : World} {K : PySem.W.Frag} {mg : Str → Option Value} {base : Heap} {f C : Addr} {fd : FuncData} (hF : FunD K "__init__" "BadRoom.__init__" (defArgs s_BadRoom) (defBody s_BadRoom) (defScope s_BadRoom) [] [] f fd) (hC : mg "BadRoom" = some (.ref C)) (O : OexC K C) (hi : PySem.W.findIn K (.ref C) "__init__" = some (some (.ref f))) (ht : PySem.W.typeIn K (.ref f) = some (.type "function")) (n0 : PySem.W.findIn K (.ref C) "at" = some none) (n1 : PySem.W.findIn K (.ref C) "code" = some none) : XcI P w K mg base "BadRoom" 1 xs_BadRoom 1 :=
  ⟨⟨C, f, fd, ["self", "at"], hC, O, hi, ht, fnX_of (N := ["self", "at"]) hF ⟨rfl, rfl, rfl, by decide +kernel, rfl, by decide +kernel, by decide +kernel⟩ O (xb_par (i := 1) rfl (by rfl) rfl (by rfl) (xb_str rfl (by rfl) .nil)) rfl (by simp [xs_BadRoom]) (fun p hp => by
    rcases List.mem_cons.mp hp with rfl | hp
    · exact ⟨n0, by decide, by decide⟩
    · rw [List.mem_singleton.mp hp]; exact ⟨n1, fun K mg S => by unfold Rep; rfl⟩) (by decide), hF.bindsN fun _ _ _ _ _ _ us hl => match us, hl with | [_, _], _ => rfl⟩, fun p hp => by
    rcases List.mem_cons.mp hp with rfl | hp
    · exact ⟨by decide, by decide⟩
    · rw [List.mem_singleton.mp hp]; exact fun K mg S => by unfold Rep; rfl⟩
abbrev s_BadLevels : Stmt := inClass (top 4) 0
theorem xc_BadLevels {P : Program} {w : World} {K : PySem.W.Frag} {mg : Str → Option Value} {base : Heap} {f C : Addr} {fd : FuncData} (hF : FunD K "__init__" "BadLevels.__init__" (defArgs s_BadLevels) (defBody s_BadLevels) (defScope s_BadLevels) [] [] f fd) (hC : mg "BadLevels" = some (.ref C)) (O : OexC K C) (hi : PySem.W.findIn K (.ref C) "__init__" = some (some (.ref f))) (ht : PySem.W.typeIn K (.ref f) = some (.type "function")) (n0 : PySem.W.findIn K (.ref C) "cell" = some none) (n1 : PySem.W.findIn K (.ref C) "code" = some none) : XcI P w K mg base "BadLevels" 1 xs_BadLevels 1 :=
  ⟨⟨C, f, fd, ["self", "cell"], hC, O, hi, ht, fnX_of (N := ["self", "cell"]) hF ⟨rfl, rfl, rfl, by decide +kernel, rfl, by decide +kernel, by decide +kernel⟩ O (xb_par (i := 1) rfl (by rfl) rfl (by rfl) (xb_str rfl (by rfl) .nil)) rfl (by simp [xs_BadLevels]) (fun p hp => by
    rcases List.mem_cons.mp hp with rfl | hp
    · exact ⟨n0, by decide, by decide⟩
    · rw [List.mem_singleton.mp hp]; exact ⟨n1, fun K mg S => by unfold Rep; rfl⟩) (by decide), hF.bindsN fun _ _ _ _ _ _ us hl => match us, hl with | [_, _], _ => rfl⟩, fun p hp => by
    rcases List.mem_cons.mp hp with rfl | hp
    · exact ⟨by decide, by decide⟩
    · rw [List.mem_singleton.mp hp]; exact fun K mg S => by unfold Rep; rfl⟩
theorem all_mk {P : Program} {w : World} {K : PySem.W.Frag} {h : Heap} {mg : Str → Option Value} {fa : Addr} (X : K.In h) (G : h.Ns mainGlobals mg) (hfa : mg "law" = some (.ref fa))
    {tk_CELLS : Tok}
    {tk_LEVELS : Tok}
    {dB : Addr} {eB : Array DictEntry} {nB : Nat} {tb0 tb1 : Tok}
    {C_BadRoom N_BadRoom : Addr} {nm_BadRoom q_BadRoom : Str} {bs_BadRoom bm_BadRoom sub_BadRoom : List Value} {sn_BadRoom : List Str} {ab_BadRoom : Bool} {col_BadRoom : Option Bool} {dd_BadRoom : Option Addr} {m0_BadRoom m1_BadRoom m2_BadRoom m3_BadRoom m5_BadRoom : Option Value}
    {f_BadRoom : Addr} {oc_BadRoom kV_BadRoom doc_BadRoom pm_BadRoom cdv_BadRoom ct_BadRoom : Value} {od_BadRoom an_BadRoom : Option Addr} {sl_BadRoom : Array (Option Value)}
    {C_BadLevels N_BadLevels : Addr} {nm_BadLevels q_BadLevels : Str} {bs_BadLevels bm_BadLevels sub_BadLevels : List Value} {sn_BadLevels : List Str} {ab_BadLevels : Bool} {col_BadLevels : Option Bool} {dd_BadLevels : Option Addr} {m0_BadLevels m1_BadLevels m2_BadLevels m3_BadLevels m5_BadLevels : Option Value}
    {f_BadLevels : Addr} {oc_BadLevels kV_BadLevels doc_BadLevels pm_BadLevels cdv_BadLevels ct_BadLevels : Value} {od_BadLevels an_BadLevels : Option Addr} {sl_BadLevels : Array (Option Value)}
    {C : Addr}
    {f_is_number : Addr} {oc_is_number kV_is_number doc_is_number pm_is_number cdv_is_number ct_is_number : Value} {od_is_number an_is_number : Option Addr} {sl_is_number : Array (Option Value)}
    {f_is_standing : Addr} {oc_is_standing kV_is_standing doc_is_standing pm_is_standing cdv_is_standing ct_is_standing : Value} {od_is_standing an_is_standing : Option Addr} {sl_is_standing : Array (Option Value)}
    {f_Room___init__ : Addr} {oc_Room___init__ kV_Room___init__ doc_Room___init__ pm_Room___init__ cdv_Room___init__ ct_Room___init__ : Value} {od_Room___init__ an_Room___init__ : Option Addr} {sl_Room___init__ : Array (Option Value)}
    {f_Room_open_cells : Addr} {oc_Room_open_cells kV_Room_open_cells doc_Room_open_cells pm_Room_open_cells cdv_Room_open_cells ct_Room_open_cells : Value} {od_Room_open_cells an_Room_open_cells : Option Addr} {sl_Room_open_cells : Array (Option Value)}
    {f_Room_corners : Addr} {oc_Room_corners kV_Room_corners doc_Room_corners pm_Room_corners cdv_Room_corners ct_Room_corners : Value} {od_Room_corners an_Room_corners : Option Addr} {sl_Room_corners : Array (Option Value)}
    {f_Room___contains__ : Addr} {oc_Room___contains__ kV_Room___contains__ doc_Room___contains__ pm_Room___contains__ cdv_Room___contains__ ct_Room___contains__ : Value} {od_Room___contains__ an_Room___contains__ : Option Addr} {sl_Room___contains__ : Array (Option Value)}
    {f_Room___str__ : Addr} {oc_Room___str__ kV_Room___str__ doc_Room___str__ pm_Room___str__ cdv_Room___str__ ct_Room___str__ : Value} {od_Room___str__ an_Room___str__ : Option Addr} {sl_Room___str__ : Array (Option Value)}
    {f_is_levels : Addr} {oc_is_levels doc_is_levels pm_is_levels cdv_is_levels ct_is_levels : Value} {od_is_levels an_is_levels : Option Addr} {sl_is_levels : Array (Option Value)}
    {D_is_levels : Addr} {tk_is_levels : Tok}
    {f_check_levels : Addr} {oc_check_levels doc_check_levels pm_check_levels cdv_check_levels ct_check_levels : Value} {od_check_levels an_check_levels : Option Addr} {sl_check_levels : Array (Option Value)}
    {D_check_levels : Addr} {tk_check_levels : Tok}
    {f_is_row : Addr} {oc_is_row kV_is_row doc_is_row pm_is_row cdv_is_row ct_is_row : Value} {od_is_row an_is_row : Option Addr} {sl_is_row : Array (Option Value)}
    {f_sign_of : Addr} {oc_sign_of kV_sign_of doc_sign_of pm_sign_of cdv_sign_of ct_sign_of : Value} {od_sign_of an_sign_of : Option Addr} {sl_sign_of : Array (Option Value)}
    {f_stands_for : Addr} {oc_stands_for kV_stands_for doc_stands_for pm_stands_for cdv_stands_for ct_stands_for : Value} {od_stands_for an_stands_for : Option Addr} {sl_stands_for : Array (Option Value)}
    {f_end_row : Addr} {oc_end_row kV_end_row doc_end_row pm_end_row cdv_end_row ct_end_row : Value} {od_end_row an_end_row : Option Addr} {sl_end_row : Array (Option Value)}
    {f_ended : Addr} {oc_ended kV_ended doc_ended pm_ended cdv_ended ct_ended : Value} {od_ended an_ended : Option Addr} {sl_ended : Array (Option Value)}
    {f__law_bag : Addr} {oc__law_bag kV__law_bag doc__law_bag pm__law_bag cdv__law_bag ct__law_bag : Value} {od__law_bag an__law_bag : Option Addr} {sl__law_bag : Array (Option Value)}
    {f__law_draw : Addr} {oc__law_draw kV__law_draw doc__law_draw pm__law_draw cdv__law_draw ct__law_draw : Value} {od__law_draw an__law_draw : Option Addr} {sl__law_draw : Array (Option Value)}
    {f__law_of : Addr} {oc__law_of kV__law_of doc__law_of pm__law_of cdv__law_of ct__law_of : Value} {od__law_of an__law_of : Option Addr} {sl__law_of : Array (Option Value)}
    {f__law_like : Addr} {oc__law_like kV__law_like doc__law_like pm__law_like cdv__law_like ct__law_like : Value} {od__law_like an__law_like : Option Addr} {sl__law_like : Array (Option Value)}
    {f__law_is_from : Addr} {oc__law_is_from kV__law_is_from doc__law_is_from pm__law_is_from cdv__law_is_from ct__law_is_from : Value} {od__law_is_from an__law_is_from : Option Addr} {sl__law_is_from : Array (Option Value)}
    {f__law_checked : Addr} {oc__law_checked kV__law_checked doc__law_checked pm__law_checked cdv__law_checked ct__law_checked : Value} {od__law_checked an__law_checked : Option Addr} {sl__law_checked : Array (Option Value)}
    {f__law_bent : Addr} {oc__law_bent kV__law_bent doc__law_bent pm__law_bent cdv__law_bent ct__law_bent : Value} {od__law_bent an__law_bent : Option Addr} {sl__law_bent : Array (Option Value)}
    {f__law_levels_looked : Addr} {oc__law_levels_looked kV__law_levels_looked doc__law_levels_looked pm__law_levels_looked cdv__law_levels_looked ct__law_levels_looked : Value} {od__law_levels_looked an__law_levels_looked : Option Addr} {sl__law_levels_looked : Array (Option Value)}
    {f__law_row : Addr} {oc__law_row kV__law_row doc__law_row pm__law_row cdv__law_row ct__law_row : Value} {od__law_row an__law_row : Option Addr} {sl__law_row : Array (Option Value)}
    {f__law_text : Addr} {oc__law_text kV__law_text doc__law_text pm__law_text cdv__law_text ct__law_text : Value} {od__law_text an__law_text : Option Addr} {sl__law_text : Array (Option Value)}
    {f__law_row_told : Addr} {oc__law_row_told kV__law_row_told doc__law_row_told pm__law_row_told cdv__law_row_told ct__law_row_told : Value} {od__law_row_told an__law_row_told : Option Addr} {sl__law_row_told : Array (Option Value)}
    {f_law : Addr} {oc_law kV_law doc_law pm_law cdv_law ct_law : Value} {od_law an_law : Option Addr} {sl_law : Array (Option Value)}
    (n_all : PySem.W.nsIn K mainGlobals "all" = some none)
    (n_any : PySem.W.nsIn K mainGlobals "any" = some none)
    (n_bool : PySem.W.nsIn K mainGlobals "bool" = some none)
    (n_enumerate : PySem.W.nsIn K mainGlobals "enumerate" = some none)
    (n_int : PySem.W.nsIn K mainGlobals "int" = some none)
    (n_isinstance : PySem.W.nsIn K mainGlobals "isinstance" = some none)
    (n_len : PySem.W.nsIn K mainGlobals "len" = some none)
    (n_list : PySem.W.nsIn K mainGlobals "list" = some none)
    (n_range : PySem.W.nsIn K mainGlobals "range" = some none)
    (n_str : PySem.W.nsIn K mainGlobals "str" = some none)
    (n_tuple : PySem.W.nsIn K mainGlobals "tuple" = some none)
    (n_zip : PySem.W.nsIn K mainGlobals "zip" = some none)
    (g_CELLS : PySem.W.nsIn K mainGlobals "CELLS" = some (some (.int 40 tk_CELLS)))
    (g_LEVELS : PySem.W.nsIn K mainGlobals "LEVELS" = some (some (.int 6 tk_LEVELS)))
    (aB : PySem.W.nsIn K mainGlobals "_BITS" = some (some (.ref dB)))
    (lB : K.lookup dB = some ⟨.type "dict", none, .dict eB nB, #[]⟩)
    (tB : PySem.W.KeysLit w.params eB.toList)
    (sB : (dB == sysModules) = false)
    (b0 : PySem.W.nsIn K dB "0" = some (some (.int 0 tb0)))
    (b1 : PySem.W.nsIn K dB "1" = some (some (.int 1 tb1)))
    (b2 : PySem.W.nsIn K dB "*" = some (some .none))
    (a_BadRoom : PySem.W.nsIn K mainGlobals "BadRoom" = some (some (.ref C_BadRoom)))
    (x_BadRoom : K.lookup C_BadRoom = some (excClassObj nm_BadRoom q_BadRoom C_BadRoom N_BadRoom bs_BadRoom bm_BadRoom true sn_BadRoom sub_BadRoom ab_BadRoom col_BadRoom dd_BadRoom m0_BadRoom m1_BadRoom m2_BadRoom m3_BadRoom m5_BadRoom "ValueError.__new__"))
    (r_BadRoom : PySem.HandSPX.refsVE bm_BadRoom = true)
    (sx_BadRoom : PySem.W.findIn K (.ref C_BadRoom) "__setattr__" = some (some (.builtin "object.__setattr__")))
    (e_BadRoom : PySem.W.subIn K (.ref C_BadRoom) (.type "BaseException") = some true)
    (t_BadRoom : PySem.W.typeIn K (.ref C_BadRoom) = some (.type "type"))
    (kC_BadRoom : PySem.W.keepIn K (.ref C_BadRoom) = true)
    (i_BadRoom : PySem.W.findIn K (.ref C_BadRoom) "__init__" = some (some (.ref f_BadRoom)))
    (tf_BadRoom : PySem.W.typeIn K (.ref f_BadRoom) = some (.type "function"))
    (no_BadRoom_at : PySem.W.findIn K (.ref C_BadRoom) "at" = some none)
    (no_BadRoom_code : PySem.W.findIn K (.ref C_BadRoom) "code" = some none)
    (l_BadRoom : K.lookup f_BadRoom = some ⟨oc_BadRoom, od_BadRoom, .func (PySem.W.fnOf "__init__" "BadRoom.__init__" (defArgs s_BadRoom) (defBody s_BadRoom) (defScope s_BadRoom) .none kV_BadRoom doc_BadRoom pm_BadRoom an_BadRoom cdv_BadRoom ct_BadRoom), sl_BadRoom⟩)
    (c_BadRoom : PySem.W.codeIn K cdv_BadRoom "BadRoom.__init__" = true)
    (k_BadRoom : PySem.W.keepIn K (.ref f_BadRoom) = true)
    (a_BadLevels : PySem.W.nsIn K mainGlobals "BadLevels" = some (some (.ref C_BadLevels)))
    (x_BadLevels : K.lookup C_BadLevels = some (excClassObj nm_BadLevels q_BadLevels C_BadLevels N_BadLevels bs_BadLevels bm_BadLevels true sn_BadLevels sub_BadLevels ab_BadLevels col_BadLevels dd_BadLevels m0_BadLevels m1_BadLevels m2_BadLevels m3_BadLevels m5_BadLevels "ValueError.__new__"))
    (r_BadLevels : PySem.HandSPX.refsVE bm_BadLevels = true)
    (sx_BadLevels : PySem.W.findIn K (.ref C_BadLevels) "__setattr__" = some (some (.builtin "object.__setattr__")))
    (e_BadLevels : PySem.W.subIn K (.ref C_BadLevels) (.type "BaseException") = some true)
    (t_BadLevels : PySem.W.typeIn K (.ref C_BadLevels) = some (.type "type"))
    (kC_BadLevels : PySem.W.keepIn K (.ref C_BadLevels) = true)
    (i_BadLevels : PySem.W.findIn K (.ref C_BadLevels) "__init__" = some (some (.ref f_BadLevels)))
    (tf_BadLevels : PySem.W.typeIn K (.ref f_BadLevels) = some (.type "function"))
    (no_BadLevels_cell : PySem.W.findIn K (.ref C_BadLevels) "cell" = some none)
    (no_BadLevels_code : PySem.W.findIn K (.ref C_BadLevels) "code" = some none)
    (l_BadLevels : K.lookup f_BadLevels = some ⟨oc_BadLevels, od_BadLevels, .func (PySem.W.fnOf "__init__" "BadLevels.__init__" (defArgs s_BadLevels) (defBody s_BadLevels) (defScope s_BadLevels) .none kV_BadLevels doc_BadLevels pm_BadLevels an_BadLevels cdv_BadLevels ct_BadLevels), sl_BadLevels⟩)
    (c_BadLevels : PySem.W.codeIn K cdv_BadLevels "BadLevels.__init__" = true)
    (k_BadLevels : PySem.W.keepIn K (.ref f_BadLevels) = true)
    (ga_BadLevels : PySem.W.findIn K (.ref C_BadLevels) "__getattribute__" = some (some (.builtin "BaseException.__getattribute__")))
    (gg_BadLevels : PySem.W.findIn K (.ref C_BadLevels) "__getattr__" = some none)
    (hd_BadLevels : PySem.W.hasDictIn K C_BadLevels = true)
    (ic_BadLevels : PySem.W.isClsIn K C_BadLevels = true)
    (sc_BadLevels : PySem.W.subIn K (.ref C_BadLevels) (.ref C_BadLevels) = some true)
    (aC : PySem.W.nsIn K mainGlobals "Room" = some (some (.ref C)))
    (pg : PySem.W.plainGet K C Str.empty = true)
    (hd : PySem.W.hasDictIn K C = true)
    (po : PySem.W.plainOver K C = true)
    (sa : PySem.W.findIn K (.ref C) "__setattr__" = some (some (.builtin "object.__setattr__")))
    (mk : PySem.W.makesIn K C = true)
    (kc : PySem.W.keepIn K (.ref C) = true)
    (nf_text : PySem.W.findIn K (.ref C) "_text" = some none)
    (nf_bits : PySem.W.findIn K (.ref C) "_bits" = some none)
    (a_is_number : PySem.W.nsIn K mainGlobals "is_number" = some (some (.ref f_is_number)))
    (l_is_number : K.lookup f_is_number = some ⟨oc_is_number, od_is_number, .func (PySem.W.fnOf "is_number" "is_number" (defArgs s_is_number) (defBody s_is_number) (defScope s_is_number) .none kV_is_number doc_is_number pm_is_number an_is_number cdv_is_number ct_is_number), sl_is_number⟩)
    (c_is_number : PySem.W.codeIn K cdv_is_number "is_number" = true)
    (k_is_number : PySem.W.keepIn K (.ref f_is_number) = true)
    (a_is_standing : PySem.W.nsIn K mainGlobals "is_standing" = some (some (.ref f_is_standing)))
    (l_is_standing : K.lookup f_is_standing = some ⟨oc_is_standing, od_is_standing, .func (PySem.W.fnOf "is_standing" "is_standing" (defArgs s_is_standing) (defBody s_is_standing) (defScope s_is_standing) .none kV_is_standing doc_is_standing pm_is_standing an_is_standing cdv_is_standing ct_is_standing), sl_is_standing⟩)
    (c_is_standing : PySem.W.codeIn K cdv_is_standing "is_standing" = true)
    (k_is_standing : PySem.W.keepIn K (.ref f_is_standing) = true)
    (a_Room___init__ : PySem.W.findIn K (.ref C) "__init__" = some (some (.ref f_Room___init__)))
    (i_Room___init__ : PySem.W.isFn K (.ref f_Room___init__) = true)
    (l_Room___init__ : K.lookup f_Room___init__ = some ⟨oc_Room___init__, od_Room___init__, .func (PySem.W.fnOf "__init__" "Room.__init__" (defArgs s_Room___init__) (defBody s_Room___init__) (defScope s_Room___init__) .none kV_Room___init__ doc_Room___init__ pm_Room___init__ an_Room___init__ cdv_Room___init__ ct_Room___init__), sl_Room___init__⟩)
    (c_Room___init__ : PySem.W.codeIn K cdv_Room___init__ "Room.__init__" = true)
    (k_Room___init__ : PySem.W.keepIn K (.ref f_Room___init__) = true)
    (a_Room_open_cells : PySem.W.findIn K (.ref C) "open_cells" = some (some (.ref f_Room_open_cells)))
    (i_Room_open_cells : PySem.W.isFn K (.ref f_Room_open_cells) = true)
    (l_Room_open_cells : K.lookup f_Room_open_cells = some ⟨oc_Room_open_cells, od_Room_open_cells, .func (PySem.W.fnOf "open_cells" "Room.open_cells" (defArgs s_Room_open_cells) (defBody s_Room_open_cells) (defScope s_Room_open_cells) .none kV_Room_open_cells doc_Room_open_cells pm_Room_open_cells an_Room_open_cells cdv_Room_open_cells ct_Room_open_cells), sl_Room_open_cells⟩)
    (c_Room_open_cells : PySem.W.codeIn K cdv_Room_open_cells "Room.open_cells" = true)
    (k_Room_open_cells : PySem.W.keepIn K (.ref f_Room_open_cells) = true)
    (a_Room_corners : PySem.W.findIn K (.ref C) "corners" = some (some (.ref f_Room_corners)))
    (i_Room_corners : PySem.W.isFn K (.ref f_Room_corners) = true)
    (l_Room_corners : K.lookup f_Room_corners = some ⟨oc_Room_corners, od_Room_corners, .func (PySem.W.fnOf "corners" "Room.corners" (defArgs s_Room_corners) (defBody s_Room_corners) (defScope s_Room_corners) .none kV_Room_corners doc_Room_corners pm_Room_corners an_Room_corners cdv_Room_corners ct_Room_corners), sl_Room_corners⟩)
    (c_Room_corners : PySem.W.codeIn K cdv_Room_corners "Room.corners" = true)
    (k_Room_corners : PySem.W.keepIn K (.ref f_Room_corners) = true)
    (a_Room___contains__ : PySem.W.findIn K (.ref C) "__contains__" = some (some (.ref f_Room___contains__)))
    (i_Room___contains__ : PySem.W.isFn K (.ref f_Room___contains__) = true)
    (l_Room___contains__ : K.lookup f_Room___contains__ = some ⟨oc_Room___contains__, od_Room___contains__, .func (PySem.W.fnOf "__contains__" "Room.__contains__" (defArgs s_Room___contains__) (defBody s_Room___contains__) (defScope s_Room___contains__) .none kV_Room___contains__ doc_Room___contains__ pm_Room___contains__ an_Room___contains__ cdv_Room___contains__ ct_Room___contains__), sl_Room___contains__⟩)
    (c_Room___contains__ : PySem.W.codeIn K cdv_Room___contains__ "Room.__contains__" = true)
    (k_Room___contains__ : PySem.W.keepIn K (.ref f_Room___contains__) = true)
    (a_Room___str__ : PySem.W.findIn K (.ref C) "__str__" = some (some (.ref f_Room___str__)))
    (i_Room___str__ : PySem.W.isFn K (.ref f_Room___str__) = true)
    (l_Room___str__ : K.lookup f_Room___str__ = some ⟨oc_Room___str__, od_Room___str__, .func (PySem.W.fnOf "__str__" "Room.__str__" (defArgs s_Room___str__) (defBody s_Room___str__) (defScope s_Room___str__) .none kV_Room___str__ doc_Room___str__ pm_Room___str__ an_Room___str__ cdv_Room___str__ ct_Room___str__), sl_Room___str__⟩)
    (c_Room___str__ : PySem.W.codeIn K cdv_Room___str__ "Room.__str__" = true)
    (k_Room___str__ : PySem.W.keepIn K (.ref f_Room___str__) = true)
    (a_is_levels : PySem.W.nsIn K mainGlobals "is_levels" = some (some (.ref f_is_levels)))
    (l_is_levels : K.lookup f_is_levels = some ⟨oc_is_levels, od_is_levels, .func (PySem.W.fnOf "is_levels" "is_levels" (defArgs s_is_levels) (defBody s_is_levels) (defScope s_is_levels) .none (.ref D_is_levels) doc_is_levels pm_is_levels an_is_levels cdv_is_levels ct_is_levels), sl_is_levels⟩)
    (c_is_levels : PySem.W.codeIn K cdv_is_levels "is_levels" = true)
    (k_is_levels : PySem.W.keepIn K (.ref f_is_levels) = true)
    (y_is_levels : PySem.W.nsIn K D_is_levels "least" = some (some (.int 1 tk_is_levels)))
    (a_check_levels : PySem.W.nsIn K mainGlobals "check_levels" = some (some (.ref f_check_levels)))
    (l_check_levels : K.lookup f_check_levels = some ⟨oc_check_levels, od_check_levels, .func (PySem.W.fnOf "check_levels" "check_levels" (defArgs s_check_levels) (defBody s_check_levels) (defScope s_check_levels) .none (.ref D_check_levels) doc_check_levels pm_check_levels an_check_levels cdv_check_levels ct_check_levels), sl_check_levels⟩)
    (c_check_levels : PySem.W.codeIn K cdv_check_levels "check_levels" = true)
    (k_check_levels : PySem.W.keepIn K (.ref f_check_levels) = true)
    (y_check_levels : PySem.W.nsIn K D_check_levels "least" = some (some (.int 1 tk_check_levels)))
    (a_is_row : PySem.W.nsIn K mainGlobals "is_row" = some (some (.ref f_is_row)))
    (l_is_row : K.lookup f_is_row = some ⟨oc_is_row, od_is_row, .func (PySem.W.fnOf "is_row" "is_row" (defArgs s_is_row) (defBody s_is_row) (defScope s_is_row) .none kV_is_row doc_is_row pm_is_row an_is_row cdv_is_row ct_is_row), sl_is_row⟩)
    (c_is_row : PySem.W.codeIn K cdv_is_row "is_row" = true)
    (k_is_row : PySem.W.keepIn K (.ref f_is_row) = true)
    (a_sign_of : PySem.W.nsIn K mainGlobals "sign_of" = some (some (.ref f_sign_of)))
    (l_sign_of : K.lookup f_sign_of = some ⟨oc_sign_of, od_sign_of, .func (PySem.W.fnOf "sign_of" "sign_of" (defArgs s_sign_of) (defBody s_sign_of) (defScope s_sign_of) .none kV_sign_of doc_sign_of pm_sign_of an_sign_of cdv_sign_of ct_sign_of), sl_sign_of⟩)
    (c_sign_of : PySem.W.codeIn K cdv_sign_of "sign_of" = true)
    (k_sign_of : PySem.W.keepIn K (.ref f_sign_of) = true)
    (a_stands_for : PySem.W.nsIn K mainGlobals "stands_for" = some (some (.ref f_stands_for)))
    (l_stands_for : K.lookup f_stands_for = some ⟨oc_stands_for, od_stands_for, .func (PySem.W.fnOf "stands_for" "stands_for" (defArgs s_stands_for) (defBody s_stands_for) (defScope s_stands_for) .none kV_stands_for doc_stands_for pm_stands_for an_stands_for cdv_stands_for ct_stands_for), sl_stands_for⟩)
    (c_stands_for : PySem.W.codeIn K cdv_stands_for "stands_for" = true)
    (k_stands_for : PySem.W.keepIn K (.ref f_stands_for) = true)
    (a_end_row : PySem.W.nsIn K mainGlobals "end_row" = some (some (.ref f_end_row)))
    (l_end_row : K.lookup f_end_row = some ⟨oc_end_row, od_end_row, .func (PySem.W.fnOf "end_row" "end_row" (defArgs s_end_row) (defBody s_end_row) (defScope s_end_row) .none kV_end_row doc_end_row pm_end_row an_end_row cdv_end_row ct_end_row), sl_end_row⟩)
    (c_end_row : PySem.W.codeIn K cdv_end_row "end_row" = true)
    (k_end_row : PySem.W.keepIn K (.ref f_end_row) = true)
    (a_ended : PySem.W.nsIn K mainGlobals "ended" = some (some (.ref f_ended)))
    (l_ended : K.lookup f_ended = some ⟨oc_ended, od_ended, .func (PySem.W.fnOf "ended" "ended" (defArgs s_ended) (defBody s_ended) (defScope s_ended) .none kV_ended doc_ended pm_ended an_ended cdv_ended ct_ended), sl_ended⟩)
    (c_ended : PySem.W.codeIn K cdv_ended "ended" = true)
    (k_ended : PySem.W.keepIn K (.ref f_ended) = true)
    (a__law_bag : PySem.W.nsIn K mainGlobals "_law_bag" = some (some (.ref f__law_bag)))
    (l__law_bag : K.lookup f__law_bag = some ⟨oc__law_bag, od__law_bag, .func (PySem.W.fnOf "_law_bag" "_law_bag" (defArgs s__law_bag) (defBody s__law_bag) (defScope s__law_bag) .none kV__law_bag doc__law_bag pm__law_bag an__law_bag cdv__law_bag ct__law_bag), sl__law_bag⟩)
    (c__law_bag : PySem.W.codeIn K cdv__law_bag "_law_bag" = true)
    (k__law_bag : PySem.W.keepIn K (.ref f__law_bag) = true)
    (a__law_draw : PySem.W.nsIn K mainGlobals "_law_draw" = some (some (.ref f__law_draw)))
    (l__law_draw : K.lookup f__law_draw = some ⟨oc__law_draw, od__law_draw, .func (PySem.W.fnOf "_law_draw" "_law_draw" (defArgs s__law_draw) (defBody s__law_draw) (defScope s__law_draw) .none kV__law_draw doc__law_draw pm__law_draw an__law_draw cdv__law_draw ct__law_draw), sl__law_draw⟩)
    (c__law_draw : PySem.W.codeIn K cdv__law_draw "_law_draw" = true)
    (k__law_draw : PySem.W.keepIn K (.ref f__law_draw) = true)
    (a__law_of : PySem.W.nsIn K mainGlobals "_law_of" = some (some (.ref f__law_of)))
    (l__law_of : K.lookup f__law_of = some ⟨oc__law_of, od__law_of, .func (PySem.W.fnOf "_law_of" "_law_of" (defArgs s__law_of) (defBody s__law_of) (defScope s__law_of) .none kV__law_of doc__law_of pm__law_of an__law_of cdv__law_of ct__law_of), sl__law_of⟩)
    (c__law_of : PySem.W.codeIn K cdv__law_of "_law_of" = true)
    (k__law_of : PySem.W.keepIn K (.ref f__law_of) = true)
    (a__law_like : PySem.W.nsIn K mainGlobals "_law_like" = some (some (.ref f__law_like)))
    (l__law_like : K.lookup f__law_like = some ⟨oc__law_like, od__law_like, .func (PySem.W.fnOf "_law_like" "_law_like" (defArgs s__law_like) (defBody s__law_like) (defScope s__law_like) .none kV__law_like doc__law_like pm__law_like an__law_like cdv__law_like ct__law_like), sl__law_like⟩)
    (c__law_like : PySem.W.codeIn K cdv__law_like "_law_like" = true)
    (k__law_like : PySem.W.keepIn K (.ref f__law_like) = true)
    (a__law_is_from : PySem.W.nsIn K mainGlobals "_law_is_from" = some (some (.ref f__law_is_from)))
    (l__law_is_from : K.lookup f__law_is_from = some ⟨oc__law_is_from, od__law_is_from, .func (PySem.W.fnOf "_law_is_from" "_law_is_from" (defArgs s__law_is_from) (defBody s__law_is_from) (defScope s__law_is_from) .none kV__law_is_from doc__law_is_from pm__law_is_from an__law_is_from cdv__law_is_from ct__law_is_from), sl__law_is_from⟩)
    (c__law_is_from : PySem.W.codeIn K cdv__law_is_from "_law_is_from" = true)
    (k__law_is_from : PySem.W.keepIn K (.ref f__law_is_from) = true)
    (a__law_checked : PySem.W.nsIn K mainGlobals "_law_checked" = some (some (.ref f__law_checked)))
    (l__law_checked : K.lookup f__law_checked = some ⟨oc__law_checked, od__law_checked, .func (PySem.W.fnOf "_law_checked" "_law_checked" (defArgs s__law_checked) (defBody s__law_checked) (defScope s__law_checked) .none kV__law_checked doc__law_checked pm__law_checked an__law_checked cdv__law_checked ct__law_checked), sl__law_checked⟩)
    (c__law_checked : PySem.W.codeIn K cdv__law_checked "_law_checked" = true)
    (k__law_checked : PySem.W.keepIn K (.ref f__law_checked) = true)
    (a__law_bent : PySem.W.nsIn K mainGlobals "_law_bent" = some (some (.ref f__law_bent)))
    (l__law_bent : K.lookup f__law_bent = some ⟨oc__law_bent, od__law_bent, .func (PySem.W.fnOf "_law_bent" "_law_bent" (defArgs s__law_bent) (defBody s__law_bent) (defScope s__law_bent) .none kV__law_bent doc__law_bent pm__law_bent an__law_bent cdv__law_bent ct__law_bent), sl__law_bent⟩)
    (c__law_bent : PySem.W.codeIn K cdv__law_bent "_law_bent" = true)
    (k__law_bent : PySem.W.keepIn K (.ref f__law_bent) = true)
    (a__law_levels_looked : PySem.W.nsIn K mainGlobals "_law_levels_looked" = some (some (.ref f__law_levels_looked)))
    (l__law_levels_looked : K.lookup f__law_levels_looked = some ⟨oc__law_levels_looked, od__law_levels_looked, .func (PySem.W.fnOf "_law_levels_looked" "_law_levels_looked" (defArgs s__law_levels_looked) (defBody s__law_levels_looked) (defScope s__law_levels_looked) .none kV__law_levels_looked doc__law_levels_looked pm__law_levels_looked an__law_levels_looked cdv__law_levels_looked ct__law_levels_looked), sl__law_levels_looked⟩)
    (c__law_levels_looked : PySem.W.codeIn K cdv__law_levels_looked "_law_levels_looked" = true)
    (k__law_levels_looked : PySem.W.keepIn K (.ref f__law_levels_looked) = true)
    (a__law_row : PySem.W.nsIn K mainGlobals "_law_row" = some (some (.ref f__law_row)))
    (l__law_row : K.lookup f__law_row = some ⟨oc__law_row, od__law_row, .func (PySem.W.fnOf "_law_row" "_law_row" (defArgs s__law_row) (defBody s__law_row) (defScope s__law_row) .none kV__law_row doc__law_row pm__law_row an__law_row cdv__law_row ct__law_row), sl__law_row⟩)
    (c__law_row : PySem.W.codeIn K cdv__law_row "_law_row" = true)
    (k__law_row : PySem.W.keepIn K (.ref f__law_row) = true)
    (a__law_text : PySem.W.nsIn K mainGlobals "_law_text" = some (some (.ref f__law_text)))
    (l__law_text : K.lookup f__law_text = some ⟨oc__law_text, od__law_text, .func (PySem.W.fnOf "_law_text" "_law_text" (defArgs s__law_text) (defBody s__law_text) (defScope s__law_text) .none kV__law_text doc__law_text pm__law_text an__law_text cdv__law_text ct__law_text), sl__law_text⟩)
    (c__law_text : PySem.W.codeIn K cdv__law_text "_law_text" = true)
    (k__law_text : PySem.W.keepIn K (.ref f__law_text) = true)
    (a__law_row_told : PySem.W.nsIn K mainGlobals "_law_row_told" = some (some (.ref f__law_row_told)))
    (l__law_row_told : K.lookup f__law_row_told = some ⟨oc__law_row_told, od__law_row_told, .func (PySem.W.fnOf "_law_row_told" "_law_row_told" (defArgs s__law_row_told) (defBody s__law_row_told) (defScope s__law_row_told) .none kV__law_row_told doc__law_row_told pm__law_row_told an__law_row_told cdv__law_row_told ct__law_row_told), sl__law_row_told⟩)
    (c__law_row_told : PySem.W.codeIn K cdv__law_row_told "_law_row_told" = true)
    (k__law_row_told : PySem.W.keepIn K (.ref f__law_row_told) = true)
    (a_law : PySem.W.nsIn K mainGlobals "law" = some (some (.ref f_law)))
    (l_law : K.lookup f_law = some ⟨oc_law, od_law, .func (PySem.W.fnOf "law" "law" (defArgs s_law) (defBody s_law) (defScope s_law) .none kV_law doc_law pm_law an_law cdv_law ct_law), sl_law⟩)
    (c_law : PySem.W.codeIn K cdv_law "law" = true)
    (k_law : PySem.W.keepIn K (.ref f_law) = true) :
    ∃ fd : FuncData, (∀ (s : Shared) (v : Value), BindsTo s fd ⟨[v], []⟩ [("script", v)]) ∧ ∀ base : Heap, K.In base → base.Ns mainGlobals mg → FnOk P w K mg base (L2.CX P w) 63 fa fd ["script"] (spScr K) := by
  have e := hfa.symm.trans (PySem.W.mg_of X G a_law)
  cases e
  refine ⟨PySem.W.fnOf "law" "law" (defArgs s_law) (defBody s_law) (defScope s_law) .none kV_law doc_law pm_law an_law cdv_law ct_law, fun s v => .of_eq rfl, fun base _ _ => ?_⟩
  · have n_all := PySem.W.mg_none_of X G n_all
    have n_any := PySem.W.mg_none_of X G n_any
    have n_bool := PySem.W.mg_none_of X G n_bool
    have n_enumerate := PySem.W.mg_none_of X G n_enumerate
    have n_int := PySem.W.mg_none_of X G n_int
    have n_isinstance := PySem.W.mg_none_of X G n_isinstance
    have n_len := PySem.W.mg_none_of X G n_len
    have n_list := PySem.W.mg_none_of X G n_list
    have n_range := PySem.W.mg_none_of X G n_range
    have n_str := PySem.W.mg_none_of X G n_str
    have n_tuple := PySem.W.mg_none_of X G n_tuple
    have n_zip := PySem.W.mg_none_of X G n_zip
    have g_CELLS : GlobD K mg "CELLS" (.int 40) := ⟨_, .int 40, PySem.W.mg_of X G g_CELLS, ⟨_, rfl⟩, fun S => by unfold Rep; rfl⟩
    have g_LEVELS : GlobD K mg "LEVELS" (.int 6) := ⟨_, .int 6, PySem.W.mg_of X G g_LEVELS, ⟨_, rfl⟩, fun S => by unfold Rep; rfl⟩
    have k__BITS : KdD w K mg "_BITS" tab__BITS no__BITS := ⟨⟨dB, eB, nB, PySem.W.mg_of X G aB, ⟨lB, tB, sB⟩, fun p hp => by
    rcases List.mem_cons.mp hp with rfl | hp
    · exact ⟨_, .int 0, b0, ⟨_, rfl⟩, fun K mg S => by unfold Rep; rfl⟩
    · rcases List.mem_cons.mp hp with rfl | hp
      · exact ⟨_, .int 1, b1, ⟨_, rfl⟩, fun K mg S => by unfold Rep; rfl⟩
      · rw [List.mem_singleton.mp hp]; exact ⟨_, .non, b2, rfl, fun K mg S => by unfold Rep; rfl⟩, fun z hz => hz.elim⟩⟩
    have O_BadRoom : OexC K C_BadRoom := ⟨⟨_, _, _, _, _, _, _, _, _, _, _, _, _, _, _, x_BadRoom, r_BadRoom⟩, sx_BadRoom, e_BadRoom, t_BadRoom, kC_BadRoom⟩
    have X_BadRoom : XcI P w K mg base "BadRoom" 1 xs_BadRoom 1 := xc_BadRoom (fund_mk (st := s_BadRoom) l_BadRoom c_BadRoom k_BadRoom) (PySem.W.mg_of X G a_BadRoom) O_BadRoom i_BadRoom tf_BadRoom no_BadRoom_at no_BadRoom_code
    have O_BadLevels : OexC K C_BadLevels := ⟨⟨_, _, _, _, _, _, _, _, _, _, _, _, _, _, _, x_BadLevels, r_BadLevels⟩, sx_BadLevels, e_BadLevels, t_BadLevels, kC_BadLevels⟩
    have X_BadLevels : XcI P w K mg base "BadLevels" 1 xs_BadLevels 1 := xc_BadLevels (fund_mk (st := s_BadLevels) l_BadLevels c_BadLevels k_BadLevels) (PySem.W.mg_of X G a_BadLevels) O_BadLevels i_BadLevels tf_BadLevels no_BadLevels_cell no_BadLevels_code
    have cat_BadLevels : CatI K mg "BadLevels" (.ref C_BadLevels) ["BadLevels"] (fun _ => true) := ⟨PySem.W.mg_of X G a_BadLevels, fun c hc C' hC' => by rw [List.mem_singleton.mp hc, PySem.W.mg_of X G a_BadLevels] at hC'; cases hC'; exact exm_self e_BadLevels ic_BadLevels t_BadLevels sc_BadLevels⟩
    have xf_BadLevels_cell : XfI K mg "BadLevels" "cell" := ⟨⟨C_BadLevels, PySem.W.mg_of X G a_BadLevels, ⟨ga_BadLevels, gg_BadLevels, e_BadLevels, hd_BadLevels⟩, no_BadLevels_cell⟩⟩
    have xf_BadLevels_code : XfI K mg "BadLevels" "code" := ⟨⟨C_BadLevels, PySem.W.mg_of X G a_BadLevels, ⟨ga_BadLevels, gg_BadLevels, e_BadLevels, hd_BadLevels⟩, no_BadLevels_code⟩⟩
    have hC := PySem.W.mg_of X G aC
    have cl : Cls K C := ⟨pg, hd, po, sa⟩
    have fl__text : ∀ c ∈ [("Room" : Str)], ClsD K mg c ∧ NoA K mg c "_text" := fun c hc => by rw [List.mem_singleton.mp hc]; exact ⟨fun C' hC' => by rw [hC] at hC'; cases hC'; exact cl, fun C' hC' => by rw [hC] at hC'; cases hC'; exact nf_text⟩
    have fl__bits : ∀ c ∈ [("Room" : Str)], ClsD K mg c ∧ NoA K mg c "_bits" := fun c hc => by rw [List.mem_singleton.mp hc]; exact ⟨fun C' hC' => by rw [hC] at hC'; cases hC'; exact cl, fun C' hC' => by rw [hC] at hC'; cases hC'; exact nf_bits⟩
    have F_is_number := fund_mk (st := s_is_number) l_is_number c_is_number k_is_number
    have zc_is_number := cal_is_number (P := P) (w := w) (base := base) F_is_number (PySem.W.mg_of X G a_is_number) n_bool n_int n_isinstance
    have F_is_standing := fund_mk (st := s_is_standing) l_is_standing c_is_standing k_is_standing
    have zc_is_standing := cal_is_standing (P := P) (w := w) (base := base) F_is_standing (PySem.W.mg_of X G a_is_standing) n_all n_isinstance n_len n_tuple zc_is_number
    have F_Room___init__ := fund_mk (st := s_Room___init__) l_Room___init__ c_Room___init__ k_Room___init__
    have zim_Room := make_Room (P := P) (w := w) (base := base) F_Room___init__ hC ⟨mk, a_Room___init__, i_Room___init__, kc⟩ n_enumerate n_isinstance n_len n_str n_tuple g_CELLS fl__bits fl__text k__BITS X_BadRoom
    have F_Room_open_cells := fund_mk (st := s_Room_open_cells) l_Room_open_cells c_Room_open_cells k_Room_open_cells
    have zi_Room_open_cells := meth_Room_open_cells (P := P) (w := w) (base := base) F_Room_open_cells hC cl ⟨a_Room_open_cells, i_Room_open_cells, k_Room_open_cells⟩ n_enumerate fl__bits
    have F_Room_corners := fund_mk (st := s_Room_corners) l_Room_corners c_Room_corners k_Room_corners
    have zig_Room_corners := meth_Room_corners (P := P) (w := w) (base := base) F_Room_corners hC cl ⟨a_Room_corners, i_Room_corners, k_Room_corners⟩ n_enumerate n_len n_list n_range n_tuple fl__bits zi_Room_open_cells
    have F_Room___contains__ := fund_mk (st := s_Room___contains__) l_Room___contains__ c_Room___contains__ k_Room___contains__
    have zi_Room___contains__ := meth_Room___contains__ (P := P) (w := w) (base := base) F_Room___contains__ hC cl ⟨a_Room___contains__, i_Room___contains__, k_Room___contains__⟩ n_all n_len n_zip zc_is_standing fl__bits
    have F_Room___str__ := fund_mk (st := s_Room___str__) l_Room___str__ c_Room___str__ k_Room___str__
    have zi_Room___str__ := meth_Room___str__ (P := P) (w := w) (base := base) F_Room___str__ hC cl ⟨a_Room___str__, i_Room___str__, k_Room___str__⟩ n_str fl__text
    have F_is_levels := fund_mkK (st := s_is_levels) (v := .int 1) l_is_levels c_is_levels k_is_levels y_is_levels ⟨_, rfl⟩
    have zc_is_levels_d := cal_is_levels_d (P := P) (w := w) (base := base) F_is_levels (PySem.W.mg_of X G a_is_levels) n_all n_isinstance n_len n_tuple g_LEVELS zc_is_number
    have zc_is_levels_k := cal_is_levels_k (P := P) (w := w) (base := base) F_is_levels (PySem.W.mg_of X G a_is_levels) n_all n_isinstance n_len n_tuple g_LEVELS zc_is_number
    have F_check_levels := fund_mkK (st := s_check_levels) (v := .int 1) l_check_levels c_check_levels k_check_levels y_check_levels ⟨_, rfl⟩
    have zc_check_levels_d := cal_check_levels_d (P := P) (w := w) (base := base) F_check_levels (PySem.W.mg_of X G a_check_levels) n_enumerate n_isinstance n_len n_tuple g_LEVELS zc_is_number X_BadLevels
    have zc_check_levels_k := cal_check_levels_k (P := P) (w := w) (base := base) F_check_levels (PySem.W.mg_of X G a_check_levels) n_enumerate n_isinstance n_len n_tuple g_LEVELS zc_is_number X_BadLevels
    have F_is_row := fund_mk (st := s_is_row) l_is_row c_is_row k_is_row
    have zc_is_row := cal_is_row (P := P) (w := w) (base := base) F_is_row (PySem.W.mg_of X G a_is_row) n_all n_isinstance n_len n_tuple n_zip zc_is_number
    have F_sign_of := fund_mk (st := s_sign_of) l_sign_of c_sign_of k_sign_of
    have zc_sign_of := cal_sign_of (P := P) (w := w) (base := base) F_sign_of (PySem.W.mg_of X G a_sign_of) 
    have F_stands_for := fund_mk (st := s_stands_for) l_stands_for c_stands_for k_stands_for
    have zc_stands_for := cal_stands_for (P := P) (w := w) (base := base) F_stands_for (PySem.W.mg_of X G a_stands_for) n_zip zc_sign_of zim_Room
    have F_end_row := fund_mk (st := s_end_row) l_end_row c_end_row k_end_row
    have zc_end_row := cal_end_row (P := P) (w := w) (base := base) F_end_row (PySem.W.mg_of X G a_end_row) n_tuple n_zip
    have F_ended := fund_mk (st := s_ended) l_ended c_ended k_ended
    have zc_ended := cal_ended (P := P) (w := w) (base := base) F_ended (PySem.W.mg_of X G a_ended) n_any n_tuple n_zip
    have F__law_bag := fund_mk (st := s__law_bag) l__law_bag c__law_bag k__law_bag
    have zc__law_bag := cal__law_bag (P := P) (w := w) (base := base) F__law_bag (PySem.W.mg_of X G a__law_bag) n_int n_list
    have F__law_draw := fund_mk (st := s__law_draw) l__law_draw c__law_draw k__law_draw
    have zc__law_draw := cal__law_draw (P := P) (w := w) (base := base) F__law_draw (PySem.W.mg_of X G a__law_draw) n_int n_len
    have F__law_of := fund_mk (st := s__law_of) l__law_of c__law_of k__law_of
    have zc__law_of := cal__law_of (P := P) (w := w) (base := base) F__law_of (PySem.W.mg_of X G a__law_of) n_len zc__law_draw
    have F__law_like := fund_mk (st := s__law_like) l__law_like c__law_like k__law_like
    have zc__law_like := cal__law_like (P := P) (w := w) (base := base) F__law_like (PySem.W.mg_of X G a__law_like) n_all n_bool n_int n_isinstance n_len n_list n_str n_tuple n_zip 5
    have F__law_is_from := fund_mk (st := s__law_is_from) l__law_is_from c__law_is_from k__law_is_from
    have zc__law_is_from := cal__law_is_from (P := P) (w := w) (base := base) F__law_is_from (PySem.W.mg_of X G a__law_is_from) n_bool n_int n_isinstance
    have F__law_checked := fund_mk (st := s__law_checked) l__law_checked c__law_checked k__law_checked
    have zc__law_checked := cal__law_checked (P := P) (w := w) (base := base) F__law_checked (PySem.W.mg_of X G a__law_checked) zc_check_levels_d zc_check_levels_k cat_BadLevels xf_BadLevels_cell xf_BadLevels_code
    have F__law_bent := fund_mk (st := s__law_bent) l__law_bent c__law_bent k__law_bent
    have zc__law_bent := cal__law_bent (P := P) (w := w) (base := base) F__law_bent (PySem.W.mg_of X G a__law_bent) n_len n_list n_range n_tuple zc__law_draw zc__law_of
    have F__law_levels_looked := fund_mk (st := s__law_levels_looked) l__law_levels_looked c__law_levels_looked k__law_levels_looked
    have zc__law_levels_looked := cal__law_levels_looked (P := P) (w := w) (base := base) F__law_levels_looked (PySem.W.mg_of X G a__law_levels_looked) n_isinstance n_len n_range n_tuple zc__law_bent zc__law_checked zc__law_draw zc__law_is_from zc__law_like zc_is_levels_d zc_is_levels_k
    have F__law_row := fund_mk (st := s__law_row) l__law_row c__law_row k__law_row
    have zc__law_row := cal__law_row (P := P) (w := w) (base := base) F__law_row (PySem.W.mg_of X G a__law_row) n_tuple zc__law_draw zc__law_of
    have F__law_text := fund_mk (st := s__law_text) l__law_text c__law_text k__law_text
    have zc__law_text := cal__law_text (P := P) (w := w) (base := base) F__law_text (PySem.W.mg_of X G a__law_text) n_zip
    have F__law_row_told := fund_mk (st := s__law_row_told) l__law_row_told c__law_row_told k__law_row_told
    have zc__law_row_told := cal__law_row_told (P := P) (w := w) (base := base) F__law_row_told (PySem.W.mg_of X G a__law_row_told) n_all n_int n_list n_str n_tuple n_zip zc__law_draw zc__law_like zc__law_text zc_end_row zc_ended zc_is_row zc_stands_for zi_Room___contains__ zi_Room___str__ zig_Room_corners
    have F_law := fund_mk (st := s_law) l_law c_law k_law
    exact scr_of (fn_law F_law n_all n_isinstance n_len n_range n_tuple n_zip zc__law_bag zc__law_bent zc__law_draw zc__law_is_from zc__law_levels_looked zc__law_like zc__law_of zc__law_row zc__law_row_told zc_is_row) rfl fun ns Q E q => ⟨ns, rfl, fun cs' => q cs'⟩
theorem walk {l : PySem.W.OpenLaw} {q : Program} {loose : List Str} {XP : (Str → Option Value) → Heap → Prop} {YP : World → Heap → Prop} {d : DefRec} {K : Params → PySem.W.Frag} (hn : l.most = some 63) (hdf : d.params.defaults = [])
    (hY : ∀ (w : World) (h : Heap), YP w h → (K w.params).In h)
    (F : ∀ (w : World) (mg : Str → Option Value) (fa : Addr) (h : Heap), (K w.params).In h → h.Ns mainGlobals mg → mg d.name = some (.ref fa) →
      ∃ fd : FuncData, (∀ (s : Shared) (u : Value), BindsTo s fd ⟨[u], []⟩ [("script", u)]) ∧ ∀ base : Heap, (K w.params).In base → base.Ns mainGlobals mg → FnOk l.prog w (K w.params) mg base (L2.CX l.prog w) 63 fa fd ["script"] (spScr (K w.params))) :
    PySem.W.WalkO q loose XP YP l.row.toRowW d [] (fun f vs => PySem.call f vs) :=
  L2.walk_of (n := 63) (k := 63) (x := "script") (CX := fun w => L2.CX l.prog w) (sp := fun w => spScr (K w.params)) hn (by decide) hdf ⟨rfl, by decide, by decide⟩ hY F (fun _ _ a ns hl _ hS => ⟨a, ns, rfl, hS, fun _ => rfl⟩) fun _ _ _ _ _ z => cx_no z
end K10
open PySem PySem.W PyProof.Rows
set_option maxRecDepth 100000 in
set_option maxHeartbeats 0 in
theorem PySem.Challenge.cw_lastrooms_k10_levels_and_rows_holds : PySem.Challenge.rw_lastrooms_k10_levels_and_rows.Holds := by
  w_on; o_law; k_head; (case hw => w_witness2)
  k_fill
  refine K10.walk (l := PySem.Challenge.rw_lastrooms_k10_levels_and_rows) rfl rfl (fun w h Y => PySem.W.kIn_of Y) ?F
  case F =>
    intro w mg fa h KX G hmg
    refine' K10.all_mk KX G hmg ?n_all ?n_any ?n_bool ?n_enumerate ?n_int ?n_isinstance ?n_len ?n_list ?n_range ?n_str ?n_tuple ?n_zip ?g_CELLS ?g_LEVELS ?aB ?lB ?tB ?sB ?b0 ?b1 ?b2 ?a_BadRoom ?x_BadRoom ?r_BadRoom ?sx_BadRoom ?e_BadRoom ?t_BadRoom ?kC_BadRoom ?i_BadRoom ?tf_BadRoom ?no_BadRoom_at ?no_BadRoom_code ?l_BadRoom ?c_BadRoom ?k_BadRoom ?a_BadLevels ?x_BadLevels ?r_BadLevels ?sx_BadLevels ?e_BadLevels ?t_BadLevels ?kC_BadLevels ?i_BadLevels ?tf_BadLevels ?no_BadLevels_cell ?no_BadLevels_code ?l_BadLevels ?c_BadLevels ?k_BadLevels ?ga_BadLevels ?gg_BadLevels ?hd_BadLevels ?ic_BadLevels ?sc_BadLevels ?aC ?pg ?hd ?po ?sa ?mk ?kc ?nf_text ?nf_bits ?a_is_number ?l_is_number ?c_is_number ?k_is_number ?a_is_standing ?l_is_standing ?c_is_standing ?k_is_standing ?a_Room___init__ ?i_Room___init__ ?l_Room___init__ ?c_Room___init__ ?k_Room___init__ ?a_Room_open_cells ?i_Room_open_cells ?l_Room_open_cells ?c_Room_open_cells ?k_Room_open_cells ?a_Room_corners ?i_Room_corners ?l_Room_corners ?c_Room_corners ?k_Room_corners ?a_Room___contains__ ?i_Room___contains__ ?l_Room___contains__ ?c_Room___contains__ ?k_Room___contains__ ?a_Room___str__ ?i_Room___str__ ?l_Room___str__ ?c_Room___str__ ?k_Room___str__ ?a_is_levels ?l_is_levels ?c_is_levels ?k_is_levels ?y_is_levels ?a_check_levels ?l_check_levels ?c_check_levels ?k_check_levels ?y_check_levels ?a_is_row ?l_is_row ?c_is_row ?k_is_row ?a_sign_of ?l_sign_of ?c_sign_of ?k_sign_of ?a_stands_for ?l_stands_for ?c_stands_for ?k_stands_for ?a_end_row ?l_end_row ?c_end_row ?k_end_row ?a_ended ?l_ended ?c_ended ?k_ended ?a__law_bag ?l__law_bag ?c__law_bag ?k__law_bag ?a__law_draw ?l__law_draw ?c__law_draw ?k__law_draw ?a__law_of ?l__law_of ?c__law_of ?k__law_of ?a__law_like ?l__law_like ?c__law_like ?k__law_like ?a__law_is_from ?l__law_is_from ?c__law_is_from ?k__law_is_from ?a__law_checked ?l__law_checked ?c__law_checked ?k__law_checked ?a__law_bent ?l__law_bent ?c__law_bent ?k__law_bent ?a__law_levels_looked ?l__law_levels_looked ?c__law_levels_looked ?k__law_levels_looked ?a__law_row ?l__law_row ?c__law_row ?k__law_row ?a__law_text ?l__law_text ?c__law_text ?k__law_text ?a__law_row_told ?l__law_row_told ?c__law_row_told ?k__law_row_told ?a_law ?l_law ?c_law ?k_law
    (case n_all => k_is)
    (case n_any => k_is)
    (case n_bool => k_is)
    (case n_enumerate => k_is)
    (case n_int => k_is)
    (case n_isinstance => k_is)
    (case n_len => k_is)
    (case n_list => k_is)
    (case n_range => k_is)
    (case n_str => k_is)
    (case n_tuple => k_is)
    (case n_zip => k_is)
    (case g_CELLS => k_is)
    (case g_LEVELS => k_is)
    (case aB => k_is)
    (case lB => k_is)
    (case tB => first | exact ⟨⟨_, _, rfl, rfl⟩, ⟨_, _, rfl, rfl⟩, ⟨_, _, rfl, rfl⟩, trivial⟩ | k_is)
    (case sB => first | rfl | k_is)
    (case b0 => k_is)
    (case b1 => k_is)
    (case b2 => k_is)
    (case a_BadRoom => k_is)
    (case x_BadRoom => k_is)
    (case r_BadRoom => first | rfl | decide +kernel | k_is)
    (case sx_BadRoom => k_is)
    (case e_BadRoom => k_is)
    (case t_BadRoom => k_is)
    (case kC_BadRoom => k_is)
    (case i_BadRoom => k_is)
    (case tf_BadRoom => k_is)
    (case no_BadRoom_at => k_is)
    (case no_BadRoom_code => k_is)
    (case l_BadRoom => k_is)
    (case c_BadRoom => k_is)
    (case k_BadRoom => k_is)
    (case a_BadLevels => k_is)
    (case x_BadLevels => k_is)
    (case r_BadLevels => first | rfl | decide +kernel | k_is)
    (case sx_BadLevels => k_is)
    (case e_BadLevels => k_is)
    (case t_BadLevels => k_is)
    (case kC_BadLevels => k_is)
    (case i_BadLevels => k_is)
    (case tf_BadLevels => k_is)
    (case no_BadLevels_cell => k_is)
    (case no_BadLevels_code => k_is)
    (case l_BadLevels => k_is)
    (case c_BadLevels => k_is)
    (case k_BadLevels => k_is)
    (case ga_BadLevels => k_is)
    (case gg_BadLevels => k_is)
    (case hd_BadLevels => k_is)
    (case ic_BadLevels => k_is)
    (case sc_BadLevels => first | rfl | k_is)
    (case aC => k_is)
    (case pg => k_is)
    (case hd => k_is)
    (case po => k_is)
    (case sa => k_is)
    (case mk => k_is)
    (case kc => k_is)
    (case nf_text => k_is)
    (case nf_bits => k_is)
    (case a_is_number => k_is)
    (case l_is_number => k_is)
    (case c_is_number => k_is)
    (case k_is_number => k_is)
    (case a_is_standing => k_is)
    (case l_is_standing => k_is)
    (case c_is_standing => k_is)
    (case k_is_standing => k_is)
    (case a_Room___init__ => k_is)
    (case i_Room___init__ => k_is)
    (case l_Room___init__ => k_is)
    (case c_Room___init__ => k_is)
    (case k_Room___init__ => k_is)
    (case a_Room_open_cells => k_is)
    (case i_Room_open_cells => k_is)
    (case l_Room_open_cells => k_is)
    (case c_Room_open_cells => k_is)
    (case k_Room_open_cells => k_is)
    (case a_Room_corners => k_is)
    (case i_Room_corners => k_is)
    (case l_Room_corners => k_is)
    (case c_Room_corners => k_is)
    (case k_Room_corners => k_is)
    (case a_Room___contains__ => k_is)
    (case i_Room___contains__ => k_is)
    (case l_Room___contains__ => k_is)
    (case c_Room___contains__ => k_is)
    (case k_Room___contains__ => k_is)
    (case a_Room___str__ => k_is)
    (case i_Room___str__ => k_is)
    (case l_Room___str__ => k_is)
    (case c_Room___str__ => k_is)
    (case k_Room___str__ => k_is)
    (case a_is_levels => k_is)
    (case l_is_levels => k_is)
    (case c_is_levels => k_is)
    (case k_is_levels => k_is)
    (case y_is_levels => k_is)
    (case a_check_levels => k_is)
    (case l_check_levels => k_is)
    (case c_check_levels => k_is)
    (case k_check_levels => k_is)
    (case y_check_levels => k_is)
    (case a_is_row => k_is)
    (case l_is_row => k_is)
    (case c_is_row => k_is)
    (case k_is_row => k_is)
    (case a_sign_of => k_is)
    (case l_sign_of => k_is)
    (case c_sign_of => k_is)
    (case k_sign_of => k_is)
    (case a_stands_for => k_is)
    (case l_stands_for => k_is)
    (case c_stands_for => k_is)
    (case k_stands_for => k_is)
    (case a_end_row => k_is)
    (case l_end_row => k_is)
    (case c_end_row => k_is)
    (case k_end_row => k_is)
    (case a_ended => k_is)
    (case l_ended => k_is)
    (case c_ended => k_is)
    (case k_ended => k_is)
    (case a__law_bag => k_is)
    (case l__law_bag => k_is)
    (case c__law_bag => k_is)
    (case k__law_bag => k_is)
    (case a__law_draw => k_is)
    (case l__law_draw => k_is)
    (case c__law_draw => k_is)
    (case k__law_draw => k_is)
    (case a__law_of => k_is)
    (case l__law_of => k_is)
    (case c__law_of => k_is)
    (case k__law_of => k_is)
    (case a__law_like => k_is)
    (case l__law_like => k_is)
    (case c__law_like => k_is)
    (case k__law_like => k_is)
    (case a__law_is_from => k_is)
    (case l__law_is_from => k_is)
    (case c__law_is_from => k_is)
    (case k__law_is_from => k_is)
    (case a__law_checked => k_is)
    (case l__law_checked => k_is)
    (case c__law_checked => k_is)
    (case k__law_checked => k_is)
    (case a__law_bent => k_is)
    (case l__law_bent => k_is)
    (case c__law_bent => k_is)
    (case k__law_bent => k_is)
    (case a__law_levels_looked => k_is)
    (case l__law_levels_looked => k_is)
    (case c__law_levels_looked => k_is)
    (case k__law_levels_looked => k_is)
    (case a__law_row => k_is)
    (case l__law_row => k_is)
    (case c__law_row => k_is)
    (case k__law_row => k_is)
    (case a__law_text => k_is)
    (case l__law_text => k_is)
    (case c__law_text => k_is)
    (case k__law_text => k_is)
    (case a__law_row_told => k_is)
    (case l__law_row_told => k_is)
    (case c__law_row_told => k_is)
    (case k__law_row_told => k_is)
    (case a_law => k_is)
    (case l_law => k_is)
    (case c_law => k_is)
    (case k_law => k_is)
#print axioms PySem.Challenge.cw_lastrooms_k10_levels_and_rows_holds
