import PyProof.Rows.All
import HandS.ForMost
import HandS.ForExc
import HandS.Sort
import HandS.SortInts
import HandS.Style
import HandS.TupMul
import HandS.TupAny
import HandS.Conv
import HandS.IsInst
import HandS.Zip
import HandS.Wide
import KE.KTupSum
import HandS.Lambda
import KE.DataMinMax
import KE.KRevSl
import HandS.SetFor
import KE.GoesZip
import KE.GoesMore
import HandS.Deep
import HandS.Strs
import HandS.CallSlots
import HandS.TryMany
import KE.KNestM
import KE.KLam
import HandS.EndTab
import HandS.ExcField
import HandS.ExcInit
import KE.KIndexOf
import KE.GoesEnum
import HandS.SlotsOwn
import HandS.Star
import HandS.Property
import HandS.Codes
import KE.KOpsOwn
import PySem.Challenge.RW_markpanels_k13_signs_of_panels
set_option Elab.async false
set_option linter.all false
set_option maxRecDepth 100000
namespace DK
open PySem PySem.Spec PyProof.Rows L2
/-- the tables of code objects that the law's defs fill, each with the name that its code objects bear -/
class TabsC where
  T : List (Addr × Str)
instance (priority := low) noTabs : TabsC := ⟨[]⟩
def NT (o : HO) : Prop := ∀ ps, o ≠ .tbl ps
theorem nt_lst {vs : List V} : NT (.lst vs) := fun ps z => by cases z
/-! ### data, slots, values, results -/
inductive D where
  | non | bl (b : Bool) | int (i : Int) | str (s : Str) | tup (xs : List D) | lst (xs : List D) | scr (ns : List Int) | obj (c : Str) (ks : List Str) (xs : List D)
inductive Sl where | un | p (d : D) | o (xs : List D) | s (xs : List D)
inductive Vl where | p (d : D) | o (xs : List D) | r (i : Nat)
inductive R (α : Type) where | stuck | err (c : Str) (l : Option Int) | ok (a : α)
abbrev Ds := List Sl
def R.bind {α β : Type} (x : R α) (f : α → R β) : R β := match x with
  | .stuck => .stuck
  | .err c l => .err c l
  | .ok a => f a
@[simp] theorem R.bind_ok {α β : Type} (a : α) (f : α → R β) : (R.ok a).bind f = f a := rfl
@[simp] theorem R.bind_err {α β : Type} (c : Str) (l : Option Int) (f : α → R β) : (R.err c l : R α).bind f = .err c l := rfl
@[simp] theorem R.bind_stuck {α β : Type} (f : α → R β) : (R.stuck : R α).bind f = .stuck := rfl

/-! ### what a datum is in a heap -/
section
variable (K : PySem.W.Frag) (mg : Str → Option Value)
/-- a tuple whose object is known -/
def TupX (Fz : Hp) (a : Addr) (vs : List V) : Prop := ∃ o : Obj, Fz a = some (.frz o (.tup vs)) ∧ o.cls = .type "tuple" ∧ o.dict = none
mutual
def Rep (Fz : Hp) : D → V → Prop
  | .non, v => v = .non
  | .bl b, v => v = .bl b
  | .int i, v => v = .int i
  | .str s, v => v = .str s
  | .tup ds, v => ∃ a vs, v = .ref a ∧ SqT K Fz a vs ∧ RepL Fz ds vs
  | .lst ds, v => ∃ a vs, v = .ref a ∧ Fz a = some (.lst vs) ∧ RepL Fz ds vs
  | .scr ns, v => ∃ a, v = .ref a ∧ SqL K Fz a (ns.map V.int)
  | .obj c ks ds, v => ∃ a vs, v = .ref a ∧ RepL Fz ds vs ∧ ((c = "" ∧ TupX Fz a vs) ∨ (c ≠ "" ∧ ∃ C dx, mg c = some (.ref C) ∧ Fz a = some (.ins C dx (ks.zip vs))))
def RepL (Fz : Hp) : List D → List V → Prop
  | [], [] => True
  | d :: ds, v :: vs => Rep Fz d v ∧ RepL Fz ds vs
  | _, _ => False
end
end
section
variable {K : PySem.W.Frag} {mg : Str → Option Value} {Fz Fz' : Hp}
theorem sqL_mono {a : Addr} {xs : List V} (e : ∀ b o, Fz b = some o → Fz' b = some o) (h : SqL K Fz a xs) : SqL K Fz' a xs := by
  rcases h with (h | ⟨o, h⟩) | h
  · exact .inl (.inl (e _ _ h))
  · exact .inl (.inr ⟨o, e _ _ h⟩)
  · exact .inr h
theorem sqT_mono {a : Addr} {xs : List V} (e : ∀ b o, Fz b = some o → Fz' b = some o) (h : SqT K Fz a xs) : SqT K Fz' a xs := by
  rcases h with (h | ⟨o, h⟩) | h
  · exact .inl (.inl (e _ _ h))
  · exact .inl (.inr ⟨o, e _ _ h⟩)
  · exact .inr h
mutual
theorem Rep.mono (e : ∀ b o, Fz b = some o → Fz' b = some o) : ∀ (d : D) (v : V), Rep K mg Fz d v → Rep K mg Fz' d v
  | .non, v, h => by rw [Rep] at h ⊢; exact h
  | .bl b, v, h => by rw [Rep] at h ⊢; exact h
  | .int i, v, h => by rw [Rep] at h ⊢; exact h
  | .str s, v, h => by rw [Rep] at h ⊢; exact h
  | .tup ds, v, h => by
    rw [Rep] at h ⊢
    obtain ⟨a, vs, e1, e2, e3⟩ := h
    exact ⟨a, vs, e1, sqT_mono e e2, RepL.mono e ds vs e3⟩
  | .lst ds, v, h => by
    rw [Rep] at h ⊢
    obtain ⟨a, vs, e1, e2, e3⟩ := h
    exact ⟨a, vs, e1, e _ _ e2, RepL.mono e ds vs e3⟩
  | .scr ns, v, h => by
    rw [Rep] at h ⊢
    obtain ⟨a, e1, e2⟩ := h
    exact ⟨a, e1, sqL_mono e e2⟩
  | .obj c ks ds, v, h => by
    rw [Rep] at h ⊢
    obtain ⟨a, vs, e1, e2, e3⟩ := h
    refine ⟨a, vs, e1, RepL.mono e ds vs e2, ?_⟩
    rcases e3 with ⟨z, o, h1, h2⟩ | ⟨z, C, dx, h1, h2⟩
    · exact .inl ⟨z, o, e _ _ h1, h2⟩
    · exact .inr ⟨z, C, dx, h1, e _ _ h2⟩
theorem RepL.mono (e : ∀ b o, Fz b = some o → Fz' b = some o) : ∀ (d : List D) (v : List V), RepL K mg Fz d v → RepL K mg Fz' d v
  | [], [], h => by rw [RepL]; trivial
  | [], _ :: _, h => by rw [RepL] at h; exact h.elim; all_goals simp
  | _ :: _, [], h => by rw [RepL] at h; exact h.elim; all_goals simp
  | d :: ds, v :: vs, h => by
    rw [RepL] at h ⊢
    exact ⟨Rep.mono e d v h.1, RepL.mono e ds vs h.2⟩
end
theorem RepL.len : ∀ {d : List D} {v : List V}, RepL K mg Fz d v → d.length = v.length
  | [], [], h => rfl
  | [], _ :: _, h => by rw [RepL] at h; exact h.elim; all_goals simp
  | _ :: _, [], h => by rw [RepL] at h; exact h.elim; all_goals simp
  | d :: ds, v :: vs, h => by
    rw [RepL] at h
    simp [RepL.len h.2]
theorem repL_nil : RepL K mg Fz [] [] := by rw [RepL]; trivial
theorem repL_cons {d : D} {ds : List D} {v : V} {vs : List V} (h : Rep K mg Fz d v) (t : RepL K mg Fz ds vs) : RepL K mg Fz (d :: ds) (v :: vs) := by
  rw [RepL]; exact ⟨h, t⟩
theorem RepL.nil_inv {vs : List V} (h : RepL K mg Fz [] vs) : vs = [] := by
  cases vs with
  | nil => rfl
  | cons v vs => rw [RepL] at h; exact h.elim; all_goals simp
theorem RepL.cons_inv {d : D} {ds : List D} {vs : List V} (h : RepL K mg Fz (d :: ds) vs) : ∃ v vs', vs = v :: vs' ∧ Rep K mg Fz d v ∧ RepL K mg Fz ds vs' := by
  cases vs with
  | nil => rw [RepL] at h; exact h.elim; all_goals simp
  | cons v vs => rw [RepL] at h; exact ⟨v, vs, rfl, h.1, h.2⟩
theorem RepL.get : ∀ {ds : List D} {vs : List V} {i : Nat} {d : D}, RepL K mg Fz ds vs → ds[i]? = some d → ∃ v, vs[i]? = some v ∧ Rep K mg Fz d v
  | [], vs, i, d, h, e => by simp at e
  | d0 :: ds, vs, 0, d, h, e => by
    obtain ⟨v, vs', rfl, h1, h2⟩ := h.cons_inv
    simp at e
    subst e
    exact ⟨v, rfl, h1⟩
  | d0 :: ds, vs, i + 1, d, h, e => by
    obtain ⟨v, vs', rfl, h1, h2⟩ := h.cons_inv
    obtain ⟨w, e1, e2⟩ := RepL.get (i := i) h2 (by simpa using e)
    exact ⟨w, by simpa using e1, e2⟩
theorem RepL.getV {ds : List D} {vs : List V} {i : Nat} {v : V} (h : RepL K mg Fz ds vs) (e : vs[i]? = some v) : ∃ d, ds[i]? = some d ∧ Rep K mg Fz d v := by
  have hl : i < ds.length := by
    rw [h.len]
    exact (List.getElem?_eq_some_iff.mp e).1
  obtain ⟨w, e1, e2⟩ := h.get (List.getElem?_eq_getElem hl)
  rw [e] at e1
  cases e1
  exact ⟨_, List.getElem?_eq_getElem hl, e2⟩
theorem RepL.append : ∀ {d1 d2 : List D} {v1 v2 : List V}, RepL K mg Fz d1 v1 → RepL K mg Fz d2 v2 → RepL K mg Fz (d1 ++ d2) (v1 ++ v2)
  | [], d2, v1, v2, h, k => by
    obtain rfl := h.nil_inv
    exact k
  | d :: ds, d2, v1, v2, h, k => by
    obtain ⟨v, vs', rfl, h1, h2⟩ := h.cons_inv
    exact repL_cons h1 (h2.append k)
theorem RepL.take : ∀ {d : List D} {v : List V} (n : Nat), RepL K mg Fz d v → RepL K mg Fz (d.take n) (v.take n)
  | _, _, 0, h => by simpa using repL_nil
  | [], v, n + 1, h => by
    obtain rfl := h.nil_inv
    exact repL_nil
  | d :: ds, v, n + 1, h => by
    obtain ⟨v, vs', rfl, h1, h2⟩ := h.cons_inv
    exact repL_cons h1 (h2.take n)
theorem RepL.drop : ∀ {d : List D} {v : List V} (n : Nat), RepL K mg Fz d v → RepL K mg Fz (d.drop n) (v.drop n)
  | _, _, 0, h => by simpa using h
  | [], v, n + 1, h => by
    obtain rfl := h.nil_inv
    exact repL_nil
  | d :: ds, v, n + 1, h => by
    obtain ⟨v, vs', rfl, h1, h2⟩ := h.cons_inv
    simpa using h2.drop n
theorem RepL.reverse : ∀ {d : List D} {v : List V}, RepL K mg Fz d v → RepL K mg Fz d.reverse v.reverse
  | [], v, h => by
    obtain rfl := h.nil_inv
    exact repL_nil
  | d :: ds, v, h => by
    obtain ⟨v, vs', rfl, h1, h2⟩ := h.cons_inv
    rw [List.reverse_cons, List.reverse_cons]
    exact h2.reverse.append (repL_cons h1 repL_nil)
theorem RepL.set : ∀ {d : List D} {v : List V} (n : Nat) {d0 : D} {v0 : V}, Rep K mg Fz d0 v0 → RepL K mg Fz d v → RepL K mg Fz (d.set n d0) (v.set n v0)
  | [], v, n, d0, v0, k, h => by
    obtain rfl := h.nil_inv
    exact repL_nil
  | d :: ds, v, 0, d0, v0, k, h => by
    obtain ⟨v, vs', rfl, h1, h2⟩ := h.cons_inv
    exact repL_cons k h2
  | d :: ds, v, n + 1, d0, v0, k, h => by
    obtain ⟨v, vs', rfl, h1, h2⟩ := h.cons_inv
    exact repL_cons h1 (h2.set n k)
theorem RepL.erase : ∀ {d : List D} {v : List V} (n : Nat), RepL K mg Fz d v → RepL K mg Fz (d.eraseIdx n) (v.eraseIdx n)
  | [], v, n, h => by
    obtain rfl := h.nil_inv
    exact repL_nil
  | d :: ds, v, 0, h => by
    obtain ⟨v, vs', rfl, h1, h2⟩ := h.cons_inv
    exact h2
  | d :: ds, v, n + 1, h => by
    obtain ⟨v, vs', rfl, h1, h2⟩ := h.cons_inv
    exact repL_cons h1 (h2.erase n)
theorem repL_ints : ∀ {ns : List Int} {vs : List V}, RepL K mg Fz (ns.map D.int) vs → vs = ns.map V.int
  | [], vs, h => h.nil_inv
  | n :: ns, vs, h => by
    obtain ⟨v, vs', rfl, h1, h2⟩ := h.cons_inv
    rw [Rep] at h1
    rw [h1, repL_ints h2]
    rfl
theorem repL_ofInts : ∀ (ns : List Int), RepL K mg Fz (ns.map D.int) (ns.map V.int)
  | [] => repL_nil
  | n :: ns => repL_cons (by rw [Rep]) (repL_ofInts ns)
theorem repL_bls : ∀ {ns : List Bool} {vs : List V}, RepL K mg Fz (ns.map D.bl) vs → vs = ns.map V.bl
  | [], vs, h => h.nil_inv
  | n :: ns, vs, h => by
    obtain ⟨v, vs', rfl, h1, h2⟩ := h.cons_inv
    rw [Rep] at h1
    rw [h1, repL_bls h2]
    rfl
theorem repL_strs : ∀ {ns : List Str} {vs : List V}, RepL K mg Fz (ns.map D.str) vs → vs = ns.map V.str
  | [], vs, h => h.nil_inv
  | n :: ns, vs, h => by
    obtain ⟨v, vs', rfl, h1, h2⟩ := h.cons_inv
    rw [Rep] at h1
    rw [h1, repL_strs h2]
    rfl
end

/-! ### slots -/
variable [TabsC]
abbrev Tbs (H : Hp) : Prop := LamX.Tabs TabsC.T H
theorem tbs_write {H : Hp} {a : Addr} {vs ws : List V} (h : H a = some (.lst vs)) (t : Tbs H) : Tbs (upd H a (.lst ws)) := fun p hp => by
  obtain ⟨ps, h1, h2, h3⟩ := t p hp
  refine ⟨ps, ?_, h2, fun pos cv hc => ?_⟩
  · rw [upd_ne (fun z => by rw [z, h] at h1; cases h1)]; exact h1
  · obtain ⟨c, e1, e2⟩ := h3 pos cv hc
    exact ⟨c, e1, by rw [upd_ne (fun z => by rw [z, h] at e2; unfold LamX.CodeO at e2; cases e2)]; exact e2⟩
/-- nothing frozen is a table -/
abbrev NoTb (Fz : Hp) : Prop := ∀ q o, Fz q = some o → NT o
theorem ntb_lst {Fz : Hp} {a : Addr} {vs : List V} (h : NoTb Fz) : NoTb (upd Fz a (.lst vs)) := fun q o e => by
  by_cases z : q = a
  · rw [z, upd_same] at e; cases e; exact nt_lst
  · rw [upd_ne z] at e; exact h q o e
theorem ntb_tup {Fz : Hp} {a : Addr} {vs : List V} (h : NoTb Fz) : NoTb (upd Fz a (.tup vs)) := fun q o e => by
  by_cases z : q = a
  · rw [z, upd_same] at e; cases e; exact fun ps z => by cases z
  · rw [upd_ne z] at e; exact h q o e
theorem tbs_ext {H H' : Hp} (t : Tbs H) (e : ∀ b o, H b = some o → H' b = some o) : Tbs H' := LamX.Tabs.ext t e
section
variable (K : PySem.W.Frag) (mg : Str → Option Value) (ad : Nat → Option Addr) (Fz H : Hp)
def SlOk (i : Nat) : Sl → Option V → Prop
  | .un, _ => True
  | .p d, v => ∃ x, v = some x ∧ Rep K mg Fz d x
  | .o xs, v => ∃ a vs, v = some (.ref a) ∧ H a = some (.lst vs) ∧ Fz a = none ∧ RepL K mg Fz xs vs
  | .s xs, v => ∃ a vs, v = some (.ref a) ∧ ad i = some a ∧ H a = some (.lst vs) ∧ Fz a = none ∧ RepL K mg Fz xs vs
end
def Own (st : Ds) (i : Nat) : Prop := ∃ xs, st[i]? = some (.o xs) ∨ st[i]? = some (.s xs)
def Ows (st : Ds) (σ : L2.St) (a : Addr) : Prop := ∃ i, Own st i ∧ σ[i]? = some (some (.ref a))
structure RS (K : PySem.W.Frag) (mg : Str → Option Value) (ad : Nat → Option Addr) (Fz H : Hp) (st : Ds) (σ : L2.St) : Prop where
  len : st.length = σ.length
  sub : ∀ a o, Fz a = some o → H a = some o
  slot : ∀ i s, st[i]? = some s → SlOk K mg ad Fz H i s (σ[i]?.join)
  inj : ∀ i j a, Own st i → Own st j → σ[i]? = some (some (.ref a)) → σ[j]? = some (some (.ref a)) → i = j
  tab : Tbs H ∧ NoTb Fz
/-- what has become of the heaps; P, P': what is owned ahead, behind -/
structure Fr (P : Addr → Prop) (Fz H : Hp) (P' : Addr → Prop) (Fz' H' : Hp) : Prop where
  keep : ∀ q o, H q = some o → ¬ P q → NT o → H' q = some o
  dom : ∀ q, H' q = none → H q = none
  fmon : ∀ q o, Fz q = some o → Fz' q = some o
  fnew : ∀ q o, Fz' q = some o → (∃ u, Fz q = some u) ∨ P q ∨ H q = none
  onew : ∀ q, P' q → P q ∨ H q = none
  tab : (Tbs H → Tbs H') ∧ (NoTb Fz → NoTb Fz')
theorem Fr.refl {P : Addr → Prop} {Fz H : Hp} : Fr P Fz H P Fz H :=
  ⟨fun _ _ h _ _ => h, fun _ h => h, fun _ _ h => h, fun _ o h => .inl ⟨o, h⟩, fun _ h => .inl h, fun h => h, fun h => h⟩
theorem Fr.trans {P P1 P2 : Addr → Prop} {Fz H Fz1 H1 Fz2 H2 : Hp} (a : Fr P Fz H P1 Fz1 H1) (b : Fr P1 Fz1 H1 P2 Fz2 H2) : Fr P Fz H P2 Fz2 H2 where
  keep := fun q o h n nt => b.keep q o (a.keep q o h n nt) (fun z => (a.onew q z).elim n fun e => by rw [h] at e; cases e) nt
  dom := fun q h => a.dom q (b.dom q h)
  fmon := fun q o h => b.fmon q o (a.fmon q o h)
  fnew := fun q o h => by
    rcases b.fnew q o h with ⟨u, z⟩ | z | z
    · exact a.fnew q u z
    · exact (a.onew q z).elim (fun x => .inr (.inl x)) fun x => .inr (.inr x)
    · exact .inr (.inr (a.dom q z))
  onew := fun q h => (b.onew q h).elim (fun z => a.onew q z) fun z => .inr (a.dom q z)
  tab := ⟨fun h => b.tab.1 (a.tab.1 h), fun h => b.tab.2 (a.tab.2 h)⟩
/-- fewer owned behind -/
theorem Fr.less {P P1 P2 : Addr → Prop} {Fz H Fz1 H1 : Hp} (a : Fr P Fz H P1 Fz1 H1) (h : ∀ q, P2 q → P1 q) : Fr P Fz H P2 Fz1 H1 :=
  ⟨a.keep, a.dom, a.fmon, a.fnew, fun q z => a.onew q (h q z), a.tab⟩
/-- behind an exception -/
def EK (P : Addr → Prop) (H H' : Hp) : Prop := (∀ q o, H q = some o → ¬ P q → NT o → H' q = some o) ∧ (∀ q, H' q = none → H q = none) ∧ (Tbs H → Tbs H')
theorem Fr.ek {P P1 : Addr → Prop} {Fz H Fz1 H1 H2 : Hp} (a : Fr P Fz H P1 Fz1 H1) (b : EK P1 H1 H2) : EK P H H2 :=
  ⟨fun q o h n nt => b.1 q o (a.keep q o h n nt) (fun z => (a.onew q z).elim n fun e => (by rw [h] at e; cases e)) nt, fun q h => a.dom q (b.2.1 q h), fun h => b.2.2 (a.tab.1 h)⟩
section
variable (K : PySem.W.Frag) (mg : Str → Option Value) (ad : Nat → Option Addr)
/-- the wish of an error of the class named c -/
def EX (E : XK) (c : Str) (l : Option Int) (H' : Hp) : Prop := ∀ C, mg c = some (.ref C) → match l with
  | none => E (.ref C) none H'
  | some n => ∀ d, H' d = some (.xd [("limit", .int n)]) → E (.ref C) (some d) H'
def VOk (Fz H : Hp) (st : Ds) (σ : L2.St) : Vl → V → Prop
  | .p d, x => Rep K mg Fz d x
  | .o xs, x => ∃ a vs, x = .ref a ∧ H a = some (.lst vs) ∧ Fz a = none ∧ RepL K mg Fz xs vs ∧ ¬ Ows st σ a
  | .r i, x => σ[i]? = some (some x)
/-- the address of a fresh list -/
def VAd : Vl → V → Addr → Prop
  | .o _, x, a => x = .ref a
  | _, _, _ => False
def VAds : List Vl → List V → Addr → Prop
  | v :: vs, x :: xs, a => VAd v x a ∨ VAds vs xs a
  | _, _, _ => False
/-- the end of an expression -/
structure EEnd (P : Addr → Prop) (Fz H : Hp) (v : Vl) (st' : Ds) (σ : L2.St) (x : V) (Fz' H' : Hp) : Prop where
  rs : RS K mg ad Fz' H' st' σ
  fr : Fr P Fz H (Ows st' σ) Fz' H'
  val : VOk K mg Fz' H' st' σ v x
  new : ∀ a, VAd v x a → P a ∨ H a = none
/-- an outcome: where it is an error the wish of it -/
def Out {α : Type} (E : XK) (P : Addr → Prop) (H : Hp) (r : R α) (ok : α → Prop) : Prop := match r with
  | .stuck => False
  | .err c l => ∀ H', EK P H H' → EX mg E c l H'
  | .ok a => ok a
def Post (E : XK) (P : Addr → Prop) (σ : L2.St) (Fz H : Hp) (r : R (Vl × Ds)) (Q : VK) : Prop :=
  Out mg E P H r fun v => ∀ x Fz' H', EEnd K mg ad P Fz H v.1 v.2 σ x Fz' H' → Q x H'
abbrev FE := Ds → R (Vl × Ds)
def tE (E : XK) (f : FE) : TE := fun σ H Q => ∃ st Fz, RS K mg ad Fz H st σ ∧ Post K mg ad E (Ows st σ) σ Fz H (f st) Q
/-- arguments -/
def VOks (Fz H : Hp) (st : Ds) (σ : L2.St) : List Vl → List V → Prop
  | [], [] => True
  | v :: vs, x :: xs => VOk K mg Fz H st σ v x ∧ VOks Fz H st σ vs xs ∧ ∀ a, VAd v x a → ¬ VAds vs xs a
  | _, _ => False
structure AEnd (P : Addr → Prop) (Fz H : Hp) (vs : List Vl) (st' : Ds) (σ : L2.St) (xs : List V) (Fz' H' : Hp) : Prop where
  rs : RS K mg ad Fz' H' st' σ
  fr : Fr P Fz H (Ows st' σ) Fz' H'
  val : VOks K mg Fz' H' st' σ vs xs
  new : ∀ a, VAds vs xs a → P a ∨ H a = none
abbrev FA := Ds → R (List Vl × Ds)
def tA (E : XK) (f : FA) : TA := fun σ H Q => ∃ st Fz, RS K mg ad Fz H st σ ∧ Out mg E (Ows st σ) H (f st) fun v => ∀ xs Fz' H', AEnd K mg ad (Ows st σ) Fz H v.1 v.2 σ xs Fz' H' → Q xs H'
/-- tests: the value is a bool -/
def tT (E : XK) (f : FE) : TT := fun σ H Q => ∃ st Fz, RS K mg ad Fz H st σ ∧ Out mg E (Ows st σ) H (f st) fun v => ∃ b, v.1 = .p (.bl b) ∧ ∀ Fz' H', RS K mg ad Fz' H' v.2 σ → Fr (Ows st σ) Fz H (Ows v.2 σ) Fz' H' → Q b H'
/-- statements -/
inductive Fl where | nx (st : Ds) | bk (st : Ds) | ct (st : Ds) | rt (v : Vl) (st : Ds)
abbrev FS := Ds → R Fl
structure SEnd (P : Addr → Prop) (Fz H : Hp) (st' : Ds) (σ' : L2.St) (Fz' H' : Hp) : Prop where
  rs : RS K mg ad Fz' H' st' σ'
  fr : Fr P Fz H (Ows st' σ') Fz' H'
def FOk (P : Addr → Prop) (Fz H : Hp) (D : Ends) : Fl → Prop
  | .nx st' => ∀ σ' Fz' H', SEnd K mg ad P Fz H st' σ' Fz' H' → D.nx σ' H'
  | .bk st' => ∀ σ' Fz' H', SEnd K mg ad P Fz H st' σ' Fz' H' → D.bk σ' H'
  | .ct st' => ∀ σ' Fz' H', SEnd K mg ad P Fz H st' σ' Fz' H' → D.ct σ' H'
  | .rt v st' => ∀ x σ' Fz' H', EEnd K mg ad P Fz H v st' σ' x Fz' H' → D.rt x H'
def tS (E : XK) (f : FS) : TS := fun D σ H => ∃ st Fz, RS K mg ad Fz H st σ ∧ Out mg E (Ows st σ) H (f st) (FOk K mg ad (Ows st σ) Fz H D)
end
/-! ### the judgements -/
def DE (X : Cx) (E : XK) (e : Expr) (f : FE) : Prop := ∀ ad, PE X e (tE X.K X.mg ad E f)
def DT (X : Cx) (E : XK) (e : Expr) (f : FE) : Prop := ∀ ad, PT X e (tT X.K X.mg ad E f)
def DW (X : Cx) (E : XK) (e : Expr) (f : FE) : Prop := ∀ ad, PW X e (tT X.K X.mg ad E f)
def DA (X : Cx) (E : XK) (es : List Expr) (f : FA) : Prop := ∀ ad, PA X es (tA X.K X.mg ad E f)
def DS (X : Cx) (E : XK) (s : Stmt) (f : FS) : Prop := ∀ ad, PS X s (tS X.K X.mg ad E f)
def DSs (X : Cx) (E : XK) (s : List Stmt) (f : FS) : Prop := ∀ ad, PSs X s (tS X.K X.mg ad E f)
theorem PE_conseq {X : Cx} {e : Expr} {t t' : TE} (h : PE X e t) (w : ∀ σ H Q, t' σ H Q → t σ H Q) : PE X e t' := ⟨fun pins s σ H Q I q => h.run pins s σ H Q I (w _ _ _ q)⟩
theorem PT_conseq {X : Cx} {e : Expr} {t t' : TT} (h : PT X e t) (w : ∀ σ H Q, t' σ H Q → t σ H Q) : PT X e t' := ⟨fun pins s σ H Q I q => h.run pins s σ H Q I (w _ _ _ q)⟩
theorem PW_conseq {X : Cx} {e : Expr} {t t' : TT} (h : PW X e t) (w : ∀ σ H Q, t' σ H Q → t σ H Q) : PW X e t' := ⟨fun wh pins s σ H Q I q => h.run wh pins s σ H Q I (w _ _ _ q)⟩
theorem PA_conseq {X : Cx} {e : List Expr} {t t' : TA} (h : PA X e t) (w : ∀ σ H Q, t' σ H Q → t σ H Q) : PA X e t' := ⟨fun pos pins s σ H Q I q => h.run pos pins s σ H Q I (w _ _ _ q)⟩
theorem PS_conseq {X : Cx} {e : Stmt} {t t' : TS} (h : PS X e t) (w : ∀ D σ H, t' D σ H → t D σ H) : PS X e t' := ⟨fun pins s σ H D I q => h.run pins s σ H D I (w _ _ _ q)⟩
theorem PSs_conseq {X : Cx} {e : List Stmt} {t t' : TS} (h : PSs X e t) (w : ∀ D σ H, t' D σ H → t D σ H) : PSs X e t' := ⟨fun pins s σ H D I q => h.run pins s σ H D I (w _ _ _ q)⟩
section
variable {mg : Str → Option Value} {E : XK} {P P1 : Addr → Prop} {Fz H Fz1 H1 : Hp}
theorem Out.bind {α β : Type} {x : R α} {f : α → R β} {ok : β → Prop} (h : Out mg E P H (x.bind f) ok) : Out mg E P H x fun a => Out mg E P H (f a) ok := by
  cases x with
  | stuck => exact h
  | err c l => exact h
  | ok a => exact h
theorem Out.imp {α : Type} {x : R α} {ok ok' : α → Prop} (h : Out mg E P H x ok) (w : ∀ a, ok a → ok' a) : Out mg E P H x ok' := by
  cases x with
  | stuck => exact h
  | err c l => exact h
  | ok a => exact w a h
theorem Out.shift {α : Type} {x : R α} {ok ok' : α → Prop} (h : Out mg E P H x ok) (fr : Fr P Fz H P1 Fz1 H1) (w : ∀ a, ok a → ok' a) : Out mg E P1 H1 x ok' := by
  cases x with
  | stuck => exact h
  | err c l => exact fun H' k => h H' (fr.ek k)
  | ok a => exact w a h
end
end DK

set_option Elab.async false
set_option linter.all false
set_option maxRecDepth 100000
namespace DK
open PySem PySem.Spec PyProof.Rows L2
variable [TabsC]
section
variable {K : PySem.W.Frag} {mg : Str → Option Value} {ad : Nat → Option Addr} {Fz H Fz' H' Fz1 H1 : Hp} {st st' : Ds} {σ : L2.St} {P P1 : Addr → Prop} {E : XK}
theorem Own.lt (h : Own st i) : i < st.length := by
  obtain ⟨xs, h | h⟩ := h <;> exact (List.getElem?_eq_some_iff.mp h).1
/-- an owned slot: its list -/
theorem RS.own (rs : RS K mg ad Fz H st σ) {i : Nat} (h : Own st i) : ∃ a xs vs, (st[i]? = some (.o xs) ∨ st[i]? = some (.s xs)) ∧ σ[i]? = some (some (.ref a)) ∧ H a = some (.lst vs) ∧ Fz a = none ∧ RepL K mg Fz xs vs := by
  obtain ⟨xs, h | h⟩ := h
  · obtain ⟨a, vs, e1, e2, e3, e4⟩ := rs.slot i _ h
    refine ⟨a, xs, vs, .inl h, ?_, e2, e3, e4⟩
    cases q : σ[i]? with
    | none => rw [q] at e1; cases e1
    | some y => rw [q] at e1; cases y with
      | none => cases e1
      | some z => cases e1; rfl
  · obtain ⟨a, vs, e1, e0, e2, e3, e4⟩ := rs.slot i _ h
    refine ⟨a, xs, vs, .inr h, ?_, e2, e3, e4⟩
    cases q : σ[i]? with
    | none => rw [q] at e1; cases e1
    | some y => rw [q] at e1; cases y with
      | none => cases e1
      | some z => cases e1; rfl
theorem RS.ows (rs : RS K mg ad Fz H st σ) {a : Addr} (h : Ows st σ a) : ∃ vs, H a = some (.lst vs) ∧ Fz a = none := by
  obtain ⟨i, h1, h2⟩ := h
  obtain ⟨b, xs, vs, _, e1, e2, e3, _⟩ := rs.own h1
  rw [h2] at e1
  cases e1
  exact ⟨vs, e2, e3⟩
/-- nothing of the slots is touched -/
theorem RS.ext (rs : RS K mg ad Fz H st σ) (sub : ∀ a o, Fz' a = some o → H' a = some o) (keep : ∀ q o, H q = some o → NT o → H' q = some o) (fmon : ∀ q o, Fz q = some o → Fz' q = some o) (tab : (Tbs H → Tbs H') ∧ (NoTb Fz → NoTb Fz'))
    (fnew : ∀ q o, Fz' q = some o → (∃ u, Fz q = some u) ∨ H q = none) : RS K mg ad Fz' H' st σ := by
  have fz : ∀ a vs, H a = some (.lst vs) → Fz a = none → Fz' a = none := fun a vs h1 h2 => by
    cases q : Fz' a with
    | none => rfl
    | some o =>
      rcases fnew a o q with ⟨u, z⟩ | z
      · rw [h2] at z; cases z
      · rw [h1] at z; cases z
  refine ⟨rs.len, sub, fun i s h => ?_, rs.inj, tab.1 rs.tab.1, tab.2 rs.tab.2⟩
  have k := rs.slot i s h
  cases s with
  | un => trivial
  | p d => obtain ⟨x, e1, e2⟩ := k; exact ⟨x, e1, e2.mono fmon⟩
  | o xs => obtain ⟨a, vs, e1, e2, e3, e4⟩ := k; exact ⟨a, vs, e1, keep _ _ e2 nt_lst, fz _ _ e2 e3, e4.mono fmon⟩
  | s xs => obtain ⟨a, vs, e1, e0, e2, e3, e4⟩ := k; exact ⟨a, vs, e1, e0, keep _ _ e2 nt_lst, fz _ _ e2 e3, e4.mono fmon⟩
/-- the end of an operation that writes nothing -/
structure OEnd (K : PySem.W.Frag) (mg : Str → Option Value) (Fz H : Hp) (v : Vl) (x : V) (Fz' H' : Hp) : Prop where
  keep : ∀ q o, H q = some o → NT o → H' q = some o
  dom : ∀ q, H' q = none → H q = none
  tab : (Tbs H → Tbs H') ∧ (NoTb Fz → NoTb Fz')
  sub : ∀ a o, Fz' a = some o → H' a = some o
  fmon : ∀ q o, Fz q = some o → Fz' q = some o
  fnew : ∀ q o, Fz' q = some o → (∃ u, Fz q = some u) ∨ H q = none
  val : match v with
    | .p d => Rep K mg Fz' d x
    | .o xs => ∃ a vs, x = .ref a ∧ H' a = some (.lst vs) ∧ Fz' a = none ∧ H a = none ∧ RepL K mg Fz' xs vs
    | .r _ => False
theorem OEnd.of {v : Vl} {x : V} (keep : ∀ q o, H q = some o → H' q = some o) (sub : ∀ a o, Fz' a = some o → H' a = some o) (fmon : ∀ q o, Fz q = some o → Fz' q = some o) (fnew : ∀ q o, Fz' q = some o → (∃ u, Fz q = some u) ∨ H q = none) (nt : NoTb Fz → NoTb Fz')
    (val : match v with
      | .p d => Rep K mg Fz' d x
      | .o xs => ∃ a vs, x = .ref a ∧ H' a = some (.lst vs) ∧ Fz' a = none ∧ H a = none ∧ RepL K mg Fz' xs vs
      | .r _ => False) : OEnd K mg Fz H v x Fz' H' :=
  ⟨fun q o h _ => keep q o h, fun q h => (by
    cases e : H q with
    | none => rfl
    | some o => rw [keep q o e] at h; cases h), ⟨fun t => tbs_ext t keep, nt⟩, sub, fmon, fnew, val⟩
theorem OEnd.val_p {d : D} {x : V} (sub : ∀ a o, Fz a = some o → H a = some o) (h : Rep K mg Fz d x) : OEnd K mg Fz H (.p d) x Fz H :=
  .of (fun _ _ h => h) sub (fun _ _ h => h) (fun _ o h => .inl ⟨o, h⟩) (fun h => h) h
theorem OEnd.new_lst {a : Addr} {xs : List D} {vs : List V} (sub : ∀ a o, Fz a = some o → H a = some o) (hn : H a = none) (r : RepL K mg Fz xs vs) : OEnd K mg Fz H (.o xs) (.ref a) Fz (upd H a (.lst vs)) := by
  have ne : ∀ q o, H q = some o → q ≠ a := fun q o h => ne_of_none h hn
  refine .of (fun q o h => by rw [upd_ne (ne q o h)]; exact h) (fun q o h => by rw [upd_ne (ne q o (sub q o h))]; exact sub q o h) (fun _ _ h => h) (fun _ o h => .inl ⟨o, h⟩) (fun h => h) ?_
  refine ⟨a, vs, rfl, upd_same, ?_, hn, r⟩
  cases q : Fz a with
  | none => rfl
  | some o => have := sub a o q; rw [hn] at this; cases this
theorem OEnd.new_tup {a : Addr} {xs : List D} {vs : List V} (sub : ∀ a o, Fz a = some o → H a = some o) (hn : H a = none) (r : RepL K mg Fz xs vs) : OEnd K mg Fz H (.p (.tup xs)) (.ref a) (upd Fz a (.tup vs)) (upd H a (.tup vs)) := by
  have ne : ∀ q o, H q = some o → q ≠ a := fun q o h => ne_of_none h hn
  have fm : ∀ q o, Fz q = some o → upd Fz a (.tup vs) q = some o := fun q o h => by rw [upd_ne (ne q o (sub q o h))]; exact h
  refine .of (fun q o h => by rw [upd_ne (ne q o h)]; exact h) (fun q o h => ?_) fm (fun q o h => ?_) ntb_tup ?_
  · by_cases e : q = a
    · subst e; rw [upd_same] at h ⊢; exact h
    · rw [upd_ne e] at h ⊢; exact sub q o h
  · by_cases e : q = a
    · subst e; exact .inr hn
    · rw [upd_ne e] at h; exact .inl ⟨o, h⟩
  · show Rep K mg _ (.tup xs) _
    rw [Rep]
    exact ⟨a, vs, rfl, .inl (.inl upd_same), r.mono fm⟩
theorem OEnd.rs {v : Vl} {x : V} (oe : OEnd K mg Fz H v x Fz' H') (rs : RS K mg ad Fz H st σ) : RS K mg ad Fz' H' st σ := rs.ext oe.sub oe.keep oe.fmon oe.tab oe.fnew
theorem OEnd.fr {v : Vl} {x : V} (oe : OEnd K mg Fz H v x Fz' H') : Fr (Ows st σ) Fz H (Ows st σ) Fz' H' :=
  ⟨fun q o h _ nt => oe.keep q o h nt, oe.dom, oe.fmon, fun q o h => (oe.fnew q o h).elim (fun z => Or.inl z) fun z => Or.inr (Or.inr z), fun q h => Or.inl h, oe.tab⟩
theorem OEnd.eend {v : Vl} {x : V} (oe : OEnd K mg Fz1 H1 v x Fz' H') (rs : RS K mg ad Fz1 H1 st σ) (fr : Fr P Fz H (Ows st σ) Fz1 H1) : EEnd K mg ad P Fz H v st σ x Fz' H' := by
  refine ⟨oe.rs rs, fr.trans oe.fr, ?_, fun a h => ?_⟩
  · have k := oe.val
    cases v with
    | p d => exact k
    | o xs =>
      obtain ⟨a, vs, e1, e2, e3, e4, e5⟩ := k
      refine ⟨a, vs, e1, e2, e3, e5, fun z => ?_⟩
      obtain ⟨ws, z1, _⟩ := rs.ows z
      rw [e4] at z1; cases z1
    | r i => exact k.elim
  · have k := oe.val
    cases v with
    | p d => exact h.elim
    | o xs =>
      obtain ⟨b, vs, e1, e2, e3, e4, e5⟩ := k
      have e : x = .ref a := h
      rw [e1] at e; cases e
      exact .inr (fr.dom _ e4)
    | r i => exact h.elim
theorem EEnd.of_p {d : D} {x : V} (rs : RS K mg ad Fz1 H1 st σ) (fr : Fr P Fz H (Ows st σ) Fz1 H1) (h : Rep K mg Fz1 d x) : EEnd K mg ad P Fz H (.p d) st σ x Fz1 H1 := ⟨rs, fr, h, fun _ z => z.elim⟩

/-! ### what is read of a value -/
def BR (K : PySem.W.Frag) (mg : Str → Option Value) (Fz H : Hp) : D → V → Prop
  | .lst xs, x => ∃ a vs, x = .ref a ∧ H a = some (.lst vs) ∧ RepL K mg Fz xs vs
  | d, x => Rep K mg Fz d x
def bD (v : Vl) (st : Ds) : Option D := match v with
  | .p d => some d
  | .o xs => some (.lst xs)
  | .r i => match st[i]? with
    | some (.o xs) => some (.lst xs)
    | some (.s xs) => some (.lst xs)
    | _ => none
theorem Rep.br {d : D} {x : V} (sub : ∀ a o, Fz a = some o → H a = some o) (h : Rep K mg Fz d x) : BR K mg Fz H d x := by
  cases d with
  | lst xs =>
    rw [Rep] at h
    obtain ⟨a, vs, e1, e2, e3⟩ := h
    exact ⟨a, vs, e1, sub _ _ e2, e3⟩
  | _ => exact h
theorem VOk.br {v : Vl} {x : V} {d : D} (rs : RS K mg ad Fz H st σ) (h : VOk K mg Fz H st σ v x) (e : bD v st = some d) : BR K mg Fz H d x := by
  cases v with
  | p d' =>
    have e' : d' = d := Option.some.inj e
    subst e'
    exact Rep.br rs.sub h
  | o xs =>
    have e' : D.lst xs = d := Option.some.inj e
    subst e'
    obtain ⟨a, vs, e1, e2, e3, e4, _⟩ := h
    exact ⟨a, vs, e1, e2, e4⟩
  | r i =>
    have h : σ[i]? = some (some x) := h
    have fin : ∀ xs, Own st i → (st[i]? = some (.o xs) ∨ st[i]? = some (.s xs)) → D.lst xs = d → BR K mg Fz H d x := fun xs ow hx ed => by
      subst ed
      obtain ⟨a, ys, vs, e1, e2, e3, e4, e5⟩ := rs.own ow
      rw [h] at e2
      cases e2
      have : ys = xs := by
        rcases hx with hx | hx <;> rcases e1 with e1 | e1 <;> rw [hx] at e1 <;> cases e1 <;> rfl
      subst this
      exact ⟨a, vs, rfl, e3, e5⟩
    unfold bD at e
    dsimp only at e
    split at e
    · rename_i xs hx
      exact fin xs ⟨xs, .inl hx⟩ (.inl hx) (Option.some.inj e)
    · rename_i xs hx
      exact fin xs ⟨xs, .inr hx⟩ (.inr hx) (Option.some.inj e)
    · cases e
/-- a value stands while what follows runs -/
theorem VOk.stay {v : Vl} {x : V} (h : VOk K mg Fz H st σ v x) (fr : Fr (Ows st σ) Fz H (Ows st' σ) Fz' H') : VOk K mg Fz' H' st' σ v x := by
  cases v with
  | p d => exact Rep.mono fr.fmon d x h
  | o xs =>
    obtain ⟨a, vs, e1, e2, e3, e4, e5⟩ := h
    refine ⟨a, vs, e1, fr.keep _ _ e2 e5 nt_lst, ?_, e4.mono fr.fmon, fun z => ?_⟩
    · cases q : Fz' a with
      | none => rfl
      | some o =>
        rcases fr.fnew a o q with ⟨u, z⟩ | z | z
        · rw [e3] at z; cases z
        · exact (e5 z).elim
        · rw [e2] at z; cases z
    · rcases fr.onew a z with z | z
      · exact e5 z
      · rw [e2] at z; cases z
  | r i => exact h
theorem VAd.there {v : Vl} {x : V} {a : Addr} (h : VOk K mg Fz H st σ v x) (z : VAd v x a) : (∃ vs, H a = some (.lst vs)) ∧ Fz a = none ∧ ¬ Ows st σ a := by
  cases v with
  | p d => exact z.elim
  | o xs =>
    obtain ⟨b, vs, e1, e2, e3, e4, e5⟩ := h
    have z : x = .ref a := z
    rw [e1] at z; cases z
    exact ⟨⟨vs, e2⟩, e3, e5⟩
  | r i => exact z.elim
/-- a value is frozen -/
def fzV (v : Vl) (st : Ds) : Option (D × Ds) := match v with
  | .p d => some (d, st)
  | .o xs => some (.lst xs, st)
  | .r i => match st[i]? with
    | some (.o xs) => some (.lst xs, st.set i (.p (.lst xs)))
    | _ => none
theorem own_set_p {i j : Nat} {d : D} (h : Own (st.set i (.p d)) j) : Own st j ∧ j ≠ i := by
  obtain ⟨xs, h⟩ := h
  by_cases e : i = j
  · subst e
    by_cases hl : i < st.length
    · rw [List.getElem?_set_self hl] at h
      rcases h with h | h <;> cases h
    · rw [List.getElem?_eq_none (by simpa using hl)] at h
      rcases h with h | h <;> cases h
  · rw [List.getElem?_set_ne e] at h
    exact ⟨⟨xs, h⟩, fun z => e z.symm⟩
theorem fzV_ok {v : Vl} {x : V} {d : D} (rs : RS K mg ad Fz1 H1 st σ) (fr : Fr P Fz H (Ows st σ) Fz1 H1) (h : VOk K mg Fz1 H1 st σ v x) (new : ∀ a, VAd v x a → P a ∨ H a = none) (e : fzV v st = some (d, st')) :
    ∃ Fz2, RS K mg ad Fz2 H1 st' σ ∧ Fr P Fz H (Ows st' σ) Fz2 H1 ∧ Rep K mg Fz2 d x ∧ (∀ q o, Fz1 q = some o → Fz2 q = some o) ∧ (∀ q, Ows st' σ q → Ows st σ q) ∧ ∀ q o, Fz2 q = some o → (∃ u, Fz1 q = some u) ∨ VAd v x q ∨ Ows st σ q := by
  cases v with
  | p d' =>
    cases e
    exact ⟨Fz1, rs, fr, h, fun _ _ z => z, fun _ z => z, fun _ o z => .inl ⟨o, z⟩⟩
  | o xs =>
    cases e
    obtain ⟨a, vs, e1, e2, e3, e4, e5⟩ := h
    subst e1
    have na : ∀ q o, Fz1 q = some o → q ≠ a := fun q o z e => by rw [e, e3] at z; cases z
    have fm : ∀ q o, Fz1 q = some o → upd Fz1 a (.lst vs) q = some o := fun q o z => by rw [upd_ne (na q o z)]; exact z
    refine ⟨upd Fz1 a (.lst vs), ⟨rs.len, fun q o z => ?_, fun i s z => ?_, rs.inj, rs.tab.1, ntb_lst rs.tab.2⟩, ⟨fr.keep, fr.dom, fun q o z => fm _ _ (fr.fmon q o z), fun q o z => ?_, fr.onew, fr.tab.1, fun h => ntb_lst (fr.tab.2 h)⟩, ?_, fm, fun _ z => z, fun q o z => ?_⟩
    · by_cases ee : q = a
      · subst ee; rw [upd_same] at z; rw [← z]; exact e2
      · rw [upd_ne ee] at z; exact rs.sub q o z
    · have k := rs.slot i s z
      have ne : ∀ b ws, σ[i]?.join = some (.ref b) → H1 b = some (.lst ws) → Own st i → b ≠ a := fun b ws z1 z2 z3 ee => by
        subst ee
        refine e5 ⟨i, z3, ?_⟩
        cases q : σ[i]? with
        | none => rw [q] at z1; cases z1
        | some y => rw [q] at z1; cases y with
          | none => cases z1
          | some w => cases z1; rfl
      cases s with
      | un => trivial
      | p d => obtain ⟨y, k1, k2⟩ := k; exact ⟨y, k1, k2.mono fm⟩
      | o ys => obtain ⟨b, ws, k1, k2, k3, k4⟩ := k; exact ⟨b, ws, k1, k2, by rw [upd_ne (ne b ws k1 k2 ⟨ys, .inl z⟩)]; exact k3, k4.mono fm⟩
      | s ys => obtain ⟨b, ws, k1, k0, k2, k3, k4⟩ := k; exact ⟨b, ws, k1, k0, k2, by rw [upd_ne (ne b ws k1 k2 ⟨ys, .inr z⟩)]; exact k3, k4.mono fm⟩
    · by_cases ee : q = a
      · subst ee; exact .inr (new q rfl)
      · rw [upd_ne ee] at z; exact fr.fnew q o z
    · rw [Rep]
      exact ⟨a, vs, rfl, upd_same, e4.mono fm⟩
    · by_cases ee : q = a
      · subst ee; exact .inr (.inl rfl)
      · rw [upd_ne ee] at z; exact .inl ⟨o, z⟩
  | r i =>
    have h : σ[i]? = some (some x) := h
    unfold fzV at e
    dsimp only at e
    split at e
    · rename_i xs hx
      cases e
      obtain ⟨a, ys, vs, e1, e2, e3, e4, e5⟩ := rs.own ⟨xs, .inl hx⟩
      rw [h] at e2; cases e2
      have : ys = xs := by
        rcases e1 with e1 | e1 <;> rw [hx] at e1 <;> cases e1 <;> rfl
      subst this
      have na : ∀ q o, Fz1 q = some o → q ≠ a := fun q o z e => by rw [e, e4] at z; cases z
      have fm : ∀ q o, Fz1 q = some o → upd Fz1 a (.lst vs) q = some o := fun q o z => by rw [upd_ne (na q o z)]; exact z
      have ow : ∀ q, Ows (st.set i (.p (.lst ys))) σ q → Ows st σ q := fun q ⟨j, z1, z2⟩ => ⟨j, (own_set_p z1).1, z2⟩
      have ra : Rep K mg (upd Fz1 a (.lst vs)) (.lst ys) (.ref a) := by
        rw [Rep]
        exact ⟨a, vs, rfl, upd_same, e5.mono fm⟩
      refine ⟨upd Fz1 a (.lst vs), ⟨by rw [List.length_set]; exact rs.len, fun q o z => ?_, fun j s z => ?_, fun j k b z1 z2 => rs.inj j k b (own_set_p z1).1 (own_set_p z2).1, rs.tab.1, ntb_lst rs.tab.2⟩, ⟨fr.keep, fr.dom, fun q o z => fm _ _ (fr.fmon q o z), fun q o z => ?_, fun q z => fr.onew q (ow q z), fr.tab.1, fun h => ntb_lst (fr.tab.2 h)⟩, ra, fm, ow, fun q o z => ?_⟩
      · by_cases ee : q = a
        · subst ee; rw [upd_same] at z; rw [← z]; exact e3
        · rw [upd_ne ee] at z; exact rs.sub q o z
      · by_cases ei : i = j
        · subst ei
          rw [List.getElem?_set_self (List.getElem?_eq_some_iff.mp hx).1] at z
          cases z
          rw [h]
          exact ⟨_, rfl, ra⟩
        · rw [List.getElem?_set_ne ei] at z
          have k := rs.slot j s z
          have ne : ∀ b, σ[j]?.join = some (.ref b) → Own st j → b ≠ a := fun b z1 z3 ee => by
            subst ee
            refine ei (rs.inj i j b ⟨ys, .inl hx⟩ z3 h ?_)
            cases q : σ[j]? with
            | none => rw [q] at z1; cases z1
            | some y => rw [q] at z1; cases y with
              | none => cases z1
              | some w => cases z1; rfl
          cases s with
          | un => trivial
          | p d => obtain ⟨y, k1, k2⟩ := k; exact ⟨y, k1, k2.mono fm⟩
          | o ys' => obtain ⟨b, ws, k1, k2, k3, k4⟩ := k; exact ⟨b, ws, k1, k2, by rw [upd_ne (ne b k1 ⟨ys', .inl z⟩)]; exact k3, k4.mono fm⟩
          | s ys' => obtain ⟨b, ws, k1, k0, k2, k3, k4⟩ := k; exact ⟨b, ws, k1, k0, k2, by rw [upd_ne (ne b k1 ⟨ys', .inr z⟩)]; exact k3, k4.mono fm⟩
      · by_cases ee : q = a
        · subst ee; exact .inr (fr.onew q ⟨i, ⟨ys, .inl hx⟩, h⟩)
        · rw [upd_ne ee] at z; exact fr.fnew q o z
      · by_cases ee : q = a
        · subst ee; exact .inr (.inr ⟨i, ⟨ys, .inl hx⟩, h⟩)
        · rw [upd_ne ee] at z; exact .inl ⟨o, z⟩
    · cases e
end
end DK

set_option Elab.async false
set_option linter.all false
set_option maxRecDepth 100000
namespace DK
open PySem PySem.Spec PyProof.Rows L2
variable [TabsC]
/-! ### what the rules' readings ask, by data -/
def oV (x : Option Vl) (st : Ds) : R (Vl × Ds) := match x with
  | some v => .ok (v, st)
  | none => .stuck
@[simp] theorem oV_some (v : Vl) (st : Ds) : oV (some v) st = .ok (v, st) := rfl
@[simp] theorem oV_none (st : Ds) : oV none st = .stuck := rfl
def fC (d : D) : FE := fun st => .ok (.p d, st)
def fV (i : Nat) : FE := fun st => match st[i]? with
  | some (.p d) => .ok (.p d, st)
  | some (.o _) => .ok (.r i, st)
  | some (.s _) => .ok (.r i, st)
  | _ => .stuck
def bD2 (x y : Vl) (st : Ds) (g : D → D → Option Vl) : Option Vl := match bD x st, bD y st with
  | some a, some b => g a b
  | _, _ => none
def bD1 (x : Vl) (st : Ds) (g : D → Option Vl) : Option Vl := match bD x st with
  | some a => g a
  | _ => none
def bDs (st : Ds) : List Vl → Option (List D)
  | [] => some []
  | v :: vs => match bD v st, bDs st vs with
    | some d, some ds => some (d :: ds)
    | _, _ => none
def fOp2 (g : D → D → Option Vl) (a b : FE) : FE := fun st => (a st).bind fun x => (b x.2).bind fun y => oV (bD2 x.1 y.1 y.2 g) y.2
def fOp1 (g : D → Option Vl) (a : FE) : FE := fun st => (a st).bind fun x => oV (bD1 x.1 x.2 g) x.2
def fNil : FA := fun st => .ok ([], st)
def fCons (a : FE) (t : FA) : FA := fun st => (a st).bind fun x => (t x.2).bind fun y => .ok (x.1 :: y.1, y.2)
/-- a built-in's call -/
def fCB (g : List D → Option Vl) (a : FA) : FE := fun st => (a st).bind fun x => match bDs x.2 x.1 with
  | some ds => oV (g ds) x.2
  | none => .stuck
/-- all are frozen -/
def fzVs : List Vl → Ds → Option (List D × Ds)
  | [], st => some ([], st)
  | v :: vs, st => match fzV v st with
    | some (d, st1) => match fzVs vs st1 with
      | some (ds, st2) => some (d :: ds, st2)
      | none => none
    | none => none
def fTup (a : FA) : FE := fun st => (a st).bind fun x => match fzVs x.1 x.2 with
  | some (ds, st2) => .ok (.p (.tup ds), st2)
  | none => .stuck
def fLst (a : FA) : FE := fun st => (a st).bind fun x => match fzVs x.1 x.2 with
  | some (ds, st2) => .ok (.o ds, st2)
  | none => .stuck
/-- a call of a def -/
def fCall (f : List D → R Vl) (a : FA) : FE := fun st => (a st).bind fun x => match fzVs x.1 x.2 with
  | some (ds, st2) => (f ds).bind fun v => .ok (v, st2)
  | none => .stuck
def vB (v : Vl) : Option Bool := match v with
  | .p (.bl b) => some b
  | _ => none
def fAnd (a b : FE) : FE := fun st => (a st).bind fun x => match x.1 with
  | .p (.bl true) => b x.2
  | .p (.bl false) => .ok (.p (.bl false), x.2)
  | _ => .stuck
def fOr (a b : FE) : FE := fun st => (a st).bind fun x => match x.1 with
  | .p (.bl true) => .ok (.p (.bl true), x.2)
  | .p (.bl false) => b x.2
  | _ => .stuck
def fNot (a : FE) : FE := fun st => (a st).bind fun x => match x.1 with
  | .p (.bl b) => .ok (.p (.bl (!b)), x.2)
  | _ => .stuck
def fIf (t a b : FE) : FE := fun st => (t st).bind fun x => match x.1 with
  | .p (.bl true) => a x.2
  | .p (.bl false) => b x.2
  | _ => .stuck
/-- a op1 b op2 c -/
def fChain (g g' : D → D → Option Vl) (a b c : FE) : FE := fun st => (a st).bind fun x => (b x.2).bind fun y => match bD2 x.1 y.1 y.2 g with
  | some (.p (.bl true)) => (c y.2).bind fun z => oV (bD2 y.1 z.1 z.2 g') z.2
  | some (.p (.bl false)) => .ok (.p (.bl false), y.2)
  | _ => .stuck
section
variable {K : PySem.W.Frag} {mg : Str → Option Value} {ad : Nat → Option Addr} {Fz H Fz' H' Fz1 H1 : Hp} {st st' st1 : Ds} {σ : L2.St} {P P1 : Addr → Prop} {E : XK}
/-- a two-place operation by data -/
def Op2 (K : PySem.W.Frag) (mg : Str → Option Value) (r : R2) (g : D → D → Option Vl) : Prop := ∀ (Fz H : Hp) (x y : V) (dx dy : D) (v : Vl), (∀ a o, Fz a = some o → H a = some o) → BR K mg Fz H dx x → BR K mg Fz H dy y → g dx dy = some v →
  ∀ Q : VK, (∀ z Fz' H', OEnd K mg Fz H v z Fz' H' → Q z H') → r x y H Q
def Op1 (K : PySem.W.Frag) (mg : Str → Option Value) (r : V → Hp → VK → Prop) (g : D → Option Vl) : Prop := ∀ (Fz H : Hp) (x : V) (dx : D) (v : Vl), (∀ a o, Fz a = some o → H a = some o) → BR K mg Fz H dx x → g dx = some v →
  ∀ Q : VK, (∀ z Fz' H', OEnd K mg Fz H v z Fz' H' → Q z H') → r x H Q
def BRs (K : PySem.W.Frag) (mg : Str → Option Value) (Fz H : Hp) : List D → List V → Prop
  | [], [] => True
  | d :: ds, x :: xs => BR K mg Fz H d x ∧ BRs K mg Fz H ds xs
  | _, _ => False
def OpN (K : PySem.W.Frag) (mg : Str → Option Value) (r : List V → Hp → VK → Prop) (g : List D → Option Vl) : Prop := ∀ (Fz H : Hp) (xs : List V) (ds : List D) (v : Vl), (∀ a o, Fz a = some o → H a = some o) → BRs K mg Fz H ds xs → g ds = some v →
  ∀ Q : VK, (∀ z Fz' H', OEnd K mg Fz H v z Fz' H' → Q z H') → r xs H Q
theorem BRs.nil_inv {xs : List V} (h : BRs K mg Fz H [] xs) : xs = [] := by
  cases xs with
  | nil => rfl
  | cons _ _ => exact h.elim
theorem BRs.cons_inv {d : D} {ds : List D} {xs : List V} (h : BRs K mg Fz H (d :: ds) xs) : ∃ x xs', xs = x :: xs' ∧ BR K mg Fz H d x ∧ BRs K mg Fz H ds xs' := by
  cases xs with
  | nil => exact h.elim
  | cons x xs => exact ⟨x, xs, rfl, h.1, h.2⟩
theorem VOks.br : ∀ {vs : List Vl} {xs : List V} {ds : List D}, RS K mg ad Fz H st σ → VOks K mg Fz H st σ vs xs → bDs st vs = some ds → BRs K mg Fz H ds xs
  | [], [], ds, rs, h, e => by cases e; trivial
  | [], _ :: _, ds, rs, h, e => h.elim
  | _ :: _, [], ds, rs, h, e => h.elim
  | v :: vs, x :: xs, ds, rs, h, e => by
    unfold bDs at e
    split at e
    · rename_i d ds' e1 e2
      cases e
      exact ⟨h.1.br rs e1, VOks.br rs h.2.1 e2⟩
    · cases e
theorem VOks.stay : ∀ {vs : List Vl} {xs : List V}, VOks K mg Fz H st σ vs xs → Fr (Ows st σ) Fz H (Ows st' σ) Fz' H' → VOks K mg Fz' H' st' σ vs xs
  | [], [], h, fr => trivial
  | [], _ :: _, h, fr => h.elim
  | _ :: _, [], h, fr => h.elim
  | v :: vs, x :: xs, h, fr => ⟨h.1.stay fr, VOks.stay h.2.1 fr, h.2.2⟩
theorem VAds.there : ∀ {vs : List Vl} {xs : List V} {a : Addr}, VOks K mg Fz H st σ vs xs → VAds vs xs a → (∃ ws, H a = some (.lst ws)) ∧ Fz a = none ∧ ¬ Ows st σ a
  | [], [], a, h, z => z.elim
  | [], _ :: _, a, h, z => h.elim
  | _ :: _, [], a, h, z => h.elim
  | v :: vs, x :: xs, a, h, z => z.elim (fun z => VAd.there h.1 z) fun z => VAds.there h.2.1 z
theorem bD2_ok {x y : V} {vx vy v : Vl} {g : D → D → Option Vl} {r : R2} (hr : Op2 K mg r g) (rs : RS K mg ad Fz1 H1 st σ) (fr : Fr P Fz H (Ows st σ) Fz1 H1) (hx : VOk K mg Fz1 H1 st σ vx x) (hy : VOk K mg Fz1 H1 st σ vy y) (e : bD2 vx vy st g = some v) {Q : VK}
    (q : ∀ z Fz' H', EEnd K mg ad P Fz H v st σ z Fz' H' → Q z H') : r x y H1 Q := by
  unfold bD2 at e
  split at e
  · rename_i a b e1 e2
    exact hr Fz1 H1 x y a b v rs.sub (hx.br rs e1) (hy.br rs e2) e Q fun z Fz' H' oe => q z Fz' H' (oe.eend rs fr)
  · cases e
theorem bD2_ok0 {x y : V} {vx vy v : Vl} {g : D → D → Option Vl} {r : R2} (hr : Op2 K mg r g) (rs : RS K mg ad Fz1 H1 st σ) (hx : VOk K mg Fz1 H1 st σ vx x) (hy : VOk K mg Fz1 H1 st σ vy y) (e : bD2 vx vy st g = some v) {Q : VK}
    (q : ∀ z Fz' H', OEnd K mg Fz1 H1 v z Fz' H' → Q z H') : r x y H1 Q := by
  unfold bD2 at e
  split at e
  · rename_i a b e1 e2
    exact hr Fz1 H1 x y a b v rs.sub (hx.br rs e1) (hy.br rs e2) e Q q
  · cases e
theorem tE_op2 {fa fb : FE} {g : D → D → Option Vl} {r : R2} (hr : Op2 K mg r g) {Q : VK} (h : tE K mg ad E (fOp2 g fa fb) σ H Q) : tOp r (tE K mg ad E fa) (tE K mg ad E fb) σ H Q := by
  obtain ⟨st, Fz, rs, h⟩ := h
  refine ⟨st, Fz, rs, h.bind.imp fun ⟨vx, st1⟩ h1 x Fz1 H1 e1 => ⟨st1, Fz1, e1.rs, Out.shift (Out.bind h1) e1.fr fun ⟨vy, st2⟩ h2 y Fz2 H2 e2 => ?_⟩⟩
  cases e : bD2 vx vy st2 g with
  | none => rw [e] at h2; exact h2.elim
  | some v =>
    rw [e] at h2
    exact bD2_ok hr e2.rs (e1.fr.trans e2.fr) (e1.val.stay e2.fr) e2.val e h2
theorem tE_op1 {fa : FE} {g : D → Option Vl} {r : V → Hp → VK → Prop} (hr : Op1 K mg r g) {Q : VK} (h : tE K mg ad E (fOp1 g fa) σ H Q) : tUn r (tE K mg ad E fa) σ H Q := by
  obtain ⟨st, Fz, rs, h⟩ := h
  refine ⟨st, Fz, rs, h.bind.imp fun ⟨vx, st1⟩ h1 x Fz1 H1 e1 => ?_⟩
  cases e : bD vx st1 with
  | none => unfold bD1 at h1; rw [e] at h1; exact h1.elim
  | some d =>
    unfold bD1 at h1
    rw [e] at h1
    dsimp only at h1
    cases eg : g d with
    | none => rw [eg] at h1; exact h1.elim
    | some v =>
      rw [eg] at h1
      exact hr Fz1 H1 x d v e1.rs.sub (e1.val.br e1.rs e) eg Q fun z Fz' H' oe => h1 z Fz' H' (oe.eend e1.rs e1.fr)
theorem tA_nil {Q : List V → Hp → Prop} (h : tA K mg ad E fNil σ H Q) : tNil σ H Q := by
  obtain ⟨st, Fz, rs, h⟩ := h
  exact h [] Fz H ⟨rs, Fr.refl, trivial, fun _ z => z.elim⟩
theorem tA_cons {fa : FE} {ft : FA} {Q : List V → Hp → Prop} (h : tA K mg ad E (fCons fa ft) σ H Q) : tCons (tE K mg ad E fa) (tA K mg ad E ft) σ H Q := by
  obtain ⟨st, Fz, rs, h⟩ := h
  refine ⟨st, Fz, rs, h.bind.imp fun ⟨vx, st1⟩ h1 x Fz1 H1 e1 => ⟨st1, Fz1, e1.rs, Out.shift (Out.bind h1) e1.fr fun ⟨vs, st2⟩ h2 xs Fz2 H2 e2 => ?_⟩⟩
  refine h2 (x :: xs) Fz2 H2 ⟨e2.rs, e1.fr.trans e2.fr, ⟨e1.val.stay e2.fr, e2.val, fun a z1 z2 => ?_⟩, fun a z => ?_⟩
  · obtain ⟨⟨ws, k1⟩, k2, k3⟩ := VAd.there e1.val z1
    rcases e2.new a z2 with z | z
    · exact k3 z
    · rw [k1] at z; cases z
  · rcases z with z | z
    · exact e1.new a z
    · exact (e2.new a z).elim (fun z => e1.fr.onew a z) fun z => .inr (e1.fr.dom a z)
theorem tE_cb {fa : FA} {g : List D → Option Vl} {r : List V → Hp → VK → Prop} (hr : OpN K mg r g) {Q : VK} (h : tE K mg ad E (fCB g fa) σ H Q) : tCB r (tA K mg ad E fa) σ H Q := by
  obtain ⟨st, Fz, rs, h⟩ := h
  refine ⟨st, Fz, rs, h.bind.imp fun ⟨vs, st1⟩ h1 xs Fz1 H1 e1 => ?_⟩
  dsimp only at h1
  cases e : bDs st1 vs with
  | none => rw [e] at h1; exact h1.elim
  | some ds =>
    rw [e] at h1
    dsimp only at h1
    cases eg : g ds with
    | none => rw [eg] at h1; exact h1.elim
    | some v =>
      rw [eg] at h1
      exact hr Fz1 H1 xs ds v e1.rs.sub (e1.val.br e1.rs e) eg Q fun z Fz' H' oe => h1 z Fz' H' (oe.eend e1.rs e1.fr)
/-- the values are frozen one by one -/
theorem fzVs_ok : ∀ {vs : List Vl} {xs : List V} {ds : List D} {st st' : Ds} {Fz1 : Hp}, RS K mg ad Fz1 H1 st σ → Fr P Fz H (Ows st σ) Fz1 H1 → VOks K mg Fz1 H1 st σ vs xs → (∀ a, VAds vs xs a → P a ∨ H a = none) → fzVs vs st = some (ds, st') →
    ∃ Fz2, RS K mg ad Fz2 H1 st' σ ∧ Fr P Fz H (Ows st' σ) Fz2 H1 ∧ RepL K mg Fz2 ds xs ∧ (∀ q o, Fz1 q = some o → Fz2 q = some o) ∧ ∀ q, Ows st' σ q → Ows st σ q
  | [], [], ds, st, st', Fz1, rs, fr, h, new, e => by
    cases e
    exact ⟨Fz1, rs, fr, repL_nil, fun _ _ z => z, fun _ z => z⟩
  | [], _ :: _, ds, st, st', Fz1, rs, fr, h, new, e => h.elim
  | _ :: _, [], ds, st, st', Fz1, rs, fr, h, new, e => h.elim
  | v :: vs, x :: xs, ds, st, st', Fz1, rs, fr, h, new, e => by
    unfold fzVs at e
    split at e
    · rename_i d st1 e1
      split at e
      · rename_i ds' st2 e2
        cases e
        obtain ⟨Fz2, rs2, fr2, r2, fm2, ow2, fn2⟩ := fzV_ok rs fr h.1 (fun a z => new a (.inl z)) e1
        have h2 : VOks K mg Fz2 H1 st1 σ vs xs := by
          have go : ∀ (ws : List Vl) (ys : List V), VOks K mg Fz1 H1 st σ ws ys → (∀ a, VAd v x a → ¬ VAds ws ys a) → VOks K mg Fz2 H1 st1 σ ws ys := by
            intro ws
            induction ws with
            | nil => intro ys k _; cases ys with
              | nil => trivial
              | cons _ _ => exact k.elim
            | cons w ws ih =>
              intro ys k sep
              cases ys with
              | nil => exact k.elim
              | cons y ys =>
                refine ⟨?_, ih ys k.2.1 (fun a z1 z2 => sep a z1 (.inr z2)), k.2.2⟩
                cases w with
                | p d => exact Rep.mono fm2 d y k.1
                | o ys' =>
                  obtain ⟨a, us, k1, k2, k3, k4, k5⟩ := k.1
                  refine ⟨a, us, k1, k2, ?_, k4.mono fm2, fun z => k5 (ow2 a z)⟩
                  cases q : Fz2 a with
                  | none => rfl
                  | some o =>
                    rcases fn2 a o q with ⟨u, z⟩ | z | z
                    · rw [k3] at z; cases z
                    · exact (sep a z (.inl k1)).elim
                    · exact (k5 z).elim
                | r i => exact k.1
          exact go vs xs h.2.1 h.2.2
        obtain ⟨Fz3, rs3, fr3, r3, fm3, ow3⟩ := fzVs_ok rs2 fr2 h2 (fun a z => new a (.inr z)) e2
        exact ⟨Fz3, rs3, fr3, repL_cons (r2.mono fm3) r3, fun q o z => fm3 q o (fm2 q o z), fun q z => ow2 q (ow3 q z)⟩
      · cases e
    · cases e
theorem small_sz {n : Nat} (h : n ≤ 10000) : n ≤ sizeLine := Nat.le_trans h (by decide)
theorem tE_tup {fa : FA} {n : Nat} (hn : n ≤ 10000) (hl : ∀ σ H Q, tA K mg ad E fa σ H Q → tA K mg ad E fa σ H fun xs H' => xs.length = n ∧ Q xs H') {Q : VK} (h : tE K mg ad E (fTup fa) σ H Q) : tTup (tA K mg ad E fa) σ H Q := by
  obtain ⟨st, Fz, rs, h⟩ := h
  have h' : tA K mg ad E fa σ H (fun xs H1 => ∀ p, H1 p = none → Q (.ref p) (upd H1 p (.tup xs))) := by
    refine ⟨st, Fz, rs, h.bind.imp fun ⟨vs, st1⟩ h1 xs Fz1 H1 e1 => ?_⟩
    dsimp only at h1
    cases e : fzVs vs st1 with
    | none => rw [e] at h1; exact h1.elim
    | some ds =>
      obtain ⟨ds, st2⟩ := ds
      rw [e] at h1
      intro p hp
      obtain ⟨Fz2, rs2, fr2, r2, fm2, ow2⟩ := fzVs_ok e1.rs e1.fr e1.val e1.new e
      exact h1 (.ref p) _ _ ((OEnd.new_tup rs2.sub hp r2).eend rs2 fr2)
  obtain ⟨st, Fz, rs, h⟩ := hl σ H _ h'
  refine ⟨st, Fz, rs, h.imp fun v q xs Fz1 H1 e1 => ?_⟩
  have := q xs Fz1 H1 e1
  exact ⟨by rw [this.1]; exact small_sz hn, this.2⟩
theorem tE_lst {fa : FA} {n : Nat} (hn : n ≤ 10000) (hl : ∀ σ H Q, tA K mg ad E fa σ H Q → tA K mg ad E fa σ H fun xs H' => xs.length = n ∧ Q xs H') {Q : VK} (h : tE K mg ad E (fLst fa) σ H Q) : tLst (tA K mg ad E fa) σ H Q := by
  obtain ⟨st, Fz, rs, h⟩ := h
  have h' : tA K mg ad E fa σ H (fun xs H1 => ∀ p, H1 p = none → Q (.ref p) (upd H1 p (.lst xs))) := by
    refine ⟨st, Fz, rs, h.bind.imp fun ⟨vs, st1⟩ h1 xs Fz1 H1 e1 => ?_⟩
    dsimp only at h1
    cases e : fzVs vs st1 with
    | none => rw [e] at h1; exact h1.elim
    | some ds =>
      obtain ⟨ds, st2⟩ := ds
      rw [e] at h1
      intro p hp
      obtain ⟨Fz2, rs2, fr2, r2, fm2, ow2⟩ := fzVs_ok e1.rs e1.fr e1.val e1.new e
      exact h1 (.ref p) _ _ ((OEnd.new_lst rs2.sub hp r2).eend rs2 fr2)
  obtain ⟨st, Fz, rs, h⟩ := hl σ H _ h'
  refine ⟨st, Fz, rs, h.imp fun v q xs Fz1 H1 e1 => ?_⟩
  have := q xs Fz1 H1 e1
  exact ⟨by rw [this.1]; exact small_sz hn, this.2⟩
/-! ### a def's promise, by data -/
def XT (H H' : Hp) : Prop := (∀ q o, H q = some o → NT o → H' q = some o) ∧ (∀ q, H' q = none → H q = none) ∧ (Tbs H → Tbs H')
def spF (K : PySem.W.Frag) (mg : Str → Option Value) (f : List D → R Vl) : Sp := fun vs H Q E => ∃ Fz ds, (∀ a o, Fz a = some o → H a = some o) ∧ RepL K mg Fz ds vs ∧ (Tbs H ∧ NoTb Fz) ∧ match f ds with
  | .stuck => False
  | .err c l => ∀ H', XT H H' → EX mg E c l H'
  | .ok v => ∀ x Fz' H', OEnd K mg Fz H v x Fz' H' → Q x H'
theorem EK.of_ext (h : XT H H') : EK P H H' := ⟨fun q o z _ nt => h.1 q o z nt, h.2.1, h.2.2⟩
theorem tE_call {fa : FA} {f : List D → R Vl} {Q : VK} (h : tE K mg ad E (fCall f fa) σ H Q) : tCall (spF K mg f) [] E (tA K mg ad E fa) σ H Q := by
  obtain ⟨st, Fz, rs, h⟩ := h
  refine ⟨st, Fz, rs, h.bind.imp fun ⟨vs, st1⟩ h1 xs Fz1 H1 e1 => ?_⟩
  dsimp only at h1
  show spF K mg f (xs ++ []) H1 Q E
  rw [List.append_nil]
  cases e : fzVs vs st1 with
  | none => rw [e] at h1; exact h1.elim
  | some ds =>
    obtain ⟨ds, st2⟩ := ds
    rw [e] at h1
    dsimp only at h1
    obtain ⟨Fz2, rs2, fr2, r2, fm2, ow2⟩ := fzVs_ok e1.rs e1.fr e1.val e1.new e
    refine ⟨Fz2, ds, rs2.sub, r2, rs2.tab, ?_⟩
    cases ef : f ds with
    | stuck => rw [ef] at h1; exact h1.elim
    | err c l => rw [ef] at h1; exact fun H' k => h1 H' (fr2.ek (EK.of_ext k))
    | ok v => rw [ef] at h1; exact fun x Fz' H' oe => h1 x Fz' H' (oe.eend rs2 fr2)
/-! ### and, or, not, if -/
theorem VOk.bl {b : Bool} {x : V} (h : VOk K mg Fz H st σ (.p (.bl b)) x) : x = .bl b := by
  have h : Rep K mg Fz (.bl b) x := h
  rw [Rep] at h; exact h
theorem repBl {b : Bool} : Rep K mg Fz (.bl b) (.bl b) := by rw [Rep]
theorem tE_and {fa fb : FE} {Q : VK} (h : tE K mg ad E (fAnd fa fb) σ H Q) : tAndV (tE K mg ad E fa) (tE K mg ad E fb) σ H Q := by
  obtain ⟨st, Fz, rs, h⟩ := h
  refine ⟨st, Fz, rs, h.bind.imp fun ⟨vx, st1⟩ h1 x Fz1 H1 e1 => ?_⟩
  dsimp only at h1
  split at h1
  · have e := VOk.bl e1.val
    subst e
    exact ⟨true, rfl, ⟨st1, Fz1, e1.rs, Out.shift h1 e1.fr fun ⟨vy, st2⟩ h2 y Fz2 H2 e2 => h2 y Fz2 H2 ⟨e2.rs, e1.fr.trans e2.fr, e2.val, fun a z => (e2.new a z).elim (fun z => e1.fr.onew a z) fun z => .inr (e1.fr.dom a z)⟩⟩⟩
  · have e := VOk.bl e1.val
    subst e
    exact ⟨false, rfl, h1 _ _ _ e1⟩
  · exact h1.elim
theorem EEnd.after {v : Vl} {x : V} (fr : Fr P Fz H (Ows st σ) Fz1 H1) (e : EEnd K mg ad (Ows st σ) Fz1 H1 v st' σ x Fz' H') : EEnd K mg ad P Fz H v st' σ x Fz' H' :=
  ⟨e.rs, fr.trans e.fr, e.val, fun a z => (e.new a z).elim (fun z => fr.onew a z) fun z => .inr (fr.dom a z)⟩
theorem tE_or {fa fb : FE} {Q : VK} (h : tE K mg ad E (fOr fa fb) σ H Q) : tOrV (tE K mg ad E fa) (tE K mg ad E fb) σ H Q := by
  obtain ⟨st, Fz, rs, h⟩ := h
  refine ⟨st, Fz, rs, h.bind.imp fun ⟨vx, st1⟩ h1 x Fz1 H1 e1 => ?_⟩
  dsimp only at h1
  split at h1
  · have e := VOk.bl e1.val
    subst e
    exact ⟨true, rfl, h1 _ _ _ e1⟩
  · have e := VOk.bl e1.val
    subst e
    exact ⟨false, rfl, ⟨st1, Fz1, e1.rs, Out.shift h1 e1.fr fun ⟨vy, st2⟩ h2 y Fz2 H2 e2 => h2 y Fz2 H2 (e2.after e1.fr)⟩⟩
  · exact h1.elim
theorem tE_not {fa : FE} {Q : VK} (h : tE K mg ad E (fNot fa) σ H Q) : tNotV (tE K mg ad E fa) σ H Q := by
  obtain ⟨st, Fz, rs, h⟩ := h
  refine ⟨st, Fz, rs, h.bind.imp fun ⟨vx, st1⟩ h1 x Fz1 H1 e1 => ?_⟩
  dsimp only at h1
  split at h1
  · rename_i b
    have e := VOk.bl e1.val
    subst e
    exact ⟨b, rfl, h1 _ _ _ (EEnd.of_p e1.rs e1.fr repBl)⟩
  · exact h1.elim
/-- tests -/
theorem tT_of_tE {fa : FE} {Q : Bool → Hp → Prop} (h : tT K mg ad E fa σ H Q) : tE K mg ad E fa σ H fun x H1 => ∃ k, x = .bl k ∧ Q k H1 := by
  obtain ⟨st, Fz, rs, h⟩ := h
  refine ⟨st, Fz, rs, h.imp fun ⟨v, st1⟩ ⟨b, e, h1⟩ x Fz1 H1 e1 => ?_⟩
  dsimp only at e
  subst e
  exact ⟨b, VOk.bl e1.val, h1 Fz1 H1 e1.rs e1.fr⟩
theorem tT_and {fa fb : FE} {Q : Bool → Hp → Prop} (h : tT K mg ad E (fAnd fa fb) σ H Q) : tAnd (tT K mg ad E fa) (tT K mg ad E fb) σ H Q := by
  obtain ⟨st, Fz, rs, h⟩ := h
  refine ⟨st, Fz, rs, h.bind.imp fun ⟨vx, st1⟩ h1 => ?_⟩
  dsimp only at h1
  split at h1
  · exact ⟨true, rfl, fun Fz1 H1 rs1 fr1 => ⟨st1, Fz1, rs1, Out.shift h1 fr1 fun ⟨vy, st2⟩ ⟨b, e, h2⟩ => ⟨b, e, fun Fz2 H2 rs2 fr2 => h2 Fz2 H2 rs2 (fr1.trans fr2)⟩⟩⟩
  · obtain ⟨b, e, h2⟩ := h1
    cases e
    exact ⟨false, rfl, fun Fz1 H1 rs1 fr1 => h2 Fz1 H1 rs1 fr1⟩
  · exact h1.elim
theorem tT_or {fa fb : FE} {Q : Bool → Hp → Prop} (h : tT K mg ad E (fOr fa fb) σ H Q) : tOr (tT K mg ad E fa) (tT K mg ad E fb) σ H Q := by
  obtain ⟨st, Fz, rs, h⟩ := h
  refine ⟨st, Fz, rs, h.bind.imp fun ⟨vx, st1⟩ h1 => ?_⟩
  dsimp only at h1
  split at h1
  · obtain ⟨b, e, h2⟩ := h1
    cases e
    exact ⟨true, rfl, fun Fz1 H1 rs1 fr1 => h2 Fz1 H1 rs1 fr1⟩
  · exact ⟨false, rfl, fun Fz1 H1 rs1 fr1 => ⟨st1, Fz1, rs1, Out.shift h1 fr1 fun ⟨vy, st2⟩ ⟨b, e, h2⟩ => ⟨b, e, fun Fz2 H2 rs2 fr2 => h2 Fz2 H2 rs2 (fr1.trans fr2)⟩⟩⟩
  · exact h1.elim
theorem tT_not {fa : FE} {Q : Bool → Hp → Prop} (h : tT K mg ad E (fNot fa) σ H Q) : tNot (tT K mg ad E fa) σ H Q := by
  obtain ⟨st, Fz, rs, h⟩ := h
  refine ⟨st, Fz, rs, h.bind.imp fun ⟨vx, st1⟩ h1 => ?_⟩
  dsimp only at h1
  split at h1
  · rename_i b
    obtain ⟨c, e, h2⟩ := h1
    cases e
    exact ⟨b, rfl, fun Fz1 H1 rs1 fr1 => h2 Fz1 H1 rs1 fr1⟩
  · exact h1.elim
theorem tE_if {ft fa fb : FE} {Q : VK} (h : tE K mg ad E (fIf ft fa fb) σ H Q) : tIf (tT K mg ad E ft) (tE K mg ad E fa) (tE K mg ad E fb) σ H Q := by
  obtain ⟨st, Fz, rs, h⟩ := h
  refine ⟨st, Fz, rs, h.bind.imp fun ⟨vx, st1⟩ h1 => ?_⟩
  dsimp only at h1
  split at h1
  · exact ⟨true, rfl, fun Fz1 H1 rs1 fr1 => ⟨st1, Fz1, rs1, Out.shift h1 fr1 fun ⟨vy, st2⟩ h2 y Fz2 H2 e2 => h2 y Fz2 H2 (e2.after fr1)⟩⟩
  · exact ⟨false, rfl, fun Fz1 H1 rs1 fr1 => ⟨st1, Fz1, rs1, Out.shift h1 fr1 fun ⟨vy, st2⟩ h2 y Fz2 H2 e2 => h2 y Fz2 H2 (e2.after fr1)⟩⟩
  · exact h1.elim
theorem OEnd.bl_inv {b : Bool} {x : V} (oe : OEnd K mg Fz H (.p (.bl b)) x Fz' H') : x = .bl b := by
  have h : Rep K mg Fz' (.bl b) x := oe.val
  rw [Rep] at h; exact h
theorem tE_chain {fa fb fc : FE} {g g' : D → D → Option Vl} {r r' : R2} (hr : Op2 K mg r g) (hr' : Op2 K mg r' g') {Q : VK} (h : tE K mg ad E (fChain g g' fa fb fc) σ H Q) : tChain r r' (tE K mg ad E fa) (tE K mg ad E fb) (tE K mg ad E fc) σ H Q := by
  obtain ⟨st, Fz, rs, h⟩ := h
  refine ⟨st, Fz, rs, h.bind.imp fun ⟨vx, st1⟩ h1 x Fz1 H1 e1 => ⟨st1, Fz1, e1.rs, Out.shift (Out.bind h1) e1.fr fun ⟨vy, st2⟩ h2 y Fz2 H2 e2 => ?_⟩⟩
  dsimp only at h2
  split at h2
  · rename_i e
    refine bD2_ok0 hr e2.rs (e1.val.stay e2.fr) e2.val e fun z Fz3 H3 oe => ⟨true, oe.bl_inv, ⟨st2, Fz3, oe.rs e2.rs, Out.shift h2.bind ((e1.fr.trans e2.fr).trans oe.fr) fun ⟨vz, st4⟩ h4 w Fz4 H4 e4 => ?_⟩⟩
    dsimp only at h4
    cases ez : bD2 vy vz st4 g' with
    | none => rw [ez] at h4; exact h4.elim
    | some v =>
      rw [ez] at h4
      exact bD2_ok hr' e4.rs (((e1.fr.trans e2.fr).trans oe.fr).trans e4.fr) ((e2.val.stay oe.fr).stay e4.fr) e4.val ez h4
  · rename_i e
    exact bD2_ok0 hr e2.rs (e1.val.stay e2.fr) e2.val e fun z Fz3 H3 oe => ⟨false, oe.bl_inv, h2 _ _ _ (EEnd.of_p (oe.rs e2.rs) ((e1.fr.trans e2.fr).trans oe.fr) repBl)⟩
  · exact h2.elim
end
end DK

set_option Elab.async false
set_option linter.all false
set_option maxRecDepth 100000
namespace DK
open PySem PySem.Spec PyProof.Rows L2
variable [TabsC]
section
variable {K : PySem.W.Frag} {mg : Str → Option Value} {ad : Nat → Option Addr} {Fz H Fz' H' Fz1 H1 : Hp} {st st' st1 : Ds} {σ : L2.St} {P P1 : Addr → Prop} {E : XK}
theorem join_some {i : Nat} {x : V} (h : σ[i]?.join = some x) : σ[i]? = some (some x) := by
  cases q : σ[i]? with
  | none => rw [q] at h; cases h
  | some y => rw [q] at h; cases y with
    | none => cases h
    | some z => cases h; rfl
theorem tE_var {i : Nat} {Q : VK} (h : tE K mg ad E (fV i) σ H Q) : tVar i σ H Q := by
  obtain ⟨st, Fz, rs, h⟩ := h
  unfold fV at h
  split at h
  · rename_i d e
    obtain ⟨x, e1, e2⟩ := rs.slot i _ e
    exact ⟨x, join_some e1, h x Fz H (EEnd.of_p rs Fr.refl e2)⟩
  · rename_i xs e
    obtain ⟨a, ys, vs, _, e2, _⟩ := rs.own ⟨xs, .inl e⟩
    exact ⟨_, e2, h _ Fz H ⟨rs, Fr.refl, e2, fun _ z => z.elim⟩⟩
  · rename_i xs e
    obtain ⟨a, ys, vs, _, e2, _⟩ := rs.own ⟨xs, .inr e⟩
    exact ⟨_, e2, h _ Fz H ⟨rs, Fr.refl, e2, fun _ z => z.elim⟩⟩
  · exact h.elim
theorem tE_const {d : D} {v : V} (r : ∀ Fz, Rep K mg Fz d v) {Q : VK} (h : tE K mg ad E (fC d) σ H Q) : tC v σ H Q := by
  obtain ⟨st, Fz, rs, h⟩ := h
  exact h v Fz H (EEnd.of_p rs Fr.refl (r Fz))
def FALen (fa : FA) (n : Nat) : Prop := ∀ st v, fa st = .ok v → v.1.length = n
theorem falen_nil : FALen fNil 0 := fun st v e => by cases e; rfl
theorem falen_cons {a : FE} {t : FA} {n : Nat} (h : FALen t n) : FALen (fCons a t) (n + 1) := fun st v e => by
  unfold fCons at e
  cases ea : a st with
  | stuck => rw [ea] at e; cases e
  | err c l => rw [ea] at e; cases e
  | ok x =>
    rw [ea, R.bind_ok] at e
    cases et : t x.2 with
    | stuck => rw [et] at e; cases e
    | err c l => rw [et] at e; cases e
    | ok y =>
      rw [et] at e
      cases e
      show (x.1 :: y.1).length = n + 1
      rw [List.length_cons, h _ _ et]
theorem VOks.len : ∀ {vs : List Vl} {xs : List V}, VOks K mg Fz H st σ vs xs → xs.length = vs.length
  | [], [], h => rfl
  | [], _ :: _, h => h.elim
  | _ :: _, [], h => h.elim
  | v :: vs, x :: xs, h => by rw [List.length_cons, List.length_cons, VOks.len h.2.1]
theorem tA_len {fa : FA} {n : Nat} (hl : FALen fa n) (σ : L2.St) (H : Hp) (Q : List V → Hp → Prop) (h : tA K mg ad E fa σ H Q) : tA K mg ad E fa σ H fun xs H' => xs.length = n ∧ Q xs H' := by
  obtain ⟨st, Fz, rs, h⟩ := h
  refine ⟨st, Fz, rs, ?_⟩
  cases e : fa st with
  | stuck => rw [e] at h; exact h
  | err c l => rw [e] at h; exact h
  | ok v =>
    rw [e] at h
    exact fun xs Fz' H' ae => ⟨by rw [ae.val.len]; exact hl _ _ e, h xs Fz' H' ae⟩
end
section
variable {X : Cx} {E : XK} {a b c e : Expr} {es : List Expr} {fa fb fc ft : FE} {fl : FA} {pos p : Pos} {x : Str}
theorem de_var (i : Nat) (hN : X.N[i]? = some x := by rfl) (hv : Vis X.env.scope x := by first | exact Or.inl rfl | exact Or.inr (Or.inl rfl) | exact Or.inr (Or.inr rfl)) (hd : (x == ("__debug__" : Str)) = false := by decide)
    (hcd : (x == ("__classdict__" : Str)) = false := by decide) : DE X E (.Name x pos) (fV i) := fun ad => PE_conseq (pe_var hN hv hd hcd) fun σ H Q h => tE_var h
theorem de_int {i : Int} {j} : DE X E (.Constant (.int i) j pos) (fC (.int i)) := fun ad => PE_conseq pe_int fun σ H Q h => tE_const (fun Fz => by rw [Rep]) h
theorem de_bl {i : Bool} {j} : DE X E (.Constant (.bool i) j pos) (fC (.bl i)) := fun ad => PE_conseq pe_bl fun σ H Q h => tE_const (fun Fz => by rw [Rep]) h
theorem de_non {j} : DE X E (.Constant .none j pos) (fC .non) := fun ad => PE_conseq pe_non fun σ H Q h => tE_const (fun Fz => by rw [Rep]) h
theorem de_str {i : Str} {j} : DE X E (.Constant (.str i) j pos) (fC (.str i)) := fun ad => PE_conseq pe_str fun σ H Q h => tE_const (fun Fz => by rw [Rep]) h
/-- a module's constant -/
theorem de_glob {d : D} {v : V} {u : Value} (hg : Gl X x) (hm : X.mg x = some u) (r : RelV v u) (rd : ∀ Fz, Rep X.K X.mg Fz d v) (hdb : (x == ("__debug__" : Str)) = false := by decide) : DE X E (.Name x pos) (fC d) := fun ad => PE_conseq (pe_glob hg hm r hdb) fun σ H Q h => tE_const rd h
theorem de_op {op : Operator} {r : R2} {g : D → D → Option Vl} (ho : OpR X (binaryOp op) r) (hr : Op2 X.K X.mg r g) (ha : DE X E a fa) (hb : DE X E b fb) : DE X E (.BinOp a op b pos) (fOp2 g fa fb) := fun ad => PE_conseq (pe_op ho (ha ad) (hb ad)) fun σ H Q h => tE_op2 hr h
theorem de_cmp {op : CmpOp} {r : R2} {g : D → D → Option Vl} (ho : OpR X (compareOp op) r) (hr : Op2 X.K X.mg r g) (ha : DE X E a fa) (hb : DE X E b fb) (hm : behindInMarks op b = false) : DE X E (.Compare a [op] [b] pos) (fOp2 g fa fb) := fun ad => PE_conseq (pe_cmpR ho (ha ad) (hb ad) hm) fun σ H Q h => tE_op2 hr h
theorem de_ix {r : R2} {g : D → D → Option Vl} (ho : IxR X r) (hr : Op2 X.K X.mg r g) (ha : DE X E a fa) (hb : DE X E b fb) (hs : PlainIx b) : DE X E (.Subscript a b pos) (fOp2 g fa fb) := fun ad => PE_conseq (pe_ix ho (ha ad) (hb ad) hs) fun σ H Q h => tE_op2 hr h
theorem de_un {op : UnaryOp} {r : V → Hp → VK → Prop} {g : D → Option Vl} (ho : UnR X (unaryOp op) r) (hr : Op1 X.K X.mg r g) (ha : DE X E a fa) : DE X E (.UnaryOp op a pos) (fOp1 g fa) := fun ad => PE_conseq (pe_un ho (ha ad)) fun σ H Q h => tE_op1 hr h
theorem de_chain {op op' : CmpOp} {r r' : R2} {g g' : D → D → Option Vl} (ho : OpR X (compareOp op) r) (hr : Op2 X.K X.mg r g) (ho' : OpR X (compareOp op') r') (hr' : Op2 X.K X.mg r' g') (ha : DE X E a fa) (hb : DE X E b fb) (hc : DE X E c fc)
    (hm : lastMarks [op, op'] [b, c] = false := by with_unfolding_all rfl) : DE X E (.Compare a [op, op'] [b, c] pos) (fChain g g' fa fb fc) := fun ad => PE_conseq (pe_chain ho ho' (ha ad) (hb ad) (hc ad) hm) fun σ H Q h => tE_chain hr hr' h
theorem da_nil : DA X E [] fNil := fun ad => PA_conseq pa_nil fun σ H Q h => tA_nil h
theorem da_cons (ha : DE X E a fa) (hl : DA X E es fl) (hs : starEach (a :: es) X.env = (false, eval a X.env) :: starEach es X.env := by rfl) : DA X E (a :: es) (fCons fa fl) := fun ad => PA_conseq (pa_cons (ha ad) (hl ad) hs) fun σ H Q h => tA_cons h
theorem de_tup {x1} {n : Nat} (hl : DA X E es fl) (hn : FALen fl n := by repeat (first | exact falen_nil | refine falen_cons ?_)) (hz : n ≤ 10000 := by decide) : DE X E (.Tuple es x1 pos) (fTup fl) := fun ad => PE_conseq (pe_tup (hl ad)) fun σ H Q h => tE_tup hz (tA_len hn) h
theorem de_lst {n : Nat} (hl : DA X E es fl) (hn : FALen fl n := by repeat (first | exact falen_nil | refine falen_cons ?_)) (hz : n ≤ 10000 := by decide) : DE X E (.List es pos) (fLst fl) := fun ad => PE_conseq (pe_lst (hl ad)) fun σ H Q h => tE_lst hz (tA_len hn) h
theorem de_callB {id : String} {r : List V → Hp → VK → Prop} {g : List D → Option Vl} (hc : CallR X (.builtin id) r) (hr : OpN X.K X.mg r g) (hg : Gl X x) (hm : X.mg x = none) (hv : bootBuiltins x = some (.builtin id)) (ha : DA X E (e :: es) fl) (hn : x ≠ "__name__" := by decide) (hdb : (x == ("__debug__" : Str)) = false := by decide)
    (he : starEach (e :: es) X.env = (false, eval e X.env) :: starEach es X.env := by rfl) (hpl : (backTo pos (starEach es X.env)).any (·.1) = false := by rfl) : DE X E (.Call (.Name x p) (e :: es) [] pos) (fCB g fl) := fun ad => PE_conseq (pe_callB hc hg hm hv (ha ad) hn hdb he hpl) fun σ H Q h => tE_cb hr h
theorem de_callTy {T : String} {r : List V → Hp → VK → Prop} {g : List D → Option Vl} (hc : CallR X (.type T) r) (hr : OpN X.K X.mg r g) (hg : Gl X x) (hm : X.mg x = none) (hv : bootBuiltins x = some (.type T)) (ha : DA X E (e :: es) fl) (hn : x ≠ "__name__" := by decide) (hdb : (x == ("__debug__" : Str)) = false := by decide)
    (he : starEach (e :: es) X.env = (false, eval e X.env) :: starEach es X.env := by rfl) (hpl : (backTo pos (starEach es X.env)).any (·.1) = false := by rfl) : DE X E (.Call (.Name x p) (e :: es) [] pos) (fCB g fl) := fun ad => PE_conseq (pe_callTy hc hg hm hv (ha ad) hn hdb he hpl) fun σ H Q h => tE_cb hr h
theorem de_call {k : Nat} {f : Addr} {fd : FuncData} {ps : List Str} {fn : List D → R Vl} (F : FnOk X.prog X.w X.K X.mg X.base (L2.CX X.prog X.w) k f fd ps (spF X.K X.mg fn)) (hr : Room k X.A) (hg : Gl X x) (hm : X.mg x = some (.ref f)) (hk : PySem.W.keepIn X.K (.ref f) = true) (hb : Binds X.K fd ps []) (hx : Passes (L2.CX X.prog X.w) X E)
    (ha : DA X E (e :: es) fl) (hdb : (x == ("__debug__" : Str)) = false := by decide) (he : starEach (e :: es) X.env = (false, eval e X.env) :: starEach es X.env := by rfl) (hpl : (backTo pos (starEach es X.env)).any (·.1) = false := by rfl) :
    DE X E (.Call (.Name x p) (e :: es) [] pos) (fCall fn fl) := fun ad => PE_conseq (pe_call F hr hg hm hk hb .nil hx (ha ad) hdb he hpl) fun σ H Q h => tE_call h
theorem de_one {op} (h : DE X E a fa) : DE X E (.BoolOp op [a] pos) fa := fun ad => pe_one (h ad)
theorem de_and {rest : List Expr} (ha : DE X E a fa) (hb : DE X E (.BoolOp .And (b :: rest) pos) fb) : DE X E (.BoolOp .And (a :: b :: rest) pos) (fAnd fa fb) := fun ad => PE_conseq (pe_and (ha ad) (hb ad)) fun σ H Q h => tE_and h
theorem de_or {rest : List Expr} (ha : DE X E a fa) (hb : DE X E (.BoolOp .Or (b :: rest) pos) fb) : DE X E (.BoolOp .Or (a :: b :: rest) pos) (fOr fa fb) := fun ad => PE_conseq (pe_or (ha ad) (hb ad)) fun σ H Q h => tE_or h
theorem de_not (ha : DE X E a fa) : DE X E (.UnaryOp .Not a pos) (fNot fa) := fun ad => PE_conseq (pe_not (ha ad)) fun σ H Q h => tE_not h
theorem de_if (hc : DT X E c ft) (ha : DE X E a fa) (hb : DE X E b fb) : DE X E (.IfExp c a b pos) (fIf ft fa fb) := fun ad => PE_conseq (pe_ifExp (hc ad) (ha ad) (hb ad)) fun σ H Q h => tE_if h
/-! tests -/
theorem dt_val (h : DE X E e fa) (he : ∀ whole, isTrue e X.env whole = (do let v ← whole; standAt e.pos; holding [v] (truthy v)) := by intro _; rfl) : DT X E e fa := fun ad => PT_conseq (pt_val (h ad) he) fun σ H Q h => tT_of_tE h
theorem dt_cmp {op : CmpOp} {r : R2} {g : D → D → Option Vl} (ho : OpR X (compareOp op) r) (hr : Op2 X.K X.mg r g) (ha : DE X E a fa) (hb : DE X E b fb) (hm : behindInMarks op b = false) : DT X E (.Compare a [op] [b] pos) (fOp2 g fa fb) := fun ad => PT_conseq (pt_cmpR ho (ha ad) (hb ad) hm) fun σ H Q h => tE_op2 hr (tT_of_tE h)
theorem dt_chain {op op' : CmpOp} {r r' : R2} {g g' : D → D → Option Vl} (ho : OpR X (compareOp op) r) (hr : Op2 X.K X.mg r g) (ho' : OpR X (compareOp op') r') (hr' : Op2 X.K X.mg r' g') (ha : DE X E a fa) (hb : DE X E b fb) (hc : DE X E c fc)
    (hm : lastMarks [op, op'] [b, c] = false := by with_unfolding_all rfl) : DT X E (.Compare a [op, op'] [b, c] pos) (fChain g g' fa fb fc) := fun ad => PT_conseq (pt_chain ho ho' (ha ad) (hb ad) (hc ad) hm) fun σ H Q h => tE_chain hr hr' (tT_of_tE h)
theorem dw_and1 (ha : DT X E a fa) : DW X E (.BoolOp .And [a] pos) fa := fun ad => pw_and1 (ha ad)
theorem dw_or1 (ha : DT X E a fa) : DW X E (.BoolOp .Or [a] pos) fa := fun ad => pw_or1 (ha ad)
theorem dw_and {rest : List Expr} (ha : DT X E a fa) (hb : DW X E (.BoolOp .And (b :: rest) pos) fb) : DW X E (.BoolOp .And (a :: b :: rest) pos) (fAnd fa fb) := fun ad => PW_conseq (pw_and (ha ad) (hb ad)) fun σ H Q h => tT_and h
theorem dw_or {rest : List Expr} (ha : DT X E a fa) (hb : DW X E (.BoolOp .Or (b :: rest) pos) fb) : DW X E (.BoolOp .Or (a :: b :: rest) pos) (fOr fa fb) := fun ad => PW_conseq (pw_or (ha ad) (hb ad)) fun σ H Q h => tT_or h
theorem dt_w (h : DW X E e fa) : DT X E e fa := fun ad => (h ad).pt
theorem dt_not (ha : DT X E a fa) : DT X E (.UnaryOp .Not a pos) (fNot fa) := fun ad => PT_conseq (pt_not (ha ad)) fun σ H Q h => tT_not h
end
end DK

set_option Elab.async false
set_option linter.all false
set_option maxRecDepth 100000
namespace DK
open PySem PySem.Spec PyProof.Rows L2
variable [TabsC]
/-! ### stores -/
def fzR (v : Vl) (st : Ds) : Option (Vl × Ds) := match v with
  | .r i => match fzV (.r i) st with
    | some (d, st1) => some (.p d, st1)
    | none => none
  | v => some (v, st)
def fzRs : List Vl → Ds → Option (List Vl × Ds)
  | [], st => some ([], st)
  | v :: vs, st => match fzR v st with
    | some (u, st1) => match fzRs vs st1 with
      | some (us, st2) => some (u :: us, st2)
      | none => none
    | none => none
def put (i : Nat) (v : Vl) (st : Ds) : Ds := match v with
  | .p d => st.set i (.p d)
  | .o xs => st.set i (.o xs)
  | .r _ => st
def puts : List Nat → List Vl → Ds → Ds
  | i :: is, v :: vs, st => puts is vs (put i v st)
  | _, _, st => st
def putV : List Nat → List V → L2.St → L2.St
  | i :: is, x :: xs, σ => putV is xs (σ.set i (some x))
  | _, _, σ => σ
def fSet (i : Nat) (e : FE) : FS := fun st => (e st).bind fun x => match fzR x.1 x.2 with
  | some (v, st2) => .ok (.nx (put i v st2))
  | none => .stuck
/-- a, b, .. = a tuple -/
def putD : List Nat → List D → Ds → Option Ds
  | [], [], st => some st
  | i :: is, d :: ds, st => putD is ds (st.set i (.p d))
  | _, _, _ => none
def oS (x : Option Ds) : R Fl := match x with
  | some st => .ok (.nx st)
  | none => .stuck
def fSetT (is : List Nat) (e : FE) : FS := fun st => (e st).bind fun x => match x.1 with
  | .p (.tup ds) => oS (putD is ds x.2)
  | _ => .stuck
/-- a, b, .. = x, y, .. -/
def fPar (is : List Nat) (e : FA) : FS := fun st => (e st).bind fun x => match fzRs x.1 x.2 with
  | some (vs, st2) => if vs.length = is.length then .ok (.nx (puts is vs st2)) else .stuck
  | none => .stuck
def fExpr (e : FE) : FS := fun st => (e st).bind fun x => .ok (.nx x.2)
def fRet (e : FE) : FS := fun st => (e st).bind fun x => .ok (.rt x.1 x.2)
def fRetN : FS := fun st => .ok (.rt (.p .non) st)
def fNext : FS := fun st => .ok (.nx st)
def fBreak : FS := fun st => .ok (.bk st)
def fCont : FS := fun st => .ok (.ct st)
def fNever : FS := fun _ => .stuck
def fSeq (a b : FS) : FS := fun st => (a st).bind fun x => match x with
  | .nx st1 => b st1
  | f => .ok f
def fIfS (t : FE) (a b : FS) : FS := fun st => (t st).bind fun x => match x.1 with
  | .p (.bl true) => a x.2
  | .p (.bl false) => b x.2
  | _ => .stuck
def fRaise (c : Str) : FS := fun _ => .err c none
/-- xs.append(e) -/
def fApp (i : Nat) (e : FE) : FS := fun st => (e st).bind fun x => match fzV x.1 x.2 with
  | some (d, st1) => match st1[i]? with
    | some (.o xs) => if xs.length < 100000 then .ok (.nx (st1.set i (.o (xs ++ [d])))) else .stuck
    | _ => .stuck
  | none => .stuck
/-- xs[j] = e -/
def fSetIx (i : Nat) (j e : FE) : FS := fun st => (e st).bind fun x => match fzV x.1 x.2 with
  | some (d, st1) => (j st1).bind fun y => match y.1 with
    | .p (.int n) => match y.2[i]? with
      | some (.o xs) => match ixN xs.length n with
        | some m => .ok (.nx (y.2.set i (.o (xs.set m d))))
        | none => .stuck
      | some (.s xs) => match ixN xs.length n with
        | some m => .ok (.nx (y.2.set i (.s (xs.set m d))))
        | none => .stuck
      | _ => .stuck
    | _ => .stuck
  | none => .stuck
section
variable {K : PySem.W.Frag} {mg : Str → Option Value} {ad : Nat → Option Addr} {Fz H Fz' H' Fz1 H1 : Hp} {st st' st1 : Ds} {σ : L2.St} {P P1 : Addr → Prop} {E : XK} {D : Ends}
theorem ows_set_p {i : Nat} {d : DK.D} {x : Option V} {q : Addr} (h : Ows (st.set i (.p d)) (σ.set i x) q) : Ows st σ q := by
  obtain ⟨j, h1, h2⟩ := h
  obtain ⟨h3, h4⟩ := own_set_p h1
  rw [List.getElem?_set_ne (Ne.symm h4)] at h2
  exact ⟨j, h3, h2⟩
theorem RS.set_p {i : Nat} {d : DK.D} {x : V} (rs : RS K mg ad Fz H st σ) (r : Rep K mg Fz d x) : RS K mg ad Fz H (st.set i (.p d)) (σ.set i (some x)) := by
  refine ⟨by rw [List.length_set, List.length_set]; exact rs.len, rs.sub, fun j s h => ?_, fun j k a h1 h2 h3 h4 => ?_, rs.tab⟩
  · by_cases e : i = j
    · subst e
      have hl : i < st.length := by
        have := (List.getElem?_eq_some_iff.mp h).1
        simpa using this
      rw [List.getElem?_set_self hl] at h
      cases h
      rw [List.getElem?_set_self (by rw [← rs.len]; exact hl)]
      exact ⟨x, rfl, r⟩
    · rw [List.getElem?_set_ne e] at h ⊢
      exact rs.slot j s h
  · obtain ⟨g1, n1⟩ := own_set_p h1
    obtain ⟨g2, n2⟩ := own_set_p h2
    rw [List.getElem?_set_ne (Ne.symm n1)] at h3
    rw [List.getElem?_set_ne (Ne.symm n2)] at h4
    exact rs.inj j k a g1 g2 h3 h4
theorem own_set_o {i j : Nat} {xs : List DK.D} (h : Own (st.set i (.o xs)) j) (n : j ≠ i) : Own st j := by
  obtain ⟨ys, h⟩ := h
  rw [List.getElem?_set_ne (Ne.symm n)] at h
  exact ⟨ys, h⟩
theorem ows_set_o {i : Nat} {xs : List DK.D} {a q : Addr} (h : Ows (st.set i (.o xs)) (σ.set i (some (.ref a))) q) : Ows st σ q ∨ q = a := by
  obtain ⟨j, h1, h2⟩ := h
  by_cases e : j = i
  · subst e
    by_cases hl : j < σ.length
    · rw [List.getElem?_set_self hl] at h2
      cases h2
      exact .inr rfl
    · rw [List.getElem?_eq_none (by simpa using hl)] at h2
      cases h2
  · rw [List.getElem?_set_ne (Ne.symm e)] at h2
    exact .inl ⟨j, own_set_o h1 e, h2⟩
theorem RS.set_o {i : Nat} {xs : List DK.D} {a : Addr} {vs : List V} (rs : RS K mg ad Fz H st σ) (h1 : H a = some (.lst vs)) (h2 : Fz a = none) (h3 : RepL K mg Fz xs vs) (h4 : ¬ Ows st σ a) : RS K mg ad Fz H (st.set i (.o xs)) (σ.set i (some (.ref a))) := by
  refine ⟨by rw [List.length_set, List.length_set]; exact rs.len, rs.sub, fun j s h => ?_, fun j k b g1 g2 g3 g4 => ?_, rs.tab⟩
  · by_cases e : i = j
    · subst e
      have hl : i < st.length := by
        have := (List.getElem?_eq_some_iff.mp h).1
        simpa using this
      rw [List.getElem?_set_self hl] at h
      cases h
      rw [List.getElem?_set_self (by rw [← rs.len]; exact hl)]
      exact ⟨a, vs, rfl, h1, h2, h3⟩
    · rw [List.getElem?_set_ne e] at h ⊢
      exact rs.slot j s h
  · have hl : i < st.length ∨ ¬ i < st.length := Nat.lt_or_ge i st.length |>.imp id Nat.not_lt.mpr
    rcases hl with hl | hl
    · have hs : i < σ.length := by rw [← rs.len]; exact hl
      by_cases ej : j = i
      · subst ej
        rw [List.getElem?_set_self hs] at g3
        cases g3
        by_cases ek : k = j
        · exact ek.symm
        · rw [List.getElem?_set_ne (Ne.symm ek)] at g4
          exact (h4 ⟨k, own_set_o g2 ek, g4⟩).elim
      · rw [List.getElem?_set_ne (Ne.symm ej)] at g3
        by_cases ek : k = i
        · subst ek
          rw [List.getElem?_set_self hs] at g4
          cases g4
          exact (h4 ⟨j, own_set_o g1 ej, g3⟩).elim
        · rw [List.getElem?_set_ne (Ne.symm ek)] at g4
          exact rs.inj j k b (own_set_o g1 ej) (own_set_o g2 ek) g3 g4
    · have e1 : st.set i (.o xs) = st := List.set_eq_of_length_le (Nat.not_lt.mp hl)
      have e2 : σ.set i (some (.ref a)) = σ := List.set_eq_of_length_le (by rw [← rs.len]; exact Nat.not_lt.mp hl)
      rw [e1] at g1 g2
      rw [e2] at g3 g4
      exact rs.inj j k b g1 g2 g3 g4
/-- a value that is no slot's is stored -/
theorem put_ok {i : Nat} {v : Vl} {x : V} (hv : ∀ j, v ≠ .r j) (rs : RS K mg ad Fz1 H1 st σ) (fr : Fr P Fz H (Ows st σ) Fz1 H1) (h : VOk K mg Fz1 H1 st σ v x) (new : ∀ a, VAd v x a → P a ∨ H a = none) :
    SEnd K mg ad P Fz H (put i v st) (σ.set i (some x)) Fz1 H1 ∧ ∀ q, Ows (put i v st) (σ.set i (some x)) q → Ows st σ q ∨ VAd v x q := by
  cases v with
  | p d =>
    exact ⟨⟨rs.set_p h, fr.less fun q z => ows_set_p z⟩, fun q z => .inl (ows_set_p z)⟩
  | o xs =>
    obtain ⟨a, vs, e1, e2, e3, e4, e5⟩ := h
    subst e1
    have ow : ∀ q, Ows (st.set i (.o xs)) (σ.set i (some (.ref a))) q → Ows st σ q ∨ q = a := fun q z => ows_set_o z
    refine ⟨⟨rs.set_o e2 e3 e4 e5, fr.keep, fr.dom, fr.fmon, fr.fnew, (fun q z => ?_), fr.tab⟩, fun q z => ?_⟩
    · rcases ow q z with z | z
      · exact fr.onew q z
      · subst z; exact new _ rfl
    · rcases ow q z with z | z
      · exact .inl z
      · subst z; exact .inr rfl
  | r j => exact (hv j rfl).elim
theorem fzR_ok {v u : Vl} {x : V} (rs : RS K mg ad Fz1 H1 st σ) (fr : Fr P Fz H (Ows st σ) Fz1 H1) (h : VOk K mg Fz1 H1 st σ v x) (new : ∀ a, VAd v x a → P a ∨ H a = none) (e : fzR v st = some (u, st')) :
    ∃ Fz2, RS K mg ad Fz2 H1 st' σ ∧ Fr P Fz H (Ows st' σ) Fz2 H1 ∧ VOk K mg Fz2 H1 st' σ u x ∧ (∀ j, u ≠ .r j) ∧ (∀ a, VAd u x a → VAd v x a) ∧ (∀ q o, Fz1 q = some o → Fz2 q = some o) ∧ (∀ q, Ows st' σ q → Ows st σ q) ∧ ∀ q o, Fz2 q = some o → (∃ u, Fz1 q = some u) ∨ Ows st σ q := by
  cases v with
  | p d => cases e; exact ⟨Fz1, rs, fr, h, (fun j z => nomatch z), fun a z => z, fun _ _ z => z, fun _ z => z, fun q o z => .inl ⟨o, z⟩⟩
  | o xs => cases e; exact ⟨Fz1, rs, fr, h, (fun j z => nomatch z), fun a z => z, fun _ _ z => z, fun _ z => z, fun q o z => .inl ⟨o, z⟩⟩
  | r i =>
    unfold fzR at e
    dsimp only at e
    split at e
    · rename_i d st1 e1
      cases e
      obtain ⟨Fz2, a1, a2, a3, a4, a5, a6⟩ := fzV_ok rs fr h new e1
      refine ⟨Fz2, a1, a2, a3, (fun j z => nomatch z), fun a z => z.elim, a4, a5, fun q o z => ?_⟩
      rcases a6 q o z with z | z | z
      · exact .inl z
      · exact z.elim
      · exact .inr z
    · cases e
/-- what of other values stands -/
theorem VOks.thaw : ∀ {vs : List Vl} {xs : List V} {Fz2 : Hp}, VOks K mg Fz1 H1 st σ vs xs → (∀ q o, Fz1 q = some o → Fz2 q = some o) → (∀ q, Ows st' σ q → Ows st σ q) → (∀ q o, Fz2 q = some o → (∃ u, Fz1 q = some u) ∨ Ows st σ q) → VOks K mg Fz2 H1 st' σ vs xs
  | [], [], _, h, _, _, _ => trivial
  | [], _ :: _, _, h, _, _, _ => h.elim
  | _ :: _, [], _, h, _, _, _ => h.elim
  | v :: vs, x :: xs, Fz2, h, fm, ow, fn => by
    refine ⟨?_, VOks.thaw h.2.1 fm ow fn, h.2.2⟩
    cases v with
    | p d => exact Rep.mono fm d x h.1
    | o ys =>
      obtain ⟨a, us, k1, k2, k3, k4, k5⟩ := h.1
      refine ⟨a, us, k1, k2, ?_, k4.mono fm, fun z => k5 (ow a z)⟩
      cases q : Fz2 a with
      | none => rfl
      | some o =>
        rcases fn a o q with ⟨u, z⟩ | z
        · rw [k3] at z; cases z
        · exact (k5 z).elim
    | r i => exact h.1
theorem fzRs_ok : ∀ {vs us : List Vl} {xs : List V} {st st' : Ds} {Fz1 : Hp}, RS K mg ad Fz1 H1 st σ → Fr P Fz H (Ows st σ) Fz1 H1 → VOks K mg Fz1 H1 st σ vs xs → (∀ a, VAds vs xs a → P a ∨ H a = none) → fzRs vs st = some (us, st') →
    ∃ Fz2, RS K mg ad Fz2 H1 st' σ ∧ Fr P Fz H (Ows st' σ) Fz2 H1 ∧ VOks K mg Fz2 H1 st' σ us xs ∧ (∀ u ∈ us, ∀ j, u ≠ .r j) ∧ (∀ a, VAds us xs a → VAds vs xs a) ∧ (∀ q o, Fz1 q = some o → Fz2 q = some o) ∧ (∀ q, Ows st' σ q → Ows st σ q) ∧ ∀ q o, Fz2 q = some o → (∃ u, Fz1 q = some u) ∨ Ows st σ q
  | [], us, [], st, st', Fz1, rs, fr, h, new, e => by
    cases e
    exact ⟨Fz1, rs, fr, trivial, fun u z => absurd z (by simp), fun a z => z, fun _ _ z => z, fun _ z => z, fun q o z => .inl ⟨o, z⟩⟩
  | [], _, _ :: _, st, st', Fz1, rs, fr, h, new, e => h.elim
  | _ :: _, _, [], st, st', Fz1, rs, fr, h, new, e => h.elim
  | v :: vs, us, x :: xs, st, st', Fz1, rs, fr, h, new, e => by
    unfold fzRs at e
    split at e
    · rename_i u st1 e1
      split at e
      · rename_i us' st2 e2
        cases e
        obtain ⟨Fz2, a1, a2, a3, a4, a5, a6, a7, a8⟩ := fzR_ok rs fr h.1 (fun a z => new a (.inl z)) e1
        obtain ⟨Fz3, b1, b2, b3, b4, b5, b6, b7, b8⟩ := fzRs_ok a1 a2 (h.2.1.thaw a6 a7 a8) (fun a z => new a (.inr z)) e2
        have k : VOks K mg Fz3 H1 st' σ (u :: []) (x :: []) := VOks.thaw (vs := [u]) (xs := [x]) ⟨a3, trivial, fun a _ z => z.elim⟩ b6 b7 b8
        refine ⟨Fz3, b1, b2, ⟨k.1, b3, fun a z1 z2 => h.2.2 a (a5 a z1) (b5 a z2)⟩, fun w hw => ?_, fun a z => z.imp (a5 a) (b5 a), fun q o z => b6 q o (a6 q o z), fun q z => a7 q (b7 q z), fun q o z => ?_⟩
        · rcases List.mem_cons.mp hw with rfl | hw
          · exact a4
          · exact b4 w hw
        · rcases b8 q o z with ⟨w, z⟩ | z
          · exact a8 q w z
          · exact .inr (a7 q z)
      · cases e
    · cases e
theorem puts_ok : ∀ {is : List Nat} {vs : List Vl} {xs : List V} {st : Ds} {σ : L2.St}, is.length = vs.length → (∀ u ∈ vs, ∀ j, u ≠ .r j) → RS K mg ad Fz1 H1 st σ → Fr P Fz H (Ows st σ) Fz1 H1 → VOks K mg Fz1 H1 st σ vs xs → (∀ a, VAds vs xs a → P a ∨ H a = none) →
    SEnd K mg ad P Fz H (puts is vs st) (putV is xs σ) Fz1 H1
  | [], [], [], st, σ, hl, hv, rs, fr, h, new => ⟨rs, fr⟩
  | _, [], _ :: _, st, σ, hl, hv, rs, fr, h, new => h.elim
  | _, _ :: _, [], st, σ, hl, hv, rs, fr, h, new => h.elim
  | [], _ :: _, _, st, σ, hl, hv, rs, fr, h, new => nomatch hl
  | _ :: _, [], _, st, σ, hl, hv, rs, fr, h, new => nomatch hl
  | i :: is, v :: vs, x :: xs, st, σ, hl, hv, rs, fr, h, new => by
    obtain ⟨e1, e2⟩ := put_ok (i := i) (hv v (by simp)) rs fr h.1 (fun a z => new a (.inl z))
    refine puts_ok (is := is) (by simpa using hl) (fun u hu => hv u (by simp [hu])) e1.rs e1.fr ?_ fun a z => new a (.inr z)
    have go : ∀ (ws : List Vl) (ys : List V), (∀ u ∈ ws, ∀ j, u ≠ .r j) → VOks K mg Fz1 H1 st σ ws ys → (∀ a, VAd v x a → ¬ VAds ws ys a) → VOks K mg Fz1 H1 (put i v st) (σ.set i (some x)) ws ys := by
      intro ws
      induction ws with
      | nil => intro ys _ k _; cases ys with
        | nil => trivial
        | cons _ _ => exact k.elim
      | cons w ws ih =>
        intro ys nr k sep
        cases ys with
        | nil => exact k.elim
        | cons y ys =>
          refine ⟨?_, ih ys (fun u hu => nr u (by simp [hu])) k.2.1 (fun a z1 z2 => sep a z1 (.inr z2)), k.2.2⟩
          cases w with
          | p d => exact k.1
          | o ys' =>
            obtain ⟨a, us, k1, k2, k3, k4, k5⟩ := k.1
            refine ⟨a, us, k1, k2, k3, k4, fun z => ?_⟩
            rcases e2 a z with z | z
            · exact k5 z
            · exact sep a z (.inl k1)
          | r j => exact (nr (.r j) (by simp) j rfl).elim
    exact go vs xs (fun u hu => hv u (by simp [hu])) h.2.1 h.2.2
theorem tS_set {i : Nat} {fe : FE} (h : tS K mg ad E (fSet i fe) D σ H) : tAsg (tE K mg ad E fe) (gName i) D σ H := by
  obtain ⟨st, Fz, rs, h⟩ := h
  refine ⟨st, Fz, rs, h.bind.imp fun ⟨v, st1⟩ h1 x Fz1 H1 e1 => ?_⟩
  dsimp only at h1
  split at h1
  · rename_i u st2 e
    obtain ⟨Fz2, a1, a2, a3, a4, a5, a6, a7, a8⟩ := fzR_ok e1.rs e1.fr e1.val e1.new e
    exact h1 _ Fz2 H1 (put_ok a4 a1 a2 a3 fun a z => e1.new a (a5 a z)).1
  · exact h1.elim
theorem putD_ok : ∀ {is : List Nat} {ds : List DK.D} {xs : List V} {st st' : Ds} {σ : L2.St}, RS K mg ad Fz1 H1 st σ → Fr P Fz H (Ows st σ) Fz1 H1 → RepL K mg Fz1 ds xs → putD is ds st = some st' → SEnd K mg ad P Fz H st' (putV is xs σ) Fz1 H1 ∧ is.length = xs.length ∧ ∀ q, Ows st' (putV is xs σ) q → Ows st σ q
  | [], [], xs, st, st', σ, rs, fr, h, e => by
    obtain rfl := h.nil_inv
    cases e
    exact ⟨⟨rs, fr⟩, rfl, fun q z => z⟩
  | [], _ :: _, xs, st, st', σ, rs, fr, h, e => by cases e
  | _ :: _, [], xs, st, st', σ, rs, fr, h, e => by cases e
  | i :: is, d :: ds, xs, st, st', σ, rs, fr, h, e => by
    obtain ⟨x, xs', rfl, h1, h2⟩ := h.cons_inv
    obtain ⟨a1, a2, a3⟩ := putD_ok (is := is) (rs.set_p (i := i) h1) (fr.less fun q z => ows_set_p z) h2 e
    exact ⟨a1, by simp [a2], fun q z => ows_set_p (a3 q z)⟩
/-- the names of a tuple target -/
def gTs : List Nat → TGs
  | [] => gNil
  | i :: is => gCons (gName i) (gTs is)
theorem gTs_ok : ∀ {is : List Nat} {xs : List V} {σ : L2.St} {H : Hp} {Q : L2.St → Hp → Prop}, is.length = xs.length → Q (putV is xs σ) H → gTs is xs σ H Q
  | [], [], σ, H, Q, _, q => ⟨rfl, q⟩
  | [], _ :: _, _, _, _, hl, _ => nomatch hl
  | _ :: _, [], _, _, _, hl, _ => nomatch hl
  | i :: is, x :: xs, σ, H, Q, hl, q => ⟨x, xs, rfl, gTs_ok (is := is) (by simpa using hl) q⟩
theorem tS_setT {is : List Nat} {fe : FE} (h : tS K mg ad E (fSetT is fe) D σ H) : tAsg (tE K mg ad E fe) (gTup K is.length (gTs is)) D σ H := by
  obtain ⟨st, Fz, rs, h⟩ := h
  refine ⟨st, Fz, rs, h.bind.imp fun ⟨v, st1⟩ h1 x Fz1 H1 e1 => ?_⟩
  dsimp only at h1
  split at h1
  · rename_i ds
    cases e : putD is ds st1 with
    | none => rw [e] at h1; exact h1.elim
    | some st2 =>
      rw [e] at h1
      have hv : Rep K mg Fz1 (.tup ds) x := e1.val
      rw [Rep] at hv
      obtain ⟨a, vs, rfl, hs, hr⟩ := hv
      obtain ⟨a1, a2, _⟩ := putD_ok e1.rs e1.fr hr e
      exact ⟨a, vs, rfl, sqT_mono e1.rs.sub hs, a2.symm, gTs_ok a2 (h1 _ Fz1 H1 a1)⟩
  · exact h1.elim
theorem tS_par {i j : Nat} {fe : FA} (h : tS K mg ad E (fPar [i, j] fe) D σ H) : tPar i j (tA K mg ad E fe) D σ H := by
  obtain ⟨st, Fz, rs, h⟩ := h
  refine ⟨st, Fz, rs, h.bind.imp fun ⟨vs, st1⟩ h1 xs Fz1 H1 e1 => ?_⟩
  dsimp only at h1
  split at h1
  · rename_i us st2 e
    split at h1
    · rename_i hl
      obtain ⟨Fz2, a1, a2, a3, a4, a5, a6, a7, a8⟩ := fzRs_ok e1.rs e1.fr e1.val e1.new e
      have k := puts_ok (is := [i, j]) hl.symm a4 a1 a2 a3 fun a z => e1.new a (a5 a z)
      have hx := a3.len
      rw [hl] at hx
      match xs, hx with
      | [x, y], _ => exact ⟨x, y, rfl, h1 _ Fz2 H1 k⟩
    · exact h1.elim
  · exact h1.elim
/-- the tuple of the right side is laid and unpacked -/
theorem tS_parT {is : List Nat} {fe : FA} (hz : is.length ≤ 10000) (h : tS K mg ad E (fPar is fe) D σ H) : tAsg (tTup (tA K mg ad E fe)) (gTup K is.length (gTs is)) D σ H := by
  obtain ⟨st, Fz, rs, h⟩ := h
  refine ⟨st, Fz, rs, h.bind.imp fun ⟨vs, st1⟩ h1 xs Fz1 H1 e1 => ?_⟩
  dsimp only at h1
  split at h1
  · rename_i us st2 e
    split at h1
    · rename_i hl
      obtain ⟨Fz2, a1, a2, a3, a4, a5, a6, a7, a8⟩ := fzRs_ok e1.rs e1.fr e1.val e1.new e
      have hx := a3.len
      rw [hl] at hx
      refine ⟨by rw [hx]; exact small_sz hz, fun p hp => ⟨p, xs, rfl, .inl (.inl upd_same), hx, gTs_ok hx.symm ?_⟩⟩
      have oe : OEnd K mg Fz2 H1 (.p .non) .non Fz2 (upd H1 p (.tup xs)) := by
        have ne : ∀ q o, H1 q = some o → q ≠ p := fun q o h => ne_of_none h hp
        refine .of (fun q o h => by rw [upd_ne (ne q o h)]; exact h) (fun q o h => by rw [upd_ne (ne q o (a1.sub q o h))]; exact a1.sub q o h) (fun _ _ h => h) (fun _ o h => .inl ⟨o, h⟩) (fun h => h) ?_
        show Rep K mg Fz2 .non .non
        rw [Rep]
      have b1 : RS K mg ad Fz2 (upd H1 p (.tup xs)) st2 σ := oe.rs a1
      exact h1 _ Fz2 _ (puts_ok (is := is) hl.symm a4 b1 (a2.trans oe.fr) (a3.stay oe.fr) fun a z => e1.new a (a5 a z))
    · exact h1.elim
  · exact h1.elim
theorem SEnd.of_e {v : Vl} {x : V} (e : EEnd K mg ad P Fz H v st' σ x Fz' H') : SEnd K mg ad P Fz H st' σ Fz' H' := ⟨e.rs, e.fr⟩
theorem tS_expr {fe : FE} (h : tS K mg ad E (fExpr fe) D σ H) : tDrop (tE K mg ad E fe) D σ H := by
  obtain ⟨st, Fz, rs, h⟩ := h
  exact ⟨st, Fz, rs, h.bind.imp fun ⟨v, st1⟩ h1 x Fz1 H1 e1 => h1 _ Fz1 H1 (.of_e e1)⟩
theorem tS_ret {fe : FE} (h : tS K mg ad E (fRet fe) D σ H) : tRet (tE K mg ad E fe) D σ H := by
  obtain ⟨st, Fz, rs, h⟩ := h
  exact ⟨st, Fz, rs, h.bind.imp fun ⟨v, st1⟩ h1 x Fz1 H1 e1 => h1 x _ Fz1 H1 e1⟩
theorem tS_retN (h : tS K mg ad E fRetN D σ H) : tRetN D σ H := by
  obtain ⟨st, Fz, rs, h⟩ := h
  exact h .non σ Fz H (EEnd.of_p rs Fr.refl (by rw [Rep]))
theorem tS_next (h : tS K mg ad E fNext D σ H) : tNext D σ H := by
  obtain ⟨st, Fz, rs, h⟩ := h
  exact h σ Fz H ⟨rs, Fr.refl⟩
theorem tS_break (h : tS K mg ad E fBreak D σ H) : tBreak D σ H := by
  obtain ⟨st, Fz, rs, h⟩ := h
  exact h σ Fz H ⟨rs, Fr.refl⟩
theorem tS_cont (h : tS K mg ad E fCont D σ H) : tCont D σ H := by
  obtain ⟨st, Fz, rs, h⟩ := h
  exact h σ Fz H ⟨rs, Fr.refl⟩
theorem tS_never (h : tS K mg ad E fNever D σ H) : tNever D σ H := by
  obtain ⟨st, Fz, rs, h⟩ := h
  exact h.elim
/-- from what was wanted ahead -/
theorem FOk.shift {f : Fl} (fr : Fr P Fz H P1 Fz1 H1) (h : FOk K mg ad P Fz H D f) : FOk K mg ad P1 Fz1 H1 D f := by
  cases f with
  | nx st' => exact fun σ' Fz' H' e => h σ' Fz' H' ⟨e.rs, fr.trans e.fr⟩
  | bk st' => exact fun σ' Fz' H' e => h σ' Fz' H' ⟨e.rs, fr.trans e.fr⟩
  | ct st' => exact fun σ' Fz' H' e => h σ' Fz' H' ⟨e.rs, fr.trans e.fr⟩
  | rt v st' => exact fun x σ' Fz' H' e => h x σ' Fz' H' ⟨e.rs, fr.trans e.fr, e.val, fun a z => (e.new a z).elim (fun z => fr.onew a z) fun z => .inr (fr.dom a z)⟩
theorem tS_seq {fa fb : FS} (h : tS K mg ad E (fSeq fa fb) D σ H) : tSeq (tS K mg ad E fa) (tS K mg ad E fb) D σ H := by
  obtain ⟨st, Fz, rs, h⟩ := h
  refine ⟨st, Fz, rs, h.bind.imp fun f h1 => ?_⟩
  cases f with
  | nx st1 => exact fun σ' Fz' H' e => ⟨st1, Fz', e.rs, Out.shift h1 e.fr fun f h2 => FOk.shift e.fr h2⟩
  | bk st1 => exact h1
  | ct st1 => exact h1
  | rt v st1 => exact h1
theorem tS_if {ft : FE} {fa fb : FS} (h : tS K mg ad E (fIfS ft fa fb) D σ H) : tIfS (tT K mg ad E ft) (tS K mg ad E fa) (tS K mg ad E fb) D σ H := by
  obtain ⟨st, Fz, rs, h⟩ := h
  refine ⟨st, Fz, rs, h.bind.imp fun ⟨v, st1⟩ h1 => ?_⟩
  dsimp only at h1
  split at h1
  · exact ⟨true, rfl, fun Fz1 H1 rs1 fr1 => ⟨st1, Fz1, rs1, Out.shift h1 fr1 fun f h2 => FOk.shift fr1 h2⟩⟩
  · exact ⟨false, rfl, fun Fz1 H1 rs1 fr1 => ⟨st1, Fz1, rs1, Out.shift h1 fr1 fun f h2 => FOk.shift fr1 h2⟩⟩
  · exact h1.elim
end
section
variable {X : Cx} {E : XK} {a b c e : Expr} {es : List Expr} {fa fb fc ft : FE} {fl : FA} {pos p pos' : Pos} {x y : Str} {s : Stmt} {ss s1 s2 : List Stmt} {f g : FS}
theorem ds_set (i : Nat) (hN : X.N.Nodup) (he : DE X E e fa) (hi : X.N[i]? = some x := by rfl) (hx : Loc X.env.scope x := by first | exact Or.inl rfl | exact Or.inr rfl) (hs : swapsWith e (some (.Name x pos')) pos.line X.env = pure false := by rfl)
    (hf : X.fn x = true ∨ X.env.scope.names.lookup x = some .local := by first | exact .inl rfl | exact .inr rfl) : DS X E (.Assign [.Name x pos'] e pos) (fSet i fa) := fun ad => PS_conseq (ps_set hN hi hx (he ad) hs hf) fun D σ H h => tS_set h
theorem ds_par (i j : Nat) {px py pt : Pos} {kt k2 pt2} (hN : X.N.Nodup) (ha : DA X E [a, b] fl) (hc : X.calm = true := by rfl) (hi : X.N[i]? = some x := by rfl) (hj : X.N[j]? = some y := by rfl) (hij : i ≠ j := by decide)
    (hx : X.env.scope.names.lookup x = some .local := by rfl) (hy : X.env.scope.names.lookup y = some .local := by rfl)
    (hw : swappedStores [.Tuple [.Name x px, .Name y py] kt pt] (.Tuple [a, b] k2 pt2) X.env = pure (some [x, y]) := by rfl)
    (hs : swapsWithSole [.Tuple [.Name x px, .Name y py] kt pt] (.Tuple [a, b] k2 pt2) pos.line X.env = pure false := by rfl) : DS X E (.Assign [.Tuple [.Name x px, .Name y py] kt pt] (.Tuple [a, b] k2 pt2) pos) (fPar [i, j] fl) := fun ad => PS_conseq (ps_par hc hN hi hj hij hx hy (ha ad) hw hs) fun D σ H h => tS_par h
/-- a target that is a tuple of names -/
theorem ds_setT {ts : List Expr} {kt : Nat} {pt : Pos} (is : List Nat) (he : DE X E e fa) (hg : PG X (.Tuple ts kt pt) (gTup X.K is.length (gTs is))) (hs : swapsWithSole [.Tuple ts kt pt] e pos.line X.env = pure false := by rfl) (hw : swappedStores [.Tuple ts kt pt] e X.env = pure none := by rfl)
    (h1 : (assignEach [.Tuple ts kt pt] X.env).map (·.2) = [assign (.Tuple ts kt pt) X.env] := by rfl) : DS X E (.Assign [.Tuple ts kt pt] e pos) (fSetT is fa) := fun ad => PS_conseq (ps_asg (he ad) hg hs hw h1) fun D σ H h => tS_setT h
theorem ds_parT {ts : List Expr} {kt : Nat} {pt : Pos} {k2 pt2} (is : List Nat) (ha : DA X E es fl) (hg : PG X (.Tuple ts kt pt) (gTup X.K is.length (gTs is))) (hz : is.length ≤ 10000 := by decide) (hs : swapsWithSole [.Tuple ts kt pt] (.Tuple es k2 pt2) pos.line X.env = pure false := by rfl) (hw : swappedStores [.Tuple ts kt pt] (.Tuple es k2 pt2) X.env = pure none := by rfl)
    (h1 : (assignEach [.Tuple ts kt pt] X.env).map (·.2) = [assign (.Tuple ts kt pt) X.env] := by rfl) : DS X E (.Assign [.Tuple ts kt pt] (.Tuple es k2 pt2) pos) (fPar is fl) := fun ad => PS_conseq (ps_asg (pe_tup (ha ad)) hg hs hw h1) fun D σ H h => tS_parT hz h
theorem ds_expr (he : DE X E e fa) (hs : swapsWith e none pos.line X.env = pure false := by rfl) : DS X E (.Expr e pos) (fExpr fa) := fun ad => PS_conseq (ps_expr (he ad) hs) fun D σ H h => tS_expr h
theorem ds_ret (he : DE X E e fa) : DS X E (.Return (some e) pos) (fRet fa) := fun ad => PS_conseq (ps_ret (he ad)) fun D σ H h => tS_ret h
theorem ds_retN : DS X E (.Return none pos) fRetN := fun ad => PS_conseq ps_retN fun D σ H h => tS_retN h
theorem ds_pass : DS X E (.Pass pos) fNext := fun ad => PS_conseq ps_pass fun D σ H h => tS_next h
theorem ds_break : DS X E (.Break pos) fBreak := fun ad => PS_conseq ps_break fun D σ H h => tS_break h
theorem ds_cont : DS X E (.Continue pos) fCont := fun ad => PS_conseq ps_continue fun D σ H h => tS_cont h
theorem ds_never : DS X E s fNever := fun ad => PS_conseq ps_never fun D σ H h => tS_never h
theorem ds_if (hc : DT X E c ft) (ha : DSs X E s1 f) (hb : DSs X E s2 g) : DS X E (.If c s1 s2 pos) (fIfS ft f g) := fun ad => PS_conseq (ps_if (hc ad) (ha ad) (hb ad)) fun D σ H h => tS_if h
theorem dss_nil : DSs X E [] fNext := fun ad => PSs_conseq pss_nil fun D σ H h => tS_next h
theorem dss_cons (h1 : DS X E s f) (h2 : DSs X E ss g) : DSs X E (s :: ss) (fSeq f g) := fun ad => PSs_conseq (pss_cons (h1 ad) (h2 ad)) fun D σ H h => tS_seq h
theorem dss_one (h1 : DS X E s f) : DSs X E [s] f := fun ad => pss_one (h1 ad)
end
end DK

set_option Elab.async false
set_option linter.all false
set_option maxRecDepth 100000
namespace DK
open PySem PySem.Spec PyProof.Rows L2
variable [TabsC]
/-! ### what is walked -/
abbrev FI := Ds → R (List D × Ds)
abbrev TGf := D → Ds → Option Ds
def tgName (i : Nat) : TGf := fun d st => some (st.set i (.p d))
def tgTup (is : List Nat) : TGf := fun d st => match d with
  | .tup ds => putD is ds st
  | _ => none
/-- a list or tuple -/
def fIt (e : FE) : FI := fun st => (e st).bind fun x => match fzV x.1 x.2 with
  | some (.lst ds, st2) => .ok (ds, st2)
  | some (.tup ds, st2) => .ok (ds, st2)
  | _ => .stuck
def rOk (i : Int) : Bool := decide (i.natAbs < 1000000000)
def rng (lo : Int) (n : Nat) : List D := (List.range n).map fun i : Nat => D.int (lo + i)
def fRng (a : FA) : FI := fun st => (a st).bind fun x => match x.1 with
  | [.p (.int j)] => if rOk j then .ok (rng 0 j.toNat, x.2) else .stuck
  | [.p (.int i), .p (.int j)] => if rOk i && rOk j then .ok (rng i (j - i).toNat, x.2) else .stuck
  | _ => .stuck
/-- zip of two that stand still -/
def zipD : List D → List D → List D
  | x :: xs, y :: ys => .tup [x, y] :: zipD xs ys
  | _, _ => []
def seqD : D → Option (List D)
  | .lst ds => some ds
  | .tup ds => some ds
  | _ => none
def fZip (a : FA) : FI := fun st => (a st).bind fun x => match fzVs x.1 x.2 with
  | some ([d1, d2], st2) => match seqD d1, seqD d2 with
    | some xs, some ys => .ok (zipD xs ys, st2)
    | _, _ => .stuck
  | _ => .stuck
def enumD : Nat → List D → List D
  | _, [] => []
  | i, x :: xs => .tup [.int i, x] :: enumD (i + 1) xs
def fEnum (a : FA) : FI := fun st => (a st).bind fun x => match fzVs x.1 x.2 with
  | some ([d1], st2) => match seqD d1 with
    | some xs => .ok (enumD 0 xs, st2)
    | _ => .stuck
  | _ => .stuck
/-! ### loops -/
def forL (tg : TGf) (body : FS) : List D → Ds → R Fl
  | [], st => .ok (.nx st)
  | d :: ds, st => match tg d st with
    | some st1 => (body st1).bind fun f => match f with
      | .nx st2 => forL tg body ds st2
      | .ct st2 => forL tg body ds st2
      | .bk st2 => .ok (.nx st2)
      | .rt v st2 => .ok (.rt v st2)
    | none => .stuck
def fFor (fi : FI) (tg : TGf) (body : FS) : FS := fun st => (fi st).bind fun x => forL tg body x.1 x.2
def whL (t : FE) (body : FS) : Nat → Ds → R Fl
  | 0, _ => .stuck
  | n + 1, st => (t st).bind fun x => match x.1 with
    | .p (.bl true) => (body x.2).bind fun f => match f with
      | .nx st2 => whL t body n st2
      | .ct st2 => whL t body n st2
      | .bk st2 => .ok (.nx st2)
      | .rt v st2 => .ok (.rt v st2)
    | .p (.bl false) => .ok (.nx x.2)
    | _ => .stuck
def fWhile (fuel : Ds → Nat) (t : FE) (body : FS) : FS := fun st => whL t body (fuel st) st
/-- comprehensions: vs, the block's own slots -/
def wipeD (st : Ds) : List Nat → Ds
  | [] => st
  | v :: vs => (wipeD st vs).set v .un
def unwipe (st st2 : Ds) : List Nat → Ds
  | [] => st2
  | v :: vs => match st[v]? with
    | some (.p d) => (unwipe st st2 vs).set v (.p d)
    | _ => unwipe st st2 vs
def lcL (tg : TGf) (t e : FE) (vs : List Nat) : List D → List D → Ds → R (List D × Ds)
  | [], acc, st => .ok (acc, st)
  | d :: ds, acc, st => match tg d st with
    | some st1 => (t st1).bind fun x => match x.1 with
      | .p (.bl true) => (e x.2).bind fun y => match fzV y.1 y.2 with
        | some (z, st3) => if acc.length < 100000 then lcL tg t e vs ds (acc ++ [z]) (wipeD st3 vs) else .stuck
        | none => .stuck
      | .p (.bl false) => lcL tg t e vs ds acc (wipeD x.2 vs)
      | _ => .stuck
    | none => .stuck
def fYes : FE := fC (.bl true)
def fLc (fi : FI) (tg : TGf) (t e : FE) (vs : List Nat) : FE := fun st => (fi st).bind fun x => (lcL tg t e vs x.1 [] (wipeD x.2 vs)).bind fun y => .ok (.o y.1, unwipe x.2 y.2 vs)
section
variable {K : PySem.W.Frag} {mg : Str → Option Value} {ad : Nat → Option Addr} {Fz H Fz' H' Fz1 H1 : Hp} {st st' st1 : Ds} {σ : L2.St} {P P1 : Addr → Prop} {E : XK} {D : Ends}
/-- an iterator that serves the data -/
def Serves (K : PySem.W.Frag) (mg : Str → Option Value) (Fz : Hp) (J : It) (items : List DK.D) : Prop := ∀ (Fz1 H1 : Hp), (∀ a o, Fz a = some o → Fz1 a = some o) → (∀ a o, Fz1 a = some o → H1 a = some o) →
  J.stop items.length H1 ∧ ∀ i d, items[i]? = some d → J.go i H1 ∧ ∀ x H', J.yld i H1 x H' → ∃ Fz', OEnd K mg Fz1 H1 (.p d) x Fz' H'
def tI (K : PySem.W.Frag) (mg : Str → Option Value) (ad : Nat → Option Addr) (E : XK) (f : FI) : TI := fun σ H R => ∃ st Fz, RS K mg ad Fz H st σ ∧ Out mg E (Ows st σ) H (f st) fun v => ∀ J Fz' H', RS K mg ad Fz' H' v.2 σ → Fr (Ows st σ) Fz H (Ows v.2 σ) Fz' H' → Serves K mg Fz' J v.1 → R J H'
theorem serves_list {a : Addr} {vs : List V} {ds : List DK.D} (h : SqL K Fz a vs) (r : RepL K mg Fz ds vs) : Serves K mg Fz (Itl K a) ds := fun Fz1 H1 fm sub => by
  have h1 : SqL K H1 a vs := sqL_mono sub (sqL_mono fm h)
  refine ⟨⟨vs, h1, by rw [r.len]; exact Nat.le_refl _⟩, fun i d e => ?_⟩
  obtain ⟨v, e1, e2⟩ := r.get e
  refine ⟨⟨vs, v, h1, e1⟩, fun x H' y => ?_⟩
  obtain ⟨rfl, y⟩ := y
  have := y vs h1
  rw [e1] at this
  cases this
  exact ⟨Fz1, OEnd.val_p sub (e2.mono fm)⟩
theorem serves_tup {a : Addr} {vs : List V} {ds : List DK.D} (h : SqT K Fz a vs) (r : RepL K mg Fz ds vs) : Serves K mg Fz (Itt K a) ds := fun Fz1 H1 fm sub => by
  have h1 : SqT K H1 a vs := sqT_mono sub (sqT_mono fm h)
  refine ⟨⟨vs, h1, by rw [r.len]; exact Nat.le_refl _⟩, fun i d e => ?_⟩
  obtain ⟨v, e1, e2⟩ := r.get e
  refine ⟨⟨vs, v, h1, e1⟩, fun x H' y => ?_⟩
  obtain ⟨rfl, y⟩ := y
  have := y vs h1
  rw [e1] at this
  cases this
  exact ⟨Fz1, OEnd.val_p sub (e2.mono fm)⟩
theorem serves_rng {lo : Int} {n : Nat} : Serves K mg Fz (Itr lo n) (rng lo n) := fun Fz1 H1 fm sub => by
  have hl : (rng lo n).length = n := by simp [rng]
  refine ⟨by rw [hl]; exact Nat.le_refl _, fun i d e => ?_⟩
  have hi : i < n := by
    have := (List.getElem?_eq_some_iff.mp e).1
    rw [hl] at this; exact this
  refine ⟨hi, fun x H' y => ?_⟩
  obtain ⟨rfl, rfl⟩ := y
  have ed : d = .int (lo + i) := by
    unfold rng at e
    rw [List.getElem?_map, List.getElem?_range hi] at e
    exact (Option.some.inj e).symm
  subst ed
  exact ⟨Fz1, OEnd.val_p sub (by rw [Rep])⟩
theorem tI_or {fe : FE} {R : It → Hp → Prop} (h : tI K mg ad E (fIt fe) σ H R) : iList K (tE K mg ad E fe) σ H R ∨ iTup K (tE K mg ad E fe) σ H R := by
  obtain ⟨st, Fz, rs, h⟩ := h
  cases e : fe st with
  | stuck => unfold fIt at h; rw [e] at h; exact h.elim
  | err c l =>
    unfold fIt at h
    rw [e] at h
    exact .inl ⟨st, Fz, rs, by rw [e]; exact h⟩
  | ok x =>
    obtain ⟨v, st1⟩ := x
    unfold fIt at h
    rw [e, DK.R.bind_ok] at h
    dsimp only at h
    split at h
    · rename_i ds st2 e2
      refine .inl ⟨st, Fz, rs, ?_⟩
      rw [e]
      intro x Fz1 H1 e1
      obtain ⟨Fz2, rs2, fr2, r2, _⟩ := fzV_ok e1.rs e1.fr e1.val e1.new e2
      rw [Rep] at r2
      obtain ⟨a, vs, rfl, h1, h2⟩ := r2
      exact ⟨a, rfl, ⟨vs, .inl (.inl (rs2.sub _ _ h1))⟩, h _ Fz2 H1 rs2 fr2 (serves_list (.inl (.inl h1)) h2)⟩
    · rename_i ds st2 e2
      refine .inr ⟨st, Fz, rs, ?_⟩
      rw [e]
      intro x Fz1 H1 e1
      obtain ⟨Fz2, rs2, fr2, r2, _⟩ := fzV_ok e1.rs e1.fr e1.val e1.new e2
      rw [Rep] at r2
      obtain ⟨a, vs, rfl, h1, h2⟩ := r2
      exact ⟨a, rfl, ⟨vs, sqT_mono rs2.sub h1⟩, h _ Fz2 H1 rs2 fr2 (serves_tup h1 h2)⟩
    · exact h.elim
theorem VOk.int {i : Int} {x : V} (h : VOk K mg Fz H st σ (.p (.int i)) x) : x = .int i := by
  have h : Rep K mg Fz (.int i) x := h
  rw [Rep] at h; exact h
theorem rOk_bd {i : Int} (h : rOk i = true) : -(2 ^ 62) ≤ i ∧ i < 2 ^ 62 := by
  unfold rOk at h
  simp only [decide_eq_true_eq] at h
  omega
theorem tI_rng1 {fa : FA} {R : It → Hp → Prop} (hl : FALen fa 1) (h : tI K mg ad E (fRng fa) σ H R) : iRng1 (tA K mg ad E fa) σ H R := by
  obtain ⟨st, Fz, rs, h⟩ := h
  refine ⟨st, Fz, rs, ?_⟩
  cases e : fa st with
  | stuck => unfold fRng at h; rw [e] at h; exact h.elim
  | err c l => unfold fRng at h; rw [e] at h; exact h
  | ok y =>
    unfold fRng at h
    rw [e, DK.R.bind_ok] at h
    obtain ⟨vs, st1⟩ := y
    have hle : vs.length = 1 := hl _ _ e
    intro xs Fz1 H1 e1
    dsimp only at h e1
    split at h
    · rename_i j
      have k := e1.val
      match xs, k with
      | [x], k =>
        obtain rfl := k.1.int
        split at h
        · rename_i hj
          obtain ⟨b1, b2⟩ := rOk_bd hj
          exact ⟨j, rfl, b1, b2, h _ Fz1 H1 e1.rs e1.fr serves_rng⟩
        · exact h.elim
    · cases hle
    · exact h.elim
theorem tI_rng2 {fa : FA} {R : It → Hp → Prop} (hl : FALen fa 2) (h : tI K mg ad E (fRng fa) σ H R) : iRng2 (tA K mg ad E fa) σ H R := by
  obtain ⟨st, Fz, rs, h⟩ := h
  refine ⟨st, Fz, rs, ?_⟩
  cases e : fa st with
  | stuck => unfold fRng at h; rw [e] at h; exact h.elim
  | err c l => unfold fRng at h; rw [e] at h; exact h
  | ok y =>
    unfold fRng at h
    rw [e, DK.R.bind_ok] at h
    obtain ⟨vs, st1⟩ := y
    have hle : vs.length = 2 := hl _ _ e
    intro xs Fz1 H1 e1
    dsimp only at h e1
    split at h
    · cases hle
    · rename_i i j
      have k := e1.val
      match xs, k with
      | [x, y], k =>
        obtain rfl := k.1.int
        obtain rfl := k.2.1.1.int
        split at h
        · rename_i hj
          rw [Bool.and_eq_true] at hj
          obtain ⟨b1, b2⟩ := rOk_bd hj.1
          obtain ⟨b3, b4⟩ := rOk_bd hj.2
          exact ⟨i, j, rfl, ⟨b1, b2, b3, b4⟩, h _ Fz1 H1 e1.rs e1.fr serves_rng⟩
        · exact h.elim
    · exact h.elim
/-! ### targets -/
theorem wipe_set {i : Nat} {x : Option V} : ∀ {vs : List Nat}, i ∈ vs → wipe (σ.set i x) vs = wipe σ vs
  | [], h => by cases h
  | v :: vs, h => by
    unfold wipe
    by_cases hm : i ∈ vs
    · rw [wipe_set hm]
    · have e : i = v := by
        rcases List.mem_cons.mp h with e | e
        · exact e
        · exact (hm e).elim
      subst e
      have go : ∀ (ws : List Nat), i ∉ ws → wipe (σ.set i x) ws = (wipe σ ws).set i x := by
        intro ws
        induction ws with
        | nil => intro _; rfl
        | cons w ws ih =>
          intro hn
          have h1 : i ≠ w := fun e => hn (by rw [e]; simp)
          have h2 : i ∉ ws := fun e => hn (by simp [e])
          show (wipe (σ.set i x) ws).set w none = ((wipe σ ws).set w none).set i x
          rw [ih h2, List.set_comm _ _ h1]
      rw [go vs hm, List.set_set]
theorem wipe_putV : ∀ {is : List Nat} {xs : List V} {σ : L2.St} {vs : List Nat}, (∀ i ∈ is, i ∈ vs) → wipe (putV is xs σ) vs = wipe σ vs
  | [], _, σ, vs, h => by cases (‹List V›) <;> rfl
  | _ :: _, [], σ, vs, h => rfl
  | i :: is, x :: xs, σ, vs, h => by
    show wipe (putV is xs (σ.set i (some x))) vs = _
    rw [wipe_putV (is := is) fun j hj => h j (by simp [hj]), wipe_set (h i (by simp))]
def TGOk (K : PySem.W.Frag) (mg : Str → Option Value) (g : TG) (tg : TGf) (is : List Nat) : Prop := ∀ (ad : Nat → Option Addr) (Fz H : Hp) (st st' : Ds) (σ : L2.St) (d : DK.D) (x : V) (Q : L2.St → Hp → Prop), RS K mg ad Fz H st σ → Rep K mg Fz d x → tg d st = some st' →
  (∀ σ', RS K mg ad Fz H st' σ' → (∀ q, Ows st' σ' q → Ows st σ q) → (∀ vs, (∀ i ∈ is, i ∈ vs) → wipe σ' vs = wipe σ vs) → Q σ' H) → g x σ H Q
theorem tgok_name {i : Nat} : TGOk K mg (gName i) (tgName i) [i] := fun ad Fz H st st' σ d x Q rs r e q => by
  cases e
  exact q _ (rs.set_p r) (fun q z => ows_set_p z) fun vs h => wipe_set (h i (by simp))
theorem tgok_tup {is : List Nat} : TGOk K mg (gTup K is.length (gTs is)) (tgTup is) is := fun ad Fz H st st' σ d x Q rs r e q => by
  unfold tgTup at e
  split at e
  · rename_i ds
    rw [Rep] at r
    obtain ⟨a, vs, rfl, hs, hr⟩ := r
    obtain ⟨a1, a2, a3⟩ := putD_ok (P := fun _ => True) (Fz := Fz) (H := H) rs ⟨fun q o h n => (n trivial).elim, fun _ h => h, fun _ _ h => h, fun _ o h => .inl ⟨o, h⟩, fun _ _ => .inl trivial, fun h => h, fun h => h⟩ hr e
    exact ⟨a, vs, rfl, sqT_mono rs.sub hs, a2.symm, gTs_ok a2 (q _ a1.rs a3 fun vs h => wipe_putV h)⟩
  · cases e
/-! ### for -/
theorem tS_for {wi : TI} {g : TG} {fi : FI} {tg : TGf} {body : FS} {is : List Nat} (hw : ∀ σ H R, tI K mg ad E fi σ H R → wi σ H R) (hg : TGOk K mg g tg is) (h : tS K mg ad E (fFor fi tg body) D σ H) : tFor wi g (tS K mg ad E body) D σ H := by
  obtain ⟨st, Fz, rs, h⟩ := h
  refine hw σ H _ ⟨st, Fz, rs, h.bind.imp fun ⟨items, st1⟩ h1 J Fz1 H1 rs1 fr1 sv => ?_⟩
  dsimp only at h1 sv rs1 fr1
  refine ⟨fun i m σ' H' => ∃ st' Fz', RS K mg ad Fz' H' st' σ' ∧ Fr (Ows st σ) Fz H (Ows st' σ') Fz' H' ∧ (∀ a o, Fz1 a = some o → Fz' a = some o) ∧ i + m = items.length ∧ Out mg E (Ows st σ) H (forL tg body (items.drop i) st') (FOk K mg ad (Ows st σ) Fz H D),
    ⟨items.length, st1, Fz1, rs1, fr1, fun _ _ h => h, by omega, h1⟩, fun i m σ' H' hW => ?_⟩
  obtain ⟨st', Fz', rs', fr', fm', em, hf⟩ := hW
  by_cases hi : i < items.length
  · obtain ⟨hgo, hy⟩ := (sv Fz' H' fm' rs'.sub).2 i _ (List.getElem?_eq_getElem hi)
    rw [List.drop_eq_getElem_cons hi] at hf
    refine .inr ⟨hgo, fun σ2 H2 => ∃ st2 Fz2, RS K mg ad Fz2 H2 st2 σ2 ∧ Fr (Ows st σ) Fz H (Ows st2 σ2) Fz2 H2 ∧ (∀ a o, Fz1 a = some o → Fz2 a = some o) ∧ Out mg E (Ows st σ) H (forL tg body (items.drop (i + 1)) st2) (FOk K mg ad (Ows st σ) Fz H D),
      fun σ2 H2 ⟨st2, Fz2, k1, k2, k3, k4⟩ => ⟨m - 1, by omega, st2, Fz2, k1, k2, k3, by omega, k4⟩, fun x H3 y => ?_⟩
    obtain ⟨Fz3, oe⟩ := hy x H3 y
    have rs3 := oe.rs rs'
    have fr3 : Fr (Ows st' σ') Fz' H' (Ows st' σ') Fz3 H3 := oe.fr
    unfold forL at hf
    split at hf
    · rename_i st4 e4
      refine hg ad Fz3 H3 st' st4 σ' _ x _ rs3 oe.val e4 fun σ4 rs4 ow4 _ => ?_
      have fr4 : Fr (Ows st σ) Fz H (Ows st4 σ4) Fz3 H3 := (fr'.trans fr3).less ow4
      refine ⟨st4, Fz3, rs4, Out.shift hf.bind fr4 fun f hf2 => ?_⟩
      cases f with
      | nx st5 => exact fun σ5 Fz5 H5 e5 => ⟨st5, Fz5, e5.rs, fr4.trans e5.fr, fun a o z => e5.fr.fmon _ _ (oe.fmon _ _ (fm' _ _ z)), hf2⟩
      | ct st5 => exact fun σ5 Fz5 H5 e5 => ⟨st5, Fz5, e5.rs, fr4.trans e5.fr, fun a o z => e5.fr.fmon _ _ (oe.fmon _ _ (fm' _ _ z)), hf2⟩
      | bk st5 => exact fun σ5 Fz5 H5 e5 => hf2 σ5 Fz5 H5 ⟨e5.rs, fr4.trans e5.fr⟩
      | rt v st5 => exact FOk.shift (f := .rt v st5) fr4 hf2
    · exact hf.elim
  · have e : i = items.length := by omega
    subst e
    rw [List.drop_of_length_le (Nat.le_refl _)] at hf
    exact .inl ⟨(sv Fz' H' fm' rs'.sub).1, hf σ' Fz' H' ⟨rs', fr'⟩⟩
/-! ### while -/
theorem tS_while {t : FE} {body : FS} {fuel : Ds → Nat} (h : tS K mg ad E (fWhile fuel t body) D σ H) : tWhile (tT K mg ad E t) (tS K mg ad E body) D σ H := by
  obtain ⟨st, Fz, rs, h⟩ := h
  refine ⟨fun m σ' H' => ∃ st' Fz', RS K mg ad Fz' H' st' σ' ∧ Fr (Ows st σ) Fz H (Ows st' σ') Fz' H' ∧ Out mg E (Ows st σ) H (whL t body m st') (FOk K mg ad (Ows st σ) Fz H D), ⟨fuel st, st, Fz, rs, Fr.refl, h⟩, fun m σ' H' hW => ?_⟩
  obtain ⟨st', Fz', rs', fr', hf⟩ := hW
  cases m with
  | zero => exact hf.elim
  | succ m =>
    unfold whL at hf
    refine ⟨st', Fz', rs', Out.shift hf.bind fr' fun ⟨v, st1⟩ h1 => ?_⟩
    dsimp only at h1
    split at h1
    · refine ⟨true, rfl, fun Fz1 H1 rs1 fr1 => ?_⟩
      refine ⟨fun σ2 H2 => ∃ st2 Fz2, RS K mg ad Fz2 H2 st2 σ2 ∧ Fr (Ows st σ) Fz H (Ows st2 σ2) Fz2 H2 ∧ Out mg E (Ows st σ) H (whL t body m st2) (FOk K mg ad (Ows st σ) Fz H D), fun σ2 H2 k => ⟨m, Nat.lt_succ_self _, k⟩, ?_⟩
      have fr4 := fr'.trans fr1
      refine ⟨st1, Fz1, rs1, Out.shift h1.bind fr4 fun f hf2 => ?_⟩
      cases f with
      | nx st5 => exact fun σ5 Fz5 H5 e5 => ⟨st5, Fz5, e5.rs, fr4.trans e5.fr, hf2⟩
      | ct st5 => exact fun σ5 Fz5 H5 e5 => ⟨st5, Fz5, e5.rs, fr4.trans e5.fr, hf2⟩
      | bk st5 => exact fun σ5 Fz5 H5 e5 => hf2 σ5 Fz5 H5 ⟨e5.rs, fr4.trans e5.fr⟩
      | rt v st5 => exact FOk.shift (f := .rt v st5) fr4 hf2
    · exact ⟨false, rfl, fun Fz1 H1 rs1 fr1 => h1 _ Fz1 H1 ⟨rs1, fr'.trans fr1⟩⟩
    · exact h1.elim
end
section
variable {X : Cx} {E : XK} {a b c e : Expr} {es : List Expr} {fa fb fc ft : FE} {fl : FA} {pos p pos' : Pos} {x y : Str} {ss : List Stmt} {f : FS} {tg : Expr}
def DI (X : Cx) (E : XK) (tg iter : Expr) (f : FI) : Prop := ∀ ad, PI X tg iter (tI X.K X.mg ad E f)
theorem PI_conseq {iter : Expr} {t t' : TI} (h : PI X tg iter t) (w : ∀ σ H R, t' σ H R → t σ H R) : PI X tg iter t' := ⟨fun pins s σ H R I q => h.run pins s σ H R I (w _ _ _ q)⟩
theorem di_it (he : DE X E e fa) : DI X E tg e (fIt fa) := fun ad => ⟨fun pins s σ H R I q => (tI_or q).elim (fun q => (pi_list (he ad)).run pins s σ H R I q) fun q => (pi_tup (he ad)).run pins s σ H R I q⟩
theorem di_rng1 (hm : X.mg "range" = none) (ha : DA X E [a] fl) (hg : Gl X "range" := by rfl) (hl : FALen fl 1 := by repeat (first | exact falen_nil | refine falen_cons ?_)) (hs : starEach [a] X.env = [(false, eval a X.env)] := by rfl) : DI X E tg (.Call (.Name "range" p) [a] [] pos) (fRng fl) :=
  fun ad => PI_conseq (pi_range1 hg hm (ha ad) hs) fun σ H R q => tI_rng1 hl q
theorem di_rng2 (hm : X.mg "range" = none) (ha : DA X E [a, b] fl) (hg : Gl X "range" := by rfl) (hl : FALen fl 2 := by repeat (first | exact falen_nil | refine falen_cons ?_)) (hs : starEach [a, b] X.env = [(false, eval a X.env), (false, eval b X.env)] := by rfl) (hs2 : starEach [b] X.env = [(false, eval b X.env)] := by rfl) : DI X E tg (.Call (.Name "range" p) [a, b] [] pos) (fRng fl) :=
  fun ad => PI_conseq (pi_range2 hg hm (ha ad) hs hs2) fun σ H R q => tI_rng2 hl q
/-- a target of a loop -/
structure DG (X : Cx) (tg : Expr) (g : TG) (f : TGf) (is : List Nat) : Prop where
  pg : L2.PG X tg g
  ok : TGOk X.K X.mg g f is
theorem dg_name (i : Nat) (hN : X.N.Nodup) (hi : X.N[i]? = some x := by rfl) (hx : Loc X.env.scope x := by first | exact Or.inl rfl | exact Or.inr rfl) (hf : X.fn x = true ∨ X.env.scope.names.lookup x = some .local := by first | exact .inl rfl | exact .inr rfl) : DG X (.Name x pos) (gName i) (tgName i) [i] := ⟨pg_name hN hi hx hf, tgok_name⟩
theorem dg_tup {ts : List Expr} {k : Nat} (is : List Nat) (h : PGs X ts (gTs is)) (hc : X.calm = true := by rfl) (hn : (assignEach ts X.env).length = is.length := by rfl) (hst : (assignEach ts X.env).findIdx? (·.1) = none := by rfl) : DG X (.Tuple ts k pos) (gTup X.K is.length (gTs is)) (tgTup is) is := ⟨pg_tup hc h hn hst, tgok_tup⟩
theorem pgts_nil : PGs X [] (gTs []) := pgs_nil
theorem pgts_cons {ts : List Expr} {is : List Nat} (i : Nat) (hN : X.N.Nodup) (h : PGs X ts (gTs is)) (hi : X.N[i]? = some x := by rfl) (hx : Loc X.env.scope x := by first | exact Or.inl rfl | exact Or.inr rfl) (hf : X.fn x = true ∨ X.env.scope.names.lookup x = some .local := by first | exact .inl rfl | exact .inr rfl)
    (hs : (assignEach (.Name x pos :: ts) X.env).map (·.2) = assign (.Name x pos) X.env :: (assignEach ts X.env).map (·.2) := by rfl) : PGs X (.Name x pos :: ts) (gTs (i :: is)) := pgs_cons (pg_name hN hi hx hf) h hs
theorem ds_for {iter : Expr} {g : TG} {fi : FI} {ftg : TGf} {is : List Nat} (hp : PassesOwn (model X.prog X.w) X.A X.env X.xe) (hi : DI X E tg iter fi) (hg : DG X tg g ftg is) (hb : DSs X E ss f) (hc : X.calm = true := by rfl) (hs : ∀ x, foldedSetIterable iter X.env x = pure x := by intro _; rfl) : DS X E (.For tg iter ss [] pos) (fFor fi ftg f) :=
  fun ad => PS_conseq (ps_for hp hc (hi ad) hg.pg (hb ad) hs) fun D σ H h => tS_for (fun σ H R q => q) hg.ok h
theorem ds_while (fuel : Ds → Nat) (hp : PassesOwn (model X.prog X.w) X.A X.env X.xe) (hc : DT X E c ft) (hb : DSs X E ss f) : DS X E (.While c ss [] pos) (fWhile fuel ft f) := fun ad => PS_conseq (ps_while hp (hc ad) (hb ad)) fun D σ H h => tS_while h
end
end DK

set_option Elab.async false
set_option linter.all false
set_option maxRecDepth 100000
namespace DK
open PySem PySem.Spec PyProof.Rows L2
variable [TabsC]
/-! ### defs -/
def retV (v : Vl) (st : Ds) : R Vl := match v with
  | .p d => .ok (.p d)
  | .o xs => .ok (.o xs)
  | .r i => match st[i]? with
    | some (.o xs) => .ok (.o xs)
    | _ => .stuck
def runF (np n : Nat) (body : FS) : List D → R Vl := fun ds => if ds.length = np then (body (ds.map Sl.p ++ List.replicate (n - np) .un)).bind fun f => match f with
    | .nx _ => .ok (.p .non)
    | .rt v st => retV v st
    | _ => .stuck
  else .stuck
/-- a def whose first argument is a list that it may write -/
def runG (np n : Nat) (body : FS) : List D → List D → R (Vl × List D) := fun src ds => if ds.length + 1 = np then (body (.s src :: (ds.map Sl.p ++ List.replicate (n - np) .un))).bind fun (f : Fl) => match f with
    | .nx st => match (st[0]? : Option Sl) with
      | some (Sl.s src') => .ok (.p .non, src')
      | _ => .stuck
    | .rt v st => match (st[0]? : Option Sl) with
      | some (Sl.s src') => (retV v st).bind fun u => .ok (u, src')
      | _ => .stuck
    | _ => .stuck
  else .stuck
/-- no error is let out -/
def R.noErr {α : Type} (x : R α) : R α := match x with
  | .err _ _ => .stuck
  | x => x
@[simp] theorem R.noErr_ok {α : Type} (a : α) : (R.ok a).noErr = .ok a := rfl
@[simp] theorem R.noErr_err {α : Type} (c : Str) (l : Option Int) : (R.err c l : R α).noErr = .stuck := rfl
@[simp] theorem R.noErr_stuck {α : Type} : (R.stuck : R α).noErr = .stuck := rfl
/-- a call that hands on the list in a slot -/
def fCallS (g : List D → List D → R (Vl × List D)) (fa : FA) : FE := fun st => (fa st).bind fun x => match x.1 with
  | .r i :: vs => match fzVs vs x.2 with
    | some (ds, st2) => match st2[i]? with
      | some (.o src) => (g src ds).noErr.bind fun y => .ok (y.1, st2.set i (.o y.2))
      | some (.s src) => (g src ds).noErr.bind fun y => .ok (y.1, st2.set i (.s y.2))
      | _ => .stuck
    | none => .stuck
  | _ => .stuck
section
variable {P : Program} {w : World} {K : PySem.W.Frag} {mg : Str → Option Value} {base : Heap} {ad : Nat → Option Addr} {Fz H Fz' H' Fz1 H1 : Hp} {st st' st1 : Ds} {σ : L2.St} {PP P1 : Addr → Prop} {E : XK} {D : Ends}
def VRet (K : PySem.W.Frag) (mg : Str → Option Value) (Fz' H H' : Hp) : Vl → V → Prop
  | .p d, x => Rep K mg Fz' d x
  | .o xs, x => ∃ b vs, x = .ref b ∧ H' b = some (.lst vs) ∧ Fz' b = none ∧ H b = none ∧ RepL K mg Fz' xs vs
  | .r _, _ => False
structure GEnd (K : PySem.W.Frag) (mg : Str → Option Value) (a : Addr) (Fz H : Hp) (v : Vl) (src : List DK.D) (x : V) (ws : List V) (Fz' H' : Hp) : Prop where
  keep : ∀ q o, q ≠ a → H q = some o → NT o → H' q = some o
  dom : ∀ q, H' q = none → H q = none
  tab : (Tbs H → Tbs H') ∧ (NoTb Fz → NoTb Fz')
  sub : ∀ q o, Fz' q = some o → H' q = some o
  fmon : ∀ q o, Fz q = some o → Fz' q = some o
  fnew : ∀ q o, Fz' q = some o → (∃ u, Fz q = some u) ∨ H q = none
  hs : H' a = some (.lst ws)
  fs : Fz' a = none
  rs : RepL K mg Fz' src ws
  val : VRet K mg Fz' H H' v x
def spG (K : PySem.W.Frag) (mg : Str → Option Value) (g : List DK.D → List DK.D → R (Vl × List DK.D)) : Sp := fun vs H Q E => ∃ Fz a ws src ds xs, vs = .ref a :: xs ∧ (∀ q o, Fz q = some o → H q = some o) ∧ H a = some (.lst ws) ∧ Fz a = none ∧ RepL K mg Fz src ws ∧ RepL K mg Fz ds xs ∧ (Tbs H ∧ NoTb Fz) ∧ match g src ds with
  | .stuck => False
  | .err c l => False
  | .ok y => ∀ x ws' Fz' H', GEnd K mg a Fz H y.1 y.2 x ws' Fz' H' → Q x H'
theorem start_get {N : List Str} {vs : List V} {i : Nat} {v : V} (h : vs[i]? = some v) : (L2.start N vs)[i]? = some (some v) := by
  have hl : i < vs.length := (List.getElem?_eq_some_iff.mp h).1
  unfold L2.start
  rw [List.getElem?_append_left (by simpa using hl), List.getElem?_map, h]
  rfl
theorem pList_get {ds : List DK.D} {n i : Nat} {s : Sl} (h : (ds.map Sl.p ++ List.replicate n .un)[i]? = some s) : (∃ d, ds[i]? = some d ∧ s = .p d) ∨ s = .un := by
  by_cases hi : i < ds.length
  · rw [List.getElem?_append_left (by simpa using hi), List.getElem?_map, List.getElem?_eq_getElem hi] at h
    exact .inl ⟨ds[i], List.getElem?_eq_getElem hi, (Option.some.inj h).symm⟩
  · rw [List.getElem?_append_right (by simpa using hi), List.getElem?_replicate] at h
    split at h
    · exact .inr (Option.some.inj h).symm
    · cases h
theorem rs_start {N : List Str} {ds : List DK.D} {vs : List V} (sub : ∀ a o, Fz a = some o → H a = some o) (h : RepL K mg Fz ds vs) (tb : Tbs H ∧ NoTb Fz) : RS K mg ad Fz H (ds.map Sl.p ++ List.replicate (N.length - ds.length) .un) (L2.start N vs) := by
  have no : ∀ i, ¬ Own (ds.map Sl.p ++ List.replicate (N.length - ds.length) .un) i := fun i ⟨xs, z⟩ => by
    rcases z with z | z <;> rcases pList_get z with ⟨d, _, e⟩ | e <;> cases e
  refine ⟨by unfold L2.start; simp [h.len], sub, fun i s e => ?_, fun i j a z => (no i z).elim, tb⟩
  rcases pList_get e with ⟨d, e1, rfl⟩ | rfl
  · obtain ⟨v, e2, r⟩ := h.get e1
    rw [start_get e2]
    exact ⟨v, rfl, r⟩
  · trivial
theorem ows_start {ds : List DK.D} {n : Nat} {q : Addr} (h : Ows (ds.map Sl.p ++ List.replicate n .un) σ q) : False := by
  obtain ⟨i, ⟨xs, z⟩, _⟩ := h
  rcases z with z | z <;> rcases pList_get z with ⟨d, _, e⟩ | e <;> cases e
theorem retV_ok {v u : Vl} {x : V} (hP : ∀ q, PP q → False) (e : EEnd K mg ad PP Fz H v st' σ x Fz' H') (h : retV v st' = .ok u) : OEnd K mg Fz H u x Fz' H' := by
  have base : ∀ {u : Vl}, (match u with
    | .p d => Rep K mg Fz' d x
    | .o xs => ∃ a vs, x = .ref a ∧ H' a = some (.lst vs) ∧ Fz' a = none ∧ H a = none ∧ RepL K mg Fz' xs vs
    | .r _ => False) → OEnd K mg Fz H u x Fz' H' := fun val =>
    ⟨fun q o z nt => e.fr.keep q o z (hP q) nt, e.fr.dom, e.fr.tab, e.rs.sub, e.fr.fmon, fun q o z => by
      rcases e.fr.fnew q o z with z | z | z
      · exact .inl z
      · exact (hP q z).elim
      · exact .inr z, val⟩
  cases v with
  | p d => cases h; exact base e.val
  | o xs =>
    cases h
    obtain ⟨a, vs, e1, e2, e3, e4, e5⟩ := e.val
    exact base ⟨a, vs, e1, e2, e3, (e.new a e1).elim (fun z => (hP a z).elim) id, e4⟩
  | r i =>
    unfold retV at h
    dsimp only at h
    split at h
    · rename_i xs hx
      cases h
      obtain ⟨a, ys, vs, e1, e2, e3, e4, e5⟩ := e.rs.own ⟨xs, .inl hx⟩
      have k : σ[i]? = some (some x) := e.val
      rw [k] at e2; cases e2
      have : ys = xs := by
        rcases e1 with e1 | e1 <;> rw [hx] at e1 <;> cases e1 <;> rfl
      subst this
      exact base ⟨a, vs, rfl, e3, e4, (e.fr.onew a ⟨i, ⟨ys, .inl hx⟩, k⟩).elim (fun z => (hP a z).elim) id, e5⟩
    · cases h
theorem body_ok {N : List Str} {np : Nat} {body : FS} {vs : List V} {Q : VK} (h : spF K mg (runF np N.length body) vs H Q E) : vs.length = np ∧ tS K mg ad E body { nx := fun _ H' => Q .non H', rt := Q } (L2.start N vs) H := by
  obtain ⟨Fz, ds, sub, hr, tb, h⟩ := h
  unfold runF at h
  split at h
  · exact h.elim
  · rename_i c l e
    split at e
    · rename_i hl
      subst hl
      refine ⟨hr.len.symm, _, Fz, rs_start sub hr tb, ?_⟩
      cases eb : body (ds.map Sl.p ++ List.replicate (N.length - ds.length) .un) with
      | stuck => rw [eb] at e; cases e
      | err c' l' => rw [eb] at e; cases e; exact fun H' k => h H' ⟨fun q o z nt => k.1 q o z (fun z => ows_start z) nt, k.2.1, k.2.2⟩
      | ok f =>
        rw [eb] at e
        cases f with
        | nx st => cases e
        | bk st => cases e
        | ct st => cases e
        | rt v st =>
          rw [R.bind_ok] at e
          cases v with
          | p d => cases e
          | o xs => cases e
          | r i =>
            unfold retV at e
            dsimp only at e
            split at e <;> cases e
    · cases e
  · rename_i v e
    split at e
    · rename_i hl
      subst hl
      refine ⟨hr.len.symm, _, Fz, rs_start sub hr tb, ?_⟩
      cases eb : body (ds.map Sl.p ++ List.replicate (N.length - ds.length) .un) with
      | stuck => rw [eb] at e; cases e
      | err c' l' => rw [eb] at e; cases e
      | ok f =>
        rw [eb] at e
        cases f with
        | nx st =>
          cases e
          intro σ' Fz' H' k
          exact h _ Fz' H' (retV_ok (v := .p .non) (fun q z => ows_start z) (EEnd.of_p k.rs k.fr (by rw [Rep])) rfl)
        | bk st => cases e
        | ct st => cases e
        | rt u st => exact fun x σ' Fz' H' k => h x Fz' H' (retV_ok (fun q z => ows_start z) k e)
    · cases e
theorem fn_ok {x qual : Str} {st : Stmt} {f : Addr} {fd : FuncData} {N ps : List Str} {k : Nat} {body : FS} (F : Fun K x qual st f fd) (S : FnScope N ps (defScope st))
    (hb : ∀ (cdv : Value) (A : Around) (outer : List Env) (s : Shared) (H : Hp) (E : XK), Room k (A.deeper (envOfC qual (defScope st) s.heap.objs.size f cdv)) → DSs (cxOf (L2.CX P w) P w K mg base N qual (defScope st) f cdv A outer s H E) E (defBody st) body) :
    FnOk P w K mg base (L2.CX P w) (k + 1) f fd ps (spF K mg (runF ps.length N.length body)) :=
  F.okX S (fun vs H Q E h => (body_ok (ad := fun _ => none) h).1) fun cdv A outer s H vs Q E hr h => ⟨_, hb cdv A outer s H E hr fun _ => none, (body_ok h).2⟩
/-- a def that lets nothing out -/
theorem fn_ok0 {x qual : Str} {st : Stmt} {f : Addr} {fd : FuncData} {N ps : List Str} {k : Nat} {body : FS} (F : Fun K x qual st f fd) (S : FnScope N ps (defScope st))
    (hb : ∀ (cdv : Value) (A : Around) (outer : List Env) (s : Shared) (H : Hp) (E : XK), Room k (A.deeper (envOfC qual (defScope st) s.heap.objs.size f cdv)) → DSs (cxOf L2.CX0 P w K mg base N qual (defScope st) f cdv A outer s H E).nox L2.E0 (defBody st) body)
    (he : ∀ ds c l, runF ps.length N.length body ds ≠ .err c l) :
    FnOk P w K mg base L2.CX0 (k + 1) f fd ps (spF K mg (runF ps.length N.length body)) :=
  F.ok S (fun vs H Q E h => (body_ok (ad := fun _ => none) h).1) fun cdv A outer s H vs Q E hr h => ⟨_, hb cdv A outer s H E hr fun _ => none, (body_ok (E := L2.E0) (by
    obtain ⟨Fz, ds, sub, r, h⟩ := h
    refine ⟨Fz, ds, sub, r, ?_⟩
    cases e : runF ps.length N.length body ds with
    | stuck => rw [e] at h; exact h
    | err c l => exact (he ds c l e).elim
    | ok v => rw [e] at h; exact h)).2⟩
/-! ### a def that writes its first argument -/
theorem rs_startG {N : List Str} {src ds : List DK.D} {ws vs : List V} {a : Addr} (hN : ds.length + 1 ≤ N.length) (sub : ∀ a o, Fz a = some o → H a = some o) (ha : H a = some (.lst ws)) (fa : Fz a = none) (hs : RepL K mg Fz src ws) (h : RepL K mg Fz ds vs) (tb : Tbs H ∧ NoTb Fz) :
    RS K mg (fun i => if i = 0 then some a else none) Fz H (.s src :: (ds.map Sl.p ++ List.replicate (N.length - (ds.length + 1)) .un)) (L2.start N (.ref a :: vs)) := by
  have own : ∀ i, Own (.s src :: (ds.map Sl.p ++ List.replicate (N.length - (ds.length + 1)) .un)) i → i = 0 := fun i ⟨xs, z⟩ => by
    cases i with
    | zero => rfl
    | succ i =>
      rcases z with z | z <;> (rw [List.getElem?_cons_succ] at z; rcases pList_get z with ⟨d, _, e⟩ | e <;> cases e)
  refine ⟨?_, sub, fun i s e => ?_, fun i j b h1 h2 _ _ => (by rw [own i h1, own j h2]), tb⟩
  · unfold L2.start
    have := h.len
    simp only [List.length_cons, List.length_append, List.length_map, List.length_replicate]
    omega
  · cases i with
    | zero =>
      cases e
      exact ⟨a, ws, rfl, rfl, ha, fa, hs⟩
    | succ i =>
      rw [List.getElem?_cons_succ] at e
      rcases pList_get e with ⟨d, e1, rfl⟩ | rfl
      · obtain ⟨v, e2, r⟩ := h.get e1
        have e3 : (V.ref a :: vs)[i + 1]? = some v := e2
        rw [start_get e3]
        exact ⟨v, rfl, r⟩
      · trivial
theorem ows_startG {N : List Str} {src ds : List DK.D} {vs : List V} {n : Nat} {a q : Addr} : Ows (.s src :: (ds.map Sl.p ++ List.replicate n .un)) (L2.start N (.ref a :: vs)) q ↔ q = a := by
  constructor
  · rintro ⟨i, ⟨xs, z⟩, e⟩
    cases i with
    | zero =>
      have : (L2.start N (.ref a :: vs))[0]? = some (some (V.ref a)) := start_get rfl
      rw [this] at e
      cases e
      rfl
    | succ i =>
      rcases z with z | z <;> (rw [List.getElem?_cons_succ] at z; rcases pList_get z with ⟨d, _, e⟩ | e <;> cases e)
  · rintro rfl
    exact ⟨0, ⟨src, .inr rfl⟩, start_get rfl⟩
theorem bodyG_ok {N : List Str} {np : Nat} {body : FS} {vs : List V} {Q : VK} (hN : np ≤ N.length) (h : spG K mg (runG np N.length body) vs H Q E) : vs.length = np ∧ ∃ ad, tS K mg ad E body { nx := fun _ H' => Q .non H', rt := Q } (L2.start N vs) H := by
  obtain ⟨Fz, a, ws, src, ds, xs, rfl, sub, ha, fa, hs, hr, tb, h⟩ := h
  unfold runG at h
  split at h
  · exact h.elim
  · exact h.elim
  rename_i y e
  split at e
  · rename_i hl
    subst hl
    refine ⟨by rw [List.length_cons, hr.len], fun i => if i = 0 then some a else none, _, Fz, rs_startG hN sub ha fa hs hr tb, ?_⟩
    cases eb : body (.s src :: (ds.map Sl.p ++ List.replicate (N.length - (ds.length + 1)) .un)) with
    | stuck => rw [eb] at e; cases e
    | err c' l' => rw [eb] at e; cases e
    | ok f =>
      rw [eb] at e
      have hfin : ∀ {u : Vl} {src' : List DK.D} {x : V} {st' : Ds} {σ' : L2.St} {Fz' H' : Hp}, RS K mg (fun i => if i = 0 then some a else none) Fz' H' st' σ' → Fr (Ows (.s src :: (ds.map Sl.p ++ List.replicate (N.length - (ds.length + 1)) .un)) (L2.start N (.ref a :: xs))) Fz H (Ows st' σ') Fz' H' →
          st'[0]? = some (.s src') → VRet K mg Fz' H H' u x → ∃ ws', GEnd K mg a Fz H u src' x ws' Fz' H' := fun {u src' x st' σ' Fz' H'} r fr e0 val => by
        obtain ⟨b, ws', k1, k2, k3, k4, k5⟩ := r.slot 0 _ e0
        simp only [if_true] at k2
        cases k2
        refine ⟨ws', fun q o n z nt => fr.keep q o z (fun z => n (ows_startG.mp z)) nt, fr.dom, fr.tab, r.sub, fr.fmon, fun q o z => ?_, k3, k4, k5, val⟩
        rcases fr.fnew q o z with z1 | z1 | z1
        · exact .inl z1
        · rw [ows_startG.mp z1, k4] at z; cases z
        · exact .inr z1
      cases f with
      | nx st =>
        rw [R.bind_ok] at e
        dsimp only at e
        split at e
        · rename_i src' e0
          cases e
          intro σ' Fz' H' k
          obtain ⟨ws', g⟩ := hfin (u := .p .non) (x := .non) k.rs k.fr e0 (by show Rep K mg Fz' .non .non; rw [Rep])
          exact h _ ws' Fz' H' g
        · cases e
      | bk st => cases e
      | ct st => cases e
      | rt v st =>
        rw [R.bind_ok] at e
        dsimp only at e
        split at e
        · rename_i src' e0
          intro x σ' Fz' H' k
          cases er : retV v st with
          | stuck => rw [er] at e; cases e
          | err c l => rw [er] at e; cases e
          | ok u =>
            rw [er] at e
            cases e
            have val : VRet K mg Fz' H H' u x := by
              cases v with
              | p d => cases er; exact k.val
              | o ys =>
                cases er
                obtain ⟨b, us, e1, e2, e3, e4, e5⟩ := k.val
                refine ⟨b, us, e1, e2, e3, ?_, e4⟩
                rcases k.new b e1 with z | z
                · have : b = a := ows_startG.mp z
                  subst this
                  obtain ⟨b', ws', k1, k2, k3, k4, k5⟩ := k.rs.slot 0 _ e0
                  simp only [if_true] at k2
                  cases k2
                  exact (e5 ⟨0, ⟨src', .inr e0⟩, join_some k1⟩).elim
                · exact z
              | r i =>
                unfold retV at er
                dsimp only at er
                split at er
                · rename_i ys hx
                  cases er
                  obtain ⟨b, zs, us, e1, e2, e3, e4, e5⟩ := k.rs.own ⟨ys, .inl hx⟩
                  have kv : σ'[i]? = some (some x) := k.val
                  rw [kv] at e2; cases e2
                  have : zs = ys := by
                    rcases e1 with e1 | e1 <;> rw [hx] at e1 <;> cases e1 <;> rfl
                  subst this
                  refine ⟨b, us, rfl, e3, e4, ?_, e5⟩
                  rcases k.fr.onew b ⟨i, ⟨zs, .inl hx⟩, kv⟩ with z | z
                  · have : b = a := ows_startG.mp z
                    subst this
                    obtain ⟨b', ws', k1, k2, k3, k4, k5⟩ := k.rs.slot 0 _ e0
                    simp only [if_true] at k2
                    cases k2
                    have := k.rs.inj i 0 _ ⟨zs, .inl hx⟩ ⟨src', .inr e0⟩ kv (join_some k1)
                    subst this
                    rw [hx] at e0; cases e0
                  · exact z
                · cases er
            obtain ⟨ws', g⟩ := hfin (u := u) (x := x) k.rs k.fr e0 val
            exact h _ ws' Fz' H' g
        · cases e
  · cases e
theorem fn_okG {x qual : Str} {st : Stmt} {f : Addr} {fd : FuncData} {N ps : List Str} {k : Nat} {body : FS} (F : Fun K x qual st f fd) (S : FnScope N ps (defScope st)) (hN : ps.length ≤ N.length)
    (hb : ∀ (cdv : Value) (A : Around) (outer : List Env) (s : Shared) (H : Hp) (E : XK), Room k (A.deeper (envOfC qual (defScope st) s.heap.objs.size f cdv)) → DSs (cxOf (L2.CX P w) P w K mg base N qual (defScope st) f cdv A outer s H E) E (defBody st) body) :
    FnOk P w K mg base (L2.CX P w) (k + 1) f fd ps (spG K mg (runG ps.length N.length body)) :=
  F.okX S (fun vs H Q E h => (bodyG_ok hN h).1) fun cdv A outer s H vs Q E hr h => by
    obtain ⟨_, ad, q⟩ := bodyG_ok hN h
    exact ⟨_, hb cdv A outer s H E hr ad, q⟩
/-- slot i is written -/
theorem RS.putO {i : Nat} {a : Addr} {ys : List DK.D} {s : Sl} {ws : List V} (rs : RS K mg ad Fz H st σ) (ow : Own st i) (hi : σ[i]? = some (some (.ref a))) (hs : s = .o ys ∨ (s = .s ys ∧ ad i = some a))
    (keep : ∀ q o, q ≠ a → H q = some o → NT o → H' q = some o) (dom : ∀ q, H' q = none → H q = none) (tab : (Tbs H → Tbs H') ∧ (NoTb Fz → NoTb Fz')) (sub : ∀ q o, Fz' q = some o → H' q = some o) (fmon : ∀ q o, Fz q = some o → Fz' q = some o) (fnew : ∀ q o, Fz' q = some o → (∃ u, Fz q = some u) ∨ H q = none)
    (ha : H' a = some (.lst ws)) (fa : Fz' a = none) (hr : RepL K mg Fz' ys ws) : RS K mg ad Fz' H' (st.set i s) σ ∧ (∀ q, Ows (st.set i s) σ q → Ows st σ q) ∧ Fr (Ows st σ) Fz H (Ows (st.set i s) σ) Fz' H' := by
  have hil : i < st.length := ow.lt
  have own : ∀ j, Own (st.set i s) j → Own st j := fun j ⟨xs, z⟩ => by
    by_cases e : j = i
    · rw [e]; exact ow
    · rw [List.getElem?_set_ne (Ne.symm e)] at z; exact ⟨xs, z⟩
  have fz : ∀ b vs, H b = some (.lst vs) → Fz b = none → Fz' b = none := fun b vs h1 h2 => by
    cases q : Fz' b with
    | none => rfl
    | some o =>
      rcases fnew b o q with ⟨u, z⟩ | z
      · rw [h2] at z; cases z
      · rw [h1] at z; cases z
  have ow2 : ∀ q, Ows (st.set i s) σ q → Ows st σ q := fun q ⟨j, z1, z2⟩ => ⟨j, own j z1, z2⟩
  have isa : Ows st σ a := ⟨i, ow, hi⟩
  refine ⟨⟨by rw [List.length_set]; exact rs.len, sub, fun j t e => ?_, fun j k b h1 h2 => rs.inj j k b (own j h1) (own k h2), tab.1 rs.tab.1, tab.2 rs.tab.2⟩, ow2, fun q o z n nt => keep q o (fun e => n (by rw [e]; exact isa)) z nt, dom, fmon, fun q o z => (fnew q o z).elim (fun z => .inl z) fun z => .inr (.inr z), fun q z => .inl (ow2 q z), tab⟩
  · by_cases ej : i = j
    · subst ej
      rw [List.getElem?_set_self hil] at e
      cases e
      rw [hi]
      rcases hs with rfl | ⟨rfl, had⟩
      · exact ⟨a, ws, rfl, ha, fa, hr⟩
      · exact ⟨a, ws, rfl, had, ha, fa, hr⟩
    · rw [List.getElem?_set_ne ej] at e
      have k := rs.slot j t e
      have ne : ∀ b, σ[j]?.join = some (.ref b) → Own st j → b ≠ a := fun b z1 z2 z3 => by
        subst z3
        exact ej (rs.inj i j b ow z2 hi (join_some z1))
      cases t with
      | un => trivial
      | p d => obtain ⟨y, k1, k2⟩ := k; exact ⟨y, k1, k2.mono fmon⟩
      | o zs => obtain ⟨b, us, k1, k2, k3, k4⟩ := k; exact ⟨b, us, k1, keep _ _ (ne b k1 ⟨zs, .inl e⟩) k2 nt_lst, fz _ _ k2 k3, k4.mono fmon⟩
      | s zs => obtain ⟨b, us, k1, k0, k2, k3, k4⟩ := k; exact ⟨b, us, k1, k0, keep _ _ (ne b k1 ⟨zs, .inr e⟩) k2 nt_lst, fz _ _ k2 k3, k4.mono fmon⟩
theorem tE_callS {fa : FA} {g : List DK.D → List DK.D → R (Vl × List DK.D)} {Q : VK} (h : tE K mg ad E (fCallS g fa) σ H Q) : tCall (spG K mg g) [] E (tA K mg ad E fa) σ H Q := by
  obtain ⟨st, Fz, rs, h⟩ := h
  refine ⟨st, Fz, rs, h.bind.imp fun ⟨vs, st1⟩ h1 xs Fz1 H1 e1 => ?_⟩
  dsimp only at h1 e1
  show spG K mg g (xs ++ []) H1 Q E
  rw [List.append_nil]
  split at h1
  · rename_i i vs'
    split at h1
    · rename_i ds st2 e2
      have k := e1.val
      match xs, k with
      | x0 :: xs', k =>
        obtain ⟨Fz2, rs2, fr2, r2, fm2, ow2⟩ := fzVs_ok e1.rs e1.fr k.2.1 (fun a z => e1.new a (.inr z)) e2
        have k0 : σ[i]? = some (some x0) := k.1
        have go : ∀ {src : List DK.D} {mk : List DK.D → Sl}, (st2[i]? = some (.o src) ∨ st2[i]? = some (.s src)) → (∀ a ys, σ[i]? = some (some (.ref a)) → mk ys = .o ys ∨ (mk ys = .s ys ∧ ad i = some a)) →
            (Out mg E (Ows st σ) H ((g src ds).noErr.bind fun y => .ok (y.1, st2.set i (mk y.2))) fun v => ∀ x Fz' H', EEnd K mg ad (Ows st σ) Fz H v.1 v.2 σ x Fz' H' → Q x H') → spG K mg g (x0 :: xs') H1 Q E := fun {src mk} hsl hmk h2 => by
          obtain ⟨a, ys, ws, e3, e4, e5, e6, e7⟩ := rs2.own ⟨src, hsl⟩
          have : ys = src := by
            rcases hsl with hsl | hsl <;> rcases e3 with e3 | e3 <;> rw [hsl] at e3 <;> cases e3 <;> rfl
          subst this
          rw [k0] at e4
          cases e4
          refine ⟨Fz2, a, ws, ys, ds, xs', rfl, rs2.sub, e5, e6, e7, r2, rs2.tab, ?_⟩
          cases eg : g ys ds with
          | stuck => rw [eg] at h2; exact h2.elim
          | err c l => rw [eg] at h2; exact h2.elim
          | ok y =>
            rw [eg] at h2
            intro x ws' Fz' H' ge
            obtain ⟨p1, p2, p3⟩ := rs2.putO (s := mk y.2) (ys := y.2) ⟨ys, hsl⟩ k0 (hmk a y.2 k0) ge.keep ge.dom ge.tab ge.sub ge.fmon ge.fnew ge.hs ge.fs ge.rs
            refine h2 x Fz' H' ⟨p1, fr2.trans p3, ?_, fun b z => ?_⟩
            · have kv := ge.val
              cases ev : y.1 with
              | p d => rw [ev] at kv; exact kv
              | o zs =>
                rw [ev] at kv
                obtain ⟨b, us, z1, z2, z3, z4, z5⟩ := kv
                refine ⟨b, us, z1, z2, z3, z5, fun z => ?_⟩
                obtain ⟨us', z6, _⟩ := rs2.ows (p2 b z)
                rw [z4] at z6; cases z6
              | r j => rw [ev] at kv; exact kv.elim
            · have kv := ge.val
              cases ev : y.1 with
              | p d => rw [ev] at z; exact z.elim
              | o zs =>
                rw [ev] at kv z
                obtain ⟨b', us, z1, z2, z3, z4, z5⟩ := kv
                have z : x = .ref b := z
                rw [z1] at z; cases z
                exact .inr (fr2.dom _ z4)
              | r j => rw [ev] at kv; exact kv.elim
        split at h1
        · rename_i src hsl
          exact go (mk := .o) (.inl hsl) (fun a ys _ => .inl rfl) h1
        · rename_i src hsl
          refine go (mk := .s) (.inr hsl) (fun a ys ha => .inr ⟨rfl, ?_⟩) h1
          obtain ⟨b, ws, q1, q2, _⟩ := rs2.slot i _ hsl
          rw [ha] at q1
          cases q1
          exact q2
        · exact h1.elim
    · exact h1.elim
  · exact h1.elim
end
end DK

set_option Elab.async false
set_option linter.all false
set_option maxRecDepth 100000
namespace DK
open PySem PySem.Spec PyProof.Rows L2
variable [TabsC]
section
variable {K : PySem.W.Frag} {mg : Str → Option Value} {ad : Nat → Option Addr} {Fz H Fz' H' Fz1 H1 : Hp} {st st' st1 : Ds} {σ : L2.St} {P P1 : Addr → Prop} {E : XK} {D : Ends}
theorem wipeD_get {vs : List Nat} {j : Nat} (h : j ∉ vs) : (wipeD st vs)[j]? = st[j]? := by
  induction vs with
  | nil => rfl
  | cons v vs ih =>
    have h1 : v ≠ j := fun e => h (by rw [e]; simp)
    show ((wipeD st vs).set v .un)[j]? = _
    rw [List.getElem?_set_ne h1]
    exact ih fun z => h (by simp [z])
theorem wipeD_len : ∀ {vs : List Nat}, (wipeD st vs).length = st.length
  | [] => rfl
  | v :: vs => by show ((wipeD st vs).set v .un).length = _; rw [List.length_set, wipeD_len]
theorem wipeD_in {vs : List Nat} {j : Nat} {s : Sl} (h : j ∈ vs) (e : (wipeD st vs)[j]? = some s) : s = .un := by
  induction vs with
  | nil => cases h
  | cons v vs ih =>
    have e : ((wipeD st vs).set v .un)[j]? = some s := e
    by_cases hv : v = j
    · subst hv
      by_cases hl : v < (wipeD st vs).length
      · rw [List.getElem?_set_self hl] at e; cases e; rfl
      · rw [List.getElem?_eq_none (by simpa using hl)] at e; cases e
    · rw [List.getElem?_set_ne hv] at e
      rcases List.mem_cons.mp h with z | z
      · exact (hv z.symm).elim
      · exact ih z e
theorem own_wipe {vs : List Nat} {j : Nat} (h : Own (wipeD st vs) j) : Own st j ∧ j ∉ vs := by
  obtain ⟨xs, z⟩ := h
  by_cases hj : j ∈ vs
  · rcases z with z | z <;> (have := wipeD_in hj z; cases this)
  · rw [wipeD_get hj] at z
    exact ⟨⟨xs, z⟩, hj⟩
theorem RS.wipe {vs : List Nat} (rs : RS K mg ad Fz H st σ) : RS K mg ad Fz H (wipeD st vs) (L2.wipe σ vs) ∧ ∀ q, Ows (wipeD st vs) (L2.wipe σ vs) q → Ows st σ q := by
  refine ⟨⟨by rw [wipeD_len, wipe_length]; exact rs.len, rs.sub, fun j s e => ?_, fun i j a h1 h2 h3 h4 => ?_, rs.tab⟩, fun q ⟨i, h1, h2⟩ => ?_⟩
  · by_cases hj : j ∈ vs
    · obtain rfl := wipeD_in hj e
      trivial
    · rw [wipeD_get hj] at e
      rw [wipe_out hj]
      exact rs.slot j s e
  · obtain ⟨g1, n1⟩ := own_wipe h1
    obtain ⟨g2, n2⟩ := own_wipe h2
    rw [wipe_out n1] at h3
    rw [wipe_out n2] at h4
    exact rs.inj i j a g1 g2 h3 h4
  · obtain ⟨g1, n1⟩ := own_wipe h1
    rw [wipe_out n1] at h2
    exact ⟨i, g1, h2⟩
theorem unwipe_len {st2 : Ds} : ∀ {vs : List Nat}, (unwipe st st2 vs).length = st2.length
  | [] => rfl
  | v :: vs => by
    unfold unwipe
    split
    · rw [List.length_set, unwipe_len]
    · exact unwipe_len
theorem unwipe_get {st2 : Ds} {vs : List Nat} {j : Nat} {s : Sl} (e : (unwipe st st2 vs)[j]? = some s) : st2[j]? = some s ∨ (j ∈ vs ∧ ∃ d, s = .p d ∧ st[j]? = some (.p d)) := by
  induction vs with
  | nil => exact .inl e
  | cons v vs ih =>
    unfold unwipe at e
    split at e
    · rename_i d hd
      by_cases hv : v = j
      · subst hv
        by_cases hl : v < (unwipe st st2 vs).length
        · rw [List.getElem?_set_self hl] at e
          cases e
          exact .inr ⟨by simp, d, rfl, hd⟩
        · rw [List.getElem?_eq_none (by simpa using hl)] at e; cases e
      · rw [List.getElem?_set_ne hv] at e
        exact (ih e).imp id fun ⟨z1, z2⟩ => ⟨by simp [z1], z2⟩
    · exact (ih e).imp id fun ⟨z1, z2⟩ => ⟨by simp [z1], z2⟩
theorem RS.unwipe {vs : List Nat} {st2 : Ds} (rs : RS K mg ad Fz H st σ) (rs2 : RS K mg ad Fz1 H1 st2 (L2.wipe σ vs)) (hw : ∀ j s, j ∈ vs → st2[j]? = some s → s = .un) (fm : ∀ q o, Fz q = some o → Fz1 q = some o) :
    RS K mg ad Fz1 H1 (DK.unwipe st st2 vs) σ ∧ ∀ q, Ows (DK.unwipe st st2 vs) σ q → Ows st2 (L2.wipe σ vs) q := by
  have own : ∀ j, Own (DK.unwipe st st2 vs) j → Own st2 j ∧ j ∉ vs := fun j ⟨xs, z⟩ => by
    have : st2[j]? = some (.o xs) ∨ st2[j]? = some (.s xs) := by
      rcases z with z | z
      · rcases unwipe_get z with z | ⟨_, d, z, _⟩
        · exact .inl z
        · cases z
      · rcases unwipe_get z with z | ⟨_, d, z, _⟩
        · exact .inr z
        · cases z
    exact ⟨⟨xs, this⟩, fun hj => by rcases this with z | z <;> (have := hw j _ hj z; cases this)⟩
  refine ⟨⟨by rw [unwipe_len, rs2.len, wipe_length], rs2.sub, fun j s e => ?_, fun i j a h1 h2 h3 h4 => ?_, rs2.tab⟩, fun q ⟨i, h1, h2⟩ => ?_⟩
  · rcases unwipe_get e with z | ⟨hj, d, rfl, z⟩
    · by_cases hj : j ∈ vs
      · obtain rfl := hw j s hj z
        trivial
      · have k := rs2.slot j s z
        rw [wipe_out hj] at k
        exact k
    · obtain ⟨x, k1, k2⟩ := rs.slot j _ z
      exact ⟨x, k1, k2.mono fm⟩
  · obtain ⟨g1, n1⟩ := own i h1
    obtain ⟨g2, n2⟩ := own j h2
    exact rs2.inj i j a g1 g2 (by rw [wipe_out n1]; exact h3) (by rw [wipe_out n2]; exact h4)
  · obtain ⟨g1, n1⟩ := own i h1
    exact ⟨i, g1, by rw [wipe_out n1]; exact h2⟩
theorem wipe_wipe {vs : List Nat} : L2.wipe (L2.wipe σ vs) vs = L2.wipe σ vs := by
  have go : ∀ (ws : List Nat) (τ : L2.St), (∀ i ∈ ws, i ∈ vs) → L2.wipe (L2.wipe τ ws) vs = L2.wipe τ vs := by
    intro ws
    induction ws with
    | nil => intro τ _; rfl
    | cons w ws ih =>
      intro τ h
      show L2.wipe ((L2.wipe τ ws).set w none) vs = _
      rw [wipe_set (h w (by simp))]
      exact ih τ fun i hi => h i (by simp [hi])
  exact go vs σ fun i hi => hi
theorem tE_lc {wi : TI} {g : TG} {fi : FI} {tg : TGf} {ft fe : FE} {tt : TT} {is vs : List Nat} (hw : ∀ σ H R, tI K mg ad E fi σ H R → wi σ H R) (hg : TGOk K mg g tg is) (hv : ∀ i ∈ is, i ∈ vs) (ht : ∀ σ H Q, tT K mg ad L2.E0 ft σ H Q → tt σ H Q) {Q : VK}
    (h : tE K mg ad E (fLc fi tg (fun st => (ft st).noErr) (fun st => (fe st).noErr) vs) σ H Q) : tLc wi g tt (tE K mg ad L2.E0 fe) vs σ H Q := by
  obtain ⟨st, Fz, rs, h⟩ := h
  refine hw σ H _ ⟨st, Fz, rs, h.bind.imp fun ⟨items, st1⟩ h1 J Fz1 H1 rs1 fr1 sv C hC => ?_⟩
  dsimp only at h1 sv rs1 fr1
  obtain ⟨rsw, oww⟩ := rs1.wipe (vs := vs)
  have noC : ∀ q, Ows (wipeD st1 vs) (L2.wipe σ vs) q → q ≠ C := fun q z e => by
    obtain ⟨ws, z1, _⟩ := rsw.ows z
    rw [e, hC] at z1; cases z1
  have fzC : Fz1 C = none := by
    cases q : Fz1 C with
    | none => rfl
    | some o => have := rs1.sub _ _ q; rw [hC] at this; cases this
  have HC : H C = none := fr1.dom _ hC
  have ne1 : ∀ q o, H1 q = some o → q ≠ C := fun q o z => ne_of_none z hC
  have oe1 : OEnd K mg Fz1 H1 (.p .non) .non Fz1 (upd H1 C (.lst [])) := .of (fun q o z => by rw [upd_ne (ne1 q o z)]; exact z) (fun q o z => by rw [upd_ne (ne1 q o (rs1.sub q o z))]; exact rs1.sub q o z) (fun _ _ z => z) (fun _ o z => .inl ⟨o, z⟩) (fun h => h) (by show Rep K mg Fz1 .non .non; rw [Rep])
  refine ⟨fun i m H' => ∃ st' Fz' accD accV, RS K mg ad Fz' H' st' (L2.wipe σ vs) ∧ Fr (Ows st σ) Fz H (Ows st' (L2.wipe σ vs)) Fz' H' ∧ (∀ a o, Fz1 a = some o → Fz' a = some o) ∧ (∀ j s, j ∈ vs → st'[j]? = some s → s = .un) ∧ H' C = some (.lst accV) ∧ Fz' C = none ∧ RepL K mg Fz' accD accV ∧ ¬ Ows st' (L2.wipe σ vs) C ∧
      i + m = items.length ∧ Out mg E (Ows st σ) H ((lcL tg (fun st => (ft st).noErr) (fun st => (fe st).noErr) vs (items.drop i) accD st').bind fun y => .ok (Vl.o y.1, unwipe st1 y.2 vs)) fun v => ∀ x Fz' H', EEnd K mg ad (Ows st σ) Fz H v.1 v.2 σ x Fz' H' → Q x H',
    ⟨items.length, wipeD st1 vs, Fz1, [], [], oe1.rs rsw, (fr1.less oww).trans oe1.fr, fun _ _ z => z, fun j s hj z => wipeD_in hj z, upd_same, fzC, repL_nil, fun z => noC C z rfl, by omega, h1⟩, fun i m H' hW => ?_⟩
  obtain ⟨st', Fz', accD, accV, rs', fr', fm', hu', hC', fC', hr', nC', em, hf⟩ := hW
  by_cases hi : i < items.length
  · obtain ⟨hgo, hy⟩ := (sv Fz' H' fm' rs'.sub).2 i _ (List.getElem?_eq_getElem hi)
    rw [List.drop_eq_getElem_cons hi] at hf
    refine .inr ⟨hgo, fun H2 => ∃ st2 Fz2 accD accV, RS K mg ad Fz2 H2 st2 (L2.wipe σ vs) ∧ Fr (Ows st σ) Fz H (Ows st2 (L2.wipe σ vs)) Fz2 H2 ∧ (∀ a o, Fz1 a = some o → Fz2 a = some o) ∧ (∀ j s, j ∈ vs → st2[j]? = some s → s = .un) ∧ H2 C = some (.lst accV) ∧ Fz2 C = none ∧ RepL K mg Fz2 accD accV ∧ ¬ Ows st2 (L2.wipe σ vs) C ∧
        Out mg E (Ows st σ) H ((lcL tg (fun st => (ft st).noErr) (fun st => (fe st).noErr) vs (items.drop (i + 1)) accD st2).bind fun y => .ok (Vl.o y.1, unwipe st1 y.2 vs)) fun v => ∀ x Fz' H', EEnd K mg ad (Ows st σ) Fz H v.1 v.2 σ x Fz' H' → Q x H',
      fun H2 ⟨st2, Fz2, a1, a2, k1, k2, k3, k4, k5, k6, k7, k8, k9⟩ => ⟨m - 1, by omega, st2, Fz2, a1, a2, k1, k2, k3, k4, k5, k6, k7, k8, by omega, k9⟩, fun x H3 y => ?_⟩
    obtain ⟨Fz3, oe⟩ := hy x H3 y
    have rs3 := oe.rs rs'
    have fr3 : Fr (Ows st' (L2.wipe σ vs)) Fz' H' (Ows st' (L2.wipe σ vs)) Fz3 H3 := oe.fr
    unfold lcL at hf
    split at hf
    · rename_i st4 e4
      refine hg ad Fz3 H3 st' st4 _ _ x _ rs3 oe.val e4 fun σ4 rs4 ow4 wp4 => ?_
      have ew : L2.wipe σ4 vs = L2.wipe σ vs := (wp4 vs hv).trans wipe_wipe
      refine ⟨ew, ht σ4 H3 _ ?_⟩
      have fr4 : Fr (Ows st' (L2.wipe σ vs)) Fz' H' (Ows st4 σ4) Fz3 H3 := fr3.less ow4
      refine ⟨st4, Fz3, rs4, ?_⟩
      cases et : ft st4 with
      | stuck => rw [et] at hf; exact hf.elim
      | err c l => rw [et] at hf; exact hf.elim
      | ok xv =>
        obtain ⟨tv, st5⟩ := xv
        rw [et, R.noErr_ok, R.bind_ok] at hf
        dsimp only at hf
        -- what the turn's end wants
        have fin : ∀ {st7 : Ds} {Fz7 H7 : Hp} {aD : List DK.D} {aV : List V}, RS K mg ad Fz7 H7 st7 σ4 → Fr (Ows st' (L2.wipe σ vs)) Fz' H' (Ows st7 σ4) Fz7 H7 → H7 C = some (.lst aV) → Fz7 C = none → RepL K mg Fz7 aD aV → ¬ Ows st7 σ4 C →
            Out mg E (Ows st σ) H ((lcL tg (fun st => (ft st).noErr) (fun st => (fe st).noErr) vs (items.drop (i + 1)) aD (wipeD st7 vs)).bind fun y => .ok (Vl.o y.1, unwipe st1 y.2 vs)) (fun v => ∀ x Fz' H', EEnd K mg ad (Ows st σ) Fz H v.1 v.2 σ x Fz' H' → Q x H') →
            ∃ st2 Fz2 accD accV, RS K mg ad Fz2 H7 st2 (L2.wipe σ vs) ∧ Fr (Ows st σ) Fz H (Ows st2 (L2.wipe σ vs)) Fz2 H7 ∧ (∀ a o, Fz1 a = some o → Fz2 a = some o) ∧ (∀ j s, j ∈ vs → st2[j]? = some s → s = .un) ∧ H7 C = some (.lst accV) ∧ Fz2 C = none ∧ RepL K mg Fz2 accD accV ∧ ¬ Ows st2 (L2.wipe σ vs) C ∧
              Out mg E (Ows st σ) H ((lcL tg (fun st => (ft st).noErr) (fun st => (fe st).noErr) vs (items.drop (i + 1)) accD st2).bind fun y => .ok (Vl.o y.1, unwipe st1 y.2 vs)) fun v => ∀ x Fz' H', EEnd K mg ad (Ows st σ) Fz H v.1 v.2 σ x Fz' H' → Q x H' := fun {st7 Fz7 H7 aD aV} r7 f7 c7 z7 a7 n7 o7 => by
          obtain ⟨r8, o8⟩ := r7.wipe (vs := vs)
          rw [ew] at r8 o8
          exact ⟨wipeD st7 vs, Fz7, aD, aV, r8, (fr'.trans f7).less o8, fun a o z => f7.fmon _ _ (fm' _ _ z), fun j s hj z => wipeD_in hj z, c7, z7, a7, fun z => n7 (o8 _ z), o7⟩
        have keepC : ∀ {st7 : Ds} {Fz7 H7 : Hp}, Fr (Ows st' (L2.wipe σ vs)) Fz' H' (Ows st7 σ4) Fz7 H7 → H7 C = some (.lst accV) ∧ Fz7 C = none ∧ ¬ Ows st7 σ4 C := fun {st7 Fz7 H7} f7 => by
          refine ⟨f7.keep _ _ hC' nC' nt_lst, ?_, fun z => ?_⟩
          · cases q : Fz7 C with
            | none => rfl
            | some o =>
              rcases f7.fnew _ _ q with ⟨u, z⟩ | z | z
              · rw [fC'] at z; cases z
              · exact (nC' z).elim
              · rw [hC'] at z; cases z
          · rcases f7.onew _ z with z | z
            · exact nC' z
            · rw [hC'] at z; cases z
        split at hf
        · -- the test holds
          refine ⟨true, rfl, fun Fz5 H5 rs5 fr5 => ?_⟩
          refine iteT ?_
          have f5 := fr4.trans fr5
          refine ⟨st5, Fz5, rs5, ?_⟩
          cases ee : fe st5 with
          | stuck => rw [ee] at hf; exact hf.elim
          | err c l => rw [ee] at hf; exact hf.elim
          | ok yv =>
            obtain ⟨v, st6⟩ := yv
            rw [ee, R.noErr_ok, R.bind_ok] at hf
            intro yx Fz6 H6 e6
            dsimp only at hf e6
            split at hf
            · rename_i z st7 e7
              split at hf
              · rename_i hz
                have f6 := f5.trans e6.fr
                obtain ⟨c6, z6, n6⟩ := keepC f6
                obtain ⟨Fz7, r7, f7, rep7, fm7, ow7, fn7⟩ := fzV_ok e6.rs f6 e6.val (fun a za => (e6.new a za).elim (fun z => f5.onew a z) fun z => .inr (f5.dom a z)) e7
                have nvC : ¬ VAd v yx C := fun za => by
                  rcases e6.new C za with z | z
                  · obtain ⟨us, u1, u2⟩ := rs5.ows z
                    exact (keepC f5).2.2 z
                  · rw [(keepC f5).1] at z; cases z
                have z7 : Fz7 C = none := by
                  cases q : Fz7 C with
                  | none => rfl
                  | some o =>
                    rcases fn7 _ _ q with ⟨u, k⟩ | k | k
                    · rw [z6] at k; cases k
                    · exact (nvC k).elim
                    · exact (n6 k).elim
                have n7 : ¬ Ows st7 σ4 C := fun k => n6 (ow7 _ k)
                have accs : RepL K mg Fz7 (accD ++ [z]) (accV ++ [yx]) := by
                  refine RepL.append (hr'.mono fun a o k => fm7 _ _ (f6.fmon _ _ k)) (repL_cons rep7 repL_nil)
                have lenV : accV.length < sizeLine := by
                  rw [← hr'.len]
                  exact Nat.lt_of_lt_of_le hz (by decide)
                have subC : ∀ q o, Fz7 q = some o → q ≠ C := fun q o k e => by rw [e, z7] at k; cases k
                -- the list at C grows
                have r8 : RS K mg ad Fz7 (upd H6 C (.lst (accV ++ [yx]))) st7 σ4 := by
                  refine ⟨r7.len, fun q o k => by rw [upd_ne (subC q o k)]; exact r7.sub q o k, fun j s k => ?_, r7.inj, tbs_write c6 r7.tab.1, r7.tab.2⟩
                  have kk := r7.slot j s k
                  cases s with
                  | un => trivial
                  | p d => exact kk
                  | o ys =>
                    obtain ⟨b, us, k1, k2, k3, k4⟩ := kk
                    have nb : b ≠ C := fun e => n7 ⟨j, ⟨ys, .inl k⟩, by rw [← e]; exact join_some k1⟩
                    exact ⟨b, us, k1, by rw [upd_ne nb]; exact k2, k3, k4⟩
                  | s ys =>
                    obtain ⟨b, us, k1, k0, k2, k3, k4⟩ := kk
                    have nb : b ≠ C := fun e => n7 ⟨j, ⟨ys, .inr k⟩, by rw [← e]; exact join_some k1⟩
                    exact ⟨b, us, k1, k0, by rw [upd_ne nb]; exact k2, k3, k4⟩
                refine ⟨accV, c6, lenV, ?_⟩
                -- from the comprehension's start, C is new
                obtain ⟨r9, o9⟩ := r8.wipe (vs := vs)
                rw [ew] at r9 o9
                refine ⟨wipeD st7 vs, Fz7, accD ++ [z], accV ++ [yx], r9, ?_, fun a o k => fm7 _ _ (f6.fmon _ _ (fm' _ _ k)), fun j s hj k => wipeD_in hj k, upd_same, z7, accs, fun k => n7 (o9 _ k), hf⟩
                have f9 := fr'.trans f7
                refine ⟨fun q o k n nt => ?_, fun q k => ?_, f9.fmon, f9.fnew, fun q k => f9.onew q (o9 q k), fun t => tbs_write c6 (f9.tab.1 t), f9.tab.2⟩
                · have nq : q ≠ C := ne_of_none k HC
                  rw [upd_ne nq]
                  exact f9.keep q o k n nt
                · by_cases eq : q = C
                  · rw [eq, upd_same] at k; cases k
                  · rw [upd_ne eq] at k
                    exact f9.dom q k
              · exact hf.elim
            · exact hf.elim
        · refine ⟨false, rfl, fun Fz5 H5 rs5 fr5 => ?_⟩
          refine iteF ?_
          have f5 := fr4.trans fr5
          obtain ⟨c5, z5, n5⟩ := keepC f5
          exact fin rs5 f5 c5 z5 (hr'.mono f5.fmon) n5 hf
        · exact hf.elim
    · exact hf.elim
  · have e : i = items.length := by omega
    subst e
    rw [List.drop_of_length_le (Nat.le_refl _)] at hf
    obtain ⟨r9, o9⟩ := RS.unwipe rs1 rs' hu' fm'
    refine .inl ⟨(sv Fz' H' fm' rs'.sub).1, hf (.ref C) Fz' H' ⟨r9, fr'.less o9, ⟨C, accV, rfl, hC', fC', hr', fun z => nC' (o9 _ z)⟩, fun a z => ?_⟩⟩
    have z : V.ref C = .ref a := z
    cases z
    exact .inr HC
theorem tT_yes {Q : Bool → Hp → Prop} (h : tT K mg ad E fYes σ H Q) : tYes σ H Q := by
  obtain ⟨st, Fz, rs, b, e, h⟩ := h
  cases e
  exact h Fz H rs Fr.refl
end
end DK

set_option Elab.async false
set_option linter.all false
set_option maxRecDepth 100000
namespace DK
open PySem PySem.Spec PyProof.Rows L2
variable [TabsC]
/-! ### operations by data -/
def intsD : List D → Option (List Int)
  | [] => some []
  | .int i :: r => match intsD r with
    | some is => some (i :: is)
    | none => none
  | _ => none
def blsD : List D → Option (List Bool)
  | [] => some []
  | .bl i :: r => match blsD r with
    | some is => some (i :: is)
    | none => none
  | _ => none
@[simp] theorem intsD_map : ∀ ns : List Int, intsD (ns.map D.int) = some ns
  | [] => rfl
  | n :: ns => by simp [intsD, intsD_map ns]
@[simp] theorem blsD_map : ∀ ns : List Bool, blsD (ns.map D.bl) = some ns
  | [] => rfl
  | n :: ns => by simp [blsD, blsD_map ns]
theorem intsD_some : ∀ {ds : List D} {ns : List Int}, intsD ds = some ns → ds = ns.map D.int
  | [], ns, h => by cases h; rfl
  | .int i :: r, ns, h => by
    unfold intsD at h
    split at h
    · rename_i is e
      cases h
      rw [intsD_some e]; rfl
    · cases h
  | .non :: _, _, h => nomatch h
  | .bl _ :: _, _, h => nomatch h
  | .str _ :: _, _, h => nomatch h
  | .tup _ :: _, _, h => nomatch h
  | .lst _ :: _, _, h => nomatch h
  | .scr _ :: _, _, h => nomatch h
  | .obj _ _ _ :: _, _, h => nomatch h
theorem blsD_some : ∀ {ds : List D} {ns : List Bool}, blsD ds = some ns → ds = ns.map D.bl
  | [], ns, h => by cases h; rfl
  | .bl i :: r, ns, h => by
    unfold blsD at h
    split at h
    · rename_i is e
      cases h
      rw [blsD_some e]; rfl
    · cases h
  | .non :: _, _, h => nomatch h
  | .int _ :: _, _, h => nomatch h
  | .str _ :: _, _, h => nomatch h
  | .tup _ :: _, _, h => nomatch h
  | .lst _ :: _, _, h => nomatch h
  | .scr _ :: _, _, h => nomatch h
  | .obj _ _ _ :: _, _, h => nomatch h
def gAdd : D → D → Option Vl
  | .int i, .int j => some (.p (.int (i + j)))
  | .tup xs, .tup ys => if xs.length + ys.length ≤ 100000 then some (.p (.tup (xs ++ ys))) else none
  | .lst xs, .lst ys => if xs.length + ys.length ≤ 100000 then some (.o (xs ++ ys)) else none
  | _, _ => none
def gSub : D → D → Option Vl
  | .int i, .int j => some (.p (.int (i - j)))
  | _, _ => none
def mulOk (i j : Int) : Bool := decide (i.natAbs < 18446744073709551616) || decide (j.natAbs < 18446744073709551616)
def repD (k : Int) (xs : List D) : List D := (List.replicate k.toNat xs).flatten
def gMul : D → D → Option Vl
  | .int i, .int j => if mulOk i j then some (.p (.int (i * j))) else none
  | .lst xs, .int k => if k ≤ 1000 && decide (-1000 ≤ k) && decide (xs.length ≤ 100) then some (.o (repD k xs)) else none
  | .tup [x], .int k => if k ≤ 1000 && decide (-1000 ≤ k) then some (.p (.tup (List.replicate k.toNat x))) else none
  | _, _ => none
def gFdiv : D → D → Option Vl
  | .int i, .int j => if 0 < j ∧ j.natAbs < 1073741824 then some (.p (.int (i / j))) else none
  | _, _ => none
def gMod : D → D → Option Vl
  | .int i, .int j => if 0 < j then some (.p (.int (i % j))) else none
  | _, _ => none
def gPow : D → D → Option Vl
  | .int i, .int j => if 0 ≤ j ∧ j ≤ 1000 ∧ -100000 < i ∧ i < 100000 then some (.p (.int (i ^ j.toNat))) else none
  | _, _ => none
def gLt : D → D → Option Vl
  | .int i, .int j => some (.p (.bl (decide (i < j))))
  | _, _ => none
def gLe : D → D → Option Vl
  | .int i, .int j => some (.p (.bl (decide (i ≤ j))))
  | _, _ => none
def gGt : D → D → Option Vl
  | .int i, .int j => some (.p (.bl (decide (j < i))))
  | _, _ => none
def gGe : D → D → Option Vl
  | .int i, .int j => some (.p (.bl (decide (j ≤ i))))
  | _, _ => none
def gNeg : D → Option Vl
  | .int i => some (.p (.int (-i)))
  | _ => none
/-! == of data -/
mutual
def deq : D → D → Bool
  | .non, .non => true
  | .bl a, .bl b => a == b
  | .bl a, .int j => (if a then 1 else 0) == j
  | .int i, .bl b => i == (if b then 1 else 0)
  | .int i, .int j => i == j
  | .str x, .str y => x == y
  | .lst xs, .lst ys => deqs xs ys
  | .tup xs, .tup ys => deqs xs ys
  | _, _ => false
def deqs : List D → List D → Bool
  | [], [] => true
  | x :: xs, y :: ys => deq x y && deqs xs ys
  | _, _ => false
end
mutual
def okD : Nat → D → Bool
  | _, .non => true
  | _, .bl _ => true
  | _, .int _ => true
  | _, .str x => x.cps.all (· < 0x110000)
  | n + 1, .lst xs => okDs n xs
  | n + 1, .tup xs => okDs n xs
  | _, _ => false
def okDs : Nat → List D → Bool
  | _, [] => true
  | n, x :: xs => okD n x && okDs n xs
end
mutual
def toP : D → PyData
  | .non => .none
  | .bl b => .bool b
  | .int i => .int i
  | .str x => .str x
  | .lst xs => .list (toPs xs)
  | .tup xs => .tuple (toPs xs)
  | .scr _ => .dict []
  | .obj _ _ _ => .dict []
def toPs : List D → List PyData
  | [] => []
  | x :: xs => toP x :: toPs xs
end
def gEq (a b : D) : Option Vl := if okD 12 a && okD 12 b then some (.p (.bl (deq a b))) else none
def gNe (a b : D) : Option Vl := if okD 12 a && okD 12 b then some (.p (.bl (!deq a b))) else none
/-- is, is not -/
def gIs : D → D → Option Vl
  | .non, .non => some (.p (.bl true))
  | _, .non => some (.p (.bl false))
  | .bl a, .bl b => some (.p (.bl (decide (a = b))))
  | _, _ => none
def gIsnt : D → D → Option Vl
  | .non, .non => some (.p (.bl false))
  | _, .non => some (.p (.bl true))
  | _, _ => none
def flatD : D → Bool
  | .non => true
  | .bl _ => true
  | .int _ => true
  | .str _ => true
  | _ => false
def inD (x : D) (xs : List D) : Bool := xs.any fun y => deq y x
def gIn (x : D) : D → Option Vl
  | .lst xs => if flatD x && xs.all flatD then some (.p (.bl (inD x xs))) else none
  | .tup xs => if flatD x && xs.all flatD then some (.p (.bl (inD x xs))) else none
  | _ => none
def gNotIn (x : D) : D → Option Vl
  | .lst xs => if flatD x && xs.all flatD then some (.p (.bl (!inD x xs))) else none
  | .tup xs => if flatD x && xs.all flatD then some (.p (.bl (!inD x xs))) else none
  | _ => none
def gIx : D → D → Option Vl
  | .lst xs, .int i => match atI xs i with
    | some d => some (.p d)
    | none => none
  | .tup xs, .int i => match atI xs i with
    | some d => some (.p d)
    | none => none
  | .scr xs, .int i => match atI xs i with
    | some n => some (.p (.int n))
    | none => none
  | _, _ => none
section
variable {K : PySem.W.Frag} {mg : Str → Option Value} {Fz H Fz' H' : Hp} {X : Cx}
theorem br_int {i : Int} {x : V} (h : BR K mg Fz H (.int i) x) : x = .int i := by
  have h : Rep K mg Fz (.int i) x := h
  rw [Rep] at h; exact h
theorem br_bl {i : Bool} {x : V} (h : BR K mg Fz H (.bl i) x) : x = .bl i := by
  have h : Rep K mg Fz (.bl i) x := h
  rw [Rep] at h; exact h
theorem br_str {i : Str} {x : V} (h : BR K mg Fz H (.str i) x) : x = .str i := by
  have h : Rep K mg Fz (.str i) x := h
  rw [Rep] at h; exact h
theorem br_non {x : V} (h : BR K mg Fz H .non x) : x = .non := by
  have h : Rep K mg Fz .non x := h
  rw [Rep] at h; exact h
theorem br_tup {ds : List D} {x : V} (h : BR K mg Fz H (.tup ds) x) : ∃ a vs, x = .ref a ∧ SqT K Fz a vs ∧ RepL K mg Fz ds vs := by
  have h : Rep K mg Fz (.tup ds) x := h
  rw [Rep] at h; exact h
theorem br_scr {ns : List Int} {x : V} (h : BR K mg Fz H (.scr ns) x) : ∃ a, x = .ref a ∧ SqL K Fz a (ns.map V.int) := by
  have h : Rep K mg Fz (.scr ns) x := h
  rw [Rep] at h; exact h
theorem repInt {i : Int} : Rep K mg Fz (.int i) (.int i) := by rw [Rep]
theorem oe_int {i : Int} (sub : ∀ a o, Fz a = some o → H a = some o) : OEnd K mg Fz H (.p (.int i)) (.int i) Fz H := OEnd.val_p sub repInt
theorem oe_bl {b : Bool} (sub : ∀ a o, Fz a = some o → H a = some o) : OEnd K mg Fz H (.p (.bl b)) (.bl b) Fz H := OEnd.val_p sub repBl
theorem sz5 {n : Nat} (h : n ≤ 100000) : n ≤ sizeLine := Nat.le_trans h (by decide)
/-! + -/
def rAddD (K : PySem.W.Frag) : R2 := fun x y H Q => rI0 (fun i j => .int (i + j)) x y H Q ∨ rCatA K x y H Q ∨ rCat x y H Q
theorem op_addD : OpR X (binaryOp .Add) (rAddD X.K) := OpR.or op_add (OpR.or op_catA op_cat)
theorem o2_add : Op2 K mg (rAddD K) gAdd := fun Fz H x y dx dy v sub hx hy e Q q => by
  unfold gAdd at e
  split at e
  · cases e
    obtain rfl := br_int hx
    obtain rfl := br_int hy
    exact .inl ⟨_, _, rfl, rfl, q _ Fz H (oe_int sub)⟩
  · rename_i xs ys
    split at e
    · rename_i hl
      cases e
      obtain ⟨a, vs, rfl, h1, h2⟩ := br_tup hx
      obtain ⟨b, us, rfl, h3, h4⟩ := br_tup hy
      refine .inr (.inl ⟨a, b, vs, us, rfl, rfl, sqT_mono sub h1, sqT_mono sub h3, ?_, fun e => ?_, fun e e2 => ?_, fun e e2 p hp => ?_⟩)
      · rw [← h2.len, ← h4.len]; exact sz5 hl
      · subst e
        have : xs = [] := List.eq_nil_of_length_eq_zero (by rw [h2.len]; rfl)
        subst this
        exact q _ Fz H (OEnd.val_p sub (by rw [Rep]; exact ⟨b, us, rfl, h3, h4⟩))
      · subst e2
        have : ys = [] := List.eq_nil_of_length_eq_zero (by rw [h4.len]; rfl)
        subst this
        exact q _ Fz H (OEnd.val_p sub (by rw [Rep, List.append_nil]; exact ⟨a, vs, rfl, h1, h2⟩))
      · exact q _ _ _ (OEnd.new_tup sub hp (h2.append h4))
    · cases e
  · rename_i xs ys
    split at e
    · rename_i hl
      cases e
      obtain ⟨a, vs, rfl, h1, h2⟩ := hx
      obtain ⟨b, us, rfl, h3, h4⟩ := hy
      refine .inr (.inr ⟨a, b, vs, us, rfl, rfl, h1, h3, ?_, fun p hp => ?_⟩)
      · rw [← h2.len, ← h4.len]; exact sz5 hl
      · exact q _ _ _ (OEnd.new_lst sub hp (h2.append h4))
    · cases e
  · cases e
theorem o2_sub : Op2 K mg (rI0 fun i j => .int (i - j)) gSub := fun Fz H x y dx dy v sub hx hy e Q q => by
  unfold gSub at e
  split at e
  · cases e
    obtain rfl := br_int hx
    obtain rfl := br_int hy
    exact ⟨_, _, rfl, rfl, q _ Fz H (oe_int sub)⟩
  · cases e
theorem o2_fdiv : Op2 K mg (rI CDiv fun i j => .int (i / j)) gFdiv := fun Fz H x y dx dy v sub hx hy e Q q => by
  unfold gFdiv at e
  split at e
  · split at e
    · rename_i h
      cases e
      obtain rfl := br_int hx
      obtain rfl := br_int hy
      exact ⟨_, _, rfl, rfl, ⟨h.1, by have := h.2; omega⟩, q _ Fz H (oe_int sub)⟩
    · cases e
  · cases e
theorem o2_mod : Op2 K mg (rI (fun _ j => 0 < j) fun i j => .int (i % j)) gMod := fun Fz H x y dx dy v sub hx hy e Q q => by
  unfold gMod at e
  split at e
  · split at e
    · rename_i h
      cases e
      obtain rfl := br_int hx
      obtain rfl := br_int hy
      exact ⟨_, _, rfl, rfl, h, q _ Fz H (oe_int sub)⟩
    · cases e
  · cases e
theorem o2_pow : Op2 K mg (rI CPow fun i j => .int (i ^ j.toNat)) gPow := fun Fz H x y dx dy v sub hx hy e Q q => by
  unfold gPow at e
  split at e
  · split at e
    · rename_i h
      cases e
      obtain rfl := br_int hx
      obtain rfl := br_int hy
      refine ⟨_, _, rfl, rfl, ⟨h.1, by omega, ?_⟩, q _ Fz H (oe_int sub)⟩
      have : (2 : Nat) ^ 64 = 18446744073709551616 := by decide
      rw [this]
      omega
    · cases e
  · cases e
theorem o2_lt : Op2 K mg (rI0 fun i j => .bl (decide (i < j))) gLt := fun Fz H x y dx dy v sub hx hy e Q q => by
  unfold gLt at e
  split at e
  · cases e
    obtain rfl := br_int hx
    obtain rfl := br_int hy
    exact ⟨_, _, rfl, rfl, q _ Fz H (oe_bl sub)⟩
  · cases e
theorem o2_le : Op2 K mg (rI0 fun i j => .bl (decide (i ≤ j))) gLe := fun Fz H x y dx dy v sub hx hy e Q q => by
  unfold gLe at e
  split at e
  · cases e
    obtain rfl := br_int hx
    obtain rfl := br_int hy
    exact ⟨_, _, rfl, rfl, q _ Fz H (oe_bl sub)⟩
  · cases e
theorem o2_gt : Op2 K mg (rI0 fun i j => .bl (decide (j < i))) gGt := fun Fz H x y dx dy v sub hx hy e Q q => by
  unfold gGt at e
  split at e
  · cases e
    obtain rfl := br_int hx
    obtain rfl := br_int hy
    exact ⟨_, _, rfl, rfl, q _ Fz H (oe_bl sub)⟩
  · cases e
theorem o2_ge : Op2 K mg (rI0 fun i j => .bl (decide (j ≤ i))) gGe := fun Fz H x y dx dy v sub hx hy e Q q => by
  unfold gGe at e
  split at e
  · cases e
    obtain rfl := br_int hx
    obtain rfl := br_int hy
    exact ⟨_, _, rfl, rfl, q _ Fz H (oe_bl sub)⟩
  · cases e
theorem o1_neg : Op1 K mg (rU fun i => .int (-i)) gNeg := fun Fz H x dx v sub hx e Q q => by
  unfold gNeg at e
  split at e
  · cases e
    obtain rfl := br_int hx
    exact ⟨_, rfl, q _ Fz H (oe_int sub)⟩
  · cases e
/-! == -/
mutual
theorem eqv_deq : ∀ (n : Nat) (a b : D), okD n a = true → PyData.eqv (toP a) (toP b) = deq a b
  | n, .non, b, h => by cases b <;> simp [toP, deq, PyData.eqv]
  | n, .bl _, b, h => by cases b <;> simp [toP, deq, PyData.eqv]
  | n, .int _, b, h => by cases b <;> simp [toP, deq, PyData.eqv]
  | n, .str _, b, h => by cases b <;> simp [toP, deq, PyData.eqv]
  | n + 1, .lst xs, b, h => by
    rw [okD] at h
    cases b <;> simp [toP, deq, PyData.eqv]
    exact eqvs_deqs n xs _ h
  | n + 1, .tup xs, b, h => by
    rw [okD] at h
    cases b <;> simp [toP, deq, PyData.eqv]
    exact eqvs_deqs n xs _ h
  | 0, .lst xs, b, h => by simp [okD] at h
  | 0, .tup xs, b, h => by simp [okD] at h
  | n, .scr _, b, h => by simp [okD] at h
  | n, .obj _ _ _, b, h => by simp [okD] at h
theorem eqvs_deqs : ∀ (n : Nat) (a b : List D), okDs n a = true → PyData.eqvAll (toPs a) (toPs b) = deqs a b
  | n, [], b, h => by cases b <;> simp [toPs, deqs, PyData.eqvAll]
  | n, x :: xs, b, h => by
    rw [okDs, Bool.and_eq_true] at h
    cases b with
    | nil => simp [toPs, deqs, PyData.eqvAll]
    | cons y ys => simp only [toPs, deqs, PyData.eqvAll]; rw [eqv_deq n x y h.1, eqvs_deqs n xs ys h.2]
end
mutual
theorem okD_lay : ∀ (n : Nat) (a : D), okD n a = true → (toP a).canLay0 = true ∧ (toP a).depth ≤ n + 1
  | n, .non, h => by simp [toP, PyData.canLay0, PyData.depth]
  | n, .bl _, h => by simp [toP, PyData.canLay0, PyData.depth]
  | n, .int _, h => by simp [toP, PyData.canLay0, PyData.depth]
  | n, .str x, h => by
    have h : (x.cps.all (· < 0x110000)) = true := by rw [okD] at h; exact h
    refine ⟨h, by simp [toP, PyData.depth]⟩
  | n + 1, .lst xs, h => by
    rw [okD] at h
    obtain ⟨h1, h2⟩ := okDs_lay n xs h
    refine ⟨by rw [toP, PyData.canLay0]; exact h1, ?_⟩
    rw [toP]
    simp only [PyData.depth]
    omega
  | n + 1, .tup xs, h => by
    rw [okD] at h
    obtain ⟨h1, h2⟩ := okDs_lay n xs h
    refine ⟨by rw [toP, PyData.canLay0]; exact h1, ?_⟩
    rw [toP]
    simp only [PyData.depth]
    omega
  | 0, .lst xs, h => by simp [okD] at h
  | 0, .tup xs, h => by simp [okD] at h
  | n, .scr _, h => by simp [okD] at h
  | n, .obj _ _ _, h => by simp [okD] at h
theorem okDs_lay : ∀ (n : Nat) (a : List D), okDs n a = true → PyData.canLayAll0 (toPs a) = true ∧ PyData.depthAll (toPs a) ≤ n + 1
  | n, [], h => by simp [toPs, PyData.canLayAll0, PyData.depthAll]
  | n, x :: xs, h => by
    rw [okDs, Bool.and_eq_true] at h
    obtain ⟨h1, h2⟩ := okD_lay n x h.1
    obtain ⟨h3, h4⟩ := okDs_lay n xs h.2
    refine ⟨by rw [toPs, PyData.canLayAll0, h1, h3]; rfl, ?_⟩
    rw [toPs]
    simp only [PyData.depthAll]
    omega
end
mutual
theorem dp_of (sub : ∀ a o, Fz a = some o → H a = some o) : ∀ (n : Nat) (d : D) (x : V), okD n d = true → Rep K mg Fz d x → Dp K H x (toP d)
  | n, .non, x, ok, h => by rw [Rep] at h; subst h; exact .non
  | n, .bl b, x, ok, h => by rw [Rep] at h; subst h; exact .bl b
  | n, .int b, x, ok, h => by rw [Rep] at h; subst h; exact .int b
  | n, .str b, x, ok, h => by rw [Rep] at h; subst h; exact .str b
  | n + 1, .lst ds, x, ok, h => by
    rw [okD] at ok
    rw [Rep] at h
    obtain ⟨a, vs, rfl, h1, h2⟩ := h
    exact .lst (.inl (.inl (sub _ _ h1))) (dps_of sub n ds vs ok h2)
  | n + 1, .tup ds, x, ok, h => by
    rw [okD] at ok
    rw [Rep] at h
    obtain ⟨a, vs, rfl, h1, h2⟩ := h
    exact .tup (sqT_mono sub h1) (dps_of sub n ds vs ok h2)
  | 0, .lst xs, x, h, _ => by simp [okD] at h
  | 0, .tup xs, x, h, _ => by simp [okD] at h
  | n, .scr _, x, h, _ => by simp [okD] at h
  | n, .obj _ _ _, x, h, _ => by simp [okD] at h
theorem dps_of (sub : ∀ a o, Fz a = some o → H a = some o) : ∀ (n : Nat) (d : List D) (x : List V), okDs n d = true → RepL K mg Fz d x → DpAll K H x (toPs d)
  | n, [], x, ok, h => by obtain rfl := h.nil_inv; exact .nil
  | n, d :: ds, x, ok, h => by
    rw [okDs, Bool.and_eq_true] at ok
    obtain ⟨v, vs, rfl, h1, h2⟩ := h.cons_inv
    exact .cons (dp_of sub n d v ok.1 h1) (dps_of sub n ds vs ok.2 h2)
end
theorem dp_br (sub : ∀ a o, Fz a = some o → H a = some o) {n : Nat} {d : D} {x : V} (ok : okD n d = true) (h : BR K mg Fz H d x) : Dp K H x (toP d) := by
  cases d with
  | lst ds =>
    obtain ⟨a, vs, rfl, h1, h2⟩ := h
    cases n with
    | zero => simp [okD] at ok
    | succ n =>
      rw [okD] at ok
      exact .lst (.inl (.inl h1)) (dps_of sub n ds vs ok h2)
  | _ => exact dp_of (mg := mg) sub n _ x ok h
theorem shaped_ok {d : D} (h : okD 12 d = true) : SeqAt.shaped (toP d) = true := by
  obtain ⟨h1, h2⟩ := okD_lay 12 d h
  unfold SeqAt.shaped
  rw [h1, Bool.true_and]
  exact decide_eq_true (by omega)
theorem o2_eq : Op2 K mg (rEqD K) gEq := fun Fz H x y dx dy v sub hx hy e Q q => by
  unfold gEq at e
  split at e
  · rename_i h
    rw [Bool.and_eq_true] at h
    cases e
    refine ⟨_, _, dp_br sub h.1 hx, dp_br sub h.2 hy, shaped_ok h.1, shaped_ok h.2, ?_⟩
    rw [eqv_deq 12 dx dy h.1]
    exact q _ Fz H (oe_bl sub)
  · cases e
theorem o2_ne : Op2 K mg (rNeD K) gNe := fun Fz H x y dx dy v sub hx hy e Q q => by
  unfold gNe at e
  split at e
  · rename_i h
    rw [Bool.and_eq_true] at h
    cases e
    refine ⟨_, _, dp_br sub h.1 hx, dp_br sub h.2 hy, shaped_ok h.1, shaped_ok h.2, ?_⟩
    rw [eqv_deq 12 dx dy h.1]
    exact q _ Fz H (oe_bl sub)
  · cases e
/-! is -/
theorem br_isnon {d : D} {x : V} (h : BR K mg Fz H d x) (n : d ≠ .non) : decide (x = V.non) = false := by
  refine decide_eq_false fun e => ?_
  subst e
  cases d with
  | non => exact n rfl
  | bl b => have := br_bl h; cases this
  | int b => have := br_int h; cases this
  | str b => have := br_str h; cases this
  | tup ds => obtain ⟨a, vs, e, _⟩ := br_tup h; cases e
  | lst ds => obtain ⟨a, vs, e, _⟩ := h; cases e
  | scr ds => obtain ⟨a, e, _⟩ := br_scr h; cases e
  | obj c ks ds =>
    have h : Rep K mg Fz (.obj c ks ds) .non := h
    rw [Rep] at h
    obtain ⟨a, vs, e, _⟩ := h; cases e
def rIsD : R2 := fun x y H Q => (y = .non ∧ Q (.bl (decide (x = .non))) H) ∨ rIsB x y H Q
theorem op_isD : OpR X (compareOp .Is) rIsD := OpR.or op_isN op_isBl
theorem o2_is : Op2 K mg rIsD gIs := fun Fz H x y dx dy v sub hx hy e Q q => by
  unfold gIs at e
  split at e
  · cases e
    obtain rfl := br_non hx
    obtain rfl := br_non hy
    exact .inl ⟨rfl, q _ Fz H (oe_bl sub)⟩
  · rename_i n
    cases e
    obtain rfl := br_non hy
    refine .inl ⟨rfl, ?_⟩
    rw [br_isnon hx (fun e => n e)]
    exact q _ Fz H (oe_bl sub)
  · cases e
    obtain rfl := br_bl hx
    obtain rfl := br_bl hy
    exact .inr ⟨_, _, rfl, rfl, q _ Fz H (oe_bl sub)⟩
  · cases e
theorem o2_isnt : Op2 K mg (fun x y H Q => y = .non ∧ Q (.bl (!decide (x = .non))) H) gIsnt := fun Fz H x y dx dy v sub hx hy e Q q => by
  unfold gIsnt at e
  split at e
  · cases e
    obtain rfl := br_non hx
    obtain rfl := br_non hy
    exact ⟨rfl, q _ Fz H (oe_bl sub)⟩
  · rename_i n
    cases e
    obtain rfl := br_non hy
    refine ⟨rfl, ?_⟩
    rw [br_isnon hx (fun e => n e)]
    exact q _ Fz H (oe_bl sub)
  · cases e
/-! in -/
theorem flat_br {d : D} {x : V} (f : flatD d = true) (h : BR K mg Fz H d x) : flatV x = true := by
  cases d with
  | non => rw [br_non h]; rfl
  | bl b => rw [br_bl h]; rfl
  | int b => rw [br_int h]; rfl
  | str b => rw [br_str h]; rfl
  | _ => cases f
theorem flat_rep {d : D} {x : V} (f : flatD d = true) (h : Rep K mg Fz d x) : BR K mg Fz H d x := by
  cases d with
  | lst => cases f
  | _ => exact h
theorem eqV_deq {d e : D} {x y : V} (f : flatD d = true) (g : flatD e = true) (h : BR K mg Fz H d x) (k : BR K mg Fz H e y) : eqV x y = deq d e := by
  cases d <;> first
    | (cases f; done)
    | (cases e <;> first
        | (cases g; done)
        | (first | obtain rfl := br_non h | obtain rfl := br_bl h | obtain rfl := br_int h | obtain rfl := br_str h
           first | obtain rfl := br_non k | obtain rfl := br_bl k | obtain rfl := br_int k | obtain rfl := br_str k
           simp [eqV, deq]))
theorem inV_inD {d : D} {x : V} (f : flatD d = true) (h : BR K mg Fz H d x) : ∀ {ds : List D} {vs : List V}, RepL K mg Fz ds vs → ds.all flatD = true → inV x vs = inD d ds ∧ vs.all flatV = true
  | [], vs, r, _ => by obtain rfl := r.nil_inv; exact ⟨rfl, rfl⟩
  | e :: ds, vs, r, fl => by
    obtain ⟨v, vs', rfl, h1, h2⟩ := r.cons_inv
    rw [List.all_cons, Bool.and_eq_true] at fl
    obtain ⟨i1, i2⟩ := inV_inD f h h2 fl.2
    have b1 : BR K mg Fz H e v := flat_rep fl.1 h1
    unfold inV inD at i1 ⊢
    rw [List.any_cons, List.any_cons, List.all_cons, i1, i2, eqV_deq fl.1 f b1 h, flat_br fl.1 b1]
    exact ⟨rfl, rfl⟩
theorem o2_in : Op2 K mg (rIn K false) gIn := fun Fz H x y dx dy v sub hx hy e Q q => by
  unfold gIn at e
  split at e
  · split at e
    · rename_i h
      rw [Bool.and_eq_true] at h
      cases e
      obtain ⟨a, vs, rfl, h1, h2⟩ := hy
      obtain ⟨i1, i2⟩ := inV_inD h.1 hx h2 h.2
      refine ⟨a, vs, rfl, .inl (.inl (.inl h1)), flat_br h.1 hx, i2, ?_⟩
      rw [i1]
      exact q _ Fz H (oe_bl sub)
    · cases e
  · split at e
    · rename_i h
      rw [Bool.and_eq_true] at h
      cases e
      obtain ⟨a, vs, rfl, h1, h2⟩ := br_tup hy
      obtain ⟨i1, i2⟩ := inV_inD h.1 hx h2 h.2
      refine ⟨a, vs, rfl, .inr (sqT_mono sub h1), flat_br h.1 hx, i2, ?_⟩
      rw [i1]
      exact q _ Fz H (oe_bl sub)
    · cases e
  · cases e
theorem o2_notin : Op2 K mg (rIn K true) gNotIn := fun Fz H x y dx dy v sub hx hy e Q q => by
  unfold gNotIn at e
  split at e
  · split at e
    · rename_i h
      rw [Bool.and_eq_true] at h
      cases e
      obtain ⟨a, vs, rfl, h1, h2⟩ := hy
      obtain ⟨i1, i2⟩ := inV_inD h.1 hx h2 h.2
      refine ⟨a, vs, rfl, .inl (.inl (.inl h1)), flat_br h.1 hx, i2, ?_⟩
      rw [i1]
      exact q _ Fz H (oe_bl sub)
    · cases e
  · split at e
    · rename_i h
      rw [Bool.and_eq_true] at h
      cases e
      obtain ⟨a, vs, rfl, h1, h2⟩ := br_tup hy
      obtain ⟨i1, i2⟩ := inV_inD h.1 hx h2 h.2
      refine ⟨a, vs, rfl, .inr (sqT_mono sub h1), flat_br h.1 hx, i2, ?_⟩
      rw [i1]
      exact q _ Fz H (oe_bl sub)
    · cases e
  · cases e
/-! items -/
theorem atI_rep {ds : List D} {vs : List V} {i : Int} {d : D} (r : RepL K mg Fz ds vs) (e : atI ds i = some d) : ∃ v, atI vs i = some v ∧ Rep K mg Fz d v := by
  unfold atI at e ⊢
  rw [← r.len]
  cases h : ixN ds.length i with
  | none => rw [h] at e; cases e
  | some j =>
    rw [h] at e
    exact r.get e
def rIxD (K : PySem.W.Frag) : R2 := fun x y H Q => rIxL K x y H Q ∨ rIxT K x y H Q
theorem ix_D : IxR X (rIxD X.K) := IxR.or ix_list ix_tup
theorem o2_ix : Op2 K mg (rIxD K) gIx := fun Fz H x y dx dy v sub hx hy e Q q => by
  unfold gIx at e
  split at e
  · split at e
    · rename_i h
      cases e
      obtain ⟨a, vs, rfl, h1, h2⟩ := hx
      obtain rfl := br_int hy
      obtain ⟨w, e1, e2⟩ := atI_rep h2 h
      exact .inl ⟨a, vs, _, w, rfl, rfl, .inl (.inl h1), e1, q _ Fz H (OEnd.val_p sub e2)⟩
    · cases e
  · split at e
    · rename_i h
      cases e
      obtain ⟨a, vs, rfl, h1, h2⟩ := br_tup hx
      obtain rfl := br_int hy
      obtain ⟨w, e1, e2⟩ := atI_rep h2 h
      exact .inr ⟨a, vs, _, w, rfl, rfl, sqT_mono sub h1, e1, q _ Fz H (OEnd.val_p sub e2)⟩
    · cases e
  · split at e
    · rename_i h
      cases e
      obtain ⟨a, rfl, h1⟩ := br_scr hx
      obtain rfl := br_int hy
      refine .inl ⟨a, _, _, .int _, rfl, rfl, sqL_mono sub h1, ?_, q _ Fz H (OEnd.val_p sub repInt)⟩
      unfold atI at h ⊢
      rw [List.length_map]
      revert h
      cases ixN _ _ with
      | none => intro h; cases h
      | some j =>
        intro h
        have h : (_ : List Int)[j]? = some _ := h
        show (List.map V.int _)[j]? = _
        rw [List.getElem?_map, h]
        rfl
    · cases e
  · cases e
end
end DK

set_option Elab.async false
set_option linter.all false
set_option maxRecDepth 100000
set_option maxHeartbeats 1000000
namespace DK
open PySem PySem.Spec PyProof.Rows L2
variable [TabsC]
/-! ### tuples of ints: sum, max, min, sorted -/
section
variable {prog : Program} {w : World} {A : Around} {E : Value → Shared → Prop} {s : Shared}
theorem collect_tup {t : Addr} {vs : List Value} {Q : List Value → Shared → Prop} (ht : IsTup s.heap t vs.toArray) (hz : vs.length ≤ sizeLine)
    (h : ∀ h' : Heap, (∀ b o, s.heap.get? b = some o → h'.get? b = some o) → s.heap.objs.size ≤ h'.objs.size → Q vs { s with heap := h' }) : wpAny (model prog w) A (collect (.ref t)) Q E s := by
  obtain ⟨o, ho, hc, n, hd⟩ := id ht
  have e0 : (s.heap.push (seqObj "list" #[] 0)).get? s.heap.objs.size = some (seqObj "list" #[] 0) := Heap.get?_push_size _ rfl
  have e1 : (s.heap.push (seqObj "list" #[] 0)).get? t = some o := Heap.get?_push_of_some _ ho
  unfold collect
  refine wpAny_bind (wpAny_runValue (codeAny_builtin entry_proto_collect' ?_))
  show wpAny _ _ (do again (.builtin "list.__iadd__" ⟨[← newList [], .ref t], []⟩)) _ _ _
  refine wpAny_bind (wpAny_newList ?_)
  refine wpAny_pure ⟨Code.quiet_builtin _ (by decide +kernel), ?_⟩
  refine codeAny_builtin entry_list_iadd' ?_
  show wpAny _ _ (Builtin.List.listExtendWith (.ref s.heap.objs.size) (.ref t) (.ref s.heap.objs.size)) _ _ _
  unfold Builtin.List.listExtendWith
  refine wpAny_bind (wpAny_typeOf (T := "tuple") (show Shared.TypeIs { s with heap := s.heap.push (seqObj "list" #[] 0) } (.ref t) "tuple" from ⟨o, e1, hc⟩) ?_)
  have e2 : (Value.type "tuple" == Value.type "tuple") = true := rfl
  rw [if_pos (by rw [e2]; simp)]
  refine wpAny_bind (listItems_at e1 hd ?_)
  refine wpAny_bind (listItems_at e0 rfl ?_)
  rw [if_neg (by simp)]
  have e3 : ((#[] : Array Value) ++ vs.toArray).size ≤ sizeLine + 1 := by
    rw [Array.size_append, List.size_toArray]
    show 0 + vs.length ≤ _
    omega
  refine wpAny_bind (listUpdate_at e0 rfl ?_ (Nat.zero_le _) e3)
  refine wpAny_pure ?_
  have e4 := get?_update_seq e0 (· ++ vs.toArray)
  show wpAny (model prog w) A (load s.heap.objs.size >>= fun o => match o.data with
      | .seq xs _ => pure xs.toList
      | _ => unsupported "internal:collect") Q E _
  refine wpAny_bind (wpAny_load e4 ?_)
  show wpAny _ _ (pure ((#[] : Array Value) ++ vs.toArray).toList) Q E _
  have e5 : ((#[] : Array Value) ++ vs.toArray).toList = vs := by simp
  rw [e5]
  refine wpAny_pure (h _ (fun b o' e => ?_) ?_)
  · rw [Heap.get?_update_ne _ _ _ _ (Nat.ne_of_lt (Heap.lt_size e))]
    exact Heap.get?_push_of_some _ e
  · rw [Heap.size_update, size_push']
    exact Nat.le_succ _
theorem sorted_tup {t : Addr} {vs : List Value} {ns : List Int} {Q : Value → Shared → Prop} (ht : IsTup s.heap t vs.toArray) (hz : vs.length ≤ sizeLine) (hi : IntsAre vs ns)
    (h : ∀ (h' : Heap) (a : Addr) (out : List Value) (n : Nat), s.heap.objs.size ≤ a → (∀ b o, s.heap.get? b = some o → h'.get? b = some o) → h'.get? a = some (seqObj "list" out.toArray n) → IntsAre out (out.map SrtO.iv) → (out.map SrtO.iv).Perm ns → (out.map SrtO.iv).Pairwise (· ≤ ·) → Q (.ref a) { s with heap := h' }) :
    wpAny (model prog w) A (call (.builtin "sorted") [.ref t]) Q E s := by
  refine Calls.call_function_entry kind_sorted plain_sorted entry_sorted (args_sorted1 _) ?_
  unfold Builtin.«sorted»
  refine wpAny_bind (m := checkCount "sorted" 1 1 _) (wpAny_pure ?_)
  refine wpAny_bind (collect_tup ht hz fun h1 k1 z1 => ?_)
  refine wpAny_bind (wpAny_newList ?_ hz)
  have e1 : (h1.push (seqObj "list" vs.toArray 0)).get? h1.objs.size = some (seqObj "list" vs.toArray 0) := Heap.get?_push_size _ rfl
  show wpAny _ _ _ _ _ { s with heap := h1.push (seqObj "list" vs.toArray 0) }
  refine wpAny_bind (wpAny_holding (wpAny_call_entry slot_list_sort ⟨_, e1, rfl⟩ entry_list_sort (SrtO.list_sort_ord SrtO.swo_int e1 hz (fun h2 => SrtO.ints_sortable hi h2) fun out hs hb => ⟨_, rfl, ?_⟩) (args_list_sort _)))
  obtain ⟨o1, o2, o3⟩ := SrtO.ints_out hi hs hb
  obtain ⟨n, e2⟩ := sortedHeap_at (vs := vs) (out := out.toArray) e1
  refine wpAny_pure ⟨_, rfl, h _ h1.objs.size out n z1 (fun b o e => ?_) e2 o1 o2 o3⟩
  have lt1 : b < h1.objs.size := Heap.lt_size (k1 b o e)
  rw [sortedHeap_old (Nat.ne_of_lt lt1) (by rw [size_push']; exact Nat.lt_succ_of_lt lt1)]
  exact Heap.get?_push_of_some _ (k1 b o e)
end
section
variable {X : Cx}
def rSortedT (K : PySem.W.Frag) : List V → Hp → VK → Prop := fun vs H Q => ∃ (a : Addr) (ns : List Int), vs = [V.ref a] ∧ SqT K H a (ns.map V.int) ∧
  ∀ (ns' : List Int) (p : Addr), ns'.Perm ns → ns'.Pairwise (· ≤ ·) → H p = none → Q (.ref p) (upd H p (.lst (ns'.map V.int)))
theorem cr_sortedTI : CallR X (.builtin "sorted") (rSortedT X.K) := by
  intro pins s σ H vs us Q I r h
  obtain ⟨a, ns, rfl, hs, q⟩ := h
  obtain ⟨its, rv, ht, hz⟩ := I.tuple hs
  rw [Vals.ref1 r]
  refine sorted_tup ht (by rw [← rv.length]; exact hz) rv.ints fun h' p out n hp k e o1 o2 o3 => ?_
  refine ⟨.ref p, upd H p (.lst ((out.map SrtO.iv).map V.int)), I.laid (t' := s.toks) k hp ⟨?_, out, n, vals_of_ints o1, e⟩, rfl, q _ _ o2 o3 (I.hok.fresh hp)⟩
  rw [List.length_map, o2.length_eq]
  rw [List.length_map] at hz
  exact hz
def rSumT (K : PySem.W.Frag) : List V → Hp → VK → Prop := fun vs H Q => ∃ (a : Addr) (ns : List Int), vs = [V.ref a] ∧ SqT K H a (ns.map V.int) ∧ Q (.int ns.sum) H
theorem cr_sumT (hc : X.calm = true) : CallR X (.builtin "sum") (rSumT X.K) := by
  intro pins s σ H vs us Q I r h
  obtain ⟨a, ns, rfl, hs, q⟩ := h
  obtain ⟨its, rv, ht, hz⟩ := I.tuple hs
  rw [Vals.ref1 r]
  obtain ⟨xs, e⟩ := rv.ints.allInts.items
  have hn : numsOf its.toArray.toList = ns := by rw [show its.toArray.toList = its from rfl, rv.ints.numsOf]
  rw [e] at ht hn
  rw [nums_intItems] at hn
  refine PySem.W.ktm_sumG (I.ok.hd hc) (show s.heap.IsTuple a (intItems xs) from ht) fun h' tk t' hk => ?_
  rw [preSum_eq, List.take_of_length_le (by simp), hn]
  exact ⟨.int _, H, I.kept hk, ⟨_, rfl⟩, q⟩
def rMaxT (K : PySem.W.Frag) : List V → Hp → VK → Prop := fun vs H Q => ∃ (a : Addr) (ns : List Int), vs = [V.ref a] ∧ SqT K H a (ns.map V.int) ∧ 0 < ns.length ∧ ∀ m, m ∈ ns → (∀ y, y ∈ ns → y ≤ m) → Q (.int m) H
def rMinT (K : PySem.W.Frag) : List V → Hp → VK → Prop := fun vs H Q => ∃ (a : Addr) (ns : List Int), vs = [V.ref a] ∧ SqT K H a (ns.map V.int) ∧ 0 < ns.length ∧ ∀ m, m ∈ ns → (∀ y, y ∈ ns → m ≤ y) → Q (.int m) H
theorem reads_ints {h : Heap} : ∀ {vs : List Value} {ns : List Int}, IntsAre vs ns → ∃ as, ReadsAll h vs (ns.map PyData.int) as
  | _, _, .nil => ⟨_, .nil⟩
  | _, _, .cons n t r => by
    obtain ⟨as, k⟩ := reads_ints r
    exact ⟨_, .cons (.int n t) k⟩
theorem maxD_ints : ∀ (ns : List Int) (x : Int), ∃ m, PySem.W.maxD (.int x) (ns.map PyData.int) = .int m ∧ m ∈ x :: ns ∧ ∀ y, y ∈ x :: ns → y ≤ m
  | [], x => ⟨x, rfl, by simp, fun y h => by simp at h; omega⟩
  | n :: ns, x => by
    have e : PySem.W.maxD (.int x) ((n :: ns).map PyData.int) = PySem.W.maxD (.int (if x < n then n else x)) (ns.map PyData.int) := by
      unfold PySem.W.maxD
      rw [List.map_cons, List.foldl_cons]
      congr 1
      by_cases h : x < n
      · rw [if_pos h, if_pos (by rw [PySem.W.dataLt_int]; simp [h])]
      · rw [if_neg h, if_neg (by rw [PySem.W.dataLt_int]; simp [h])]
    obtain ⟨m, h1, h2, h3⟩ := maxD_ints ns (if x < n then n else x)
    refine ⟨m, e.trans h1, ?_, fun y hy => ?_⟩
    · rcases List.mem_cons.mp h2 with h | h
      · rw [h]
        split <;> simp
      · simp [h]
    · have hm := h3 _ (List.mem_cons_self)
      rcases List.mem_cons.mp hy with rfl | hy
      · split at hm <;> omega
      · rcases List.mem_cons.mp hy with rfl | hy
        · split at hm <;> omega
        · exact h3 y (by simp [hy])
theorem minD_ints : ∀ (ns : List Int) (x : Int), ∃ m, PySem.W.minD (.int x) (ns.map PyData.int) = .int m ∧ m ∈ x :: ns ∧ ∀ y, y ∈ x :: ns → m ≤ y
  | [], x => ⟨x, rfl, by simp, fun y h => by simp at h; omega⟩
  | n :: ns, x => by
    have e : PySem.W.minD (.int x) ((n :: ns).map PyData.int) = PySem.W.minD (.int (if n < x then n else x)) (ns.map PyData.int) := by
      unfold PySem.W.minD
      rw [List.map_cons, List.foldl_cons]
      congr 1
      by_cases h : n < x
      · rw [if_pos h, if_pos (by rw [PySem.W.dataLt_int]; simp [h])]
      · rw [if_neg h, if_neg (by rw [PySem.W.dataLt_int]; simp [h])]
    obtain ⟨m, h1, h2, h3⟩ := minD_ints ns (if n < x then n else x)
    refine ⟨m, e.trans h1, ?_, fun y hy => ?_⟩
    · rcases List.mem_cons.mp h2 with h | h
      · rw [h]
        split <;> simp
      · simp [h]
    · have hm := h3 _ (List.mem_cons_self)
      rcases List.mem_cons.mp hy with rfl | hy
      · split at hm <;> omega
      · rcases List.mem_cons.mp hy with rfl | hy
        · split at hm <;> omega
        · exact h3 y (by simp [hy])
theorem alike_ints (ns : List Int) : PySem.W.AlikeAll (ns.map PyData.int) := by
  refine ⟨fun x hx y hy => ?_, fun x hx => ?_⟩
  · obtain ⟨i, _, rfl⟩ := List.mem_map.mp hx
    obtain ⟨j, _, rfl⟩ := List.mem_map.mp hy
    simp [PySem.W.alike]
  · obtain ⟨i, _, rfl⟩ := List.mem_map.mp hx
    exact fun z => nomatch z
theorem depth_ints : ∀ (ns : List Int), PyData.depthAll (ns.map PyData.int) ≤ 2
  | [] => by simp [PyData.depthAll]
  | n :: ns => by
    have := depth_ints ns
    rw [List.map_cons]
    simp only [PyData.depthAll, PyData.depth]
    omega
theorem cr_maxT (hc : X.calm = true) (hu : X.A.units + 64 < cLine) : CallR X (.builtin "max") (rMaxT X.K) := by
  intro pins s σ H vs us Q I r h
  obtain ⟨a, ns, rfl, hs, hne, q⟩ := h
  obtain ⟨its, rv, ht, hz⟩ := I.tuple hs
  rw [Vals.ref1 r]
  obtain ⟨as, hr⟩ := reads_ints (h := s.heap) rv.ints
  match ns, hne with
  | n :: ns, _ =>
    have hd := depth_ints (n :: ns)
    refine PySem.W.max_tuple_data (vs := its.toArray) (I.ok.hd hc) (show s.heap.IsTuple a its.toArray from ht) hr (alike_ints (n :: ns)) ?_ fun i v h' tk bs _ hv hk => ?_
    · rw [List.map_cons] at hd
      omega
    · obtain ⟨m, h1, h2, h3⟩ := maxD_ints ns n
      rw [h1] at hv
      cases hv
      exact ⟨.int m, H, I.kept hk, ⟨_, rfl⟩, q m h2 h3⟩
theorem cr_minT (hc : X.calm = true) (hu : X.A.units + 64 < cLine) : CallR X (.builtin "min") (rMinT X.K) := by
  intro pins s σ H vs us Q I r h
  obtain ⟨a, ns, rfl, hs, hne, q⟩ := h
  obtain ⟨its, rv, ht, hz⟩ := I.tuple hs
  rw [Vals.ref1 r]
  obtain ⟨as, hr⟩ := reads_ints (h := s.heap) rv.ints
  match ns, hne with
  | n :: ns, _ =>
    have hd := depth_ints (n :: ns)
    refine PySem.W.min_tuple_data (vs := its.toArray) (I.ok.hd hc) (show s.heap.IsTuple a its.toArray from ht) hr (alike_ints (n :: ns)) ?_ fun i v h' tk bs _ hv hk => ?_
    · rw [List.map_cons] at hd
      omega
    · obtain ⟨m, h1, h2, h3⟩ := minD_ints ns n
      rw [h1] at hv
      cases hv
      exact ⟨.int m, H, I.kept hk, ⟨_, rfl⟩, q m h2 h3⟩
end
/-! ### built-ins by data -/
def seqI : D → Option (List Int)
  | .lst ds => intsD ds
  | .tup ds => intsD ds
  | _ => none
def gSum : List D → Option Vl
  | [d] => match seqI d with
    | some ns => some (.p (.int ns.sum))
    | none => none
  | _ => none
def maxI : List Int → Int
  | [] => 0
  | [x] => x
  | x :: r => max x (maxI r)
def minI : List Int → Int
  | [] => 0
  | [x] => x
  | x :: r => min x (minI r)
theorem maxI_spec : ∀ {ns : List Int}, ns ≠ [] → maxI ns ∈ ns ∧ ∀ y, y ∈ ns → y ≤ maxI ns
  | [], h => (h rfl).elim
  | [x], _ => ⟨by simp [maxI], fun y h => by simp at h; simp [maxI, h]⟩
  | x :: y :: r, _ => by
    obtain ⟨h1, h2⟩ := maxI_spec (ns := y :: r) (by simp)
    have e : maxI (x :: y :: r) = max x (maxI (y :: r)) := rfl
    rw [e]
    refine ⟨?_, fun z hz => ?_⟩
    · by_cases h : x ≤ maxI (y :: r)
      · rw [Int.max_eq_right h]; exact List.mem_cons_of_mem _ h1
      · rw [Int.max_eq_left (by omega)]; exact List.mem_cons_self
    · rcases List.mem_cons.mp hz with rfl | hz
      · exact Int.le_max_left _ _
      · exact Int.le_trans (h2 z hz) (Int.le_max_right _ _)
theorem minI_spec : ∀ {ns : List Int}, ns ≠ [] → minI ns ∈ ns ∧ ∀ y, y ∈ ns → minI ns ≤ y
  | [], h => (h rfl).elim
  | [x], _ => ⟨by simp [minI], fun y h => by simp at h; simp [minI, h]⟩
  | x :: y :: r, _ => by
    obtain ⟨h1, h2⟩ := minI_spec (ns := y :: r) (by simp)
    have e : minI (x :: y :: r) = min x (minI (y :: r)) := rfl
    rw [e]
    refine ⟨?_, fun z hz => ?_⟩
    · by_cases h : x ≤ minI (y :: r)
      · rw [Int.min_eq_left h]; exact List.mem_cons_self
      · rw [Int.min_eq_right (by omega)]; exact List.mem_cons_of_mem _ h1
    · rcases List.mem_cons.mp hz with rfl | hz
      · exact Int.min_le_left _ _
      · exact Int.le_trans (Int.min_le_right _ _) (h2 z hz)
theorem maxI_eq {ns : List Int} {m : Int} (h1 : m ∈ ns) (h2 : ∀ y, y ∈ ns → y ≤ m) : maxI ns = m := by
  obtain ⟨a, b⟩ := maxI_spec (ns := ns) (fun e => by rw [e] at h1; cases h1)
  exact Int.le_antisymm (h2 _ a) (b _ h1)
theorem minI_eq {ns : List Int} {m : Int} (h1 : m ∈ ns) (h2 : ∀ y, y ∈ ns → m ≤ y) : minI ns = m := by
  obtain ⟨a, b⟩ := minI_spec (ns := ns) (fun e => by rw [e] at h1; cases h1)
  exact Int.le_antisymm (b _ h1) (h2 _ a)
def gMax : List D → Option Vl
  | [.int i, .int j] => some (.p (.int (if j > i then j else i)))
  | [d] => match seqI d with
    | some ns => if ns = [] then none else some (.p (.int (maxI ns)))
    | none => none
  | _ => none
def gMin : List D → Option Vl
  | [.int i, .int j] => some (.p (.int (if j < i then j else i)))
  | [d] => match seqI d with
    | some ns => if ns = [] then none else some (.p (.int (minI ns)))
    | none => none
  | _ => none
/-- the sorted list -/
def ins (x : Int) : List Int → List Int
  | [] => [x]
  | y :: r => if x ≤ y then x :: y :: r else y :: ins x r
def srt : List Int → List Int
  | [] => []
  | x :: r => ins x (srt r)
theorem ins_perm (x : Int) : ∀ l : List Int, (ins x l).Perm (x :: l)
  | [] => .refl _
  | y :: r => by
    unfold ins
    split
    · exact .refl _
    · exact ((ins_perm x r).cons y).trans (.swap x y r)
theorem srt_perm : ∀ l : List Int, (srt l).Perm l
  | [] => .refl _
  | x :: r => (ins_perm x (srt r)).trans ((srt_perm r).cons x)
theorem ins_sorted (x : Int) : ∀ {l : List Int}, l.Pairwise (· ≤ ·) → (ins x l).Pairwise (· ≤ ·)
  | [], _ => by simp [ins]
  | y :: r, h => by
    unfold ins
    have h' := List.pairwise_cons.mp h
    split
    · rename_i hxy
      refine List.pairwise_cons.mpr ⟨fun z hz => ?_, h⟩
      rcases List.mem_cons.mp hz with rfl | hz
      · exact hxy
      · exact Int.le_trans hxy (h'.1 z hz)
    · rename_i hxy
      refine List.pairwise_cons.mpr ⟨fun z hz => ?_, ins_sorted x h'.2⟩
      rcases List.mem_cons.mp ((ins_perm x r).mem_iff.mp hz) with rfl | hz
      · omega
      · exact h'.1 z hz
theorem srt_sorted : ∀ l : List Int, (srt l).Pairwise (· ≤ ·)
  | [] => .nil
  | x :: r => ins_sorted x (srt_sorted r)
theorem sorted_one : ∀ {l m : List Int}, l.Perm m → l.Pairwise (· ≤ ·) → m.Pairwise (· ≤ ·) → l = m
  | [], m, p, _, _ => (List.Perm.nil_eq p)
  | x :: l, [], p, _, _ => nomatch p.length_eq
  | x :: l, y :: m, p, h, k => by
    have h' := List.pairwise_cons.mp h
    have k' := List.pairwise_cons.mp k
    have e : x = y := by
      have h1 : y ∈ x :: l := p.mem_iff.mpr (by simp)
      have h2 : x ∈ y :: m := p.mem_iff.mp (by simp)
      rcases List.mem_cons.mp h1 with e | e
      · exact e.symm
      · rcases List.mem_cons.mp h2 with e2 | e2
        · exact e2
        · have a := h'.1 y e
          have b := k'.1 x e2
          omega
    subst e
    rw [sorted_one (List.Perm.cons_inv p) h'.2 k'.2]
def gSorted : List D → Option Vl
  | [d] => match seqI d with
    | some ns => some (.o ((srt ns).map D.int))
    | none => none
  | _ => none
def gLen : List D → Option Vl
  | [.lst ds] => some (.p (.int ds.length))
  | [.tup ds] => some (.p (.int ds.length))
  | [.scr ds] => some (.p (.int ds.length))
  | _ => none
def gAll : List D → Option Vl
  | [.lst ds] => match blsD ds with
    | some bs => some (.p (.bl (bs.all id)))
    | none => none
  | _ => none
def gAny : List D → Option Vl
  | [.lst ds] => match blsD ds with
    | some bs => some (.p (.bl (bs.any id)))
    | none => none
  | _ => none
def gAbs : List D → Option Vl
  | [.int i] => some (.p (.int (if i < 0 then -i else i)))
  | _ => none
def gTuple : List D → Option Vl
  | [.lst ds] => some (.p (.tup ds))
  | [.tup ds] => some (.p (.tup ds))
  | _ => none
def gList : List D → Option Vl
  | [.lst ds] => some (.o ds)
  | [.tup ds] => some (.o ds)
  | _ => none
def gInt : List D → Option Vl
  | [.int i] => some (.p (.int i))
  | [.bl b] => some (.p (.int (if b then 1 else 0)))
  | _ => none
section
variable {K : PySem.W.Frag} {mg : Str → Option Value} {Fz H Fz' H' : Hp} {X : Cx}
theorem seqI_ok {d : D} {ns : List Int} {x : V} (sub : ∀ a o, Fz a = some o → H a = some o) (e : seqI d = some ns) (h : BR K mg Fz H d x) : ∃ a, x = .ref a ∧ (SqL K H a (ns.map V.int) ∨ SqT K H a (ns.map V.int)) := by
  cases d with
  | lst ds =>
    obtain ⟨a, vs, rfl, h1, h2⟩ := h
    have := intsD_some e
    subst this
    rw [repL_ints h2] at h1
    exact ⟨a, rfl, .inl (.inl (.inl h1))⟩
  | tup ds =>
    obtain ⟨a, vs, rfl, h1, h2⟩ := br_tup h
    have := intsD_some e
    subst this
    rw [repL_ints h2] at h1
    exact ⟨a, rfl, .inr (sqT_mono sub h1)⟩
  | _ => cases e
theorem brs1 {d : D} {xs : List V} (h : BRs K mg Fz H [d] xs) : ∃ x, xs = [x] ∧ BR K mg Fz H d x := by
  obtain ⟨x, xs', rfl, h1, h2⟩ := h.cons_inv
  obtain rfl := h2.nil_inv
  exact ⟨x, rfl, h1⟩
theorem brs2 {d e : D} {xs : List V} (h : BRs K mg Fz H [d, e] xs) : ∃ x y, xs = [x, y] ∧ BR K mg Fz H d x ∧ BR K mg Fz H e y := by
  obtain ⟨x, xs', rfl, h1, h2⟩ := h.cons_inv
  obtain ⟨y, rfl, h3⟩ := brs1 h2
  exact ⟨x, y, rfl, h1, h3⟩
def rSumD (K : PySem.W.Frag) : List V → Hp → VK → Prop := fun xs H Q => rSum K xs H Q ∨ rSumT K xs H Q
theorem cr_sumD (hc : X.calm = true) : CallR X (.builtin "sum") (rSumD X.K) := CallR.or (cr_sum hc) (cr_sumT hc)
theorem on_sum : OpN K mg (rSumD K) gSum := fun Fz H xs ds v sub hx e Q q => by
  unfold gSum at e
  split at e
  · split at e
    · rename_i ns h
      cases e
      obtain ⟨x, rfl, h1⟩ := brs1 hx
      obtain ⟨a, rfl, h2 | h2⟩ := seqI_ok sub h h1
      · exact .inl ⟨a, ns, rfl, h2, q _ Fz H (oe_int sub)⟩
      · exact .inr ⟨a, ns, rfl, h2, q _ Fz H (oe_int sub)⟩
    · cases e
  · cases e
def rMax2D : List V → Hp → VK → Prop := fun xs H Q => ∃ i j, xs = [V.int i, V.int j] ∧ Q (.int (if j > i then j else i)) H
def rMin2D : List V → Hp → VK → Prop := fun xs H Q => ∃ i j, xs = [V.int i, V.int j] ∧ Q (.int (if j < i then j else i)) H
def rMaxD' (K : PySem.W.Frag) : List V → Hp → VK → Prop := fun xs H Q => rMax2D xs H Q ∨ rMax K xs H Q ∨ rMaxT K xs H Q
def rMinD' (K : PySem.W.Frag) : List V → Hp → VK → Prop := fun xs H Q => rMin2D xs H Q ∨ rMin K xs H Q ∨ rMinT K xs H Q
theorem cr_maxD' (hc : X.calm = true) (hu : X.A.units + 64 < cLine) : CallR X (.builtin "max") (rMaxD' X.K) := CallR.or (call_max2 hc) (CallR.or (cr_max hc) (cr_maxT hc hu))
theorem cr_minD' (hc : X.calm = true) (hu : X.A.units + 64 < cLine) : CallR X (.builtin "min") (rMinD' X.K) := CallR.or (call_min2 hc) (CallR.or (cr_min hc) (cr_minT hc hu))
theorem on_max : OpN K mg (rMaxD' K) gMax := fun Fz H xs ds v sub hx e Q q => by
  unfold gMax at e
  split at e
  · cases e
    obtain ⟨x, y, rfl, h1, h2⟩ := brs2 hx
    obtain rfl := br_int h1
    obtain rfl := br_int h2
    exact .inl ⟨_, _, rfl, q _ Fz H (oe_int sub)⟩
  · split at e
    · rename_i ns h
      split at e
      · cases e
      · rename_i hne
        cases e
        obtain ⟨x, rfl, h1⟩ := brs1 hx
        have hl : 0 < ns.length := List.length_pos_iff.mpr hne
        obtain ⟨a, rfl, h2 | h2⟩ := seqI_ok sub h h1
        · exact .inr (.inl ⟨a, ns, rfl, h2, hl, fun m k1 k2 => q _ Fz H (by rw [maxI_eq k1 k2]; exact oe_int sub)⟩)
        · exact .inr (.inr ⟨a, ns, rfl, h2, hl, fun m k1 k2 => q _ Fz H (by rw [maxI_eq k1 k2]; exact oe_int sub)⟩)
    · cases e
  · cases e
theorem on_min : OpN K mg (rMinD' K) gMin := fun Fz H xs ds v sub hx e Q q => by
  unfold gMin at e
  split at e
  · cases e
    obtain ⟨x, y, rfl, h1, h2⟩ := brs2 hx
    obtain rfl := br_int h1
    obtain rfl := br_int h2
    exact .inl ⟨_, _, rfl, q _ Fz H (oe_int sub)⟩
  · split at e
    · rename_i ns h
      split at e
      · cases e
      · rename_i hne
        cases e
        obtain ⟨x, rfl, h1⟩ := brs1 hx
        have hl : 0 < ns.length := List.length_pos_iff.mpr hne
        obtain ⟨a, rfl, h2 | h2⟩ := seqI_ok sub h h1
        · exact .inr (.inl ⟨a, ns, rfl, h2, hl, fun m k1 k2 => q _ Fz H (by rw [minI_eq k1 k2]; exact oe_int sub)⟩)
        · exact .inr (.inr ⟨a, ns, rfl, h2, hl, fun m k1 k2 => q _ Fz H (by rw [minI_eq k1 k2]; exact oe_int sub)⟩)
    · cases e
  · cases e
def rSortedD (K : PySem.W.Frag) : List V → Hp → VK → Prop := fun xs H Q => rSortedI K xs H Q ∨ rSortedT K xs H Q
theorem cr_sortedDD : CallR X (.builtin "sorted") (rSortedD X.K) := CallR.or cr_sortedI cr_sortedTI
theorem on_sorted : OpN K mg (rSortedD K) gSorted := fun Fz H xs ds v sub hx e Q q => by
  unfold gSorted at e
  split at e
  · split at e
    · rename_i ns h
      cases e
      obtain ⟨x, rfl, h1⟩ := brs1 hx
      obtain ⟨a, rfl, h2 | h2⟩ := seqI_ok sub h h1
      · refine .inl ⟨a, ns, rfl, h2, fun ns' p k1 k2 hp => ?_⟩
        have : ns' = srt ns := sorted_one (k1.trans (srt_perm ns).symm) k2 (srt_sorted ns)
        subst this
        exact q _ _ _ (OEnd.new_lst sub hp (repL_ofInts _))
      · refine .inr ⟨a, ns, rfl, h2, fun ns' p k1 k2 hp => ?_⟩
        have : ns' = srt ns := sorted_one (k1.trans (srt_perm ns).symm) k2 (srt_sorted ns)
        subst this
        exact q _ _ _ (OEnd.new_lst sub hp (repL_ofInts _))
    · cases e
  · cases e
theorem on_len : OpN K mg (fun xs H Q => ∃ p ys, xs = [.ref p] ∧ (SqL K H p ys ∨ SqT K H p ys) ∧ Q (.int ys.length) H) gLen := fun Fz H xs ds v sub hx e Q q => by
  unfold gLen at e
  split at e
  · cases e
    obtain ⟨x, rfl, h1⟩ := brs1 hx
    obtain ⟨a, vs, rfl, h2, h3⟩ := h1
    exact ⟨a, vs, rfl, .inl (.inl (.inl h2)), q _ Fz H (by rw [← h3.len]; exact oe_int sub)⟩
  · cases e
    obtain ⟨x, rfl, h1⟩ := brs1 hx
    obtain ⟨a, vs, rfl, h2, h3⟩ := br_tup h1
    exact ⟨a, vs, rfl, .inr (sqT_mono sub h2), q _ Fz H (by rw [← h3.len]; exact oe_int sub)⟩
  · cases e
    obtain ⟨x, rfl, h1⟩ := brs1 hx
    obtain ⟨a, rfl, h2⟩ := br_scr h1
    exact ⟨a, _, rfl, .inl (sqL_mono sub h2), q _ Fz H (by rw [List.length_map]; exact oe_int sub)⟩
  · cases e
theorem on_all : OpN K mg (rAll K) gAll := fun Fz H xs ds v sub hx e Q q => by
  unfold gAll at e
  split at e
  · split at e
    · rename_i bs h
      cases e
      obtain ⟨x, rfl, a, vs, rfl, h2, h3⟩ := brs1 hx
      have := blsD_some h
      subst this
      rw [repL_bls h3] at h2
      exact ⟨a, bs, rfl, .inl (.inl h2), q _ Fz H (oe_bl sub)⟩
    · cases e
  · cases e
theorem on_any : OpN K mg (rAny K) gAny := fun Fz H xs ds v sub hx e Q q => by
  unfold gAny at e
  split at e
  · split at e
    · rename_i bs h
      cases e
      obtain ⟨x, rfl, a, vs, rfl, h2, h3⟩ := brs1 hx
      have := blsD_some h
      subst this
      rw [repL_bls h3] at h2
      exact ⟨a, bs, rfl, .inl (.inl h2), q _ Fz H (oe_bl sub)⟩
    · cases e
  · cases e
theorem on_abs : OpN K mg (fun xs H Q => ∃ i, xs = [V.int i] ∧ Q (V.int (if i < 0 then -i else i)) H) gAbs := fun Fz H xs ds v sub hx e Q q => by
  unfold gAbs at e
  split at e
  · cases e
    obtain ⟨x, rfl, h1⟩ := brs1 hx
    obtain rfl := br_int h1
    exact ⟨_, rfl, q _ Fz H (oe_int sub)⟩
  · cases e
theorem on_int : OpN K mg (fun xs H Q => (∃ i, xs = [V.int i] ∧ Q (V.int i) H) ∨ ∃ k, xs = [V.bl k] ∧ Q (V.int (if k = true then 1 else 0)) H) gInt := fun Fz H xs ds v sub hx e Q q => by
  unfold gInt at e
  split at e
  · cases e
    obtain ⟨x, rfl, h1⟩ := brs1 hx
    obtain rfl := br_int h1
    exact .inl ⟨_, rfl, q _ Fz H (oe_int sub)⟩
  · cases e
    obtain ⟨x, rfl, h1⟩ := brs1 hx
    obtain rfl := br_bl h1
    exact .inr ⟨_, rfl, q _ Fz H (oe_int sub)⟩
  · cases e
theorem on_tuple : OpN K mg (fun xs H Q => ∃ p ys, xs = [.ref p] ∧ ((SqL K H p ys ∧ ∀ l, H l = none → Q (.ref l) (upd H l (.tup ys))) ∨ (SqT K H p ys ∧ Q (.ref p) H))) gTuple := fun Fz H xs ds v sub hx e Q q => by
  unfold gTuple at e
  split at e
  · cases e
    obtain ⟨x, rfl, a, vs, rfl, h2, h3⟩ := brs1 hx
    exact ⟨a, vs, rfl, .inl ⟨.inl (.inl h2), fun l hl => q _ _ _ (OEnd.new_tup sub hl h3)⟩⟩
  · cases e
    obtain ⟨x, rfl, h1⟩ := brs1 hx
    obtain ⟨a, vs, rfl, h2, h3⟩ := br_tup h1
    exact ⟨a, vs, rfl, .inr ⟨sqT_mono sub h2, q _ Fz H (OEnd.val_p sub (by rw [Rep]; exact ⟨a, vs, rfl, h2, h3⟩))⟩⟩
  · cases e
theorem on_list : OpN K mg (fun xs H Q => ∃ p ys, xs = [.ref p] ∧ (SqL K H p ys ∨ SqT K H p ys) ∧ ∀ l, H l = none → Q (.ref l) (upd H l (.lst ys))) gList := fun Fz H xs ds v sub hx e Q q => by
  unfold gList at e
  split at e
  · cases e
    obtain ⟨x, rfl, a, vs, rfl, h2, h3⟩ := brs1 hx
    exact ⟨a, vs, rfl, .inl (.inl (.inl h2)), fun l hl => q _ _ _ (OEnd.new_lst sub hl h3)⟩
  · cases e
    obtain ⟨x, rfl, h1⟩ := brs1 hx
    obtain ⟨a, vs, rfl, h2, h3⟩ := br_tup h1
    exact ⟨a, vs, rfl, .inr (sqT_mono sub h2), fun l hl => q _ _ _ (OEnd.new_lst sub hl h3)⟩
  · cases e
end
end DK

set_option Elab.async false
set_option linter.all false
set_option maxRecDepth 100000
set_option maxHeartbeats 1000000
namespace DK
open PySem PySem.Spec PyProof.Rows L2
variable [TabsC]
/-! ### t[::-1] of a tuple -/
section
variable {prog : Program} {w : World} {A : Around} {E : Value → Shared → Prop} {s : Shared}
theorem rev_places (n : Nat) : Builtin.Slice.sliceAdjust none none (-1) (n : Int) = ((n : Int) - 1, -1) ∧ Builtin.Slice.slicePlaces ((n : Int) - 1) (-1) (-1) = n := by
  refine ⟨by simp [Builtin.Slice.sliceAdjust], ?_⟩
  unfold Builtin.Slice.slicePlaces
  rw [if_neg (by decide)]
  have e : (-(-1) : Int) = 1 := by decide
  rw [e]
  split <;> omega
theorem rev_pick (xs : Array Value) : ((List.range xs.size).filterMap fun (k : Nat) => xs[(((xs.size : Int) - 1) + (k : Int) * (-1)).toNat]?).toArray = xs.toList.reverse.toArray := by
  have h := PySem.W.krv_all xs
  have e : (List.range xs.size).filterMap (fun (k : Nat) => xs[(((xs.size : Int) - 1) + (k : Int) * (-1)).toNat]?) = ((List.range xs.size).map (fun k => xs.size - 1 - k)).filterMap (xs[·]?) := by
    rw [List.filterMap_map]
    congr 1
    funext k
    show _ = xs[xs.size - 1 - k]?
    by_cases hk : xs.size = 0
    · have : xs = #[] := Array.eq_empty_of_size_eq_zero hk
      subst this
      simp
    · congr 1
      omega
  rw [e, PySem.W.krv_range, List.filterMap_reverse, h]
theorem getItem_tuple_rev {t sl : Addr} {items : Array Value} {vl vu vs : Value} {Q : Value → Shared → Prop} (ht : IsTup s.heap t items) (hs : s.heap.IsSliceOf sl vl vu vs) (pl : IsPart vl none) (pu : IsPart vu none) (ps : IsPart vs (some (-1)))
    (h : Q (.ref s.heap.objs.size) { s with heap := s.heap.push { cls := .type "tuple", data := .seq items.toList.reverse.toArray } }) (hsz : items.size ≤ sizeLine) : wpAny (model prog w) A (getItem (.ref t) (.ref sl)) Q E s := by
  obtain ⟨os, hos, hcs, hds⟩ := id hs
  have hT : s.TypeIs (.ref sl) "slice" := ⟨os, hos, hcs⟩
  have hz : sizeOk (.seq items.toList.reverse.toArray) := by
    show (items.toList.reverse.toArray).size ≤ sizeLine
    rw [List.size_toArray, List.length_reverse, Array.length_toList]
    exact hsz
  unfold getItem
  try with_reducible refine wpAny_holding ?_
  first | refine wpAny_bind (wpAny_pure ?_) | skip
  refine wpAny_bind (wpAny_sequenceKey ht.typeIs (by decide) ?_)
  have slot := PyProof.Rows.slot_tuple_getitem
  refine wpAny_bind (wpAny_callSpecial?_slot (name := Str.ofString "__getitem__") ht.typeIs slot ?_)
  refine wpAny_call_entry slot ht.typeIs entry_tuple_getitem ?_ (args_tuple_getitem _ _)
  show wpAny _ _ (Builtin.Tuple.tupleItemsOf (.ref t) >>= _) _ _ s
  refine wpAny_bind (PyProof.Rows.tupleItemsOf_ ht ?_)
  refine wpAny_bind (wpAny_typeOf hT ?_)
  rw [if_pos (by decide)]
  refine wpAny_bind ?_
  unfold Builtin.Slice.sliceApplied Builtin.Slice.sliceFields
  refine wpAny_bind (wpAny_bind (wpAny_field hos hds (x := vl) rfl (wpAny_bind (wpAny_field hos hds (x := vu) rfl (wpAny_bind (wpAny_field hos hds (x := vs) rfl (wpAny_pure ?_)))))))
  refine wpAny_bind (HT.slicePart_ ps ?_)
  show wpAny _ _ (if ((-1 : Int) == 0) = true then _ else _) _ _ s
  rw [if_neg (by decide)]
  refine wpAny_bind (HT.slicePart_ pl (wpAny_bind (HT.slicePart_ pu (wpAny_bind (wpAny_pure ?_)))))
  obtain ⟨e1, e2⟩ := rev_places items.size
  show wpAny _ _ (match Builtin.Slice.sliceAdjust none none (-1) (items.size : Int) with | (lo, hi) => pure (lo, (-1 : Int), Builtin.Slice.slicePlaces lo hi (-1))) _ _ s
  rw [e1]
  show wpAny _ _ (pure ((items.size : Int) - 1, (-1 : Int), Builtin.Slice.slicePlaces ((items.size : Int) - 1) (-1) (-1))) _ _ s
  rw [e2]
  refine wpAny_pure ?_
  have hno : ¬ ((((items.size : Int) - 1) == 0 && (-1 : Int) == 1 && items.size == items.size) = true) := by
    simp
  show wpAny _ _ (if (((items.size : Int) - 1) == 0 && (-1 : Int) == 1 && items.size == items.size) = true then _ else _) _ _ s
  rw [if_neg hno, rev_pick]
  first
    | exact wpAny_bind (m := Builtin.Tuple.tupleExact _) (wpAny_newObj_type (wpAny_pure ⟨_, rfl, wpAny_pure h⟩) hz)
    | exact wpAny_bind (wpAny_bind (m := Builtin.Tuple.tupleExact _) (wpAny_newObj_type (wpAny_pure ⟨_, rfl, wpAny_pure h⟩) hz))
end
def tRevT (K : PySem.W.Frag) (te : TE) : TE := fun σ H Q => te σ H fun x H1 => ∃ a xs, x = .ref a ∧ SqT K H1 a xs ∧ ∀ p, H1 p = none → Q (.ref p) (upd H1 p (.tup xs.reverse))
theorem pe_revT {X : Cx} {e : Expr} {te : TE} {k : Nat} {p1 p2 p3 pos : Pos} (he : PE X e te) : PE X (.Subscript e (.Slice none none (some (.UnaryOp .USub (.Constant (.int 1) k p1) p2)) p3) pos) (tRevT X.K te) := by
  refine ⟨fun pins s σ H Q I h => ?_⟩
  refine Subscript_ (thn (he.run pins s σ H _ I h) fun v s1 ⟨x, H1, I1, r1, a, xs, ex, hx, q⟩ => ?_)
  subst ex
  cases r1
  have step : PO X (some (.UnaryOp .USub (.Constant (.int 1) k p1) p2)) (tPart (tUn (rU fun i => .int (-i)) (tC (.int 1)))) := po_some (pe_un un_neg pe_int)
  refine wpAny_Slice (thn (po_none.run pins s1 σ H1 (fun o H2 => o = none ∧ H2 = H1) I1 ⟨rfl, rfl⟩) fun vl s2 ⟨o2, H2, I2, pl, e2⟩ => ?_)
  obtain ⟨rfl, rfl⟩ := e2
  refine thn (po_none.run pins s2 σ H2 (fun o H3 => o = none ∧ H3 = H2) I2 ⟨rfl, rfl⟩) fun vu s3 ⟨o3, H3, I3, pu, e3⟩ => ?_
  obtain ⟨rfl, rfl⟩ := e3
  refine thn (step.run pins s3 σ H3 (fun o H4 => o = some (-1) ∧ H4 = H3) I3 ⟨1, rfl, -1, rfl, rfl, rfl⟩) fun vs s4 ⟨o4, H4, I4, ps, e4⟩ => ?_
  obtain ⟨rfl, rfl⟩ := e4
  have I5 := I4.kept (t' := s4.toks) (h' := s4.heap.push { cls := .type "slice", data := .fields #[vl, vu, vs] }) fun b ob q => Heap.get?_push_of_some _ q
  obtain ⟨its, r, ht, hz⟩ := I5.tuple hx
  have hlen := r.length
  show wpAny (model X.prog X.w) X.A (subscriptTail e (.Slice none none (some (.UnaryOp .USub (.Constant (.int 1) k p1) p2)) p3) (.ref a) (.ref s4.heap.objs.size)) _ _ { s4 with heap := s4.heap.push { cls := .type "slice", data := .fields #[vl, vu, vs] } }
  refine tail_any (ops := [.ref a, .ref s4.heap.objs.size]) ht.typeIs PyProof.Rows.slot_tuple_getitem.lookup ?_ (by with_unfolding_all rfl)
  refine getItem_tuple_rev ht (Heap.IsSliceOf.new _ vl vu vs) pl pu ps ?_ (by rw [List.size_toArray]; omega)
  refine ⟨.ref _, _, I5.laid (t' := s4.toks) (o := .tup xs.reverse) (fun b ob q => Heap.get?_push_of_some _ q) (Nat.le_refl _) ?_, rfl, q _ (I5.hok.fresh (Nat.le_refl _))⟩
  exact ⟨by rw [List.length_reverse]; exact hz, _, r.reverse, IsTup.new _ _⟩
/-! ### slices by data -/
def cutD (xs : List D) (lo hi : Option Int) : List D := (xs.drop (HT.sIx xs.length 0 lo)).take (HT.sIx xs.length xs.length hi - HT.sIx xs.length 0 lo)
abbrev FP := Ds → R (Option Int × Ds)
def fPN : FP := fun st => .ok (none, st)
def fPS (e : FE) : FP := fun st => (e st).bind fun x => match x.1 with
  | .p (.int i) => .ok (some i, x.2)
  | _ => .stuck
def fSlice (e : FE) (lo hi : FP) : FE := fun st => (e st).bind fun x => (lo x.2).bind fun l => (hi l.2).bind fun u => match bD x.1 u.2 with
  | some (.lst ds) => .ok (.o (cutD ds l.1 u.1), u.2)
  | some (.tup ds) => .ok (.p (.tup (cutD ds l.1 u.1)), u.2)
  | _ => .stuck
def gRev : D → Option Vl
  | .lst ds => some (.o ds.reverse)
  | .tup ds => some (.p (.tup ds.reverse))
  | _ => none
section
variable {K : PySem.W.Frag} {mg : Str → Option Value} {ad : Nat → Option Addr} {Fz H Fz' H' Fz1 H1 : Hp} {st st' st1 : Ds} {σ : L2.St} {P P1 : Addr → Prop} {E : XK} {X : Cx}
def tP (K : PySem.W.Frag) (mg : Str → Option Value) (ad : Nat → Option Addr) (E : XK) (f : FP) : L2.TO := fun σ H Q => ∃ st Fz, RS K mg ad Fz H st σ ∧ Out mg E (Ows st σ) H (f st) fun v => ∀ Fz' H', RS K mg ad Fz' H' v.2 σ → Fr (Ows st σ) Fz H (Ows v.2 σ) Fz' H' → Q v.1 H'
theorem tP_none {Q : Option Int → Hp → Prop} (h : tP K mg ad E fPN σ H Q) : tNoPart σ H Q := by
  obtain ⟨st, Fz, rs, h⟩ := h
  exact h Fz H rs Fr.refl
theorem tP_some {fe : FE} {Q : Option Int → Hp → Prop} (h : tP K mg ad E (fPS fe) σ H Q) : tPart (tE K mg ad E fe) σ H Q := by
  obtain ⟨st, Fz, rs, h⟩ := h
  refine ⟨st, Fz, rs, h.bind.imp fun ⟨v, st1⟩ h1 x Fz1 H1 e1 => ?_⟩
  dsimp only at h1
  split at h1
  · rename_i i
    exact ⟨i, VOk.int e1.val, h1 Fz1 H1 e1.rs e1.fr⟩
  · exact h1.elim
theorem cut_rep {ds : List D} {vs : List V} {lo hi : Option Int} (r : RepL K mg Fz ds vs) : RepL K mg Fz (cutD ds lo hi) (cutV vs lo hi) := by
  unfold cutD cutV
  rw [← r.len]
  exact (r.drop _).take _
theorem cut_whole {ds : List D} {lo hi : Option Int} (h : HT.sIx ds.length 0 lo = 0 ∧ HT.sIx ds.length ds.length hi = ds.length) : cutD ds lo hi = ds := by
  unfold cutD
  rw [h.1, h.2]
  simp
def rSlD (K : PySem.W.Frag) : V → Option Int → Option Int → Hp → VK → Prop := fun x lo hi H Q => rSlL K x lo hi H Q ∨ rSlA K x lo hi H Q
theorem sl_D : SlR X (rSlD X.K) := SlR.or sl_list sl_tupA
theorem tE_slice {fe : FE} {lo hi : FP} {Q : VK} (h : tE K mg ad E (fSlice fe lo hi) σ H Q) : tSl (rSlD K) (tE K mg ad E fe) (tP K mg ad E lo) (tP K mg ad E hi) σ H Q := by
  obtain ⟨st, Fz, rs, h⟩ := h
  refine ⟨st, Fz, rs, h.bind.imp fun ⟨v, st1⟩ h1 x Fz1 H1 e1 => ⟨st1, Fz1, e1.rs, Out.shift (Out.bind h1) e1.fr fun ⟨l, st2⟩ h2 Fz2 H2 rs2 fr2 => ?_⟩⟩
  have f2 := e1.fr.trans fr2
  refine ⟨st2, Fz2, rs2, Out.shift (Out.bind h2) f2 fun ⟨u, st3⟩ h3 Fz3 H3 rs3 fr3 => ?_⟩
  have f3 := f2.trans fr3
  have k : VOk K mg Fz3 H3 st3 σ v x := (e1.val.stay fr2).stay fr3
  dsimp only at h3 rs3 f3
  split at h3
  · rename_i ds e
    obtain ⟨a, vs, rfl, k1, k2⟩ := k.br rs3 e
    exact .inl ⟨a, vs, rfl, .inl (.inl k1), fun p hp => h3 _ _ _ ((OEnd.new_lst rs3.sub hp (cut_rep k2)).eend rs3 f3)⟩
  · rename_i ds e
    obtain ⟨a, vs, rfl, k1, k2⟩ := br_tup (k.br rs3 e)
    refine .inr ⟨a, vs, rfl, sqT_mono rs3.sub k1, fun hw => ?_, fun hw p hp => h3 _ _ _ ((OEnd.new_tup rs3.sub hp (cut_rep k2)).eend rs3 f3)⟩
    rw [← k2.len] at hw
    rw [cut_whole hw] at h3
    exact h3 _ _ _ ((OEnd.val_p rs3.sub (by rw [Rep]; exact ⟨a, vs, rfl, k1, k2⟩)).eend rs3 f3)
  · exact h3.elim
theorem tE_rev {fe : FE} {Q : VK} (h : tE K mg ad E (fOp1 gRev fe) σ H Q) : tRevL K (tE K mg ad E fe) σ H Q ∨ tRevT K (tE K mg ad E fe) σ H Q := by
  obtain ⟨st, Fz, rs, h⟩ := h
  cases e : fe st with
  | stuck => unfold fOp1 at h; rw [e] at h; exact h.elim
  | err c l => unfold fOp1 at h; rw [e] at h; exact .inl ⟨st, Fz, rs, by rw [e]; exact h⟩
  | ok v =>
    obtain ⟨v, st1⟩ := v
    unfold fOp1 at h
    rw [e, DK.R.bind_ok] at h
    unfold bD1 at h
    dsimp only at h
    split at h
    · rename_i d ed
      unfold gRev at h
      split at h
      · rename_i ds
        refine .inl ⟨st, Fz, rs, ?_⟩
        rw [e]
        intro x Fz1 H1 e1
        obtain ⟨a, vs, rfl, k1, k2⟩ := e1.val.br e1.rs ed
        exact ⟨a, vs, rfl, .inl (.inl k1), fun p hp => h _ _ _ ((OEnd.new_lst e1.rs.sub hp k2.reverse).eend e1.rs e1.fr)⟩
      · rename_i ds
        refine .inr ⟨st, Fz, rs, ?_⟩
        rw [e]
        intro x Fz1 H1 e1
        obtain ⟨a, vs, rfl, k1, k2⟩ := br_tup (e1.val.br e1.rs ed)
        exact ⟨a, vs, rfl, sqT_mono e1.rs.sub k1, fun p hp => h _ _ _ ((OEnd.new_tup e1.rs.sub hp k2.reverse).eend e1.rs e1.fr)⟩
      · exact h.elim
    · exact h.elim
end
section
variable {X : Cx} {E : XK} {a b c e : Expr} {es : List Expr} {fa fb fc fe : FE} {pos p p1 p2 p3 : Pos} {flo fhi : FP}
def DP (X : Cx) (E : XK) (e : Option Expr) (f : FP) : Prop := ∀ ad, PO X e (tP X.K X.mg ad E f)
theorem PO_conseq {e : Option Expr} {t t' : L2.TO} (h : PO X e t) (w : ∀ σ H Q, t' σ H Q → t σ H Q) : PO X e t' := ⟨fun pins s σ H Q I q => h.run pins s σ H Q I (w _ _ _ q)⟩
theorem dp_none : DP X E none fPN := fun ad => PO_conseq po_none fun σ H Q h => tP_none h
theorem dp_some (h : DE X E e fe) : DP X E (some e) (fPS fe) := fun ad => PO_conseq (po_some (h ad)) fun σ H Q h => tP_some h
theorem de_slice {lo hi : Option Expr} (he : DE X E e fe) (hl : DP X E lo flo) (hh : DP X E hi fhi) : DE X E (.Subscript e (.Slice lo hi none p2) pos) (fSlice fe flo fhi) := fun ad => PE_conseq (pe_slice sl_D (he ad) (hl ad) (hh ad)) fun σ H Q h => tE_slice h
theorem de_rev {k : Nat} (he : DE X E e fe) : DE X E (.Subscript e (.Slice none none (some (.UnaryOp .USub (.Constant (.int 1) k p1) p2)) p3) pos) (fOp1 gRev fe) := fun ad => ⟨fun pins s σ H Q I q => (tE_rev q).elim (fun q => (pe_revL (he ad)).run pins s σ H Q I q) fun q => (pe_revT (he ad)).run pins s σ H Q I q⟩
end
end DK

set_option Elab.async false
set_option linter.all false
set_option maxRecDepth 100000
set_option maxHeartbeats 4000000
namespace DK
open PySem PySem.Spec PyProof.Rows L2
variable [TabsC]
theorem tup_mul_one (l : Addr) (items : Array Value) (n : Nat) (dd : Option Addr) (sl : Array (Option Value)) (u : Tok) :
    Meets (Builtin.«tuple.__mul__» ⟨[.ref l, .int 1 u], []⟩) (fun _ R s => s.heap.get? l = some { cls := .type "tuple", dict := dd, data := .seq items n, slots := sl } ∧ R (.ok (.ret (Value.ref l))) s) :=
  .of_wp fun prog w A R s h => by
    obtain ⟨hp, g, d, tk, os⟩ := s
    obtain ⟨hl, h⟩ := h
    have f1 := AutoSeq1.idx_int
    have c1 : (items.isEmpty || (1 : Int) == 1) = true := by simp
    wp_walk using wpAny_loadPart' hl
    exact ⟨_, rfl, h⟩
theorem tup_mul_none (l : Addr) (items : Array Value) (n : Nat) (dd : Option Addr) (sl : Array (Option Value)) (u : Tok) (k : Int) (h0 : k ≤ 0) (h1 : -1000 ≤ k) (hi : items.isEmpty = false) :
    Meets (Builtin.«tuple.__mul__» ⟨[.ref l, .int k u], []⟩) (fun _ R s => s.heap.get? l = some { cls := .type "tuple", dict := dd, data := .seq items n, slots := sl } ∧
      R (.ok (.ret (Value.ref s.heap.objs.size))) { s with heap := s.heap.push { cls := Value.type "tuple", data := Data.seq #[] }, toks := s.toks }) :=
  .of_wp fun prog w A R s h => by
    obtain ⟨hp, g, d, tk, os⟩ := s
    obtain ⟨hl, h⟩ := h
    have f1 := AutoSeq1.idx_int
    have a1 : (decide (k < -2 ^ 63) || decide (k ≥ 2 ^ 63)) = false := by
      rw [decide_eq_false (by omega), decide_eq_false (by omega)] <;> rfl
    have a2 : (items.isEmpty || k == 1) = false := by
      rw [hi, Bool.false_or]
      exact beq_eq_false_iff_ne.mpr (by omega)
    have a3 : (decide (k ≤ 0) || items.isEmpty) = true := by rw [decide_eq_true h0, Bool.true_or]
    wp_walk using wpAny_loadPart' hl
    repeat (first
      | (refine wpAny_ite_false (decide_eq_false (by rw [a1]; exact Bool.false_ne_true)) ?_; wp_walk using wpAny_loadPart' hl)
      | (refine wpAny_ite_false (decide_eq_false (by rw [a2]; exact Bool.false_ne_true)) ?_; wp_walk using wpAny_loadPart' hl)
      | (refine wpAny_ite_true (decide_eq_true a3) ?_; wp_walk using wpAny_loadPart' hl))
    exact ⟨_, rfl, h⟩
section
variable {X : Cx}
def rRepTD (K : PySem.W.Frag) : R2 := fun x y H Q => ∃ l k xs, x = .ref l ∧ y = .int k ∧ SqT K H l xs ∧ xs ≠ [] ∧ -1000 ≤ k ∧ k ≤ 1000 ∧ xs.length ≤ 1000 ∧ (k = 1 → Q (.ref l) H) ∧ (k ≠ 1 → ∀ p, H p = none → Q (.ref p) (upd H p (.tup (List.replicate k.toNat xs).flatten)))
theorem op_repTD : OpR X (binaryOp .Mult) (rRepTD X.K) := by
  intro pins s σ H x y v u Q I rx ry h
  obtain ⟨l, k, xs, rfl, rfl, hT, hne, h1, h2, hz, q1, q2⟩ := h
  by_cases hk : 2 ≤ k
  · exact op_repT pins s σ H _ _ v u Q I rx ry ⟨l, k, xs, rfl, rfl, hT, hne, hk, h2, hz, q2 (by omega)⟩
  cases rx
  obtain ⟨t, rfl⟩ := ry
  obtain ⟨its, r, ⟨⟨cls, dd, data, sl⟩, ho, hc, n, hd⟩, hs⟩ := I.tuple hT
  simp only at hc hd
  subst hc hd
  have hle := r.length
  have hi : its.toArray.isEmpty = false := by
    cases its with
    | nil => exact (hne (List.eq_nil_of_length_eq_zero hle)).elim
    | cons a b => rfl
  have ty : s.TypeIs (.ref l) "tuple" := ⟨_, ho, rfl⟩
  refine wpAny_binaryOp_repeat_ref (T := "tuple") (U := "int") (by decide) ty (fun s' => typeIs_int s' k t) noFill_tuple_mul F.fills_int_mul F.slot_int_rmul repeat_tuple F.slot_int_index.lookup ?_
  refine call_meets F.slot_int_rmul (typeIs_int s k t) F.entry_int_rmul (F.args_int_rmul_2 _ _) (int_rmul_tuple k t l its.toArray n dd sl) ⟨ho, rfl, ty, ?_⟩
  by_cases he : k = 1
  · subst he
    exact call_meets F.slot_tuple_mul ty F.entry_tuple_mul (F.args_tuple_mul_2 _ _) (tup_mul_one l its.toArray n dd sl t) ⟨ho, .ref l, H, I, rfl, q1 rfl⟩
  · refine call_meets F.slot_tuple_mul ty F.entry_tuple_mul (F.args_tuple_mul_2 _ _) (tup_mul_none l its.toArray n dd sl t k (by omega) h1 hi) ⟨ho, ?_⟩
    have e0 : (List.replicate k.toNat xs).flatten = [] := by
      have : k.toNat = 0 := by omega
      rw [this]; rfl
    refine ⟨.ref s.heap.objs.size, _, I.laid (t' := s.toks) (o := .tup []) (fun b ob q => Heap.get?_push_of_some _ q) (Nat.le_refl _) ?_, rfl, ?_⟩
    · exact ⟨Nat.zero_le _, [], .nil, IsTup.new _ _⟩
    · have := q2 he s.heap.objs.size (I.hok.fresh (Nat.le_refl _))
      rw [e0] at this
      exact this
end
def gMulT (k : Int) (xs : List D) : Option Vl := if xs ≠ [] ∧ k.natAbs ≤ 1000 ∧ xs.length ≤ 1000 then some (.p (.tup (repD k xs))) else none
def gMulL (k : Int) (xs : List D) : Option Vl := if k.natAbs ≤ 1000 ∧ xs.length ≤ 100 then some (.o (repD k xs)) else none
def gMu : D → D → Option Vl
  | .int i, .int j => if mulOk i j then some (.p (.int (i * j))) else none
  | .lst xs, .int k => gMulL k xs
  | .tup xs, .int k => gMulT k xs
  | _, _ => none
@[simp] theorem repD_one (k : Int) (x : D) : repD k [x] = List.replicate k.toNat x := by
  unfold repD
  generalize k.toNat = n
  induction n with
  | zero => rfl
  | succ n ih => rw [List.replicate_succ, List.flatten_cons, ih]; rfl
section
variable {K : PySem.W.Frag} {mg : Str → Option Value} {Fz H Fz' H' : Hp} {X : Cx}
theorem RepL.flat {ds : List D} {vs : List V} (r : RepL K mg Fz ds vs) : ∀ n : Nat, RepL K mg Fz (List.replicate n ds).flatten (List.replicate n vs).flatten
  | 0 => repL_nil
  | n + 1 => by
    rw [List.replicate_succ, List.replicate_succ, List.flatten_cons, List.flatten_cons]
    exact r.append (RepL.flat r n)
def rMulD (K : PySem.W.Frag) : R2 := fun x y H Q => rI CMul (fun i j => .int (i * j)) x y H Q ∨ rRep x y H Q ∨ rRepTD K x y H Q
theorem op_mulD : OpR X (binaryOp .Mult) (rMulD X.K) := OpR.or op_mul (OpR.or op_rep op_repTD)
theorem flat_len {α : Type} (xs : List α) : ∀ n : Nat, (List.replicate n xs).flatten.length = n * xs.length
  | 0 => by simp
  | n + 1 => by rw [List.replicate_succ, List.flatten_cons, List.length_append, flat_len xs n, Nat.succ_mul]; omega
theorem o2_mul : Op2 K mg (rMulD K) gMu := fun Fz H x y dx dy v sub hx hy e Q q => by
  unfold gMu at e
  split at e
  · rename_i i j
    split at e
    · rename_i h
      cases e
      obtain rfl := br_int hx
      obtain rfl := br_int hy
      refine .inl ⟨_, _, rfl, rfl, ?_, q _ Fz H (oe_int sub)⟩
      unfold mulOk at h
      simp only [Bool.or_eq_true, decide_eq_true_eq] at h
      unfold CMul
      have : (2 : Int) ^ 64 = 18446744073709551616 := by decide
      rw [this]
      omega
    · cases e
  · rename_i xs k
    unfold gMulL at e
    split at e
    · rename_i h
      cases e
      obtain ⟨a, vs, rfl, h1, h2⟩ := hx
      obtain rfl := br_int hy
      refine .inr (.inl ⟨a, k, vs, rfl, rfl, h1, by omega, by omega, ?_, fun p hp => q _ _ _ (OEnd.new_lst sub hp (h2.flat k.toNat))⟩)
      rw [← h2.len]
      refine sz5 (Nat.le_trans (Nat.mul_le_mul h.2 (show k.toNat ≤ 1000 by omega)) (by decide))
    · cases e
  · rename_i xs k
    unfold gMulT at e
    split at e
    · rename_i h
      cases e
      obtain ⟨a, vs, rfl, h1, h2⟩ := br_tup hx
      obtain rfl := br_int hy
      refine .inr (.inr ⟨a, k, vs, rfl, rfl, sqT_mono sub h1, fun z => h.1 (List.eq_nil_of_length_eq_zero (by rw [h2.len, z]; rfl)), by omega, by omega, by rw [← h2.len]; exact h.2.2, fun hk => ?_, fun hk p hp => q _ _ _ (OEnd.new_tup sub hp (h2.flat k.toNat))⟩)
      subst hk
      refine q _ Fz H (OEnd.val_p sub ?_)
      have e1 : repD 1 xs = xs := by
        unfold repD
        show (List.replicate 1 xs).flatten = xs
        simp
      rw [e1, Rep]
      exact ⟨a, vs, rfl, h1, h2⟩
    · cases e
  · cases e
end
/-! ### xs.append(e), xs[j] = e, xs.remove(e) -/
def fAppS (i : Nat) (e : FE) : FS := fun st => match st[i]? with
  | some (.o _) => fApp i e st
  | _ => .stuck
def fSetS (i : Nat) (e j : FE) : FS := fun st => (e st).bind fun x => match fzV x.1 x.2 with
  | some (d, st1) => match st1[i]? with
    | some (.o _) => (j st1).bind fun y => match y.1, y.2[i]? with
      | .p (.int n), some (.o xs) => match ixN xs.length n with
        | some m => .ok (.nx (y.2.set i (.o (xs.set m d))))
        | none => .stuck
      | _, _ => .stuck
    | some (.s _) => (j st1).bind fun y => match y.1, y.2[i]? with
      | .p (.int n), some (.s xs) => match ixN xs.length n with
        | some m => .ok (.nx (y.2.set i (.s (xs.set m d))))
        | none => .stuck
      | _, _ => .stuck
    | _ => .stuck
  | none => .stuck
/-- the first k goes -/
def rem1 (k : Int) : List Int → Option (List Int)
  | [] => none
  | x :: r => if x = k then some r else match rem1 k r with
    | some q => some (x :: q)
    | none => none
def fRem (i : Nat) (e : FE) : FS := fun st => match st[i]? with
  | some (.o _) => (e st).bind fun x => match x.1, x.2[i]? with
    | .p (.int k), some (.o xs) => match intsD xs with
      | some ns => match rem1 k ns with
        | some r => .ok (.nx (x.2.set i (.o (r.map D.int))))
        | none => .stuck
      | none => .stuck
    | _, _ => .stuck
  | _ => .stuck
section
variable {K : PySem.W.Frag} {mg : Str → Option Value} {ad : Nat → Option Addr} {Fz H Fz' H' Fz1 H1 : Hp} {st st' st1 : Ds} {σ : L2.St} {P P1 : Addr → Prop} {E : XK} {D : Ends}
/-- slot i's list is written -/
theorem write_ok {i : Nat} {a : Addr} {ys : List DK.D} {s : Sl} {ws : List V} (rs : RS K mg ad Fz1 H1 st σ) (fr : Fr P Fz H (Ows st σ) Fz1 H1) (ow : Own st i) (hi : σ[i]? = some (some (.ref a))) (hs : s = .o ys ∨ (s = .s ys ∧ ad i = some a)) (fa : Fz1 a = none) (hr : RepL K mg Fz1 ys ws) :
    SEnd K mg ad P Fz H (st.set i s) σ Fz1 (upd H1 a (.lst ws)) := by
  have ne : ∀ q o, Fz1 q = some o → q ≠ a := fun q o z e => by rw [e, fa] at z; cases z
  have hl : ∃ vs, H1 a = some (.lst vs) := by
    obtain ⟨vs, z, _⟩ := rs.ows (a := a) ⟨i, ow, hi⟩
    exact ⟨vs, z⟩
  obtain ⟨vs, hl⟩ := hl
  obtain ⟨p1, p2, p3⟩ := rs.putO (Fz' := Fz1) (H' := upd H1 a (.lst ws)) ow hi hs (fun q o n z _ => by rw [upd_ne n]; exact z) (fun q z => by
    by_cases e : q = a
    · rw [e, upd_same] at z; cases z
    · rwa [upd_ne e] at z) ⟨fun t => tbs_write hl t, fun h => h⟩ (fun q o z => by rw [upd_ne (ne q o z)]; exact rs.sub q o z) (fun _ _ z => z) (fun _ o z => .inl ⟨o, z⟩) upd_same fa hr
  exact ⟨p1, fr.trans p3⟩
theorem tS_app {i : Nat} {fe : FE} (h : tS K mg ad E (fAppS i fe) D σ H) : tDrop (tBM K "list" rAppend (tVar i) (tCons (tE K mg ad E fe) tNil)) D σ H := by
  obtain ⟨st, Fz, rs, h⟩ := h
  unfold fAppS at h
  split at h
  · rename_i xs0 e0
    obtain ⟨a, ys, vs, k1, k2, k3, k4, k5⟩ := rs.own ⟨xs0, .inl e0⟩
    refine ⟨.ref a, k2, .inl ⟨rfl, vs, .inl (.inl k3)⟩, ⟨st, Fz, rs, h.bind.imp fun ⟨v, st1⟩ h1 x Fz1 H1 e1 => ?_⟩⟩
    dsimp only at h1
    split at h1
    · rename_i d st2 e2
      split at h1
      · rename_i xs e3
        split at h1
        · rename_i hz
          obtain ⟨Fz2, rs2, fr2, r2, fm2, ow2, fn2⟩ := fzV_ok e1.rs e1.fr e1.val e1.new e2
          obtain ⟨b, zs, us, m1, m2, m3, m4, m5⟩ := rs2.own ⟨xs, .inl e3⟩
          have : zs = xs := by
            rcases m1 with m1 | m1 <;> rw [e3] at m1 <;> cases m1 <;> rfl
          subst this
          rw [k2] at m2
          cases m2
          refine ⟨a, us, x, rfl, rfl, m3, ?_, ?_⟩
          · rw [← m5.len]; exact Nat.lt_of_lt_of_le hz (by decide)
          · exact h1 σ Fz2 _ (write_ok rs2 fr2 ⟨zs, .inl e3⟩ k2 (.inl rfl) m4 (m5.append (repL_cons r2 repL_nil)))
        · exact h1.elim
      · exact h1.elim
    · exact h1.elim
  · exact h.elim
theorem ixN_lt {n : Nat} {i : Int} {j : Nat} (h : ixN n i = some j) : j < n := (ixN_seq h).2.1
theorem tS_setIx {i : Nat} {fe fj : FE} (h : tS K mg ad E (fSetS i fe fj) D σ H) : tAsg (tE K mg ad E fe) (L2.gSub (tVar i) (tE K mg ad E fj) rSetL) D σ H := by
  obtain ⟨st, Fz, rs, h⟩ := h
  refine ⟨st, Fz, rs, h.bind.imp fun ⟨v, st1⟩ h1 x Fz1 H1 e1 => ?_⟩
  dsimp only at h1
  split at h1
  · rename_i d st2 e2
    obtain ⟨Fz2, rs2, fr2, r2, fm2, ow2, fn2⟩ := fzV_ok e1.rs e1.fr e1.val e1.new e2
    split at h1
    · rename_i xs0 e3
      obtain ⟨a, zs, us, m1, m2, m3, m4, m5⟩ := rs2.own ⟨xs0, .inl e3⟩
      refine ⟨.ref a, m2, ⟨st2, Fz2, rs2, Out.shift h1.bind fr2 fun ⟨vj, st3⟩ h3 y Fz3 H3 e4 => ?_⟩⟩
      dsimp only at h3
      split at h3
      · rename_i n xs e6
        split at h3
        · rename_i m em
          have f3 := fr2.trans e4.fr
          have r3 : Rep K mg Fz3 d x := r2.mono e4.fr.fmon
          obtain ⟨b, zs', us', n1, n2, n3, n4, n5⟩ := e4.rs.own ⟨xs, .inl e6⟩
          have : zs' = xs := by
            rcases n1 with n1 | n1 <;> rw [e6] at n1 <;> cases n1 <;> rfl
          subst this
          rw [m2] at n2
          cases n2
          have ey : y = .int n := VOk.int e4.val
          refine ⟨a, us', n, m, rfl, ey, n3, by rw [← n5.len]; exact em, h3 σ Fz3 _ (write_ok e4.rs f3 ⟨zs', .inl e6⟩ m2 (.inl rfl) n4 (n5.set m r3))⟩
        · exact h3.elim
      · exact h3.elim
    · rename_i xs0 e3
      obtain ⟨a, us, m2, ma, m3, m4, m5⟩ := rs2.slot i _ e3
      have m2 := join_some m2
      refine ⟨.ref a, m2, ⟨st2, Fz2, rs2, Out.shift h1.bind fr2 fun ⟨vj, st3⟩ h3 y Fz3 H3 e4 => ?_⟩⟩
      dsimp only at h3
      split at h3
      · rename_i n xs e6
        split at h3
        · rename_i m em
          have f3 := fr2.trans e4.fr
          have r3 : Rep K mg Fz3 d x := r2.mono e4.fr.fmon
          obtain ⟨b, zs', us', n1, n2, n3, n4, n5⟩ := e4.rs.own ⟨xs, .inr e6⟩
          have : zs' = xs := by
            rcases n1 with n1 | n1 <;> rw [e6] at n1 <;> cases n1 <;> rfl
          subst this
          rw [m2] at n2
          cases n2
          have ey : y = .int n := VOk.int e4.val
          refine ⟨a, us', n, m, rfl, ey, n3, by rw [← n5.len]; exact em, h3 σ Fz3 _ (write_ok e4.rs f3 ⟨zs', .inr e6⟩ m2 (.inr ⟨rfl, ma⟩) n4 (n5.set m r3))⟩
        · exact h3.elim
      · exact h3.elim
    · exact h1.elim
  · exact h1.elim
theorem rem1_ok : ∀ {ns r : List Int} {k : Int}, rem1 k ns = some r → ∃ j, ns[j]? = some k ∧ (∀ m, m < j → ns[m]? ≠ some k) ∧ ns.eraseIdx j = r
  | [], r, k, h => nomatch h
  | x :: ns, r, k, h => by
    unfold rem1 at h
    split at h
    · rename_i e
      cases h
      exact ⟨0, by rw [e]; rfl, fun m hm => by omega, rfl⟩
    · rename_i e
      split at h
      · rename_i q e2
        cases h
        obtain ⟨j, h1, h2, h3⟩ := rem1_ok e2
        refine ⟨j + 1, h1, fun m hm => ?_, by rw [← h3]; rfl⟩
        cases m with
        | zero => exact fun z => e (Option.some.inj z)
        | succ m => exact h2 m (by omega)
      · cases h
theorem tS_rem {i : Nat} {fe : FE} (h : tS K mg ad E (fRem i fe) D σ H) : tDrop (tBM K "list" rRemI (tVar i) (tCons (tE K mg ad E fe) tNil)) D σ H := by
  obtain ⟨st, Fz, rs, h⟩ := h
  unfold fRem at h
  split at h
  · rename_i xs0 e0
    obtain ⟨a, ys, vs, k1, k2, k3, k4, k5⟩ := rs.own ⟨xs0, .inl e0⟩
    refine ⟨.ref a, k2, .inl ⟨rfl, vs, .inl (.inl k3)⟩, ⟨st, Fz, rs, h.bind.imp fun ⟨v, st1⟩ h1 x Fz1 H1 e1 => ?_⟩⟩
    dsimp only at h1
    split at h1
    · rename_i k xs e3
      split at h1
      · rename_i ns en
        split at h1
        · rename_i r er
          obtain ⟨b, zs, us, m1, m2, m3, m4, m5⟩ := e1.rs.own ⟨xs, .inl e3⟩
          have : zs = xs := by
            rcases m1 with m1 | m1 <;> rw [e3] at m1 <;> cases m1 <;> rfl
          subst this
          rw [k2] at m2
          cases m2
          have ez := intsD_some en
          rw [ez] at m5
          have eu := repL_ints m5
          rw [eu] at m3
          obtain ⟨j, j1, j2, j3⟩ := rem1_ok er
          have ex : x = .int k := VOk.int e1.val
          refine ⟨a, ns, k, j, rfl, by rw [ex], m3, j1, j2, ?_⟩
          rw [j3]
          exact h1 σ Fz1 _ (write_ok e1.rs e1.fr ⟨zs, .inl e3⟩ k2 (.inl rfl) m4 (repL_ofInts r))
        · exact h1.elim
      · exact h1.elim
    · exact h1.elim
  · exact h.elim
end
section
variable {X : Cx} {E : XK} {a b c e j : Expr} {es : List Expr} {fa fb fc fe fj : FE} {pos p p1 p2 p3 : Pos} {x : Str}
theorem ds_app (i : Nat) (he : DE X E e fe) (hN : X.N[i]? = some x := by rfl) (hv : Vis X.env.scope x := by first | exact Or.inl rfl | exact Or.inr (Or.inl rfl) | exact Or.inr (Or.inr rfl)) (hd : (x == ("__debug__" : Str)) = false := by decide)
    (hcd : (x == ("__classdict__" : Str)) = false := by decide)
    (hbase : attributeBase (.Name x p1) "append" X.env (eval (.Name x p1) X.env) = eval (.Name x p1) X.env := by rfl)
    (hfew : ((backTo p3 (starEach (e :: []) X.env)).all (fun x => !x.1) && (backToKw p3 (keywordEach [] X.env)).all (fun x => x.1.isSome)
      && decide ((e :: []).length + ([] : List Keyword).length + (if ([] : List Keyword).isEmpty then 0 else 1) < 30)) = true := by rfl)
    (hline : (p2.endLine == p3.line) = true := by rfl) (hs : starEach (e :: []) X.env = (false, eval e X.env) :: starEach [] X.env := by rfl) (hplain : (backTo p3 (starEach [] X.env)).any (·.1) = false := by rfl)
    (hsw : swapsWith (.Call (.Attribute (.Name x p1) "append" p2) [e] [] p3) none pos.line X.env = pure false := by rfl) :
    DS X E (.Expr (.Call (.Attribute (.Name x p1) "append" p2) [e] [] p3) pos) (fAppS i fe) := fun ad =>
  PS_conseq (ps_expr (pe_bm PySem.F.plainAttrs_list PySem.F.slot_list_append PySem.F.type_list_append mt_append (pe_var hN hv hd hcd) (pa_cons (he ad) pa_nil hs) hbase hfew hline hs hplain) hsw) fun D σ H h => tS_app h
theorem ds_rem (i : Nat) (he : DE X E e fe) (hN : X.N[i]? = some x := by rfl) (hv : Vis X.env.scope x := by first | exact Or.inl rfl | exact Or.inr (Or.inl rfl) | exact Or.inr (Or.inr rfl)) (hd : (x == ("__debug__" : Str)) = false := by decide)
    (hcd : (x == ("__classdict__" : Str)) = false := by decide)
    (hbase : attributeBase (.Name x p1) "remove" X.env (eval (.Name x p1) X.env) = eval (.Name x p1) X.env := by rfl)
    (hfew : ((backTo p3 (starEach (e :: []) X.env)).all (fun x => !x.1) && (backToKw p3 (keywordEach [] X.env)).all (fun x => x.1.isSome)
      && decide ((e :: []).length + ([] : List Keyword).length + (if ([] : List Keyword).isEmpty then 0 else 1) < 30)) = true := by rfl)
    (hline : (p2.endLine == p3.line) = true := by rfl) (hs : starEach (e :: []) X.env = (false, eval e X.env) :: starEach [] X.env := by rfl) (hplain : (backTo p3 (starEach [] X.env)).any (·.1) = false := by rfl)
    (hsw : swapsWith (.Call (.Attribute (.Name x p1) "remove" p2) [e] [] p3) none pos.line X.env = pure false := by rfl) :
    DS X E (.Expr (.Call (.Attribute (.Name x p1) "remove" p2) [e] [] p3) pos) (fRem i fe) := fun ad =>
  PS_conseq (ps_expr (pe_bm PySem.F.plainAttrs_list PySem.F.slot_list_remove PySem.F.type_list_remove mt_remove (pe_var hN hv hd hcd) (pa_cons (he ad) pa_nil hs) hbase hfew hline hs hplain) hsw) fun D σ H h => tS_rem h
theorem ds_setIx (i : Nat) (he : DE X E e fe) (hj : DE X E j fj) (hN : X.N[i]? = some x := by rfl) (hv : Vis X.env.scope x := by first | exact Or.inl rfl | exact Or.inr (Or.inl rfl) | exact Or.inr (Or.inr rfl)) (hd : (x == ("__debug__" : Str)) = false := by decide)
    (hcd : (x == ("__classdict__" : Str)) = false := by decide)
    (ha : ∀ v, assign (.Subscript (.Name x p1) j p2) X.env v = (do
      let ov ← holding [v] (eval (.Name x p1) X.env)
      let iv ← holding [v, ov] (eval j X.env)
      standAt p2
      holding [v, ov, iv] (setItem ov iv v)
      release [v, ov, iv] []) := by intro _; rfl)
    (hs : swapsWithSole [.Subscript (.Name x p1) j p2] e pos.line X.env = pure false := by rfl) (hw : swappedStores [.Subscript (.Name x p1) j p2] e X.env = pure none := by rfl)
    (h1 : (assignEach [.Subscript (.Name x p1) j p2] X.env).map (·.2) = [assign (.Subscript (.Name x p1) j p2) X.env] := by rfl) :
    DS X E (.Assign [.Subscript (.Name x p1) j p2] e pos) (fSetS i fe fj) := fun ad =>
  PS_conseq (ps_asg (he ad) (pg_sub (pe_var hN hv hd hcd) (hj ad) set_list ha) hs hw h1) fun D σ H h => tS_setIx h
end
end DK

set_option Elab.async false
set_option linter.all false
set_option maxRecDepth 100000
set_option maxHeartbeats 1000000
/-! zip of a tuple with a list -/
namespace DK
open PySem PySem.Spec PyProof.Rows L2 RZ
variable [TabsC]
abbrev mx1 (h : Heap) (l1 : Addr) : Heap := h.push { cls := .type "tuple_iterator", data := .fields #[.ref l1, .int 0 0] }
abbrev mx2 (h : Heap) (l1 l2 : Addr) : Heap := (mx1 h l1).push { cls := .type "list_iterator", data := .fields #[.ref l2, .int 0 0] }
abbrev mx3 (h : Heap) (l1 l2 : Addr) : Heap := (mx2 h l1 l2).push { cls := .type "tuple", data := .seq #[.ref h.objs.size, .ref (mx1 h l1).objs.size] }
abbrev mx4 (h : Heap) (l1 l2 : Addr) : Heap := (mx3 h l1 l2).push { cls := .type "tuple", data := .seq #[.none, .none] }
abbrev mx5 (h : Heap) (l1 l2 : Addr) : Heap := (mx4 h l1 l2).push { cls := .type "zip", data := .fields #[.none, .bool false, .bool false, .ref (mx2 h l1 l2).objs.size, .ref (mx3 h l1 l2).objs.size] }
theorem meets_mx (l1 l2 : Addr) (xs ys : Array Value) :
    Meets (Builtin.«zip.__new__» ⟨[.type "zip", .ref l1, .ref l2], []⟩) (fun _ R s => s.heap.IsTuple l1 xs ∧ s.heap.IsList l2 ys ∧
      R (.ok (.ret (.ref (mx4 s.heap l1 l2).objs.size))) { s with heap := mx5 s.heap l1 l2 }) :=
  .of_wp fun prog w A R s h => by
    obtain ⟨hp, g, d, tk, os⟩ := s
    obtain ⟨u1, u2, u⟩ := h
    have hsub := sub_zip
    have p1 : Heap.IsTuple (Shared.heap ⟨hp, g, d, tk, os⟩) l1 xs := u1
    have p2 : Heap.IsList (Shared.heap ⟨hp.push { cls := .type "tuple_iterator", data := .fields #[.ref l1, .int 0 0] }, g, d, tk, os⟩) l2 ys := Heap.IsList.push u2 _
    wp_walk using wpAny_pyIter_tuple p1, wpAny_pyIter_list p2
    exact ⟨_, rfl, u⟩
section
variable {prog : Program} {w : World} {A : Around} {E : Value → Shared → Prop} {s : Shared}
theorem call_mx {l1 l2 : Addr} {xs ys : Array Value} {Q : Value → Shared → Prop} (u1 : s.heap.IsTuple l1 xs) (u2 : s.heap.IsList l2 ys)
    (h : ∀ h', IsZip h' (s.heap.objs.size + 4) (s.heap.objs.size + 2) (s.heap.objs.size + 3) .none → IsPair h' (s.heap.objs.size + 2) (.ref s.heap.objs.size) (.ref (s.heap.objs.size + 1)) →
      IsPair h' (s.heap.objs.size + 3) .none .none → h'.IsTupleIter s.heap.objs.size l1 0 → h'.IsListIter (s.heap.objs.size + 1) l2 0 →
      (∀ c o, s.heap.get? c = some o → h'.get? c = some o) → Q (.ref (s.heap.objs.size + 4)) { s with heap := h' }) :
    wpAny (model prog w) A (call (.type "zip") [.ref l1, .ref l2]) Q E s := by
  refine callType_new F.called_zip (by decide) (F.typeCall_zip_2 _ _) (F.newCall_zip_2 _ _) (fun obj => F.args_object_init_3 obj _ _) F.entry_zip_new
    (meets_mx l1 l2 xs ys) ⟨u1, u2, ?_⟩
  have n1 : (mx1 s.heap l1).objs.size = s.heap.objs.size + 1 := Heap.size_push ..
  have n2 : (mx2 s.heap l1 l2).objs.size = s.heap.objs.size + 2 := by rw [Heap.size_push, n1]
  have n3 : (mx3 s.heap l1 l2).objs.size = s.heap.objs.size + 3 := by rw [Heap.size_push, n2]
  have n4 : (mx4 s.heap l1 l2).objs.size = s.heap.objs.size + 4 := by rw [Heap.size_push, n3]
  have q5 : (mx5 s.heap l1 l2).get? (mx4 s.heap l1 l2).objs.size = some _ := Heap.get?_push_size _ rfl
  have q4 : (mx5 s.heap l1 l2).get? (mx3 s.heap l1 l2).objs.size = some _ := Heap.get?_push_of_some _ (Heap.get?_push_size _ rfl)
  have q3 : (mx5 s.heap l1 l2).get? (mx2 s.heap l1 l2).objs.size = some _ := Heap.get?_push_of_some _ (Heap.get?_push_of_some _ (Heap.get?_push_size _ rfl))
  have q2 : (mx5 s.heap l1 l2).get? (mx1 s.heap l1).objs.size = some _ := Heap.get?_push_of_some _ (Heap.get?_push_of_some _ (Heap.get?_push_of_some _ (Heap.get?_push_size _ rfl)))
  have q1 : (mx5 s.heap l1 l2).get? s.heap.objs.size = some _ := Heap.get?_push_of_some _ (Heap.get?_push_of_some _ (Heap.get?_push_of_some _ (Heap.get?_push_of_some _ (Heap.get?_push_size _ rfl))))
  show _ ∧ _
  rw [n2, n3, n4] at q5
  rw [n1, n2] at q3
  rw [n3] at q4
  rw [n1] at q2
  rw [n4]
  exact ⟨⟨_, q5, rfl⟩, h _ q5 q3 q4 ⟨_, q1, rfl, rfl⟩ ⟨_, q2, rfl, rfl⟩ fun c o x =>
    Heap.get?_push_of_some _ (Heap.get?_push_of_some _ (Heap.get?_push_of_some _ (Heap.get?_push_of_some _ (Heap.get?_push_of_some _ x))))⟩
end
def ItzM (K : PySem.W.Frag) (a b : Addr) : It :=
  ⟨fun i H => ∃ (xs ys : List V) (x y : V), SqT K H a xs ∧ SqL K H b ys ∧ xs[i]? = some x ∧ ys[i]? = some y,
    fun i H v H' => ∃ T x y, v = .ref T ∧ H T = none ∧ H' = upd H T (.tup [x, y]) ∧ (∀ xs, SqT K H a xs → xs[i]? = some x) ∧ ∀ ys, SqL K H b ys → ys[i]? = some y,
    fun i H => ∃ xs ys : List V, SqT K H a xs ∧ SqL K H b ys ∧ (xs.length = i ∨ ys.length = i) ∧ i ≤ xs.length ∧ i ≤ ys.length⟩
theorem sep_mx {z TI TO i1 i2 a b : Addr} (D : ZipApart z TI TO i1 i2 a b) : ZipSep2 z TI TO i1 i2 [i1, a] [i2, b] where
  TIz := D.TIz
  TOz := D.TOz
  TITO := D.TITO
  TIi1 := D.TIi1
  mem1 := by simp
  zf1 := by simp [D.i1z.symm, D.l1z.symm]
  Tf1 := by simp [D.TOi1, D.l1TO.symm]
  TIi2 := D.TIi2
  mem2 := by simp
  zf2 := by simp [D.i2z.symm, D.l2z.symm]
  Tf2 := by simp [D.TOi2, D.l2TO.symm]
  sep1_2 := by simp [D.i12, D.l2i1.symm]
  sep2_1 := by simp [D.i12.symm, D.l1i2.symm]
theorem in5 {α : Type} {a b c d e x : α} (h : x ∈ [a, b, c, d, e]) : x = a ∨ x = b ∨ x = c ∨ x = d ∨ x = e := by simpa using h
theorem turn_mx {P : Program} {w : World} {K : PySem.W.Frag} {elts : List Expr} {kk : Nat} {tpos : Pos} {a b z TI TO i1 i2 : Addr} (D : ZipApart z TI TO i1 i2 a b) :
    Turn P w K (.Tuple elts kk tpos) (ItzM K a b) [z, TI, TO, i1, i2] z (fun i h => IsZip h z TI TO .none ∧ IsPair h TI (.ref i1) (.ref i2) ∧ (∃ x y, IsPair h TO x y) ∧ h.IsTupleIter i1 a i ∧ h.IsListIter i2 b i) where
  mem := by simp
  obj := fun i h st c hc => by
    obtain ⟨t1, t2, ⟨x, y, t3⟩, ⟨o1, e1, _, d1⟩, ⟨o2, e2, _, d2⟩⟩ := st
    rcases in5 hc with q | q | q | q | q
    · rw [q]; exact ⟨_, t1, fun v q => nomatch q⟩
    · rw [q]; exact ⟨_, t2, fun v q => nomatch q⟩
    · rw [q]; exact ⟨_, t3, fun v q => nomatch q⟩
    · exact ⟨o1, by rw [q]; exact e1, fun v q => by rw [d1] at q; cases q⟩
    · exact ⟨o2, by rw [q]; exact e2, fun v q => by rw [d2] at q; cases q⟩
  keep := fun i h h' st k => by
    obtain ⟨t1, t2, ⟨x, y, t3⟩, h1, h2⟩ := st
    exact ⟨k z (by simp) _ t1, k TI (by simp) _ t2, ⟨x, y, k TO (by simp) _ t3⟩, h1.at fun o q => k i1 (by simp) o q, h2.at fun o q => k i2 (by simp) o q⟩
  item := by
    intro X hP hw hK hc i pins s σ H E I hf st hg
    subst hP hw hK
    obtain ⟨t1, t2, ⟨x0, y0, t3⟩, h1, h2⟩ := st
    obtain ⟨xs, ys, x, y, sx, sy, gx, gy⟩ := hg
    obtain ⟨its, rv, p, _⟩ := I.tuple sx
    obtain ⟨its2, rv2, p2, _⟩ := I.list sy
    obtain ⟨u, gu, ru⟩ := rv.get gx
    obtain ⟨u2, gu2, ru2⟩ := rv2.get gy
    have zl : z < s.heap.objs.size := Heap.lt_size t1
    have li : i < its.toArray.size := by
      rw [List.size_toArray]; exact (List.getElem?_eq_some_iff.mp gu).1
    have li2 : i < its2.toArray.size := by
      rw [List.size_toArray]; exact (List.getElem?_eq_some_iff.mp gu2).1
    refine wpAny_pyNext_zipD2_item (sep_mx D) (Draws.tuple (A := X.A.in1) (show X.A.in1.handled = none from I.ok.hd hc) i1 a D.l1i1 its.toArray) (Draws.list (A := X.A.in1) (show X.A.in1.handled = none from I.ok.hd hc) i2 b D.l2i2 its2.toArray) t1 t2 t3 ⟨h1, p⟩ ⟨h2, p2.isList⟩ li li2 fun x1 x2 h' tk g1 g2 z' TO' s1' s2' hT hsz hk => ?_
    have e1 : x1 = u := by
      have g1 : its.toArray[i]? = some x1 := g1
      rw [List.getElem?_toArray, gu] at g1; exact (Option.some.inj g1).symm
    have e2 : x2 = u2 := by
      have g2 : its2.toArray[i]? = some x2 := g2
      rw [List.getElem?_toArray, gu2] at g2; exact (Option.some.inj g2).symm
    subst e1 e2
    refine ⟨_, rfl, wpAny_letOwnedTupleGo_zip (s := { s with heap := h', toks := tk }) z' fun h'' z'' sb => ?_⟩
    have hT2 : h''.get? s.heap.objs.size = some { cls := .type "tuple", data := .seq #[x1, x2] } := (sb.2 _ (Nat.ne_of_gt zl)).trans hT
    have new : ObjOk X.prog X.w (upd H s.heap.objs.size (.tup [x, y])) h'' s.heap.objs.size (.tup [x, y]) :=
      ⟨by show 2 ≤ sizeLine; decide, [x1, x2], .cons ru (.cons ru2 .nil), ⟨_, hT2, rfl, _, rfl⟩⟩
    have I1 : Inv X pins σ (upd H s.heap.objs.size (.tup [x, y])) { s with heap := h'', toks := tk } :=
      I.turnedNew (t' := tk) (ch := [z, TI, TO, i1, i2]) (fun c o hb q => (sb.2 c (fun q' => hb (by simp [q']))).trans (hk c o (fun q' => hb (by simp [q'])) (fun q' => hb (by simp [q'])) (fun q' => hb (by simp [q'])) (fun q' => hb (by simp [q'])) q)) hf (Nat.le_refl _) new
    refine ⟨.ref s.heap.objs.size, _, I1, rfl, ⟨_, x, y, rfl, I.hok.fresh (Nat.le_refl _), rfl, fun l hl => by rw [I.tuple_inj hl sx]; exact gx, fun l hl => by rw [I.list_inj hl sy]; exact gy⟩, ⟨z'', ?_, ⟨x1, x2, ?_⟩, ?_, ?_⟩, fun c hcm => ?_⟩
    · exact (sb.2 _ D.TIz).trans (hk _ _ D.TIz D.TITO D.TIi1 D.TIi2 t2)
    · exact (sb.2 _ D.TOz).trans TO'
    · exact s1'.1.at fun o q => (sb.2 _ D.i1z).trans q
    · exact s2'.1.at fun o q => (sb.2 _ D.i2z).trans q
    · have hlt : c < s.heap.objs.size := by
        rcases in5 hcm with q | q | q | q | q
        · rw [q]; exact zl
        · rw [q]; exact Heap.lt_size t2
        · rw [q]; exact Heap.lt_size t3
        · obtain ⟨_, e1, _⟩ := h1; rw [q]; exact Heap.lt_size e1
        · obtain ⟨_, e2, _⟩ := h2; rw [q]; exact Heap.lt_size e2
      rw [upd_ne (Nat.ne_of_lt hlt)]
      exact (hf c hcm).1
  done := by
    intro X hP hw hK hc i pins s σ H E I hf st hg
    subst hP hw hK
    obtain ⟨t1, t2, ⟨x0, y0, t3⟩, h1, h2⟩ := st
    obtain ⟨xs, ys, sx, sy, fin, le1, le2⟩ := hg
    obtain ⟨its, rv, p, _⟩ := I.tuple sx
    obtain ⟨its2, rv2, p2, _⟩ := I.list sy
    have l1 := rv.length
    have l2 := rv2.length
    refine wpAny_pyNext_zipD2_end (i := i) (sep_mx D) (Draws.tuple (A := X.A.in1) (show X.A.in1.handled = none from I.ok.hd hc) i1 a D.l1i1 its.toArray) (Draws.list (A := X.A.in1) (show X.A.in1.handled = none from I.ok.hd hc) i2 b D.l2i2 its2.toArray) t1 t2 t3 ⟨h1, p⟩ ⟨h2, p2.isList⟩ (by rw [List.size_toArray]; omega) (by rw [List.size_toArray]; omega) (by rw [List.size_toArray, List.size_toArray]; omega) fun h' tk hk => ⟨rfl, I.turnedL (t' := tk) (ch := [z, TI, TO, i1, i2]) (fun c o hb q =>
      hk c o (fun q' => hb (by simp [q'])) (fun q' => hb (by simp [q'])) (fun q' => hb (by simp [q'])) (fun q' => hb (by simp [q'])) q) hf⟩
  self := fun A i s Q E st h => wpAny_pyIter_zip st.1 h
def iZipM (K : PySem.W.Frag) (ta : TA) : TI := fun σ H R => ta σ H fun vs H1 => ∃ a b xs ys, vs = [.ref a, .ref b] ∧ SqT K H1 a xs ∧ SqL K H1 b ys ∧ R (ItzM K a b) H1
theorem pi_mx {X : Cx} {e e2 : Expr} {ta : TA} {p pos tpos : Pos} {elts : List Expr} {kk : Nat} (hg : Gl X "zip") (hm : X.mg "zip" = none) (ha : PA X [e, e2] ta)
    (hs : starEach [e, e2] X.env = (false, eval e X.env) :: starEach [e2] X.env := by rfl) (hpl : (backTo pos (starEach [e2] X.env)).any (·.1) = false := by rfl) :
    PI X (.Tuple elts kk tpos) (.Call (.Name "zip" p) [e, e2] [] pos) (iZipM X.K ta) := by
  refine ⟨fun pins s σ H R I h => ?_⟩
  refine Call_ (ld_blt I hg hm PyProof.Rows.boot_zip (PyProof.Rows.callWith_type1 (thn (ha.run pos pins s σ H _ I h) fun us s1 ⟨vs, H1, I1, r1, q1⟩ => ?_) hs hpl))
  obtain ⟨a, b, xs, ys, rfl, sx, sy, q⟩ := q1
  obtain ⟨u1, us1, rfl, ra, rr⟩ : ∃ u us1, us = u :: us1 ∧ RelV (.ref a) u ∧ Vals [.ref b] us1 := by
    cases r1 with | cons r rr => exact ⟨_, _, rfl, r, rr⟩
  obtain ⟨u2, rfl, rb⟩ := vals1 rr
  cases ra
  cases rb
  obtain ⟨its, rv, p1, _⟩ := I1.tuple sx
  obtain ⟨its2, rv2, p2, _⟩ := I1.list sy
  obtain ⟨o1, ho1, _⟩ := id p1
  refine call_mx (show s1.heap.IsTuple a its.toArray from p1) p2.isList fun h' t1 t2 t3 h1 h2 hk => wpAny_pyIter_zip t1 ?_
  have I2 : Inv X pins σ H1 { s1 with heap := h' } := I1.kept (t' := s1.toks) hk
  refine ⟨s1.heap.objs.size + 4, [s1.heap.objs.size + 4, s1.heap.objs.size + 2, s1.heap.objs.size + 3, s1.heap.objs.size, s1.heap.objs.size + 1], _, _, H1, rfl, I2, turn_mx (PySem.W.ktu_apart s1.heap.objs.size a b (Heap.lt_size ho1) p2.lt), ⟨t1, t2, ⟨_, _, t3⟩, h1, h2⟩, fun c hcm => ?_, q⟩
  have le : s1.heap.objs.size ≤ c := by
    rcases in5 hcm with z | z | z | z | z <;> rw [z] <;> first | exact Nat.le_add_right _ _ | exact Nat.le_refl _
  exact I1.fpOk le (I1.hok.fresh le)
end DK

set_option Elab.async false
set_option linter.all false
set_option maxRecDepth 100000
set_option maxHeartbeats 1000000
/-! zip, enumerate, isinstance, comprehensions, calls that hand on a source -/
namespace DK
open PySem PySem.Spec PyProof.Rows L2 RZ
variable [TabsC]
section
variable {X : Cx} {E : XK} {e a b : Expr} {es : List Expr} {fa fb : FE} {fl : FA} {pos p : Pos} {x : Str}
/-! ### calls of source defs -/
theorem de_callS {k : Nat} {f : Addr} {fd : FuncData} {ps : List Str} {fn : List D → List D → R (Vl × List D)} (F : FnOk X.prog X.w X.K X.mg X.base (L2.CX X.prog X.w) k f fd ps (spG X.K X.mg fn)) (hr : Room k X.A) (hg : Gl X x) (hm : X.mg x = some (.ref f)) (hk : PySem.W.keepIn X.K (.ref f) = true) (hb : Binds X.K fd ps []) (hx : Passes (L2.CX X.prog X.w) X E)
    (ha : DA X E (e :: es) fl) (hdb : (x == ("__debug__" : Str)) = false := by decide) (he : starEach (e :: es) X.env = (false, eval e X.env) :: starEach es X.env := by rfl) (hpl : (backTo pos (starEach es X.env)).any (·.1) = false := by rfl) :
    DE X E (.Call (.Name x p) (e :: es) [] pos) (fCallS fn fl) := fun ad => PE_conseq (pe_call F hr hg hm hk hb .nil hx (ha ad) hdb he hpl) fun σ H Q h => tE_callS h
/-! ### isinstance -/
def tyD : D → Option String
  | .non => some "NoneType"
  | .bl _ => some "bool"
  | .int _ => some "int"
  | .str _ => some "str"
  | .tup _ => some "tuple"
  | .lst _ => some "list"
  | .scr _ => some "list"
  | .obj _ _ _ => none
def gIsi (T : String) (d : D) : Option Vl := match tyD d with
  | some t => match kitB t T with
    | some b => some (.p (.bl b))
    | none => none
  | none => none
theorem tyx_of {K : PySem.W.Frag} {mg : Str → Option Value} {Fz H : Hp} {d : D} {v : V} {t : String} (sub : ∀ a o, Fz a = some o → H a = some o) (h : BR K mg Fz H d v) (e : tyD d = some t) : TyX K H v (.type t) := by
  cases d <;> simp only [tyD, Option.some.injEq] at e <;> first | cases e | skip
  all_goals first | (subst e) | skip
  · have h : Rep K mg Fz .non v := h
    rw [Rep] at h; subst h; exact .base .non
  · have h : Rep K mg Fz (.bl _) v := h
    rw [Rep] at h; subst h; exact .base (.bl _)
  · have h : Rep K mg Fz (.int _) v := h
    rw [Rep] at h; subst h; exact .base (.int _)
  · have h : Rep K mg Fz (.str _) v := h
    rw [Rep] at h; subst h; exact .base (.str _)
  · have h : Rep K mg Fz (.tup _) v := h
    rw [Rep] at h
    obtain ⟨a, vs, rfl, h1, _⟩ := h
    rcases sqT_mono sub h1 with (h1 | ⟨o, h1⟩) | ⟨o, its, n, h1, h2, _⟩
    · exact .base (.tup h1)
    · exact .fTuple h1
    · exact .kTuple h1 h2
  · obtain ⟨a, vs, rfl, h1, _⟩ := h
    exact .base (.lst h1)
  · have h : Rep K mg Fz (.scr _) v := h
    rw [Rep] at h
    obtain ⟨a, rfl, h1⟩ := h
    rcases sqL_mono sub h1 with (h1 | ⟨o, h1⟩) | ⟨o, its, n, h1, h2, _⟩
    · exact .base (.lst h1)
    · exact .base (.frz h1)
    · exact .kList h1 h2
def rIsT (K : PySem.W.Frag) (T : String) : V → Hp → VK → Prop := fun x H Q => rIsi K [x, .ty T] H Q
theorem o1_isi {K : PySem.W.Frag} {mg : Str → Option Value} (T : String) : Op1 K mg (rIsT K T) (gIsi T) := by
  intro Fz H x dx v sub hx hg Q q
  unfold gIsi at hg
  split at hg
  · rename_i t e1
    split at hg
    · rename_i r e2
      cases hg
      exact ⟨x, .ty T, .type t, .type T, r, rfl, .ty T, tyx_of sub hx e1, kit_ty e2, q _ _ _ (OEnd.val_p sub (by rw [Rep]))⟩
    · cases hg
  · cases hg
theorem de_isi {T : String} {tx : Str} {tp : Pos} (hm : X.mg "isinstance" = none) (hm2 : X.mg tx = none) (hv : bootBuiltins tx = some (.type T)) (ha : DE X E a fa) (hg : Gl X "isinstance" := by rfl) (hg2 : Gl X tx := by rfl) (hn : tx ≠ "__name__" := by decide) (hdb : (tx == ("__debug__" : Str)) = false := by decide)
    (h1 : starEach [a, .Name tx tp] X.env = (false, eval a X.env) :: starEach [.Name tx tp] X.env := by rfl) (h2 : starEach [.Name tx tp] X.env = (false, eval (.Name tx tp) X.env) :: starEach [] X.env := by rfl) (hpl : (backTo pos (starEach [.Name tx tp] X.env)).any (·.1) = false := by rfl) :
    DE X E (.Call (.Name "isinstance" p) [a, .Name tx tp] [] pos) (fOp1 (gIsi T) fa) := fun ad =>
  PE_conseq (pe_callB (id := "isinstance") call_isi hg hm (by rfl) (pa_cons (ha ad) (pa_cons (pe_bltn (v := .ty T) hg2 hm2 hv rfl hn hdb) pa_nil h2) h1) (by decide) (by decide) h1 hpl) fun σ H Q h => tE_op1 (o1_isi T) h
/-! ### zip -/
theorem zipD_get : ∀ {xs ys : List D} {i : Nat} {d : D}, (zipD xs ys)[i]? = some d → ∃ x y, xs[i]? = some x ∧ ys[i]? = some y ∧ d = .tup [x, y]
  | [], ys, i, d, h => by simp [zipD] at h
  | x :: xs, [], i, d, h => by simp [zipD] at h
  | x :: xs, y :: ys, 0, d, h => by
    simp [zipD] at h
    exact ⟨x, y, rfl, rfl, h.symm⟩
  | x :: xs, y :: ys, i + 1, d, h => by
    simp [zipD] at h
    simpa using zipD_get h
theorem zipD_len : ∀ {xs ys : List D}, (zipD xs ys).length = min xs.length ys.length
  | [], ys => by simp [zipD]
  | x :: xs, [] => by simp [zipD]
  | x :: xs, y :: ys => by simp [zipD, zipD_len, Nat.succ_min_succ]
section
variable {K : PySem.W.Frag} {mg : Str → Option Value} {ad : Nat → Option Addr} {Fz H : Hp} {σ : L2.St}
theorem serves_LL {a b : Addr} {us vs : List V} {xs ys : List D} (h : SqL K Fz a us) (r : RepL K mg Fz xs us) (h2 : SqL K Fz b vs) (r2 : RepL K mg Fz ys vs) : Serves K mg Fz (Itz K a b) (zipD xs ys) := fun Fz1 H1 fm sub => by
  have k1 : SqL K H1 a us := sqL_mono sub (sqL_mono fm h)
  have k2 : SqL K H1 b vs := sqL_mono sub (sqL_mono fm h2)
  refine ⟨⟨us, vs, k1, k2, by rw [zipD_len, r.len, r2.len]; omega⟩, fun i d e => ?_⟩
  obtain ⟨x, y, e1, e2, rfl⟩ := zipD_get e
  obtain ⟨u, g1, p1⟩ := r.get e1
  obtain ⟨v, g2, p2⟩ := r2.get e2
  refine ⟨⟨us, vs, u, v, k1, k2, g1, g2⟩, fun x H' yl => ?_⟩
  obtain ⟨T, x', y', rfl, hT, rfl, f1, f2⟩ := yl
  have f1 := f1 us k1
  have f2 := f2 vs k2
  rw [g1] at f1; rw [g2] at f2
  cases f1; cases f2
  exact ⟨_, OEnd.new_tup sub hT (repL_cons (p1.mono fm) (repL_cons (p2.mono fm) repL_nil))⟩
theorem serves_TT {a b : Addr} {us vs : List V} {xs ys : List D} (h : SqT K Fz a us) (r : RepL K mg Fz xs us) (h2 : SqT K Fz b vs) (r2 : RepL K mg Fz ys vs) : Serves K mg Fz (ItzT K a b) (zipD xs ys) := fun Fz1 H1 fm sub => by
  have k1 : SqT K H1 a us := sqT_mono sub (sqT_mono fm h)
  have k2 : SqT K H1 b vs := sqT_mono sub (sqT_mono fm h2)
  refine ⟨⟨us, vs, k1, k2, by rw [zipD_len, r.len, r2.len]; omega⟩, fun i d e => ?_⟩
  obtain ⟨x, y, e1, e2, rfl⟩ := zipD_get e
  obtain ⟨u, g1, p1⟩ := r.get e1
  obtain ⟨v, g2, p2⟩ := r2.get e2
  refine ⟨⟨us, vs, u, v, k1, k2, g1, g2⟩, fun x H' yl => ?_⟩
  obtain ⟨T, x', y', rfl, hT, rfl, f1, f2⟩ := yl
  have f1 := f1 us k1
  have f2 := f2 vs k2
  rw [g1] at f1; rw [g2] at f2
  cases f1; cases f2
  exact ⟨_, OEnd.new_tup sub hT (repL_cons (p1.mono fm) (repL_cons (p2.mono fm) repL_nil))⟩
theorem serves_TL {a b : Addr} {us vs : List V} {xs ys : List D} (h : SqT K Fz a us) (r : RepL K mg Fz xs us) (h2 : SqL K Fz b vs) (r2 : RepL K mg Fz ys vs) : Serves K mg Fz (ItzM K a b) (zipD xs ys) := fun Fz1 H1 fm sub => by
  have k1 : SqT K H1 a us := sqT_mono sub (sqT_mono fm h)
  have k2 : SqL K H1 b vs := sqL_mono sub (sqL_mono fm h2)
  refine ⟨⟨us, vs, k1, k2, by rw [zipD_len, r.len, r2.len]; omega, by rw [zipD_len, r.len, r2.len]; omega, by rw [zipD_len, r.len, r2.len]; omega⟩, fun i d e => ?_⟩
  obtain ⟨x, y, e1, e2, rfl⟩ := zipD_get e
  obtain ⟨u, g1, p1⟩ := r.get e1
  obtain ⟨v, g2, p2⟩ := r2.get e2
  refine ⟨⟨us, vs, u, v, k1, k2, g1, g2⟩, fun x H' yl => ?_⟩
  obtain ⟨T, x', y', rfl, hT, rfl, f1, f2⟩ := yl
  have f1 := f1 us k1
  have f2 := f2 vs k2
  rw [g1] at f1; rw [g2] at f2
  cases f1; cases f2
  exact ⟨_, OEnd.new_tup sub hT (repL_cons (p1.mono fm) (repL_cons (p2.mono fm) repL_nil))⟩
def zipOf : List D → Option (List D)
  | [.lst xs, .lst ys] => some (zipD xs ys)
  | [.tup xs, .tup ys] => some (zipD xs ys)
  | [.tup xs, .lst ys] => some (zipD xs ys)
  | _ => none
def fZp (a : FA) : FI := fun st => (a st).bind fun x => match fzVs x.1 x.2 with
  | some (ds, st2) => match zipOf ds with
    | some zs => .ok (zs, st2)
    | none => .stuck
  | none => .stuck
theorem tI_zip {fa : FA} {R : It → Hp → Prop} {E : XK} (h : tI K mg ad E (fZp fa) σ H R) : iZipA K (tA K mg ad E fa) σ H R ∨ iZipM K (tA K mg ad E fa) σ H R := by
  obtain ⟨st, Fz, rs, h⟩ := h
  cases e : fa st with
  | stuck => unfold fZp at h; rw [e] at h; exact h.elim
  | err c l =>
    unfold fZp at h
    rw [e] at h
    exact .inl ⟨st, Fz, rs, by rw [e]; exact h⟩
  | ok y =>
    obtain ⟨vs, st1⟩ := y
    unfold fZp at h
    rw [e, DK.R.bind_ok] at h
    dsimp only at h
    split at h
    · rename_i ds st2 e2
      split at h
      · rename_i zs e3
        unfold zipOf at e3
        split at e3
        · rename_i xs ys
          cases e3
          refine .inl ⟨st, Fz, rs, ?_⟩
          rw [e]
          intro as Fz1 H1 e1
          obtain ⟨Fz2, rs2, fr2, r2, _⟩ := fzVs_ok e1.rs e1.fr e1.val e1.new e2
          obtain ⟨v1, as1, rfl, p1, r2⟩ := r2.cons_inv
          obtain ⟨v2, as2, rfl, p2, r2⟩ := r2.cons_inv
          obtain rfl := r2.nil_inv
          rw [Rep] at p1
          rw [Rep] at p2
          obtain ⟨a, us, rfl, q1, q2⟩ := p1
          obtain ⟨b, ws, rfl, q3, q4⟩ := p2
          exact ⟨a, b, us, ws, rfl, .inl ⟨.inl (.inl (rs2.sub _ _ q1)), .inl (.inl (rs2.sub _ _ q3)), h _ Fz2 H1 rs2 fr2 (serves_LL (.inl (.inl q1)) q2 (.inl (.inl q3)) q4)⟩⟩
        · rename_i xs ys
          cases e3
          refine .inl ⟨st, Fz, rs, ?_⟩
          rw [e]
          intro as Fz1 H1 e1
          obtain ⟨Fz2, rs2, fr2, r2, _⟩ := fzVs_ok e1.rs e1.fr e1.val e1.new e2
          obtain ⟨v1, as1, rfl, p1, r2⟩ := r2.cons_inv
          obtain ⟨v2, as2, rfl, p2, r2⟩ := r2.cons_inv
          obtain rfl := r2.nil_inv
          rw [Rep] at p1
          rw [Rep] at p2
          obtain ⟨a, us, rfl, q1, q2⟩ := p1
          obtain ⟨b, ws, rfl, q3, q4⟩ := p2
          exact ⟨a, b, us, ws, rfl, .inr ⟨sqT_mono rs2.sub q1, sqT_mono rs2.sub q3, h _ Fz2 H1 rs2 fr2 (serves_TT q1 q2 q3 q4)⟩⟩
        · rename_i xs ys
          cases e3
          refine .inr ⟨st, Fz, rs, ?_⟩
          rw [e]
          intro as Fz1 H1 e1
          obtain ⟨Fz2, rs2, fr2, r2, _⟩ := fzVs_ok e1.rs e1.fr e1.val e1.new e2
          obtain ⟨v1, as1, rfl, p1, r2⟩ := r2.cons_inv
          obtain ⟨v2, as2, rfl, p2, r2⟩ := r2.cons_inv
          obtain rfl := r2.nil_inv
          rw [Rep] at p1
          rw [Rep] at p2
          obtain ⟨a, us, rfl, q1, q2⟩ := p1
          obtain ⟨b, ws, rfl, q3, q4⟩ := p2
          exact ⟨a, b, us, ws, rfl, sqT_mono rs2.sub q1, .inl (.inl (rs2.sub _ _ q3)), h _ Fz2 H1 rs2 fr2 (serves_TL q1 q2 (.inl (.inl q3)) q4)⟩
        · cases e3
      · exact h.elim
    · exact h.elim
/-! ### enumerate of a list -/
theorem rep_int {Fz : Hp} {i : Int} : Rep K mg Fz (.int i) (.int i) := by rw [Rep]
theorem enumD_get : ∀ {xs : List D} {k i : Nat} {d : D}, (enumD k xs)[i]? = some d → ∃ x, xs[i]? = some x ∧ d = .tup [.int ((k + i : Nat) : Int), x]
  | [], k, i, d, h => by simp [enumD] at h
  | x :: xs, k, 0, d, h => by
    simp [enumD] at h
    exact ⟨x, rfl, h.symm⟩
  | x :: xs, k, i + 1, d, h => by
    simp [enumD] at h
    obtain ⟨y, e1, e2⟩ := enumD_get h
    exact ⟨y, by simpa using e1, by rw [e2, show k + 1 + i = k + (i + 1) by omega]⟩
theorem enumD_len : ∀ {xs : List D} {k : Nat}, (enumD k xs).length = xs.length
  | [], k => rfl
  | x :: xs, k => by simp [enumD, enumD_len]
theorem serves_enum {a : Addr} {us : List V} {xs : List D} (h : SqL K Fz a us) (r : RepL K mg Fz xs us) : Serves K mg Fz (Ite K a) (enumD 0 xs) := fun Fz1 H1 fm sub => by
  have k1 : SqL K H1 a us := sqL_mono sub (sqL_mono fm h)
  refine ⟨⟨us, k1, by rw [enumD_len, r.len]; exact Nat.le_refl _⟩, fun i d e => ?_⟩
  obtain ⟨x, e1, rfl⟩ := enumD_get e
  obtain ⟨u, g1, p1⟩ := r.get e1
  refine ⟨⟨us, u, k1, g1⟩, fun x H' yl => ?_⟩
  obtain ⟨T, x', rfl, hT, rfl, f1⟩ := yl
  have f1 := f1 us k1
  rw [g1] at f1
  cases f1
  simp only [Nat.zero_add]
  exact ⟨_, OEnd.new_tup sub hT (repL_cons (show Rep K mg Fz1 (.int ((i : Nat) : Int)) (.int ((i : Nat) : Int)) from rep_int) (repL_cons (p1.mono fm) repL_nil))⟩
def enumOf : List D → Option (List D)
  | [.lst xs] => some (enumD 0 xs)
  | _ => none
def fEn (a : FA) : FI := fun st => (a st).bind fun x => match fzVs x.1 x.2 with
  | some (ds, st2) => match enumOf ds with
    | some zs => .ok (zs, st2)
    | none => .stuck
  | none => .stuck
theorem tI_enum {fa : FA} {R : It → Hp → Prop} {E : XK} (h : tI K mg ad E (fEn fa) σ H R) : iEnum K (tA K mg ad E fa) σ H R := by
  obtain ⟨st, Fz, rs, h⟩ := h
  refine ⟨st, Fz, rs, h.bind.imp fun ⟨vs, st1⟩ h1 as Fz1 H1 e1 => ?_⟩
  dsimp only at h1 e1
  split at h1
  · rename_i ds st2 e2
    split at h1
    · rename_i zs e3
      unfold enumOf at e3
      split at e3
      · cases e3
        obtain ⟨Fz2, rs2, fr2, r2, _⟩ := fzVs_ok e1.rs e1.fr e1.val e1.new e2
        obtain ⟨v1, as1, rfl, p1, r2⟩ := r2.cons_inv
        obtain rfl := r2.nil_inv
        rw [Rep] at p1
        obtain ⟨a, us, rfl, q1, q2⟩ := p1
        exact ⟨a, us, rfl, .inl (.inl (rs2.sub _ _ q1)), h1 _ Fz2 H1 rs2 fr2 (serves_enum (.inl (.inl q1)) q2)⟩
      · cases e3
    · exact h1.elim
  · exact h1.elim
end
theorem di_zip {elts : List Expr} {kk : Nat} {tpos : Pos} (hm : X.mg "zip" = none) (ha : DA X E [a, b] fl) (hg : Gl X "zip" := by rfl) (hs : starEach [a, b] X.env = (false, eval a X.env) :: starEach [b] X.env := by rfl) (hpl : (backTo pos (starEach [b] X.env)).any (·.1) = false := by rfl) :
    DI X E (.Tuple elts kk tpos) (.Call (.Name "zip" p) [a, b] [] pos) (fZp fl) := fun ad => ⟨fun pins s σ H R I q => (tI_zip q).elim (fun q => (pi_zipA hg hm (ha ad) hs hpl).run pins s σ H R I q) fun q => (pi_mx hg hm (ha ad) hs hpl).run pins s σ H R I q⟩
theorem di_enum {elts : List Expr} {kk : Nat} {tpos : Pos} (hm : X.mg "enumerate" = none) (ha : DA X E [a] fl) (hg : Gl X "enumerate" := by rfl) (hs : starEach [a] X.env = [(false, eval a X.env)] := by rfl) :
    DI X E (.Tuple elts kk tpos) (.Call (.Name "enumerate" p) [a] [] pos) (fEn fl) := fun ad => PI_conseq (pi_enum hg hm (ha ad) hs) fun σ H R q => tI_enum q
/-! ### comprehensions -/
abbrev Bk (X : Cx) (scope : Scope) (s : Shared) (H : Hp) (C : Addr) (cl : List (Str × Addr)) (fp : List Addr) : Cx := X.blk s H scope (compEnvC scope cl C X.env) fp
variable {elt tg iter cond : Expr} {scope : Scope} {g : TG} {fi : FI} {ftg : TGf} {is : List Nat} {ft fe : FE}
theorem de_lc (own : List (Str × Nat)) (hN : X.N.Nodup) (ok : BlkOk X.N X.env.scope scope own) (hi : DI X E tg iter fi)
    (hg : ∀ s H C cl fp, DG (Bk X scope s H C cl fp) tg g ftg is) (he : ∀ s H C cl fp, DE (Bk X scope s H C cl fp) L2.E0 elt fe) (hv : ∀ i ∈ is, i ∈ own.map (·.2) := by decide) (hc : X.calm = true := by rfl) (hs : ∀ x, foldedSetIterable iter X.env x = pure x := by intro _; rfl) :
    DE X E (.ListComp elt [⟨tg, iter, [], 0⟩] scope pos) (fLc fi ftg (fun st => (fYes st).noErr) (fun st => (fe st).noErr) (own.map (·.2))) := fun ad =>
  ⟨fun pins s σ H Q I q => (pe_lc hc hN (hi ad) ok (fun s H C cl fp => (hg s H C cl fp).pg) (fun _ _ _ _ _ => pts_nil) (fun s H C cl fp => he s H C cl fp ad) hs).run pins s σ H Q I
    (tE_lc (fun σ H R q => q) (hg s H 0 [] []).ok hv (fun σ H Q q => tT_yes q) q)⟩
theorem de_lcIf (own : List (Str × Nat)) (hN : X.N.Nodup) (ok : BlkOk X.N X.env.scope scope own) (hi : DI X E tg iter fi)
    (hg : ∀ s H C cl fp, DG (Bk X scope s H C cl fp) tg g ftg is) (ht : ∀ s H C cl fp, DT (Bk X scope s H C cl fp) L2.E0 cond ft) (he : ∀ s H C cl fp, DE (Bk X scope s H C cl fp) L2.E0 elt fe) (hv : ∀ i ∈ is, i ∈ own.map (·.2) := by decide) (hc : X.calm = true := by rfl) (hs : ∀ x, foldedSetIterable iter X.env x = pure x := by intro _; rfl) :
    DE X E (.ListComp elt [⟨tg, iter, [cond], 0⟩] scope pos) (fLc fi ftg (fun st => (ft st).noErr) (fun st => (fe st).noErr) (own.map (·.2))) := fun ad =>
  ⟨fun pins s σ H Q I q => (pe_lc hc hN (hi ad) ok (fun s H C cl fp => (hg s H C cl fp).pg) (fun s H C cl fp => pts_one (ht s H C cl fp ad)) (fun s H C cl fp => he s H C cl fp ad) hs).run pins s σ H Q I
    (tE_lc (fun σ H R q => q) (hg s H 0 [] []).ok hv (fun σ H Q q => q) q)⟩
theorem ds_setLc {y : Str} {py spos : Pos} (i' : Nat) (own : List (Str × Nat)) (hN : X.N.Nodup) (ok : BlkOk X.N X.env.scope scope own) (hi : DI X E tg iter fi)
    (hg : ∀ s H C cl fp, DG (Bk X scope s H C cl fp) tg g ftg is) (he : ∀ s H C cl fp, DE (Bk X scope s H C cl fp) L2.E0 elt fe) (hy : X.N[i']? = some y := by rfl) (hyl : X.env.scope.names.lookup y = some .local := by rfl)
    (hsw : swapsWith (.ListComp elt [⟨tg, iter, [], 0⟩] scope pos) (some (.Name y py)) spos.line X.env = pure true := by first | rfl | exact sw_true rfl rfl rfl rfl) (hv : ∀ i ∈ is, i ∈ own.map (·.2) := by decide) (hc : X.calm = true := by rfl) (hs : ∀ x, foldedSetIterable iter X.env x = pure x := by intro _; rfl) :
    DS X E (.Assign [.Name y py] (.ListComp elt [⟨tg, iter, [], 0⟩] scope pos) spos) (fSet i' (fLc fi ftg (fun st => (fYes st).noErr) (fun st => (fe st).noErr) (own.map (·.2)))) := fun ad =>
  ⟨fun pins s σ H D I q => (ps_setLc hc hN hy hyl hsw (hi ad) ok (fun s H C cl fp => (hg s H C cl fp).pg) (fun _ _ _ _ _ => pts_nil) (fun s H C cl fp => he s H C cl fp ad) hs).run pins s σ H D I
    (tE_lc (fun σ H R q => q) (hg s H 0 [] []).ok hv (fun σ H Q q => tT_yes q) (tS_set q))⟩
theorem ds_setLcIf {y : Str} {py spos : Pos} (i' : Nat) (own : List (Str × Nat)) (hN : X.N.Nodup) (ok : BlkOk X.N X.env.scope scope own) (hi : DI X E tg iter fi)
    (hg : ∀ s H C cl fp, DG (Bk X scope s H C cl fp) tg g ftg is) (ht : ∀ s H C cl fp, DT (Bk X scope s H C cl fp) L2.E0 cond ft) (he : ∀ s H C cl fp, DE (Bk X scope s H C cl fp) L2.E0 elt fe) (hy : X.N[i']? = some y := by rfl) (hyl : X.env.scope.names.lookup y = some .local := by rfl)
    (hsw : swapsWith (.ListComp elt [⟨tg, iter, [cond], 0⟩] scope pos) (some (.Name y py)) spos.line X.env = pure true := by first | rfl | exact sw_true rfl rfl rfl rfl) (hv : ∀ i ∈ is, i ∈ own.map (·.2) := by decide) (hc : X.calm = true := by rfl) (hs : ∀ x, foldedSetIterable iter X.env x = pure x := by intro _; rfl) :
    DS X E (.Assign [.Name y py] (.ListComp elt [⟨tg, iter, [cond], 0⟩] scope pos) spos) (fSet i' (fLc fi ftg (fun st => (ft st).noErr) (fun st => (fe st).noErr) (own.map (·.2)))) := fun ad =>
  ⟨fun pins s σ H D I q => (ps_setLc hc hN hy hyl hsw (hi ad) ok (fun s H C cl fp => (hg s H C cl fp).pg) (fun s H C cl fp => pts_one (ht s H C cl fp ad)) (fun s H C cl fp => he s H C cl fp ad) hs).run pins s σ H D I
    (tE_lc (fun σ H R q => q) (hg s H 0 [] []).ok hv (fun σ H Q q => q) (tS_set q))⟩
end
end DK

set_option Elab.async false
set_option linter.all false
set_option maxRecDepth 100000
set_option maxHeartbeats 1000000
/-! what a law's text asks of the top; short forms for the printed derivations -/
namespace DK
open PySem PySem.Spec PyProof.Rows L2 RZ
variable [TabsC]
def Has (K : PySem.W.Frag) (mg : Str → Option Value) (x : Str) (st : Stmt) (ps : List Str) : Prop := ∃ f fd, mg x = some (.ref f) ∧ Fun K x x st f fd ∧ Binds K fd ps []
/-- every def of this name and text keeps the promise -/
def Keeps (P : Program) (w : World) (K : PySem.W.Frag) (mg : Str → Option Value) (base : Heap) (k : Nat) (x : Str) (st : Stmt) (ps : List Str) (sp : Sp) : Prop := ∀ f fd, Fun K x x st f fd → FnOk P w K mg base (L2.CX P w) k f fd ps sp
section
variable {X : Cx} {E : XK} {e a b : Expr} {es : List Expr} {fa fb : FE} {fl : FA} {pos p : Pos} {x : Str}
theorem dcl {st : Stmt} {ps : List Str} {k j : Nat} {fn : List D → R Vl} (h : Has X.K X.mg x st ps) (ok : Keeps X.prog X.w X.K X.mg X.base k x st ps (spF X.K X.mg fn)) (hr : Room j X.A) (hx : Passes (L2.CX X.prog X.w) X E) (ha : DA X E (e :: es) fl) (hk : k ≤ j := by decide) (hg : Gl X x := by rfl)
    (hdb : (x == ("__debug__" : Str)) = false := by decide) (he : starEach (e :: es) X.env = (false, eval e X.env) :: starEach es X.env := by rfl) (hpl : (backTo pos (starEach es X.env)).any (·.1) = false := by rfl) : DE X E (.Call (.Name x p) (e :: es) [] pos) (fCall fn fl) := by
  obtain ⟨f, fd, hm, F, hb⟩ := h
  exact de_call (ok f fd F) (hr.mono hk) hg hm F.kp hb hx ha hdb he hpl
theorem dclS {st : Stmt} {ps : List Str} {k j : Nat} {fn : List D → List D → R (Vl × List D)} (h : Has X.K X.mg x st ps) (ok : Keeps X.prog X.w X.K X.mg X.base k x st ps (spG X.K X.mg fn)) (hr : Room j X.A) (hx : Passes (L2.CX X.prog X.w) X E) (ha : DA X E (e :: es) fl) (hk : k ≤ j := by decide) (hg : Gl X x := by rfl)
    (hdb : (x == ("__debug__" : Str)) = false := by decide) (he : starEach (e :: es) X.env = (false, eval e X.env) :: starEach es X.env := by rfl) (hpl : (backTo pos (starEach es X.env)).any (·.1) = false := by rfl) : DE X E (.Call (.Name x p) (e :: es) [] pos) (fCallS fn fl) := by
  obtain ⟨f, fd, hm, F, hb⟩ := h
  exact de_callS (ok f fd F) (hr.mono hk) hg hm F.kp hb hx ha hdb he hpl
theorem dgl {i : Int} (h : ∃ t, X.mg x = some (.int i t)) (hg : Gl X x := by rfl) (hdb : (x == ("__debug__" : Str)) = false := by decide) : DE X E (.Name x pos) (fC (.int i)) := by
  obtain ⟨t, h⟩ := h
  exact de_glob (v := .int i) hg h ⟨t, rfl⟩ (fun Fz => by rw [Rep]) hdb
theorem dgs {i : Str} (h : ∃ t, X.mg x = some (.str i t)) (hg : Gl X x := by rfl) (hdb : (x == ("__debug__" : Str)) = false := by decide) : DE X E (.Name x pos) (fC (.str i)) := by
  obtain ⟨t, h⟩ := h
  exact de_glob (v := .str i) hg h ⟨t, rfl⟩ (fun Fz => by rw [Rep]) hdb
/-! built-ins by name -/
theorem b_len (hm : X.mg "len" = none) (ha : DA X E [a] fl) (hg : Gl X "len" := by rfl) (he : starEach [a] X.env = (false, eval a X.env) :: starEach [] X.env := by rfl) : DE X E (.Call (.Name "len" p) [a] [] pos) (fCB gLen fl) :=
  de_callB (id := "len") call_len_seq on_len hg hm (by rfl) ha (by decide) (by decide) he rfl
theorem b_sum (hm : X.mg "sum" = none) (ha : DA X E [a] fl) (hg : Gl X "sum" := by rfl) (hc : X.calm = true := by rfl) (he : starEach [a] X.env = (false, eval a X.env) :: starEach [] X.env := by rfl) : DE X E (.Call (.Name "sum" p) [a] [] pos) (fCB gSum fl) :=
  de_callB (id := "sum") (cr_sumD hc) on_sum hg hm (by rfl) ha (by decide) (by decide) he rfl
theorem b_max {j : Nat} (hr : Room j X.A) (hm : X.mg "max" = none) (ha : DA X E (a :: es) fl) (hg : Gl X "max" := by rfl) (hc : X.calm = true := by rfl) (he : starEach (a :: es) X.env = (false, eval a X.env) :: starEach es X.env := by rfl) (hpl : (backTo pos (starEach es X.env)).any (·.1) = false := by rfl) : DE X E (.Call (.Name "max" p) (a :: es) [] pos) (fCB gMax fl) :=
  de_callB (id := "max") (cr_maxD' hc hr.units) on_max hg hm (by rfl) ha (by decide) (by decide) he hpl
theorem b_min {j : Nat} (hr : Room j X.A) (hm : X.mg "min" = none) (ha : DA X E (a :: es) fl) (hg : Gl X "min" := by rfl) (hc : X.calm = true := by rfl) (he : starEach (a :: es) X.env = (false, eval a X.env) :: starEach es X.env := by rfl) (hpl : (backTo pos (starEach es X.env)).any (·.1) = false := by rfl) : DE X E (.Call (.Name "min" p) (a :: es) [] pos) (fCB gMin fl) :=
  de_callB (id := "min") (cr_minD' hc hr.units) on_min hg hm (by rfl) ha (by decide) (by decide) he hpl
theorem b_sorted (hm : X.mg "sorted" = none) (ha : DA X E [a] fl) (hg : Gl X "sorted" := by rfl) (he : starEach [a] X.env = (false, eval a X.env) :: starEach [] X.env := by rfl) : DE X E (.Call (.Name "sorted" p) [a] [] pos) (fCB gSorted fl) :=
  de_callB (id := "sorted") cr_sortedDD on_sorted hg hm (by rfl) ha (by decide) (by decide) he rfl
theorem b_all (hm : X.mg "all" = none) (ha : DA X E [a] fl) (hg : Gl X "all" := by rfl) (hc : X.calm = true := by rfl) (he : starEach [a] X.env = (false, eval a X.env) :: starEach [] X.env := by rfl) : DE X E (.Call (.Name "all" p) [a] [] pos) (fCB gAll fl) :=
  de_callB (id := "all") (cr_all hc) on_all hg hm (by rfl) ha (by decide) (by decide) he rfl
theorem b_any (hm : X.mg "any" = none) (ha : DA X E [a] fl) (hg : Gl X "any" := by rfl) (hc : X.calm = true := by rfl) (he : starEach [a] X.env = (false, eval a X.env) :: starEach [] X.env := by rfl) : DE X E (.Call (.Name "any" p) [a] [] pos) (fCB gAny fl) :=
  de_callB (id := "any") (cr_any hc) on_any hg hm (by rfl) ha (by decide) (by decide) he rfl
theorem b_abs (hm : X.mg "abs" = none) (ha : DA X E [a] fl) (hg : Gl X "abs" := by rfl) (he : starEach [a] X.env = (false, eval a X.env) :: starEach [] X.env := by rfl) : DE X E (.Call (.Name "abs" p) [a] [] pos) (fCB gAbs fl) :=
  de_callB (id := "abs") call_abs on_abs hg hm (by rfl) ha (by decide) (by decide) he rfl
theorem b_tuple (hm : X.mg "tuple" = none) (ha : DA X E [a] fl) (hg : Gl X "tuple" := by rfl) (he : starEach [a] X.env = (false, eval a X.env) :: starEach [] X.env := by rfl) : DE X E (.Call (.Name "tuple" p) [a] [] pos) (fCB gTuple fl) :=
  de_callTy (T := "tuple") call_tuple_of on_tuple hg hm (by rfl) ha (by decide) (by decide) he rfl
theorem b_list (hm : X.mg "list" = none) (ha : DA X E [a] fl) (hg : Gl X "list" := by rfl) (he : starEach [a] X.env = (false, eval a X.env) :: starEach [] X.env := by rfl) : DE X E (.Call (.Name "list" p) [a] [] pos) (fCB gList fl) :=
  de_callTy (T := "list") call_list_of on_list hg hm (by rfl) ha (by decide) (by decide) he rfl
theorem b_int (hm : X.mg "int" = none) (ha : DA X E [a] fl) (hg : Gl X "int" := by rfl) (he : starEach [a] X.env = (false, eval a X.env) :: starEach [] X.env := by rfl) : DE X E (.Call (.Name "int" p) [a] [] pos) (fCB gInt fl) :=
  de_callTy (T := "int") call_int1 on_int hg hm (by rfl) ha (by decide) (by decide) he rfl
/-! operators by name -/
theorem o_add (ha : DE X E a fa) (hb : DE X E b fb) : DE X E (.BinOp a .Add b pos) (fOp2 gAdd fa fb) := de_op op_addD o2_add ha hb
theorem o_sub (ha : DE X E a fa) (hb : DE X E b fb) : DE X E (.BinOp a .Sub b pos) (fOp2 DK.gSub fa fb) := de_op op_sub o2_sub ha hb
theorem o_mul (ha : DE X E a fa) (hb : DE X E b fb) : DE X E (.BinOp a .Mult b pos) (fOp2 gMu fa fb) := de_op op_mulD o2_mul ha hb
theorem o_fdiv (ha : DE X E a fa) (hb : DE X E b fb) : DE X E (.BinOp a .FloorDiv b pos) (fOp2 gFdiv fa fb) := de_op op_fdiv o2_fdiv ha hb
theorem o_mod (ha : DE X E a fa) (hb : DE X E b fb) : DE X E (.BinOp a .Mod b pos) (fOp2 gMod fa fb) := de_op op_mod o2_mod ha hb
theorem o_pow (ha : DE X E a fa) (hb : DE X E b fb) : DE X E (.BinOp a .Pow b pos) (fOp2 gPow fa fb) := de_op op_pow o2_pow ha hb
theorem o_neg (ha : DE X E a fa) : DE X E (.UnaryOp .USub a pos) (fOp1 gNeg fa) := de_un un_neg o1_neg ha
theorem o_ix (ha : DE X E a fa) (hb : DE X E b fb) (hs : PlainIx b := by exact fun _ _ => rfl) : DE X E (.Subscript a b pos) (fOp2 gIx fa fb) := de_ix ix_D o2_ix ha hb hs
theorem e_lt (ha : DE X E a fa) (hb : DE X E b fb) : DE X E (.Compare a [.Lt] [b] pos) (fOp2 gLt fa fb) := de_cmp op_lt o2_lt ha hb (nomark _)
theorem e_le (ha : DE X E a fa) (hb : DE X E b fb) : DE X E (.Compare a [.LtE] [b] pos) (fOp2 gLe fa fb) := de_cmp op_le o2_le ha hb (nomark _)
theorem e_gt (ha : DE X E a fa) (hb : DE X E b fb) : DE X E (.Compare a [.Gt] [b] pos) (fOp2 gGt fa fb) := de_cmp op_gt o2_gt ha hb (nomark _)
theorem e_ge (ha : DE X E a fa) (hb : DE X E b fb) : DE X E (.Compare a [.GtE] [b] pos) (fOp2 gGe fa fb) := de_cmp op_ge o2_ge ha hb (nomark _)
theorem e_is (ha : DE X E a fa) (hb : DE X E b fb) : DE X E (.Compare a [.Is] [b] pos) (fOp2 gIs fa fb) := de_cmp op_isD o2_is ha hb (nomark _)
theorem e_isnt (ha : DE X E a fa) (hb : DE X E b fb) : DE X E (.Compare a [.IsNot] [b] pos) (fOp2 gIsnt fa fb) := de_cmp op_notN o2_isnt ha hb (nomark _)
theorem e_eq {j : Nat} (hr : Room j X.A) (ha : DE X E a fa) (hb : DE X E b fb) : DE X E (.Compare a [.Eq] [b] pos) (fOp2 gEq fa fb) := de_cmp (op_eqD hr.units) o2_eq ha hb (nomark _)
theorem e_ne {j : Nat} (hr : Room j X.A) (ha : DE X E a fa) (hb : DE X E b fb) : DE X E (.Compare a [.NotEq] [b] pos) (fOp2 gNe fa fb) := de_cmp (op_neD hr.units) o2_ne ha hb (nomark _)
theorem e_in (ha : DE X E a fa) (hb : DE X E b fb) (hm : behindInMarks .In b = false := by rfl) : DE X E (.Compare a [.In] [b] pos) (fOp2 gIn fa fb) := de_cmp op_in_seq o2_in ha hb hm
theorem e_nin (ha : DE X E a fa) (hb : DE X E b fb) (hm : behindInMarks .NotIn b = false := by rfl) : DE X E (.Compare a [.NotIn] [b] pos) (fOp2 gNotIn fa fb) := de_cmp op_notIn_seq o2_notin ha hb hm
theorem t_lt (ha : DE X E a fa) (hb : DE X E b fb) : DT X E (.Compare a [.Lt] [b] pos) (fOp2 gLt fa fb) := dt_cmp op_lt o2_lt ha hb (nomark _)
theorem t_le (ha : DE X E a fa) (hb : DE X E b fb) : DT X E (.Compare a [.LtE] [b] pos) (fOp2 gLe fa fb) := dt_cmp op_le o2_le ha hb (nomark _)
theorem t_gt (ha : DE X E a fa) (hb : DE X E b fb) : DT X E (.Compare a [.Gt] [b] pos) (fOp2 gGt fa fb) := dt_cmp op_gt o2_gt ha hb (nomark _)
theorem t_ge (ha : DE X E a fa) (hb : DE X E b fb) : DT X E (.Compare a [.GtE] [b] pos) (fOp2 gGe fa fb) := dt_cmp op_ge o2_ge ha hb (nomark _)
theorem t_is (ha : DE X E a fa) (hb : DE X E b fb) : DT X E (.Compare a [.Is] [b] pos) (fOp2 gIs fa fb) := dt_cmp op_isD o2_is ha hb (nomark _)
theorem t_isnt (ha : DE X E a fa) (hb : DE X E b fb) : DT X E (.Compare a [.IsNot] [b] pos) (fOp2 gIsnt fa fb) := dt_cmp op_notN o2_isnt ha hb (nomark _)
theorem t_eq {j : Nat} (hr : Room j X.A) (ha : DE X E a fa) (hb : DE X E b fb) : DT X E (.Compare a [.Eq] [b] pos) (fOp2 gEq fa fb) := dt_cmp (op_eqD hr.units) o2_eq ha hb (nomark _)
theorem t_ne {j : Nat} (hr : Room j X.A) (ha : DE X E a fa) (hb : DE X E b fb) : DT X E (.Compare a [.NotEq] [b] pos) (fOp2 gNe fa fb) := dt_cmp (op_neD hr.units) o2_ne ha hb (nomark _)
theorem t_in (ha : DE X E a fa) (hb : DE X E b fb) (hm : behindInMarks .In b = false := by rfl) : DT X E (.Compare a [.In] [b] pos) (fOp2 gIn fa fb) := dt_cmp op_in_seq o2_in ha hb hm
theorem t_nin (ha : DE X E a fa) (hb : DE X E b fb) (hm : behindInMarks .NotIn b = false := by rfl) : DT X E (.Compare a [.NotIn] [b] pos) (fOp2 gNotIn fa fb) := dt_cmp op_notIn_seq o2_notin ha hb hm
end
/-! fuel by a slot -/
def fuelI (i : Nat) : Ds → Nat := fun st => match st[i]? with
  | some (.p (.int n)) => n.toNat + 2
  | _ => 0
/-- the law's own promise -/
def spLaw (K : PySem.W.Frag) : Sp := fun vs H Q _ => ∃ (a : Addr) (ns : List Int), vs = [.ref a] ∧ SqL K H a (ns.map V.int) ∧ ns.length ≤ 63 ∧ Tbs H ∧ ∀ H', Q (.bl true) H'
def noT (H : Hp) : Hp := fun q => match H q with
  | some (.tbl _) => none
  | o => o
theorem noT_sub {H : Hp} {q : Addr} {o : HO} (h : noT H q = some o) : H q = some o := by
  unfold noT at h
  split at h
  · cases h
  · exact h
theorem noT_of {H : Hp} {q : Addr} {o : HO} (h : H q = some o) (n : NT o) : noT H q = some o := by
  unfold noT
  split
  · rename_i ps e
    rw [h] at e
    cases e
    exact (n _ rfl).elim
  · exact h
theorem noT_nt {H : Hp} : NoTb (noT H) := fun q o h ps e => by
  subst e
  unfold noT at h
  split at h
  · cases h
  · rename_i n
    exact n _ h
theorem sqL_noT {K : PySem.W.Frag} {H : Hp} {a : Addr} {xs : List V} (h : SqL K H a xs) : SqL K (noT H) a xs := by
  rcases h with (h | ⟨o, h⟩) | h
  · exact .inl (.inl (noT_of h nt_lst))
  · exact .inl (.inr ⟨o, noT_of h fun ps z => by cases z⟩)
  · exact .inr h
theorem fn_law {P : Program} {w : World} {K : PySem.W.Frag} {mg : Str → Option Value} {base : Heap} {st : Stmt} {f : Addr} {fd : FuncData} {N : List Str} {k : Nat} {body : FS} (F : Fun K "law" "law" st f fd) (S : FnScope N ["script"] (defScope st))
    (hb : ∀ (cdv : Value) (A : Around) (outer : List Env) (s : Shared) (H : Hp) (E : XK), Room k (A.deeper (envOfC "law" (defScope st) s.heap.objs.size f cdv)) → DSs (cxOf L2.CX0 P w K mg base N "law" (defScope st) f cdv A outer s H E).nox L2.E0 (defBody st) body)
    (h : ∀ ns : List Int, ns.length ≤ 63 → runF 1 N.length body [.scr ns] = .ok (.p (.bl true))) : FnOk P w K mg base L2.CX0 (k + 1) f fd ["script"] (spLaw K) := by
  refine F.ok S (fun vs H Q E ⟨a, ns, e, _⟩ => by subst e; rfl) fun cdv A outer s H vs Q E hr ⟨a, ns, e, hS, hl, tb, q⟩ => ?_
  subst e
  refine ⟨_, hb cdv A outer s H E hr fun _ => none, (body_ok (E := L2.E0) (np := 1) ⟨noT H, [.scr ns], fun _ _ z => noT_sub z, repL_cons (by rw [Rep]; exact ⟨a, rfl, sqL_noT hS⟩) repL_nil, ⟨tb, noT_nt⟩, ?_⟩).2⟩
  rw [h ns hl]
  intro x Fz' H' oe
  rw [oe.bl_inv]
  exact q H'
end DK

set_option Elab.async false
set_option linter.all false
set_option maxRecDepth 100000
set_option maxHeartbeats 1000000
/-! running the data functions by simp -/
namespace DK
open PySem PySem.Spec PyProof.Rows L2 RZ
section
variable {st : Ds} {i j : Nat} {a b c : FE} {fa t : FA} {d : D} {x y : Vl} {g g' : D → D → Option Vl} {f1 f2 : FS}
@[simp] theorem fC_eq : fC d st = .ok (.p d, st) := rfl
@[simp] theorem fV_eq : fV i st = (match st[i]? with
  | some (.p d) => .ok (.p d, st)
  | some (.o _) => .ok (.r i, st)
  | some (.s _) => .ok (.r i, st)
  | _ => .stuck) := rfl
@[simp] theorem bD_p : bD (.p d) st = some d := rfl
@[simp] theorem bD_o {xs : List D} : bD (.o xs) st = some (.lst xs) := rfl
@[simp] theorem bD_r : bD (.r i) st = (match st[i]? with
    | some (.o xs) => some (.lst xs)
    | some (.s xs) => some (.lst xs)
    | _ => none) := rfl
@[simp] theorem bD2_eq : bD2 x y st g = (match bD x st, bD y st with
  | some a, some b => g a b
  | _, _ => none) := rfl
@[simp] theorem bD1_eq {h : D → Option Vl} : bD1 x st h = (match bD x st with
  | some a => h a
  | _ => none) := rfl
@[simp] theorem bDs_nil : bDs st [] = some [] := rfl
@[simp] theorem bDs_cons {vs : List Vl} : bDs st (x :: vs) = (match bD x st, bDs st vs with
    | some d, some ds => some (d :: ds)
    | _, _ => none) := rfl
def kOp2 (g : D → D → Option Vl) (x : Vl) (y : Vl × Ds) : R (Vl × Ds) := oV (bD2 x y.1 y.2 g) y.2
def kOp2a (g : D → D → Option Vl) (b : FE) (x : Vl × Ds) : R (Vl × Ds) := (b x.2).bind (kOp2 g x.1)
@[simp] theorem fOp2_eq : fOp2 g a b st = (a st).bind (kOp2a g b) := rfl
@[simp] theorem kOp2a_eq : kOp2a g b (x, st) = (b st).bind (kOp2 g x) := rfl
@[simp] theorem kOp2_eq : kOp2 g x (y, st) = oV (bD2 x y st g) st := rfl
def kOp1 (h : D → Option Vl) (x : Vl × Ds) : R (Vl × Ds) := oV (bD1 x.1 x.2 h) x.2
@[simp] theorem fOp1_eq {h : D → Option Vl} : fOp1 h a st = (a st).bind (kOp1 h) := rfl
@[simp] theorem kOp1_eq {h : D → Option Vl} : kOp1 h (x, st) = oV (bD1 x st h) st := rfl
@[simp] theorem fNil_eq : fNil st = .ok ([], st) := rfl
def kCons (x : Vl) (y : List Vl × Ds) : R (List Vl × Ds) := .ok (x :: y.1, y.2)
def kConsa (t : FA) (x : Vl × Ds) : R (List Vl × Ds) := (t x.2).bind (kCons x.1)
@[simp] theorem fCons_eq : fCons a t st = (a st).bind (kConsa t) := rfl
@[simp] theorem kConsa_eq : kConsa t (x, st) = (t st).bind (kCons x) := rfl
@[simp] theorem kCons_eq {vs : List Vl} : kCons x (vs, st) = .ok (x :: vs, st) := rfl
def kCB2 (h : List D → Option Vl) (st : Ds) : Option (List D) → R (Vl × Ds)
  | some ds => oV (h ds) st
  | none => .stuck
def kCB (h : List D → Option Vl) (x : List Vl × Ds) : R (Vl × Ds) := kCB2 h x.2 (bDs x.2 x.1)
@[simp] theorem fCB_eq {h : List D → Option Vl} : fCB h fa st = (fa st).bind (kCB h) := by
  first | rfl | (unfold fCB; congr 1) | (unfold fCB; congr 1; funext x; split <;> simp_all)
@[simp] theorem kCB_eq {h : List D → Option Vl} {vs : List Vl} : kCB h (vs, st) = kCB2 h st (bDs st vs) := rfl
@[simp] theorem kCB2_eq {h : List D → Option Vl} {ds : List D} : kCB2 h st (some ds) = oV (h ds) st := rfl
@[simp] theorem fzVs_nil : fzVs [] st = some ([], st) := rfl
@[simp] theorem fzVs_cons {vs : List Vl} : fzVs (x :: vs) st = (match fzV x st with
    | some (d, st1) => match fzVs vs st1 with
      | some (ds, st2) => some (d :: ds, st2)
      | none => none
    | none => none) := rfl
@[simp] theorem fzV_p : fzV (.p d) st = some (d, st) := rfl
@[simp] theorem fzV_o {xs : List D} : fzV (.o xs) st = some (.lst xs, st) := rfl
@[simp] theorem fzV_r : fzV (.r i) st = (match st[i]? with
    | some (.o xs) => some (.lst xs, st.set i (.p (.lst xs)))
    | _ => none) := rfl
def kTup2 : Option (List D × Ds) → R (Vl × Ds)
  | some (ds, st2) => .ok (.p (.tup ds), st2)
  | none => .stuck
def kTup (x : List Vl × Ds) : R (Vl × Ds) := kTup2 (fzVs x.1 x.2)
@[simp] theorem fTup_eq : fTup fa st = (fa st).bind kTup := by
  first | rfl | (unfold fTup; congr 1) | (unfold fTup; congr 1; funext x; split <;> simp_all)
@[simp] theorem kTup_eq {vs : List Vl} : kTup (vs, st) = kTup2 (fzVs vs st) := rfl
@[simp] theorem kTup2_eq {ds : List D} : kTup2 (some (ds, st)) = .ok (.p (.tup ds), st) := rfl
def kLst2 : Option (List D × Ds) → R (Vl × Ds)
  | some (ds, st2) => .ok (.o ds, st2)
  | none => .stuck
def kLst (x : List Vl × Ds) : R (Vl × Ds) := kLst2 (fzVs x.1 x.2)
@[simp] theorem fLst_eq : fLst fa st = (fa st).bind kLst := by
  first | rfl | (unfold fLst; congr 1) | (unfold fLst; congr 1; funext x; split <;> simp_all)
@[simp] theorem kLst_eq {vs : List Vl} : kLst (vs, st) = kLst2 (fzVs vs st) := rfl
@[simp] theorem kLst2_eq {ds : List D} : kLst2 (some (ds, st)) = .ok (.o ds, st) := rfl
def kRes (st : Ds) (v : Vl) : R (Vl × Ds) := .ok (v, st)
@[simp] theorem kRes_eq : kRes st x = .ok (x, st) := rfl
def kCall2 (f : List D → R Vl) : Option (List D × Ds) → R (Vl × Ds)
  | some (ds, st2) => (f ds).bind (kRes st2)
  | none => .stuck
def kCall (f : List D → R Vl) (x : List Vl × Ds) : R (Vl × Ds) := kCall2 f (fzVs x.1 x.2)
@[simp] theorem fCall_eq {f : List D → R Vl} : fCall f fa st = (fa st).bind (kCall f) := by
  first | rfl | (unfold fCall; congr 1) | (unfold fCall; congr 1; funext x; split <;> simp_all)
@[simp] theorem kCall_eq {f : List D → R Vl} {vs : List Vl} : kCall f (vs, st) = kCall2 f (fzVs vs st) := rfl
@[simp] theorem kCall2_eq {f : List D → R Vl} {ds : List D} : kCall2 f (some (ds, st)) = (f ds).bind (kRes st) := rfl
def kAnd (b : FE) (x : Vl × Ds) : R (Vl × Ds) := match x.1 with
  | .p (.bl true) => b x.2
  | .p (.bl false) => .ok (.p (.bl false), x.2)
  | _ => .stuck

@[simp] theorem fAnd_eq : fAnd a b st = (a st).bind (kAnd b) := by
  first | rfl | (unfold fAnd; congr 1) | (unfold fAnd; congr 1; funext x; split <;> simp_all)
@[simp] theorem kAnd_t : kAnd b (.p (.bl true), st) = b st := rfl
@[simp] theorem kAnd_f : kAnd b (.p (.bl false), st) = .ok (.p (.bl false), st) := rfl
def kOr (b : FE) (x : Vl × Ds) : R (Vl × Ds) := match x.1 with
  | .p (.bl true) => .ok (.p (.bl true), x.2)
  | .p (.bl false) => b x.2
  | _ => .stuck

@[simp] theorem fOr_eq : fOr a b st = (a st).bind (kOr b) := by
  first | rfl | (unfold fOr; congr 1) | (unfold fOr; congr 1; funext x; split <;> simp_all)
@[simp] theorem kOr_t : kOr b (.p (.bl true), st) = .ok (.p (.bl true), st) := rfl
@[simp] theorem kOr_f : kOr b (.p (.bl false), st) = b st := rfl
def kNot  (x : Vl × Ds) : R (Vl × Ds) := match x.1 with
  | .p (.bl b) => .ok (.p (.bl (!b)), x.2)
  | _ => .stuck
@[simp] theorem fNot_eq : fNot a st = (a st).bind kNot := by
  first | rfl | (unfold fNot; congr 1) | (unfold fNot; congr 1; funext x; split <;> simp_all)
@[simp] theorem kNot_eq {p : Bool} : kNot (.p (.bl p), st) = .ok (.p (.bl (!p)), st) := rfl
def kIf (b c : FE) (x : Vl × Ds) : R (Vl × Ds) := match x.1 with
  | .p (.bl true) => b x.2
  | .p (.bl false) => c x.2
  | _ => .stuck

@[simp] theorem fIf_eq : fIf a b c st = (a st).bind (kIf b c) := by
  first | rfl | (unfold fIf; congr 1) | (unfold fIf; congr 1; funext x; split <;> simp_all)
@[simp] theorem kIf_t : kIf b c (.p (.bl true), st) = b st := rfl
@[simp] theorem kIf_f : kIf b c (.p (.bl false), st) = c st := rfl
def kCh2 (g' : D → D → Option Vl) (c : FE) (y : Vl × Ds) : Option Vl → R (Vl × Ds)
  | some (.p (.bl true)) => (c y.2).bind (kOp2 g' y.1)
  | some (.p (.bl false)) => .ok (.p (.bl false), y.2)
  | _ => .stuck
def kCh (g g' : D → D → Option Vl) (c : FE) (x : Vl) (y : Vl × Ds) : R (Vl × Ds) := kCh2 g' c y (bD2 x y.1 y.2 g)
def kCha (g g' : D → D → Option Vl) (b c : FE) (x : Vl × Ds) : R (Vl × Ds) := (b x.2).bind (kCh g g' c x.1)
@[simp] theorem fChain_eq : fChain g g' a b c st = (a st).bind (kCha g g' b c) := by
  first | rfl | (unfold fChain; congr 1) | (unfold fChain; congr 1; funext x; split <;> simp_all)
@[simp] theorem kCha_eq : kCha g g' b c (x, st) = (b st).bind (kCh g g' c x) := rfl
@[simp] theorem kCh_eq : kCh g g' c x (y, st) = kCh2 g' c (y, st) (bD2 x y st g) := rfl
@[simp] theorem kCh2_t : kCh2 g' c (y, st) (some (.p (.bl true))) = (c st).bind (kOp2 g' y) := rfl
@[simp] theorem kCh2_f : kCh2 g' c (y, st) (some (.p (.bl false))) = .ok (.p (.bl false), st) := rfl
@[simp] theorem kCh2_d {p : Bool} : kCh2 g' c (y, st) (some (.p (.bl p))) = if p = true then (c st).bind (kOp2 g' y) else .ok (.p (.bl false), st) := by cases p <;> rfl
@[simp] theorem fzR_p : fzR (.p d) st = some (.p d, st) := rfl
@[simp] theorem fzR_o {xs : List D} : fzR (.o xs) st = some (.o xs, st) := rfl
@[simp] theorem fzR_r : fzR (.r i) st = (match fzV (.r i) st with
    | some (d, st1) => some (.p d, st1)
    | none => none) := rfl
@[simp] theorem fzRs_nil : fzRs [] st = some ([], st) := rfl
@[simp] theorem fzRs_cons {vs : List Vl} : fzRs (x :: vs) st = (match fzR x st with
    | some (u, st1) => match fzRs vs st1 with
      | some (us, st2) => some (u :: us, st2)
      | none => none
    | none => none) := rfl
@[simp] theorem put_p : put i (.p d) st = st.set i (.p d) := rfl
@[simp] theorem put_o {xs : List D} : put i (.o xs) st = st.set i (.o xs) := rfl
@[simp] theorem puts_cons {is : List Nat} {vs : List Vl} : puts (i :: is) (x :: vs) st = puts is vs (put i x st) := rfl
@[simp] theorem puts_nil : puts [] [] st = st := rfl
def kSet2 (i : Nat) : Option (Vl × Ds) → R Fl
  | some (v, st2) => .ok (.nx (put i v st2))
  | none => .stuck
def kSet (i : Nat) (x : Vl × Ds) : R Fl := kSet2 i (fzR x.1 x.2)
@[simp] theorem fSet_eq : fSet i a st = (a st).bind (kSet i) := by
  first | rfl | (unfold fSet; congr 1) | (unfold fSet; congr 1; funext x; split <;> simp_all)
@[simp] theorem kSet_eq : kSet i (x, st) = kSet2 i (fzR x st) := rfl
@[simp] theorem kSet2_eq : kSet2 i (some (x, st)) = .ok (.nx (put i x st)) := rfl
@[simp] theorem putD_nil : putD [] [] st = some st := rfl
@[simp] theorem putD_cons {is : List Nat} {ds : List D} : putD (i :: is) (d :: ds) st = putD is ds (st.set i (.p d)) := rfl
@[simp] theorem oS_some : oS (some st) = .ok (.nx st) := rfl
def kSetT (is : List Nat) (x : Vl × Ds) : R Fl := match x.1 with
  | .p (.tup ds) => oS (putD is ds x.2)
  | _ => .stuck
@[simp] theorem fSetT_eq {is : List Nat} : fSetT is a st = (a st).bind (kSetT is) := by
  first | rfl | (unfold fSetT; congr 1) | (unfold fSetT; congr 1; funext x; split <;> simp_all)
@[simp] theorem kSetT_eq {is : List Nat} {ds : List D} : kSetT is (.p (.tup ds), st) = oS (putD is ds st) := rfl
def kPar2 (is : List Nat) : Option (List Vl × Ds) → R Fl
  | some (vs, st2) => if vs.length = is.length then .ok (.nx (puts is vs st2)) else .stuck
  | none => .stuck
def kPar (is : List Nat) (x : List Vl × Ds) : R Fl := kPar2 is (fzRs x.1 x.2)
@[simp] theorem fPar_eq {is : List Nat} : fPar is fa st = (fa st).bind (kPar is) := by
  first | rfl | (unfold fPar; congr 1) | (unfold fPar; congr 1; funext x; split <;> simp_all)
@[simp] theorem kPar_eq {is : List Nat} {vs : List Vl} : kPar is (vs, st) = kPar2 is (fzRs vs st) := rfl
@[simp] theorem kPar2_eq {is : List Nat} {vs : List Vl} : kPar2 is (some (vs, st)) = if vs.length = is.length then .ok (.nx (puts is vs st)) else .stuck := rfl
def kExpr (x : Vl × Ds) : R Fl := .ok (.nx x.2)
@[simp] theorem fExpr_eq : fExpr a st = (a st).bind kExpr := rfl
@[simp] theorem kExpr_eq : kExpr (x, st) = .ok (.nx st) := rfl
def kRet (x : Vl × Ds) : R Fl := .ok (.rt x.1 x.2)
@[simp] theorem fRet_eq : fRet a st = (a st).bind kRet := rfl
@[simp] theorem kRet_eq : kRet (x, st) = .ok (.rt x st) := rfl
@[simp] theorem fRetN_eq : fRetN st = .ok (.rt (.p .non) st) := rfl
@[simp] theorem fNext_eq : fNext st = .ok (.nx st) := rfl
@[simp] theorem fBreak_eq : fBreak st = .ok (.bk st) := rfl
@[simp] theorem fCont_eq : fCont st = .ok (.ct st) := rfl
@[simp] theorem fNever_eq : fNever st = .stuck := rfl
def sK (b : FS) : Fl → R Fl
  | .nx st1 => b st1
  | f => .ok f
@[simp] theorem sK_nx : sK f2 (.nx st) = f2 st := rfl
@[simp] theorem sK_bk : sK f2 (.bk st) = .ok (.bk st) := rfl
@[simp] theorem sK_ct : sK f2 (.ct st) = .ok (.ct st) := rfl
@[simp] theorem sK_rt {v : Vl} : sK f2 (.rt v st) = .ok (.rt v st) := rfl
@[simp] theorem fSeq_eq : fSeq f1 f2 st = (f1 st).bind (sK f2) := by
  first | rfl | (unfold fSeq; congr 1)
def kIfS (f1 f2 : FS) (x : Vl × Ds) : R Fl := match x.1 with
  | .p (.bl true) => f1 x.2
  | .p (.bl false) => f2 x.2
  | _ => .stuck
@[simp] theorem fIfS_eq : fIfS a f1 f2 st = (a st).bind (kIfS f1 f2) := by
  first | rfl | (unfold fIfS; congr 1) | (unfold fIfS; congr 1; funext x; split <;> simp_all)
@[simp] theorem kIfS_t : kIfS f1 f2 (.p (.bl true), st) = f1 st := rfl
@[simp] theorem kIfS_f : kIfS f1 f2 (.p (.bl false), st) = f2 st := rfl
@[simp] theorem retV_p : retV (.p d) st = .ok (.p d) := rfl
@[simp] theorem retV_o {xs : List D} : retV (.o xs) st = .ok (.o xs) := rfl
@[simp] theorem retV_r : retV (.r i) st = (match st[i]? with
    | some (.o xs) => .ok (.o xs)
    | _ => .stuck) := rfl
def kRun : Fl → R Vl
  | .nx _ => .ok (.p .non)
  | .rt v st => retV v st
  | _ => .stuck
@[simp] theorem kRun_nx : kRun (.nx st) = .ok (.p .non) := rfl
@[simp] theorem kRun_rt : kRun (.rt x st) = retV x st := rfl
@[simp] theorem runF_eq {np n : Nat} {ds : List D} : runF np n f1 ds = if ds.length = np then (f1 (ds.map Sl.p ++ List.replicate (n - np) .un)).bind kRun else .stuck := by
  first | rfl | (unfold runF; congr 1)
def kRunG3 (src' : List D) (u : Vl) : R (Vl × List D) := .ok (u, src')
def kRunG2 (r : R Vl) : Option Sl → R (Vl × List D)
  | some (Sl.s src') => r.bind (kRunG3 src')
  | _ => .stuck
def kRunG : Fl → R (Vl × List D)
  | .nx st => kRunG2 (.ok (.p .non)) (st[0]?)
  | .rt v st => kRunG2 (retV v st) (st[0]?)
  | _ => .stuck
@[simp] theorem kRunG3_eq {xs : List D} : kRunG3 xs x = .ok (x, xs) := rfl
@[simp] theorem kRunG2_eq {r : R Vl} {xs : List D} : kRunG2 r (some (.s xs)) = r.bind (kRunG3 xs) := rfl
@[simp] theorem kRunG_nx : kRunG (.nx st) = kRunG2 (.ok (.p .non)) (st[0]?) := rfl
@[simp] theorem kRunG_rt : kRunG (.rt x st) = kRunG2 (retV x st) (st[0]?) := rfl
@[simp] theorem runG_eq {np n : Nat} {src ds : List D} : runG np n f1 src ds = if ds.length + 1 = np then (f1 (.s src :: (ds.map Sl.p ++ List.replicate (n - np) .un))).bind kRunG else .stuck := by
  first | rfl | (unfold runG; congr 1; congr 1; funext f; cases f <;> rfl)
def kCS4 (i : Nat) (st2 : Ds) (y : Vl × List D) : R (Vl × Ds) := .ok (y.1, st2.set i (.o y.2))
def kCS5 (i : Nat) (st2 : Ds) (y : Vl × List D) : R (Vl × Ds) := .ok (y.1, st2.set i (.s y.2))
def kCS3 (gg : List D → List D → R (Vl × List D)) (i : Nat) (ds : List D) (st2 : Ds) : Option Sl → R (Vl × Ds)
  | some (.o src) => (gg src ds).noErr.bind (kCS4 i st2)
  | some (.s src) => (gg src ds).noErr.bind (kCS5 i st2)
  | _ => .stuck
def kCS2 (gg : List D → List D → R (Vl × List D)) (i : Nat) : Option (List D × Ds) → R (Vl × Ds)
  | some (ds, st2) => kCS3 gg i ds st2 (st2[i]?)
  | none => .stuck
def kCS (gg : List D → List D → R (Vl × List D)) (x : List Vl × Ds) : R (Vl × Ds) := match x.1 with
  | .r i :: vs => kCS2 gg i (fzVs vs x.2)
  | _ => .stuck
@[simp] theorem kCS4_eq {xs : List D} : kCS4 i st (x, xs) = .ok (x, st.set i (.o xs)) := rfl
@[simp] theorem kCS5_eq {xs : List D} : kCS5 i st (x, xs) = .ok (x, st.set i (.s xs)) := rfl
@[simp] theorem kCS3_o {gg : List D → List D → R (Vl × List D)} {ds xs : List D} : kCS3 gg i ds st (some (.o xs)) = (gg xs ds).noErr.bind (kCS4 i st) := rfl
@[simp] theorem kCS3_s {gg : List D → List D → R (Vl × List D)} {ds xs : List D} : kCS3 gg i ds st (some (.s xs)) = (gg xs ds).noErr.bind (kCS5 i st) := rfl
@[simp] theorem kCS2_eq {gg : List D → List D → R (Vl × List D)} {ds : List D} : kCS2 gg i (some (ds, st)) = kCS3 gg i ds st (st[i]?) := rfl
@[simp] theorem kCS_eq {gg : List D → List D → R (Vl × List D)} {vs : List Vl} : kCS gg (.r i :: vs, st) = kCS2 gg i (fzVs vs st) := rfl
@[simp] theorem fCallS_eq {gg : List D → List D → R (Vl × List D)} : fCallS gg fa st = (fa st).bind (kCS gg) := by
  first | rfl | (unfold fCallS; congr 1)

def kIt2 : Option (D × Ds) → R (List D × Ds)
  | some (.lst ds, st2) => .ok (ds, st2)
  | some (.tup ds, st2) => .ok (ds, st2)
  | _ => .stuck
def kIt (x : Vl × Ds) : R (List D × Ds) := kIt2 (fzV x.1 x.2)
@[simp] theorem kIt_eq : kIt (x, st) = kIt2 (fzV x st) := rfl
@[simp] theorem kIt2_l {ds : List D} : kIt2 (some (.lst ds, st)) = .ok (ds, st) := rfl
@[simp] theorem kIt2_t {ds : List D} : kIt2 (some (.tup ds, st)) = .ok (ds, st) := rfl
@[simp] theorem fIt_eq : fIt a st = (a st).bind kIt := by
  first | rfl | (unfold fIt; congr 1) | (unfold fIt; congr 1; funext x; split <;> simp_all)
def kRng (x : List Vl × Ds) : R (List D × Ds) := match x.1 with
  | [.p (.int j)] => if rOk j then .ok (rng 0 j.toNat, x.2) else .stuck
  | [.p (.int i), .p (.int j)] => if rOk i && rOk j then .ok (rng i (j - i).toNat, x.2) else .stuck
  | _ => .stuck
@[simp] theorem kRng_1 {j : Int} : kRng ([.p (.int j)], st) = if rOk j then .ok (rng 0 j.toNat, st) else .stuck := rfl
@[simp] theorem kRng_2 {i j : Int} : kRng ([.p (.int i), .p (.int j)], st) = if rOk i && rOk j then .ok (rng i (j - i).toNat, st) else .stuck := rfl
@[simp] theorem fRng_eq : fRng fa st = (fa st).bind kRng := by
  first | rfl | (unfold fRng; congr 1) | (unfold fRng; congr 1; funext x; split <;> simp_all)
def kZp3 (st : Ds) : Option (List D) → R (List D × Ds)
  | some zs => .ok (zs, st)
  | none => .stuck
def kZp2 : Option (List D × Ds) → R (List D × Ds)
  | some (ds, st2) => kZp3 st2 (zipOf ds)
  | none => .stuck
def kZp (x : List Vl × Ds) : R (List D × Ds) := kZp2 (fzVs x.1 x.2)
@[simp] theorem kZp_eq {vs : List Vl} : kZp (vs, st) = kZp2 (fzVs vs st) := rfl
@[simp] theorem kZp2_eq {ds : List D} : kZp2 (some (ds, st)) = kZp3 st (zipOf ds) := rfl
@[simp] theorem kZp3_eq {ds : List D} : kZp3 st (some ds) = .ok (ds, st) := rfl
@[simp] theorem fZp_eq : fZp fa st = (fa st).bind kZp := by
  first | rfl | (unfold fZp; congr 1) | (unfold fZp; congr 1; funext x; split <;> simp_all)
@[simp] theorem zipOf_ll {xs ys : List D} : zipOf [.lst xs, .lst ys] = some (zipD xs ys) := rfl
@[simp] theorem zipOf_tt {xs ys : List D} : zipOf [.tup xs, .tup ys] = some (zipD xs ys) := rfl
@[simp] theorem zipOf_tl {xs ys : List D} : zipOf [.tup xs, .lst ys] = some (zipD xs ys) := rfl
def kEn2 : Option (List D × Ds) → R (List D × Ds)
  | some (ds, st2) => kZp3 st2 (enumOf ds)
  | none => .stuck
def kEn (x : List Vl × Ds) : R (List D × Ds) := kEn2 (fzVs x.1 x.2)
@[simp] theorem kEn_eq {vs : List Vl} : kEn (vs, st) = kEn2 (fzVs vs st) := rfl
@[simp] theorem kEn2_eq {ds : List D} : kEn2 (some (ds, st)) = kZp3 st (enumOf ds) := rfl
@[simp] theorem fEn_eq : fEn fa st = (fa st).bind kEn := by
  first | rfl | (unfold fEn; congr 1) | (unfold fEn; congr 1; funext x; split <;> simp_all)
@[simp] theorem enumOf_l {xs : List D} : enumOf [.lst xs] = some (enumD 0 xs) := rfl
def kFor (tg : TGf) (f1 : FS) (x : List D × Ds) : R Fl := forL tg f1 x.1 x.2
@[simp] theorem kFor_eq {tg : TGf} {ds : List D} : kFor tg f1 (ds, st) = forL tg f1 ds st := rfl
@[simp] theorem fFor_eq {fi : FI} {tg : TGf} : fFor fi tg f1 st = (fi st).bind (kFor tg f1) := rfl
@[simp] theorem fWhile_eq {fuel : Ds → Nat} : fWhile fuel a f1 st = whL a f1 (fuel st) st := rfl
def kLc2 (st : Ds) (vs : List Nat) (y : List D × Ds) : R (Vl × Ds) := .ok (.o y.1, unwipe st y.2 vs)
def kLc (tg : TGf) (ft fe : FE) (vs : List Nat) (x : List D × Ds) : R (Vl × Ds) := (lcL tg ft fe vs x.1 [] (wipeD x.2 vs)).bind (kLc2 x.2 vs)
@[simp] theorem kLc_eq {tg : TGf} {ft fe : FE} {vs : List Nat} {ds : List D} : kLc tg ft fe vs (ds, st) = (lcL tg ft fe vs ds [] (wipeD st vs)).bind (kLc2 st vs) := rfl
@[simp] theorem kLc2_eq {vs : List Nat} {ds : List D} {st2 : Ds} : kLc2 st vs (ds, st2) = .ok (.o ds, unwipe st st2 vs) := rfl
@[simp] theorem fLc_eq {fi : FI} {tg : TGf} {ft fe : FE} {vs : List Nat} : fLc fi tg ft fe vs st = (fi st).bind (kLc tg ft fe vs) := rfl
@[simp] theorem fYes_eq : fYes st = .ok (.p (.bl true), st) := rfl
@[simp] theorem tgName_eq : tgName i d st = some (st.set i (.p d)) := rfl
@[simp] theorem tgTup_eq {is : List Nat} {ds : List D} : tgTup is (.tup ds) st = putD is ds st := rfl
@[simp] theorem wipeD_nil : wipeD st [] = st := rfl
@[simp] theorem wipeD_cons {vs : List Nat} : wipeD st (i :: vs) = (wipeD st vs).set i .un := rfl
@[simp] theorem unwipe_nil {st2 : Ds} : unwipe st st2 [] = st2 := rfl
@[simp] theorem unwipe_cons {st2 : Ds} {vs : List Nat} : unwipe st st2 (i :: vs) = (match st[i]? with
  | some (.p d) => (unwipe st st2 vs).set i (.p d)
  | _ => unwipe st st2 vs) := rfl
@[simp] theorem fPN_eq : fPN st = .ok (none, st) := rfl
def kPS  (x : Vl × Ds) : R (Option Int × Ds) := match x.1 with
  | .p (.int i) => .ok (some i, x.2)
  | _ => .stuck
@[simp] theorem kPS_eq {i : Int} : kPS (.p (.int i), st) = .ok (some i, st) := rfl
@[simp] theorem fPS_eq : fPS a st = (a st).bind kPS := by
  first | rfl | (unfold fPS; congr 1) | (unfold fPS; congr 1; funext x; split <;> simp_all)
def kSl4 (l u : Option Int) (st : Ds) : Option D → R (Vl × Ds)
  | some (.lst ds) => .ok (.o (cutD ds l u), st)
  | some (.tup ds) => .ok (.p (.tup (cutD ds l u)), st)
  | _ => .stuck
def kSl3 (x : Vl) (l : Option Int) (u : Option Int × Ds) : R (Vl × Ds) := kSl4 l u.1 u.2 (bD x u.2)
def kSl2 (hi : FP) (x : Vl) (l : Option Int × Ds) : R (Vl × Ds) := (hi l.2).bind (kSl3 x l.1)
def kSl1 (lo hi : FP) (x : Vl × Ds) : R (Vl × Ds) := (lo x.2).bind (kSl2 hi x.1)
@[simp] theorem kSl1_eq {lo hi : FP} : kSl1 lo hi (x, st) = (lo st).bind (kSl2 hi x) := rfl
@[simp] theorem kSl2_eq {hi : FP} {l : Option Int} : kSl2 hi x (l, st) = (hi st).bind (kSl3 x l) := rfl
@[simp] theorem kSl3_eq {l u : Option Int} : kSl3 x l (u, st) = kSl4 l u st (bD x st) := rfl
@[simp] theorem kSl4_l {l u : Option Int} {ds : List D} : kSl4 l u st (some (.lst ds)) = .ok (.o (cutD ds l u), st) := rfl
@[simp] theorem kSl4_t {l u : Option Int} {ds : List D} : kSl4 l u st (some (.tup ds)) = .ok (.p (.tup (cutD ds l u)), st) := rfl
@[simp] theorem fSlice_eq {lo hi : FP} : fSlice a lo hi st = (a st).bind (kSl1 lo hi) := by
  first | rfl | (unfold fSlice; congr 1) | (unfold fSlice; congr 1; funext x; split <;> simp_all)
@[simp] theorem fApp_eq : fAppS i a st = (match st[i]? with
  | some (.o _) => (a st).bind fun x => match fzV x.1 x.2 with
    | some (d, st1) => match st1[i]? with
      | some (.o xs) => if xs.length < 100000 then .ok (.nx (st1.set i (.o (xs ++ [d])))) else .stuck
      | _ => .stuck
    | none => .stuck
  | _ => .stuck) := rfl
@[simp] theorem fSetS_eq : fSetS i a b st = (a st).bind fun x => match fzV x.1 x.2 with
  | some (d, st1) => match st1[i]? with
    | some (.o _) => (b st1).bind fun y => match y.1, y.2[i]? with
      | .p (.int n), some (.o xs) => match ixN xs.length n with
        | some m => .ok (.nx (y.2.set i (.o (xs.set m d))))
        | none => .stuck
      | _, _ => .stuck
    | some (.s _) => (b st1).bind fun y => match y.1, y.2[i]? with
      | .p (.int n), some (.s xs) => match ixN xs.length n with
        | some m => .ok (.nx (y.2.set i (.s (xs.set m d))))
        | none => .stuck
      | _, _ => .stuck
    | _ => .stuck
  | none => .stuck := rfl
@[simp] theorem fRem_eq : fRem i a st = (match st[i]? with
  | some (.o _) => (a st).bind fun x => match x.1, x.2[i]? with
    | .p (.int k), some (.o xs) => match intsD xs with
      | some ns => match rem1 k ns with
        | some r => .ok (.nx (x.2.set i (.o (r.map D.int))))
        | none => .stuck
      | none => .stuck
    | _, _ => .stuck
  | _ => .stuck) := rfl
end
/-! operations -/
section
variable {i j k : Int} {p q : Bool} {xs ys : List D} {ns ms : List Int}
@[simp] theorem gAdd_i : gAdd (.int i) (.int j) = some (.p (.int (i + j))) := rfl
theorem gAdd_t (h : xs.length + ys.length ≤ 100000) : gAdd (.tup xs) (.tup ys) = some (.p (.tup (xs ++ ys))) := if_pos h
theorem gAdd_l (h : xs.length + ys.length ≤ 100000) : gAdd (.lst xs) (.lst ys) = some (.o (xs ++ ys)) := if_pos h
@[simp] theorem gSub_i : DK.gSub (.int i) (.int j) = some (.p (.int (i - j))) := rfl
@[simp] theorem gMu_i : gMu (.int i) (.int j) = if mulOk i j then some (.p (.int (i * j))) else none := rfl
@[simp] theorem gMu_t : gMu (.tup xs) (.int j) = gMulT j xs := rfl
@[simp] theorem gMu_l : gMu (.lst xs) (.int j) = gMulL j xs := rfl
@[simp] theorem gFdiv_i : gFdiv (.int i) (.int j) = if 0 < j ∧ j < 1073741824 then some (.p (.int (i / j))) else none := by
  show (if 0 < j ∧ j.natAbs < 1073741824 then some (Vl.p (.int (i / j))) else none) = _
  by_cases h : 0 < j ∧ j < 1073741824
  · rw [if_pos h, if_pos ⟨h.1, by omega⟩]
  · rw [if_neg h, if_neg fun z => h ⟨z.1, by omega⟩]
@[simp] theorem gMod_i : gMod (.int i) (.int j) = if 0 < j then some (.p (.int (i % j))) else none := rfl
@[simp] theorem gPow_i : gPow (.int i) (.int j) = if 0 ≤ j ∧ j ≤ 1000 ∧ -100000 < i ∧ i < 100000 then some (.p (.int (i ^ j.toNat))) else none := rfl
@[simp] theorem gLt_i : gLt (.int i) (.int j) = some (.p (.bl (decide (i < j)))) := rfl
@[simp] theorem gLe_i : gLe (.int i) (.int j) = some (.p (.bl (decide (i ≤ j)))) := rfl
@[simp] theorem gGt_i : gGt (.int i) (.int j) = some (.p (.bl (decide (j < i)))) := rfl
@[simp] theorem gGe_i : gGe (.int i) (.int j) = some (.p (.bl (decide (j ≤ i)))) := rfl
@[simp] theorem gNeg_i : gNeg (.int i) = some (.p (.int (-i))) := rfl
@[simp] theorem gIx_t : gIx (.tup xs) (.int i) = (match atI xs i with
    | some d => some (.p d)
    | none => none) := rfl
@[simp] theorem gIx_l : gIx (.lst xs) (.int i) = (match atI xs i with
    | some d => some (.p d)
    | none => none) := rfl
@[simp] theorem gIx_s : gIx (.scr ns) (.int i) = (match atI ns i with
    | some d => some (.p (.int d))
    | none => none) := rfl
@[simp] theorem gRev_l : gRev (.lst xs) = some (.o xs.reverse) := rfl
@[simp] theorem gRev_t : gRev (.tup xs) = some (.p (.tup xs.reverse)) := rfl
@[simp] theorem gLen_l : gLen [.lst xs] = some (.p (.int xs.length)) := rfl
@[simp] theorem gLen_t : gLen [.tup xs] = some (.p (.int xs.length)) := rfl
@[simp] theorem gLen_s : gLen [.scr ns] = some (.p (.int ns.length)) := rfl
@[simp] theorem gAbs_i : gAbs [.int i] = some (.p (.int (if i < 0 then -i else i))) := rfl
@[simp] theorem gMax_2 : gMax [.int i, .int j] = some (.p (.int (if j > i then j else i))) := rfl
@[simp] theorem gMin_2 : gMin [.int i, .int j] = some (.p (.int (if j < i then j else i))) := rfl
@[simp] theorem gIs_nn : gIs .non .non = some (.p (.bl true)) := rfl
@[simp] theorem gIs_tn : gIs (.tup xs) .non = some (.p (.bl false)) := rfl
@[simp] theorem gIs_in : gIs (.int i) .non = some (.p (.bl false)) := rfl
@[simp] theorem gIs_bb : gIs (.bl p) (.bl q) = some (.p (.bl (decide (p = q)))) := rfl
@[simp] theorem gIsnt_nn : gIsnt .non .non = some (.p (.bl false)) := rfl
@[simp] theorem gIsnt_tn : gIsnt (.tup xs) .non = some (.p (.bl true)) := rfl
@[simp] theorem gIsi_it : gIsi "int" (.int i) = some (.p (.bl true)) := by rfl
@[simp] theorem gIsi_ib : gIsi "bool" (.int i) = some (.p (.bl false)) := by rfl
@[simp] theorem gIsi_tt : gIsi "tuple" (.tup xs) = some (.p (.bl true)) := by rfl
@[simp] theorem gIsi_ss {s : Str} : gIsi "str" (.str s) = some (.p (.bl true)) := by rfl
@[simp] theorem intsD_m : intsD (ns.map D.int) = some ns := intsD_map ns
@[simp] theorem gSum_t : gSum [.tup (ns.map D.int)] = some (.p (.int ns.sum)) := by simp [gSum, seqI, intsD_map]
@[simp] theorem gSum_l : gSum [.lst (ns.map D.int)] = some (.p (.int ns.sum)) := by simp [gSum, seqI, intsD_map]
@[simp] theorem gSorted_t : gSorted [.tup (ns.map D.int)] = some (.o ((srt ns).map D.int)) := by simp [gSorted, seqI, intsD_map]
@[simp] theorem gSorted_l : gSorted [.lst (ns.map D.int)] = some (.o ((srt ns).map D.int)) := by simp [gSorted, seqI, intsD_map]
theorem gMax_t (h : ns ≠ []) : gMax [.tup (ns.map D.int)] = some (.p (.int (maxI ns))) := by
  cases ns with
  | nil => exact (h rfl).elim
  | cons n r =>
    show (match seqI (.tup ((n :: r).map D.int)) with | some ns => if ns = [] then none else some (Vl.p (D.int (maxI ns))) | none => none) = _
    simp only [seqI, intsD_map]
    simp
theorem gMax_l (h : ns ≠ []) : gMax [.lst (ns.map D.int)] = some (.p (.int (maxI ns))) := by
  cases ns with
  | nil => exact (h rfl).elim
  | cons n r =>
    show (match seqI (.lst ((n :: r).map D.int)) with | some ns => if ns = [] then none else some (Vl.p (D.int (maxI ns))) | none => none) = _
    simp only [seqI, intsD_map]
    simp
theorem gMin_t (h : ns ≠ []) : gMin [.tup (ns.map D.int)] = some (.p (.int (minI ns))) := by
  cases ns with
  | nil => exact (h rfl).elim
  | cons n r =>
    show (match seqI (.tup ((n :: r).map D.int)) with | some ns => if ns = [] then none else some (Vl.p (D.int (minI ns))) | none => none) = _
    simp only [seqI, intsD_map]
    simp
@[simp] theorem gAll_l {bs : List Bool} : gAll [.lst (bs.map D.bl)] = some (.p (.bl (bs.all id))) := by
  simp [gAll, blsD_map]
@[simp] theorem gAny_l {bs : List Bool} : gAny [.lst (bs.map D.bl)] = some (.p (.bl (bs.any id))) := by
  simp [gAny, blsD_map]
@[simp] theorem gTuple_l : gTuple [.lst xs] = some (.p (.tup xs)) := rfl
@[simp] theorem gTuple_t : gTuple [.tup xs] = some (.p (.tup xs)) := rfl
@[simp] theorem gList_l : gList [.lst xs] = some (.o xs) := rfl
@[simp] theorem gList_t : gList [.tup xs] = some (.o xs) := rfl
@[simp] theorem gInt_b : gInt [.bl p] = some (.p (.int (if p = true then 1 else 0))) := rfl
@[simp] theorem gInt_i : gInt [.int i] = some (.p (.int i)) := rfl
/-! equality -/
theorem okDs_ints : ∀ (n : Nat) (ns : List Int), okDs n (ns.map D.int) = true
  | n, [] => by cases n <;> rfl
  | n, x :: r => by
    rw [List.map_cons, okDs, okDs_ints n r]
    cases n <;> rfl
@[simp] theorem okDs_m {n : Nat} : okDs n (ns.map D.int) = true := okDs_ints n ns
@[simp] theorem okDs_nil {n : Nat} : okDs n [] = true := by cases n <;> rfl
@[simp] theorem okDs_cons {n : Nat} {d : D} : okDs n (d :: xs) = (okD n d && okDs n xs) := by rw [okDs]
@[simp] theorem okD_int {n : Nat} : okD n (.int i) = true := by cases n <;> rfl
@[simp] theorem okD_bl {n : Nat} : okD n (.bl p) = true := by cases n <;> rfl
@[simp] theorem okD_non {n : Nat} : okD n .non = true := by cases n <;> rfl
@[simp] theorem okD_t12 : okD 12 (.tup xs) = okDs 11 xs := rfl
@[simp] theorem okD_t11 : okD 11 (.tup xs) = okDs 10 xs := rfl
@[simp] theorem okD_t10 : okD 10 (.tup xs) = okDs 9 xs := rfl
@[simp] theorem okD_l12 : okD 12 (.lst xs) = okDs 11 xs := rfl
@[simp] theorem okD_l11 : okD 11 (.lst xs) = okDs 10 xs := rfl
@[simp] theorem okD_l10 : okD 10 (.lst xs) = okDs 9 xs := rfl
@[simp] theorem deq_i : deq (.int i) (.int j) = decide (i = j) := by
  rw [deq]
  by_cases h : i = j <;> simp [h]
@[simp] theorem deq_b : deq (.bl p) (.bl q) = decide (p = q) := by
  rw [deq]
  by_cases h : p = q <;> simp [h]
@[simp] theorem deq_t : deq (.tup xs) (.tup ys) = deqs xs ys := by rw [deq]
@[simp] theorem deq_l : deq (.lst xs) (.lst ys) = deqs xs ys := by rw [deq]
@[simp] theorem deq_nn : deq .non .non = true := by rw [deq]
@[simp] theorem deqs_nil : deqs [] [] = true := by rw [deqs]
@[simp] theorem deqs_cons {d e : D} : deqs (d :: xs) (e :: ys) = (deq d e && deqs xs ys) := by rw [deqs]
@[simp] theorem deqs_nc {e : D} : deqs [] (e :: ys) = false := by simp [deqs]
@[simp] theorem deqs_cn {e : D} : deqs (e :: ys) [] = false := by simp [deqs]
theorem deqs_m : ∀ (ns ms : List Int), deqs (ns.map D.int) (ms.map D.int) = decide (ns = ms)
  | [], [] => by simp
  | [], m :: ms => by simp
  | n :: ns, [] => by simp
  | n :: ns, m :: ms => by
    simp only [List.map_cons, deqs_cons, deq_i, deqs_m ns ms]
    by_cases h1 : n = m <;> by_cases h2 : ns = ms <;> simp [h1, h2]
@[simp] theorem deqs_mm : deqs (ns.map D.int) (ms.map D.int) = decide (ns = ms) := deqs_m ns ms
@[simp] theorem gEq_eq {a b : D} : gEq a b = if okD 12 a && okD 12 b then some (.p (.bl (deq a b))) else none := rfl
@[simp] theorem gNe_eq {a b : D} : gNe a b = if okD 12 a && okD 12 b then some (.p (.bl (!deq a b))) else none := rfl
theorem mul_ok (h : -18446744073709551616 < i ∧ i < 18446744073709551616) : mulOk i j = true := by
  unfold mulOk
  rw [decide_eq_true (show i.natAbs < 18446744073709551616 by omega)]
  rfl
theorem mul_ok2 (h : -18446744073709551616 < j ∧ j < 18446744073709551616) : mulOk i j = true := by
  unfold mulOk
  rw [decide_eq_true (show j.natAbs < 18446744073709551616 by omega), Bool.or_true]
@[simp] theorem atI_0 {α : Type} {x : α} {l : List α} : atI (x :: l) 0 = some x := by
  unfold atI ixN
  rw [if_pos (by omega), if_pos (by simp)]
  rfl
@[simp] theorem atI_1 {α : Type} {x y : α} {l : List α} : atI (x :: y :: l) 1 = some y := by
  unfold atI ixN
  rw [if_pos (by omega), if_pos (by simp; omega)]
  rfl
@[simp] theorem atI_2 {α : Type} {x y z : α} {l : List α} : atI (x :: y :: z :: l) 2 = some z := by
  unfold atI ixN
  rw [if_pos (by omega), if_pos (by simp; omega)]
  rfl
@[simp] theorem ixN_0 {n : Nat} : ixN (n + 1) 0 = some 0 := by
  unfold ixN
  rw [if_pos (by omega), if_pos (by omega)]
  rfl
@[simp] theorem ixN_1 {n : Nat} : ixN (n + 1 + 1) 1 = some 1 := by
  unfold ixN
  rw [if_pos (by omega), if_pos (by omega)]
  rfl
theorem ixN_at {n : Nat} {i : Int} (h0 : 0 ≤ i) (h1 : i < n) : ixN n i = some i.toNat := by
  unfold ixN
  rw [if_pos h0, if_pos h1]
theorem atI_at {α : Type} {l : List α} {i : Int} (h0 : 0 ≤ i) (h1 : i < l.length) : atI l i = l[i.toNat]? := by
  unfold atI
  rw [ixN_at h0 h1]
  rfl
theorem atI_map {α β : Type} {f : α → β} {l : List α} {i : Int} : atI (l.map f) i = (atI l i).map f := by
  unfold atI
  rw [List.length_map]
  cases ixN l.length i with
  | none => rfl
  | some j => simp
/-! loops -/
theorem for_inv {tg : TGf} {body : FS} (I : Ds → Prop) : ∀ {ds : List D} {st : Ds}, I st → (∀ d, d ∈ ds → ∀ st, I st → ∃ st1 st', tg d st = some st1 ∧ body st1 = .ok (.nx st') ∧ I st') → ∃ st', forL tg body ds st = .ok (.nx st') ∧ I st'
  | [], st, h, _ => ⟨st, rfl, h⟩
  | d :: ds, st, h, hs => by
    obtain ⟨st1, st', e1, e2, h'⟩ := hs d (by simp) st h
    obtain ⟨st2, e3, h2⟩ := for_inv I h' fun d' hd st hst => hs d' (List.mem_cons_of_mem _ hd) st hst
    refine ⟨st2, ?_, h2⟩
    unfold forL
    rw [e1]
    show (body st1).bind _ = _
    rw [e2]
    exact e3
/-- a loop with a state of its own: the items in turn -/
theorem for_fold {tg : TGf} {body : FS} {α : Type} (mk : α → Ds → Prop) (f : α → D → α) : ∀ {ds : List D} {st : Ds} {a : α}, mk a st → (∀ d, d ∈ ds → ∀ a st, mk a st → ∃ st1 st', tg d st = some st1 ∧ body st1 = .ok (.nx st') ∧ mk (f a d) st') → ∃ st', forL tg body ds st = .ok (.nx st') ∧ mk (ds.foldl f a) st'
  | [], st, a, h, _ => ⟨st, rfl, h⟩
  | d :: ds, st, a, h, hs => by
    obtain ⟨st1, st', e1, e2, h'⟩ := hs d (by simp) a st h
    obtain ⟨st2, e3, h2⟩ := for_fold mk f h' fun d' hd a st hst => hs d' (List.mem_cons_of_mem _ hd) a st hst
    refine ⟨st2, ?_, h2⟩
    unfold forL
    rw [e1]
    show (body st1).bind _ = _
    rw [e2]
    exact e3
theorem forL_nil {tg : TGf} {body : FS} {st : Ds} : forL tg body [] st = .ok (.nx st) := rfl
theorem forL_step {tg : TGf} {body : FS} {d : D} {ds : List D} {st st1 st2 : Ds} (e1 : tg d st = some st1) (e2 : body st1 = .ok (.nx st2)) : forL tg body (d :: ds) st = forL tg body ds st2 := by
  show (match tg d st with | some st1 => (body st1).bind _ | none => .stuck) = _
  rw [e1]
  show (body st1).bind _ = _
  rw [e2]
  rfl
def nE (f : FE) : FE := fun st => (f st).noErr
/-- a comprehension without a condition whose items keep the state -/
theorem lc_map {tg : TGf} {fe : FE} {vs : List Nat} {st : Ds} (g : D → D) : ∀ {ds : List D} {acc : List D}, acc.length + ds.length ≤ 100000 →
    (∀ d, d ∈ ds → ∃ st1 st3 v, tg d st = some st1 ∧ fe st1 = .ok (v, st1) ∧ fzV v st1 = some (g d, st3) ∧ wipeD st3 vs = st) → lcL tg (nE fYes) (nE fe) vs ds acc st = .ok (acc ++ ds.map g, st)
  | [], acc, _, _ => by simp [lcL]
  | d :: ds, acc, hl, hs => by
    obtain ⟨st1, st3, v, e1, e2, e3, e4⟩ := hs d (by simp)
    unfold lcL
    rw [e1]
    show (fe st1).noErr.bind _ = _
    rw [e2]
    show (match fzV v st1 with | some (z, st3) => if acc.length < 100000 then lcL tg _ _ vs ds (acc ++ [z]) (wipeD st3 vs) else .stuck | none => .stuck) = _
    rw [e3]
    show (if acc.length < 100000 then lcL tg _ _ vs ds (acc ++ [g d]) (wipeD st3 vs) else .stuck) = _
    rw [List.length_cons] at hl
    rw [if_pos (by omega), e4, lc_map g (by rw [List.length_append, List.length_singleton]; omega) fun d' hd => hs d' (List.mem_cons_of_mem _ hd)]
    simp
/-- one whose items change the state -/
theorem lc_inv {tg : TGf} {fe : FE} {vs : List Nat} (I : Ds → Prop) (Pr : D → Prop) : ∀ {ds : List D} {acc : List D} {st : Ds}, acc.length + ds.length ≤ 100000 → I st → (∀ x ∈ acc, Pr x) →
    (∀ d, d ∈ ds → ∀ st, I st → ∃ st1 st2 st3 v z, tg d st = some st1 ∧ fe st1 = .ok (v, st2) ∧ fzV v st2 = some (z, st3) ∧ I (wipeD st3 vs) ∧ Pr z) → ∃ out st', lcL tg (nE fYes) (nE fe) vs ds acc st = .ok (out, st') ∧ I st' ∧ out.length = acc.length + ds.length ∧ ∀ x ∈ out, Pr x
  | [], acc, st, _, h, hp, _ => ⟨acc, st, rfl, h, rfl, hp⟩
  | d :: ds, acc, st, hl, h, hp, hs => by
    obtain ⟨st1, st2, st3, v, z, e1, e2, e3, e4, e5⟩ := hs d (by simp) st h
    rw [List.length_cons] at hl
    obtain ⟨out, st', q1, q2, q3, q4⟩ := lc_inv (tg := tg) (fe := fe) (vs := vs) I Pr (ds := ds) (acc := acc ++ [z]) (by rw [List.length_append, List.length_singleton]; omega) e4 (fun x hx => by
      rcases List.mem_append.mp hx with hx | hx
      · exact hp x hx
      · rw [List.mem_singleton.mp hx]; exact e5) fun d' hd => hs d' (List.mem_cons_of_mem _ hd)
    refine ⟨out, st', ?_, q2, by rw [q3, List.length_append, List.length_singleton, List.length_cons]; omega, q4⟩
    unfold lcL
    rw [e1]
    show (fe st1).noErr.bind _ = _
    rw [e2]
    show (match fzV v st2 with | some (z, st3) => if acc.length < 100000 then lcL tg _ _ vs ds (acc ++ [z]) (wipeD st3 vs) else .stuck | none => .stuck) = _
    rw [e3]
    show (if acc.length < 100000 then lcL tg _ _ vs ds (acc ++ [z]) (wipeD st3 vs) else .stuck) = _
    rw [if_pos (by omega), q1]
theorem mem_rng {lo : Int} {n : Nat} {d : D} (h : d ∈ rng lo n) : ∃ k : Nat, k < n ∧ d = .int (lo + k) := by
  unfold rng at h
  obtain ⟨k, h1, h2⟩ := List.mem_map.mp h
  exact ⟨k, List.mem_range.mp h1, h2.symm⟩
@[simp] theorem rng_len {lo : Int} {n : Nat} : (rng lo n).length = n := by simp [rng]
end
end DK

set_option Elab.async false
set_option linter.all false
set_option maxRecDepth 100000
set_option maxHeartbeats 1000000
/-! the mathematics of scores -/
namespace DK
open PySem PySem.Spec PyProof.Rows L2 RZ
abbrev iT (ns : List Int) : D := .tup (ns.map D.int)
def dot (ws ms : List Int) : Int := (List.zipWith (· * ·) ws ms).sum
def desc (l : List Int) : List Int := (srt l).reverse
@[simp] theorem dot_nil {ms : List Int} : dot [] ms = 0 := rfl
@[simp] theorem dot_nilr {ws : List Int} : dot ws [] = 0 := by cases ws <;> rfl
@[simp] theorem dot_cons {w m : Int} {ws ms : List Int} : dot (w :: ws) (m :: ms) = w * m + dot ws ms := by simp [dot]
theorem srt_congr {l m : List Int} (h : l.Perm m) : srt l = srt m := sorted_one (((srt_perm l).trans h).trans (srt_perm m).symm) (srt_sorted l) (srt_sorted m)
theorem desc_congr {l m : List Int} (h : l.Perm m) : desc l = desc m := by unfold desc; rw [srt_congr h]
theorem desc_perm (l : List Int) : (desc l).Perm l := (List.reverse_perm _).trans (srt_perm l)
theorem desc_len (l : List Int) : (desc l).length = l.length := (desc_perm l).length_eq
theorem srt_len (l : List Int) : (srt l).length = l.length := (srt_perm l).length_eq
theorem desc_mem {l : List Int} {x : Int} : x ∈ desc l ↔ x ∈ l := (desc_perm l).mem_iff
theorem desc_sorted (l : List Int) : (desc l).Pairwise (fun a b => b ≤ a) := by
  unfold desc
  rw [List.pairwise_reverse]
  exact srt_sorted l
theorem desc_one {l m : List Int} (p : m.Perm l) (s : m.Pairwise (fun a b => b ≤ a)) : desc l = m := by
  have h1 : srt l = m.reverse := sorted_one (((srt_perm l).trans p.symm).trans (List.reverse_perm m).symm) (srt_sorted l) (by rw [List.pairwise_reverse]; exact s)
  unfold desc
  rw [h1, List.reverse_reverse]
theorem srt_map_add (c : Int) (l : List Int) : srt (l.map (· + c)) = (srt l).map (· + c) := by
  refine sorted_one (((srt_perm _).trans ?_)) (srt_sorted _) ?_
  · exact ((srt_perm l).map _).symm
  · rw [List.pairwise_map]
    exact (srt_sorted l).imp fun h => by omega
theorem desc_map_add (c : Int) (l : List Int) : desc (l.map (· + c)) = (desc l).map (· + c) := by
  unfold desc
  rw [srt_map_add, List.map_reverse]
theorem max_cons {l : List Int} (h : l ≠ []) : desc l = maxI l :: desc (l.erase (maxI l)) := by
  obtain ⟨h1, h2⟩ := maxI_spec h
  refine desc_one ?_ ?_
  · exact ((desc_perm _).cons _).trans (List.perm_cons_erase h1).symm
  · refine List.pairwise_cons.mpr ⟨fun y hy => h2 y (List.mem_of_mem_erase (desc_mem.mp hy)), desc_sorted _⟩
theorem rem1_erase : ∀ {l : List Int} {k : Int}, k ∈ l → rem1 k l = some (l.erase k)
  | [], k, h => by cases h
  | x :: r, k, h => by
    unfold rem1
    by_cases e : x = k
    · subst e; simp
    · rw [if_neg e, rem1_erase (by rcases List.mem_cons.mp h with h | h; exact (e h.symm).elim; exact h)]
      rw [List.erase_cons_tail (by simpa using e)]
/-! pointwise -/
inductive F2 : List Int → List Int → Prop
  | nil : F2 [] []
  | cons {x y : Int} {l m : List Int} (h : x ≤ y) (t : F2 l m) : F2 (x :: l) (y :: m)
theorem F2.len {l m : List Int} (h : F2 l m) : l.length = m.length := by
  induction h with
  | nil => rfl
  | cons _ _ ih => simp [ih]
theorem F2.refl : ∀ l : List Int, F2 l l
  | [] => .nil
  | x :: l => .cons (Int.le_refl _) (F2.refl l)
theorem F2.app {l m l' m' : List Int} (h : F2 l m) (k : F2 l' m') : F2 (l ++ l') (m ++ m') := by
  induction h with
  | nil => exact k
  | cons e _ ih => exact .cons e ih
theorem F2.rev {l m : List Int} (h : F2 l m) : F2 l.reverse m.reverse := by
  induction h with
  | nil => exact .nil
  | cons e _ ih => rw [List.reverse_cons, List.reverse_cons]; exact ih.app (.cons e .nil)
theorem ins_low {x : Int} {l : List Int} (h : ∀ y ∈ l, x ≤ y) : ins x l = x :: l := by
  cases l with
  | nil => rfl
  | cons y r => unfold ins; rw [if_pos (h y (by simp))]
theorem F2.ins {x y : Int} (h : x ≤ y) : ∀ {l m : List Int}, l.Pairwise (· ≤ ·) → m.Pairwise (· ≤ ·) → F2 l m → F2 (DK.ins x l) (DK.ins y m) := by
  intro l
  induction l generalizing x y with
  | nil =>
    intro m _ _ k
    cases k
    exact .cons h .nil
  | cons a l ih =>
    intro m hl hm k
    cases k with
    | @cons _ b _ m hab k =>
      have hl' := List.pairwise_cons.mp hl
      have hm' := List.pairwise_cons.mp hm
      unfold DK.ins
      by_cases h1 : x ≤ a <;> by_cases h2 : y ≤ b
      · rw [if_pos h1, if_pos h2]; exact .cons h (.cons hab k)
      · rw [if_pos h1, if_neg h2]
        have := ih (x := a) (y := y) (by omega) hl'.2 hm'.2 k
        rw [ins_low hl'.1] at this
        exact .cons (by omega) this
      · rw [if_neg h1, if_pos h2]
        have := ih (x := x) (y := b) (by omega) hl'.2 hm'.2 k
        rw [ins_low hm'.1] at this
        exact .cons (by omega) this
      · rw [if_neg h1, if_neg h2]
        exact .cons hab (ih h hl'.2 hm'.2 k)
theorem F2.srt {l m : List Int} (h : F2 l m) : F2 (DK.srt l) (DK.srt m) := by
  induction h with
  | nil => exact .nil
  | @cons x y l m e _ ih => exact ih.ins e (srt_sorted _) (srt_sorted _)
theorem F2.desc {l m : List Int} (h : F2 l m) : F2 (DK.desc l) (DK.desc m) := h.srt.rev
theorem dot_mono : ∀ {ws l m : List Int}, (∀ w ∈ ws, 0 ≤ w) → F2 l m → dot ws l ≤ dot ws m
  | [], l, m, _, _ => by simp
  | w :: ws, _, _, _, .nil => by simp
  | w :: ws, _, _, h, .cons e t => by
    rw [dot_cons, dot_cons]
    exact Int.add_le_add (Int.mul_le_mul_of_nonneg_left e (h w (by simp))) (dot_mono (fun w hw => h w (by simp [hw])) t)
theorem dot_add (c : Int) : ∀ {ws l : List Int}, ws.length = l.length → dot ws (l.map (· + c)) = dot ws l + c * ws.sum
  | [], l, _ => by simp
  | w :: ws, [], h => by simp at h
  | w :: ws, m :: l, h => by
    rw [List.map_cons, dot_cons, dot_cons, dot_add c (by simpa using h), List.sum_cons, Int.mul_add, Int.mul_add, Int.mul_comm w c]
    omega
theorem dot_le {b : Int} : ∀ {ws l : List Int}, (∀ w ∈ ws, 0 ≤ w) → ws.length = l.length → (∀ m ∈ l, m ≤ b) → dot ws l ≤ b * ws.sum
  | [], l, _, _, _ => by simp
  | w :: ws, [], _, h, _ => by simp at h
  | w :: ws, m :: l, hw, h, hl => by
    rw [dot_cons, List.sum_cons, Int.mul_add, Int.mul_comm b w]
    exact Int.add_le_add (Int.mul_le_mul_of_nonneg_left (hl m (by simp)) (hw w (by simp))) (dot_le (fun w h => hw w (by simp [h])) (by simpa using h) (fun w h => hl w (by simp [h])))
theorem le_dot {b : Int} : ∀ {ws l : List Int}, (∀ w ∈ ws, 0 ≤ w) → ws.length = l.length → (∀ m ∈ l, b ≤ m) → b * ws.sum ≤ dot ws l
  | [], l, _, _, _ => by simp
  | w :: ws, [], _, h, _ => by simp at h
  | w :: ws, m :: l, hw, h, hl => by
    rw [dot_cons, List.sum_cons, Int.mul_add, Int.mul_comm b w]
    exact Int.add_le_add (Int.mul_le_mul_of_nonneg_left (hl m (by simp)) (hw w (by simp))) (le_dot (fun w h => hw w (by simp [h])) (by simpa using h) (fun w h => hl w (by simp [h])))
theorem sum_nonneg : ∀ {l : List Int}, (∀ m ∈ l, 0 ≤ m) → 0 ≤ l.sum
  | [], _ => by simp
  | m :: l, h => by
    rw [List.sum_cons]
    have := h m (by simp)
    have := sum_nonneg (l := l) fun m hm => h m (by simp [hm])
    omega
theorem sum_le {b : Int} : ∀ {l : List Int}, (∀ m ∈ l, m ≤ b) → l.sum ≤ b * l.length
  | [], _ => by simp
  | m :: l, h => by
    rw [List.sum_cons, List.length_cons]
    have h1 := h m (by simp)
    have h2 := sum_le (l := l) fun m hm => h m (by simp [hm])
    have : b * ((l.length + 1 : Nat) : Int) = b * l.length + b := by
      rw [Int.natCast_add, Int.mul_add]; simp
    omega
/-! fractions -/
def gg (a b : Int) : Int := ((Int.gcd a b : Nat) : Int)
def fr (a b : Int) : D := .tup [.int (a / gg a b), .int (b / gg a b)]
theorem gg_pos {a b : Int} (h : 0 < b) : 0 < gg a b := by
  unfold gg
  have : 0 < Int.gcd a b := Nat.pos_of_ne_zero fun e => by
    have := Int.gcd_eq_zero_iff.mp e
    omega
  omega
theorem gg_dvd1 (a b : Int) : gg a b ∣ a := Int.gcd_dvd_left ..
theorem gg_dvd2 (a b : Int) : gg a b ∣ b := Int.gcd_dvd_right ..
theorem gg_le {a b : Int} (h : 0 < b) : gg a b ≤ b := Int.le_of_dvd h (gg_dvd2 a b)
theorem gg_1 (a b : Int) : a / gg a b * gg a b = a := Int.ediv_mul_cancel (gg_dvd1 a b)
theorem gg_2 (a b : Int) : b / gg a b * gg a b = b := Int.ediv_mul_cancel (gg_dvd2 a b)
/-- comparing fractions -/
theorem fr_lt {a b c d : Int} (hb : 0 < b) (hd : 0 < d) : (a / gg a b) * (d / gg c d) < (c / gg c d) * (b / gg a b) ↔ a * d < c * b := by
  have h1 := gg_pos (a := a) hb
  have h2 := gg_pos (a := c) hd
  have e1 := gg_1 a b
  have e2 := gg_2 a b
  have e3 := gg_1 c d
  have e4 := gg_2 c d
  generalize gg a b = g at *
  generalize gg c d = k at *
  generalize a / g = a0 at *
  generalize b / g = b0 at *
  generalize c / k = c0 at *
  generalize d / k = d0 at *
  subst e1 e2 e3 e4
  have x1 : a0 * g * (d0 * k) = a0 * d0 * (g * k) := by simp only [Int.mul_assoc, Int.mul_left_comm, Int.mul_comm]
  have x2 : c0 * k * (b0 * g) = c0 * b0 * (g * k) := by simp only [Int.mul_assoc, Int.mul_left_comm, Int.mul_comm]
  rw [x1, x2]
  exact ⟨fun h => Int.mul_lt_mul_of_pos_right h (Int.mul_pos h1 h2), fun h => Int.lt_of_mul_lt_mul_right h (Int.le_of_lt (Int.mul_pos h1 h2))⟩
theorem fr_eq {a b c d : Int} (hb : 0 < b) (hd : 0 < d) : (a / gg a b) * (d / gg c d) = (c / gg c d) * (b / gg a b) ↔ a * d = c * b := by
  have h1 := gg_pos (a := a) hb
  have h2 := gg_pos (a := c) hd
  have e1 := gg_1 a b
  have e2 := gg_2 a b
  have e3 := gg_1 c d
  have e4 := gg_2 c d
  generalize gg a b = g at *
  generalize gg c d = k at *
  generalize a / g = a0 at *
  generalize b / g = b0 at *
  generalize c / k = c0 at *
  generalize d / k = d0 at *
  subst e1 e2 e3 e4
  have x1 : a0 * g * (d0 * k) = a0 * d0 * (g * k) := by simp only [Int.mul_assoc, Int.mul_left_comm, Int.mul_comm]
  have x2 : c0 * k * (b0 * g) = c0 * b0 * (g * k) := by simp only [Int.mul_assoc, Int.mul_left_comm, Int.mul_comm]
  rw [x1, x2]
  have : g * k ≠ 0 := fun e => by have := Int.mul_pos h1 h2; omega
  exact ⟨fun h => by rw [h], fun h => Int.eq_of_mul_eq_mul_right this h⟩
/-! the loop of the greatest common divisor -/
theorem gcd_loop {s0 s1 : Sl} : ∀ (n : Nat) (x y : Nat), y < n → whL (fOp2 gGt (fV 3) (fC (.int 0))) (fPar [2, 3] (fCons (fV 3) (fCons (fOp2 gMod (fV 2) (fV 3)) fNil))) n [s0, s1, .p (.int x), .p (.int y)] = .ok (.nx [s0, s1, .p (.int (Nat.gcd x y : Nat)), .p (.int 0)])
  | 0, x, y, h => by omega
  | n + 1, x, 0, h => by
    unfold whL
    simp
  | n + 1, x, y + 1, h => by
    have hp : (0 : Int) < ((y + 1 : Nat) : Int) := by omega
    have ih := gcd_loop (s0 := s0) (s1 := s1) n (y + 1) (x % (y + 1)) (by have := Nat.mod_lt x (show 0 < y + 1 by omega); omega)
    have e : Nat.gcd (y + 1) (x % (y + 1)) = Nat.gcd x (y + 1) := by rw [Nat.gcd_comm x (y + 1), Nat.gcd_rec (y + 1) x, Nat.gcd_comm]
    rw [e] at ih
    unfold whL
    have t : fOp2 gGt (fV 3) (fC (.int 0)) [s0, s1, .p (.int x), .p (.int ((y + 1 : Nat) : Int))] = .ok (.p (.bl true), [s0, s1, .p (.int x), .p (.int ((y + 1 : Nat) : Int))]) := by
      simp [hp]
      try omega
    have b : fPar [2, 3] (fCons (fV 3) (fCons (fOp2 gMod (fV 2) (fV 3)) fNil)) [s0, s1, .p (.int x), .p (.int ((y + 1 : Nat) : Int))] = .ok (.nx [s0, s1, .p (.int ((y + 1 : Nat) : Int)), .p (.int ((x % (y + 1) : Nat) : Int))]) := by
      have : (x : Int) % ((y : Int) + 1) = ((x % (y + 1) : Nat) : Int) := by simp
      simp [show (0 : Int) < (y : Int) + 1 by omega]
    rw [t]
    show (fPar [2, 3] _ _).bind _ = _
    rw [b]
    exact ih
theorem gcd_loopI {s0 s1 : Sl} {x y : Int} (hx : 0 ≤ x) (hy : 0 ≤ y) : whL (fOp2 gGt (fV 3) (fC (.int 0))) (fPar [2, 3] (fCons (fV 3) (fCons (fOp2 gMod (fV 2) (fV 3)) fNil))) (y.toNat + 2) [s0, s1, .p (.int x), .p (.int y)] = .ok (.nx [s0, s1, .p (.int (gg x y)), .p (.int 0)]) := by
  have h := gcd_loop (s0 := s0) (s1 := s1) (y.toNat + 2) x.toNat y.toNat (by omega)
  rw [Int.toNat_of_nonneg hx, Int.toNat_of_nonneg hy] at h
  rw [h]
  unfold gg Int.gcd
  have e1 : x.natAbs = x.toNat := by omega
  have e2 : y.natAbs = y.toNat := by omega
  rw [e1, e2]
/-! zip of ints -/
theorem zipD_ints : ∀ (ws ms : List Int), zipD (ws.map D.int) (ms.map D.int) = (ws.zip ms).map fun p => .tup [.int p.1, .int p.2]
  | [], ms => by simp [zipD]
  | w :: ws, [] => by simp [zipD]
  | w :: ws, m :: ms => by simp [zipD, zipD_ints ws ms]
def mulD : D → D
  | .tup [.int w, .int m] => .int (w * m)
  | d => d
theorem mulD_zip : ∀ (ws ms : List Int), (zipD (ws.map D.int) (ms.map D.int)).map mulD = (List.zipWith (· * ·) ws ms).map D.int
  | [], ms => by simp [zipD]
  | w :: ws, [] => by simp [zipD]
  | w :: ws, m :: ms => by simp [zipD, mulD, mulD_zip ws ms]
theorem mem_zipD {ws ms : List Int} {d : D} (h : d ∈ zipD (ws.map D.int) (ms.map D.int)) : ∃ w m, w ∈ ws ∧ m ∈ ms ∧ d = .tup [.int w, .int m] := by
  rw [zipD_ints] at h
  obtain ⟨⟨w, m⟩, h1, h2⟩ := List.mem_map.mp h
  exact ⟨w, m, (List.of_mem_zip h1).1, (List.of_mem_zip h1).2, h2.symm⟩
/-! weights, marks -/
structure Wts (ws : List Int) : Prop where
  ne : ws ≠ []
  len : ws.length ≤ 8
  lo : ∀ w ∈ ws, 0 ≤ w
  hi : ∀ w ∈ ws, w ≤ 1000
  sum : 0 < ws.sum
structure Mks (n : Nat) (ms : List Int) : Prop where
  len : ms.length = n
  lo : ∀ m ∈ ms, 0 ≤ m
  hi : ∀ m ∈ ms, m ≤ 1000
theorem Wts.sum_le {ws : List Int} (h : Wts ws) : ws.sum ≤ 8000 := by
  have := DK.sum_le h.hi
  have := h.len
  omega
theorem Wts.pos {ws : List Int} (h : Wts ws) : 0 < ws.length := List.length_pos_iff.mpr h.ne
theorem Mks.perm {n : Nat} {l m : List Int} (h : Mks n l) (p : m.Perm l) : Mks n m := ⟨by rw [p.length_eq, h.len], fun x hx => h.lo x (p.mem_iff.mp hx), fun x hx => h.hi x (p.mem_iff.mp hx)⟩
theorem Mks.ne {n : Nat} {l : List Int} (h : Mks n l) (hn : 0 < n) : l ≠ [] := fun e => by have := h.len; rw [e] at this; simp at this; omega
theorem dot_nonneg {ws ms : List Int} (hw : ∀ w ∈ ws, 0 ≤ w) (hl : ws.length = ms.length) (hm : ∀ m ∈ ms, 0 ≤ m) : 0 ≤ dot ws ms := by
  have := le_dot (b := 0) hw hl hm
  omega
/-- a source's content -/
structure Sr (a b : Int) : Prop where
  a0 : 0 ≤ a
  b0 : 0 ≤ b
  b1 : b < 2147483647
theorem cut_from {xs : List D} {i : Int} (h0 : 0 ≤ i) (h1 : i ≤ xs.length) : cutD xs (some i) none = xs.drop i.toNat := by
  unfold cutD
  have e1 : HT.sIx xs.length 0 (some i) = i.toNat := by
    show (if i < 0 then (i + (xs.length : Int)).toNat else min i.toNat xs.length) = i.toNat
    rw [if_neg (by omega)]
    omega
  rw [e1, HT.sIx_none]
  apply List.take_of_length_le
  rw [List.length_drop]
  omega
theorem cut_to {xs : List D} {i : Int} (h0 : 0 ≤ i) (h1 : i ≤ xs.length) : cutD xs none (some i) = xs.take i.toNat := by
  unfold cutD
  have e1 : HT.sIx xs.length xs.length (some i) = i.toNat := by
    show (if i < 0 then (i + (xs.length : Int)).toNat else min i.toNat xs.length) = i.toNat
    rw [if_neg (by omega)]
    omega
  rw [e1, HT.sIx_none]
  simp
theorem rot_perm (l : List Int) (i : Nat) : (l.drop i ++ l.take i).Perm l := List.perm_append_comm.trans (by rw [List.take_append_drop])
theorem F2.set {x : Int} : ∀ {l : List Int} {i : Nat} (h : i < l.length), l[i] ≤ x → F2 l (l.take i ++ x :: l.drop (i + 1))
  | y :: l, 0, h, e => .cons e (F2.refl l)
  | y :: l, i + 1, h, e => .cons (Int.le_refl _) (F2.set (l := l) (i := i) (by simpa using h) e)
/-- a fraction with marks raised -/
theorem fr_add {a b c : Int} (hb : 0 < b) : ((a + c * b) / gg (a + c * b) b - c * (b / gg (a + c * b) b)) * (b / gg a b) = a / gg a b * (b / gg (a + c * b) b) := by
  have h1 := gg_pos (a := a) hb
  have h2 := gg_pos (a := a + c * b) hb
  have e1 := gg_1 a b
  have e2 := gg_2 a b
  have e3 := gg_1 (a + c * b) b
  have e4 := gg_2 (a + c * b) b
  generalize gg (a + c * b) b = k at *
  generalize gg a b = g at *
  generalize hA : (a + c * b) / k = A at *
  generalize hB : b / k = B at *
  generalize hC : a / g = C at *
  generalize hE : b / g = F at *
  have x : (A - c * B) * k = a := by
    rw [Int.sub_mul, e3, Int.mul_assoc, e4]
    omega
  have y : ((A - c * B) * F) * (k * g) = (C * B) * (k * g) := by
    have p1 : ((A - c * B) * F) * (k * g) = ((A - c * B) * k) * (F * g) := by simp only [Int.mul_assoc, Int.mul_left_comm, Int.mul_comm]
    have p2 : (C * B) * (k * g) = (C * g) * (B * k) := by simp only [Int.mul_assoc, Int.mul_left_comm, Int.mul_comm]
    rw [p1, p2, x, e2, e1, e4]
  exact Int.eq_of_mul_eq_mul_right (by have := Int.mul_pos h2 h1; omega) y
end DK

set_option Elab.async false
set_option linter.all false
set_option maxRecDepth 100000
set_option maxHeartbeats 1000000
/-! xs.index(e) of a list of ints in a slot -/
namespace DK
open PySem PySem.Spec PyProof.Rows L2 RZ
variable [TabsC]
def idxI (k : Int) : List Int → Option Nat
  | [] => none
  | x :: r => if x = k then some 0 else match idxI k r with
    | some j => some (j + 1)
    | none => none
theorem idxI_ok : ∀ {ns : List Int} {k : Int} {j : Nat}, idxI k ns = some j → ns[j]? = some k ∧ ∀ m, m < j → ns[m]? ≠ some k
  | [], k, j, h => nomatch h
  | x :: ns, k, j, h => by
    unfold idxI at h
    split at h
    · rename_i e
      cases h
      exact ⟨by rw [e]; rfl, fun m hm => by omega⟩
    · rename_i e
      split at h
      · rename_i q e2
        cases h
        obtain ⟨h1, h2⟩ := idxI_ok e2
        refine ⟨h1, fun m hm => ?_⟩
        cases m with
        | zero => exact fun z => e (Option.some.inj z)
        | succ m => exact h2 m (by omega)
      · cases h
theorem idxI_mem : ∀ {ns : List Int} {k : Int}, k ∈ ns → ∃ j, idxI k ns = some j
  | [], k, h => by cases h
  | x :: ns, k, h => by
    unfold idxI
    by_cases e : x = k
    · exact ⟨0, by rw [if_pos e]⟩
    · rw [if_neg e]
      obtain ⟨j, hj⟩ := idxI_mem (ns := ns) (k := k) (by rcases List.mem_cons.mp h with h | h; exact (e h.symm).elim; exact h)
      exact ⟨j + 1, by rw [hj]⟩
def kIdx (i : Nat) (y : Vl × Ds) : R (Vl × Ds) := match y.1, y.2[i]? with
  | .p (.int k), some (.o xs) => match intsD xs with
    | some ns => match idxI k ns with
      | some j => .ok (.p (.int j), y.2)
      | none => .stuck
    | none => .stuck
  | _, _ => .stuck
def fIdx (i : Nat) (e : FE) : FE := fun st => match st[i]? with
  | some (.o _) => (e st).bind (kIdx i)
  | _ => .stuck
section
variable {K : PySem.W.Frag} {mg : Str → Option Value} {ad : Nat → Option Addr} {Fz H : Hp} {st : Ds} {σ : L2.St} {E : XK}
theorem tE_idx {i : Nat} {fe : FE} {Q : VK} (h : tE K mg ad E (fIdx i fe) σ H Q) : tBM K "list" (rIndex K) (tVar i) (tCons (tE K mg ad E fe) tNil) σ H Q := by
  obtain ⟨st, Fz, rs, h⟩ := h
  unfold fIdx at h
  split at h
  · rename_i xs0 e0
    obtain ⟨a, ys, vs, k1, k2, k3, k4, k5⟩ := rs.own ⟨xs0, .inl e0⟩
    refine ⟨.ref a, k2, .inl ⟨rfl, vs, .inl (.inl k3)⟩, ⟨st, Fz, rs, h.bind.imp fun ⟨v, st1⟩ h1 x Fz1 H1 e1 => ?_⟩⟩
    unfold kIdx at h1
    dsimp only at h1
    split at h1
    · rename_i k xs e3
      split at h1
      · rename_i ns en
        split at h1
        · rename_i j er
          obtain ⟨b, zs, us, m1, m2, m3, m4, m5⟩ := e1.rs.own ⟨xs, .inl e3⟩
          have : zs = xs := by
            rcases m1 with m1 | m1 <;> rw [e3] at m1 <;> cases m1 <;> rfl
          subst this
          rw [k2] at m2
          cases m2
          have ez := intsD_some en
          rw [ez] at m5
          have eu := repL_ints m5
          rw [eu] at m3
          obtain ⟨j1, j2⟩ := idxI_ok er
          have ex : x = .int k := VOk.int e1.val
          refine ⟨a, ns.map V.int, .int k, j, .int k, rfl, by rw [ex], .inl (.inl m3), rfl, by simp [flatV], by rw [List.getElem?_map, j1]; rfl, by simp [eqV], fun m z hm hz => ?_, ?_⟩
          · rw [List.getElem?_map] at hz
            cases ez : ns[m]? with
            | none => rw [ez] at hz; cases hz
            | some u =>
              rw [ez] at hz
              cases hz
              have ne : u ≠ k := fun z => j2 m hm (by rw [ez, z])
              simpa [eqV] using ne
          · exact h1 _ Fz1 H1 (EEnd.of_p e1.rs e1.fr (by rw [Rep]))
        · exact h1.elim
      · exact h1.elim
    · exact h1.elim
  · exact h.elim
end
section
variable {X : Cx} {E : XK} {e : Expr} {fe : FE} {p1 p2 p3 : Pos} {x : Str}
theorem m_idx (i : Nat) (he : DE X E e fe) (hN : X.N[i]? = some x := by rfl) (hv : Vis X.env.scope x := by first | exact Or.inl rfl | exact Or.inr (Or.inl rfl) | exact Or.inr (Or.inr rfl)) (hd : (x == ("__debug__" : Str)) = false := by decide)
    (hcd : (x == ("__classdict__" : Str)) = false := by decide)
    (hbase : attributeBase (.Name x p1) "index" X.env (eval (.Name x p1) X.env) = eval (.Name x p1) X.env := by rfl)
    (hfew : ((backTo p3 (starEach (e :: []) X.env)).all (fun x => !x.1) && (backToKw p3 (keywordEach [] X.env)).all (fun x => x.1.isSome)
      && decide ((e :: []).length + ([] : List Keyword).length + (if ([] : List Keyword).isEmpty then 0 else 1) < 30)) = true := by rfl)
    (hline : (p2.endLine == p3.line) = true := by rfl) (hs : starEach (e :: []) X.env = (false, eval e X.env) :: starEach [] X.env := by rfl) (hplain : (backTo p3 (starEach [] X.env)).any (·.1) = false := by rfl) :
    DE X E (.Call (.Attribute (.Name x p1) "index" p2) [e] [] p3) (fIdx i fe) := fun ad =>
  PE_conseq (pe_bm PySem.F.plainAttrs_list PySem.F.slot_list_index PySem.F.type_list_index mt_index (pe_var hN hv hd hcd) (pa_cons (he ad) pa_nil hs) hbase hfew hline hs hplain) fun σ H Q h => tE_idx h
end
@[simp] theorem fIdx_eq {i : Nat} {e : FE} {st : Ds} : fIdx i e st = (match st[i]? with
  | some (.o _) => (e st).bind (kIdx i)
  | _ => .stuck) := rfl
@[simp] theorem kIdx_eq {i : Nat} {k : Int} {st : Ds} : kIdx i (.p (.int k), st) = (match st[i]? with
  | some (.o xs) => match intsD xs with
    | some ns => match idxI k ns with
      | some j => .ok (.p (.int j), st)
      | none => .stuck
    | none => .stuck
  | _ => .stuck) := by
  unfold kIdx
  cases h : st[i]? with
  | none => simp [h]
  | some s => cases s <;> simp [h]
theorem tS_par3 {K : PySem.W.Frag} {mg : Str → Option Value} {ad : Nat → Option Addr} {H : Hp} {σ : L2.St} {E : XK} {D : Ends} {i j l : Nat} {fe : FA} (h : tS K mg ad E (fPar [i, j, l] fe) D σ H) : tPar3 i j l (tA K mg ad E fe) D σ H := by
  obtain ⟨st, Fz, rs, h⟩ := h
  refine ⟨st, Fz, rs, h.bind.imp fun ⟨vs, st1⟩ h1 xs Fz1 H1 e1 => ?_⟩
  dsimp only at h1
  split at h1
  · rename_i us st2 e
    split at h1
    · rename_i hl
      obtain ⟨Fz2, a1, a2, a3, a4, a5, a6, a7, a8⟩ := fzRs_ok e1.rs e1.fr e1.val e1.new e
      have k := puts_ok (is := [i, j, l]) hl.symm a4 a1 a2 a3 fun a z => e1.new a (a5 a z)
      have hx := a3.len
      rw [hl] at hx
      match xs, hx with
      | [x, y, z], _ => exact ⟨x, y, z, rfl, h1 _ Fz2 H1 k⟩
    · exact h1.elim
  · exact h1.elim
theorem ds_par3 {X : Cx} {E : XK} {a b c : Expr} {fl : FA} {x y z : Str} {pos : Pos} (i j l : Nat) {px py pz pt : Pos} {kt k2 pt2} (hN : X.N.Nodup) (ha : DA X E [a, b, c] fl) (hc : X.calm = true := by rfl) (hi : X.N[i]? = some x := by rfl) (hj : X.N[j]? = some y := by rfl) (hl : X.N[l]? = some z := by rfl)
    (hij : i ≠ j := by decide) (hil : i ≠ l := by decide) (hjl : j ≠ l := by decide)
    (hx : X.env.scope.names.lookup x = some .local := by rfl) (hy : X.env.scope.names.lookup y = some .local := by rfl) (hz : X.env.scope.names.lookup z = some .local := by rfl)
    (hw : swappedStores [.Tuple [.Name x px, .Name y py, .Name z pz] kt pt] (.Tuple [a, b, c] k2 pt2) X.env = pure (some [x, y, z]) := by rfl)
    (hs : swapsWithSole [.Tuple [.Name x px, .Name y py, .Name z pz] kt pt] (.Tuple [a, b, c] k2 pt2) pos.line X.env = pure false := by rfl) : DS X E (.Assign [.Tuple [.Name x px, .Name y py, .Name z pz] kt pt] (.Tuple [a, b, c] k2 pt2) pos) (fPar [i, j, l] fl) := fun ad => PS_conseq (ps_par3 hc hN hi hj hl hij hil hjl hx hy hz (ha ad) hw hs) fun D σ H h => tS_par3 h
end DK

set_option Elab.async false
set_option linter.all false
set_option maxRecDepth 100000
set_option maxHeartbeats 1000000
/-! gains, mixed weights, fractions scaled -/
namespace DK
open PySem PySem.Spec PyProof.Rows L2 RZ
/-! fractions scaled -/
theorem fr_scale {k a b : Int} (hk : 0 < k) : fr (k * a) (k * b) = fr a b := by
  have e : gg (k * a) (k * b) = k * gg a b := by
    unfold gg
    rw [Int.gcd_mul_left, Int.natCast_mul]
    congr 1
    omega
  unfold fr
  rw [e, Int.mul_ediv_mul_of_pos _ _ hk, Int.mul_ediv_mul_of_pos _ _ hk]
theorem fr_uniq {a b c d : Int} (hb : 0 < b) (hd : 0 < d) (h : a * d = c * b) : fr a b = fr c d := by
  rw [← fr_scale (k := d) (a := a) (b := b) hd, ← fr_scale (k := b) (a := c) (b := d) hb, Int.mul_comm d a, h, Int.mul_comm c b, Int.mul_comm d b]
/-! counting loops -/
theorem rng_succ (a : Int) (n : Nat) : rng a (n + 1) = .int a :: rng (a + 1) n := by
  unfold rng
  rw [List.range_succ_eq_map, List.map_cons, List.map_map]
  congr 1
  · simp
  · apply List.map_congr_left
    intro i _
    show D.int (a + ((i + 1 : Nat) : Int)) = D.int (a + 1 + i)
    congr 1
    omega
theorem for_rng {tg : TGf} {body : FS} (I : Nat → Ds → Prop) : ∀ (n a : Nat) {st : Ds}, I a st → (∀ c, a ≤ c → c < a + n → ∀ st, I c st → ∃ st1 st', tg (.int c) st = some st1 ∧ body st1 = .ok (.nx st') ∧ I (c + 1) st') → ∃ st', forL tg body (rng a n) st = .ok (.nx st') ∧ I (a + n) st'
  | 0, a, st, h, _ => ⟨st, rfl, h⟩
  | n + 1, a, st, h, hs => by
    obtain ⟨st1, st', e1, e2, h'⟩ := hs a (Nat.le_refl _) (by omega) st h
    obtain ⟨st2, e3, h2⟩ := for_rng I n (a + 1) h' fun c h1 h2 => hs c (by omega) (by omega)
    refine ⟨st2, ?_, by rw [show a + (n + 1) = a + 1 + n by omega]; exact h2⟩
    rw [rng_succ, forL_step e1 e2, show (a : Int) + 1 = ((a + 1 : Nat) : Int) by omega]
    exact e3
/-! gains -/
def pre (c : Nat) (l : List Int) : Int := (l.take c).sum
def gain (ws os : List Int) (c : Nat) : Int := pre c os * ws.sum - pre c ws * os.sum
def gains (ws os : List Int) : List Int := (List.range (ws.length + 1)).map (gain ws os)
theorem pre_lo {c : Nat} {l : List Int} (h : ∀ m ∈ l, 0 ≤ m) : 0 ≤ pre c l := sum_nonneg fun m hm => h m (List.mem_of_mem_take hm)
theorem pre_hi {c : Nat} {l : List Int} (h : ∀ m ∈ l, 0 ≤ m) : pre c l ≤ l.sum := by
  have h1 : (l.drop c).sum + pre c l = l.sum := by
    unfold pre
    have := List.take_append_drop c l
    conv => rhs; rw [← this, List.sum_append]
    omega
  have := sum_nonneg (l := l.drop c) fun m hm => h m (List.mem_of_mem_drop hm)
  omega
theorem gains_len (ws os : List Int) : (gains ws os).length = ws.length + 1 := by simp [gains]
theorem gain_zero (ws os : List Int) : gain ws os 0 = 0 := by simp [gain, pre]
theorem gains_zero (ws os : List Int) : (0 : Int) ∈ gains ws os := List.mem_map.mpr ⟨0, List.mem_range.mpr (by omega), gain_zero ws os⟩
theorem gains_ne (ws os : List Int) : gains ws os ≠ [] := fun e => by have := gains_zero ws os; rw [e] at this; cases this
def NL (ws os : List Int) : Prop := ∀ c, c ≤ ws.length → pre c os * ws.sum ≤ pre c ws * os.sum
theorem nl_iff (ws os : List Int) : maxI (gains ws os) = 0 ↔ NL ws os := by
  obtain ⟨h1, h2⟩ := maxI_spec (gains_ne ws os)
  constructor
  · intro h c hc
    have := h2 _ (List.mem_map.mpr ⟨c, List.mem_range.mpr (by omega), rfl⟩)
    unfold gain at this
    omega
  · intro h
    have h3 := h2 _ (gains_zero ws os)
    obtain ⟨c, hc, e⟩ := List.mem_map.mp h1
    have := h c (by have := List.mem_range.mp hc; omega)
    unfold gain at e
    omega
theorem sp_iff (ws os : List Int) : gains ws os = List.replicate (ws.length + 1) 0 ↔ ∀ c, c ≤ ws.length → pre c os * ws.sum = pre c ws * os.sum := by
  constructor
  · intro h c hc
    have : gain ws os c ∈ gains ws os := List.mem_map.mpr ⟨c, List.mem_range.mpr (by omega), rfl⟩
    rw [h] at this
    have := List.eq_of_mem_replicate this
    unfold gain at this
    omega
  · intro h
    refine List.eq_replicate_iff.mpr ⟨gains_len ws os, fun x hx => ?_⟩
    obtain ⟨c, hc, rfl⟩ := List.mem_map.mp hx
    have := h c (by have := List.mem_range.mp hc; omega)
    unfold gain
    omega
/-! the greatest common divisor of a list -/
def foldG (g : Int) (l : List Int) : Int := l.foldl (fun g w => gg w g) g
theorem foldG_nn : ∀ {l : List Int} {g : Int}, 0 ≤ g → 0 ≤ foldG g l
  | [], g, h => h
  | w :: l, g, h => foldG_nn (l := l) (g := gg w g) (by unfold gg; omega)
theorem foldG_dvd : ∀ {l : List Int} {g : Int}, foldG g l ∣ g ∧ ∀ w ∈ l, foldG g l ∣ w
  | [], g => ⟨Int.dvd_refl _, by simp⟩
  | w :: l, g => by
    obtain ⟨h1, h2⟩ := foldG_dvd (l := l) (g := gg w g)
    have e : foldG g (w :: l) = foldG (gg w g) l := rfl
    rw [e]
    exact ⟨Int.dvd_trans h1 (gg_dvd2 w g), fun x hx => by
      rcases List.mem_cons.mp hx with rfl | hx
      · exact Int.dvd_trans h1 (gg_dvd1 _ g)
      · exact h2 x hx⟩
theorem foldG_great : ∀ {l : List Int} {g d : Int}, d ∣ g → (∀ w ∈ l, d ∣ w) → d ∣ foldG g l
  | [], g, d, h, _ => h
  | w :: l, g, d, h, hl => foldG_great (l := l) (g := gg w g) (Int.dvd_coe_gcd (hl w (by simp)) h) fun x hx => hl x (by simp [hx])
theorem foldG_pos {l : List Int} {w : Int} (hw : w ∈ l) (h : 0 < w) : 0 < foldG 0 l ∧ foldG 0 l ≤ w := by
  have h1 := foldG_nn (l := l) (g := 0) (by omega)
  have h2 := (foldG_dvd (l := l) (g := 0)).2 w hw
  have h3 := Int.le_of_dvd h h2
  refine ⟨?_, h3⟩
  rcases Int.lt_or_eq_of_le h1 with h4 | h4
  · exact h4
  · rw [← h4] at h2
    obtain ⟨k, hk⟩ := h2
    rw [Int.zero_mul] at hk
    omega
theorem pos_mem : ∀ {l : List Int}, (∀ w ∈ l, 0 ≤ w) → 0 < l.sum → ∃ w ∈ l, 0 < w
  | [], _, h => by simp at h
  | x :: l, h, hs => by
    by_cases hx : 0 < x
    · exact ⟨x, by simp, hx⟩
    · have := h x (by simp)
      rw [List.sum_cons] at hs
      obtain ⟨w, hw, hp⟩ := pos_mem (l := l) (fun w hw => h w (by simp [hw])) (by omega)
      exact ⟨w, by simp [hw], hp⟩
/-- divided by it, there is none left -/
theorem foldG_one {l : List Int} (h : 0 < foldG 0 l) : foldG 0 (l.map (· / foldG 0 l)) = 1 := by
  have h0 := foldG_nn (l := l.map (· / foldG 0 l)) (g := 0) (by omega)
  have h1 := (foldG_dvd (l := l.map (· / foldG 0 l)) (g := 0)).2
  have h2 := (foldG_dvd (l := l) (g := 0)).2
  have h3 : foldG 0 l * foldG 0 (l.map (· / foldG 0 l)) ∣ foldG 0 l := foldG_great (Int.dvd_zero _) fun w hw => by
    have a := h1 (w / foldG 0 l) (List.mem_map.mpr ⟨w, hw, rfl⟩)
    have b := Int.mul_ediv_cancel' (h2 w hw)
    rw [← b]
    exact Int.mul_dvd_mul_left _ a
  obtain ⟨k, hk⟩ := h3
  have h4 : foldG 0 (l.map (· / foldG 0 l)) * k = 1 := by
    have : foldG 0 l * (foldG 0 (l.map (· / foldG 0 l)) * k) = foldG 0 l * 1 := by rw [← Int.mul_assoc, ← hk, Int.mul_one]
    exact Int.eq_of_mul_eq_mul_left (by omega) this
  have h5 : foldG 0 (l.map (· / foldG 0 l)) ∣ 1 := ⟨k, h4.symm⟩
  have := Int.le_of_dvd (by omega) h5
  rcases Int.lt_or_eq_of_le h0 with h6 | h6
  · omega
  · rw [← h6] at h4; omega
/-! mixed -/
def vmix (ws os : List Int) : List Int := List.zipWith (fun a b => a * os.sum + b * ws.sum) ws os
def mix (ws os : List Int) : List Int := (vmix ws os).map (· / foldG 0 (vmix ws os))
theorem zw_sum (s t : Int) : ∀ {ws os : List Int}, ws.length = os.length → ∀ c, ((List.zipWith (fun a b => a * s + b * t) ws os).take c).sum = (ws.take c).sum * s + (os.take c).sum * t
  | [], [], _, c => by simp
  | [], _ :: _, h, _ => by simp at h
  | _ :: _, [], h, _ => by simp at h
  | w :: ws, o :: os, h, 0 => by simp
  | w :: ws, o :: os, h, c + 1 => by
    have ih := zw_sum s t (ws := ws) (os := os) (by simpa using h) c
    simp only [List.zipWith_cons_cons, List.take_succ_cons, List.sum_cons, ih, Int.add_mul]
    omega
theorem vmix_len {ws os : List Int} (h : ws.length = os.length) : (vmix ws os).length = ws.length := by simp [vmix, h]
theorem vmix_pre {ws os : List Int} (h : ws.length = os.length) (c : Nat) : pre c (vmix ws os) = pre c ws * os.sum + pre c os * ws.sum := zw_sum _ _ h c
theorem vmix_sum {ws os : List Int} (h : ws.length = os.length) : (vmix ws os).sum = 2 * (ws.sum * os.sum) := by
  have e := vmix_pre h ws.length
  unfold pre at e
  rw [List.take_of_length_le (by rw [vmix_len h]; omega), List.take_of_length_le (by omega), List.take_of_length_le (by omega), Int.mul_comm os.sum] at e
  omega
theorem zw_dot (s t : Int) : ∀ {ws os ms : List Int}, ws.length = os.length → ws.length = ms.length → dot (List.zipWith (fun a b => a * s + b * t) ws os) ms = dot ws ms * s + dot os ms * t
  | [], [], ms, _, _ => by simp
  | [], _ :: _, _, h, _ => by simp at h
  | _ :: _, [], _, h, _ => by simp at h
  | _ :: _, _ :: _, [], _, h => by simp at h
  | w :: ws, o :: os, m :: ms, h, k => by
    have ih := zw_dot s t (ws := ws) (os := os) (ms := ms) (by simpa using h) (by simpa using k)
    simp only [List.zipWith_cons_cons, dot_cons, ih, Int.add_mul]
    have e1 : w * s * m = w * m * s := by rw [Int.mul_assoc, Int.mul_comm s m, ← Int.mul_assoc]
    have e2 : o * t * m = o * m * t := by rw [Int.mul_assoc, Int.mul_comm t m, ← Int.mul_assoc]
    omega
theorem vmix_dot {ws os ms : List Int} (h : ws.length = os.length) (k : ws.length = ms.length) : dot (vmix ws os) ms = dot ws ms * os.sum + dot os ms * ws.sum := zw_dot _ _ h k
theorem mem_zw {s t : Int} : ∀ {ws os : List Int} {v : Int}, v ∈ List.zipWith (fun a b => a * s + b * t) ws os → ∃ w o, w ∈ ws ∧ o ∈ os ∧ v = w * s + o * t
  | [], os, v, h => by simp at h
  | _ :: _, [], v, h => by simp at h
  | w :: ws, o :: os, v, h => by
    rw [List.zipWith_cons_cons] at h
    rcases List.mem_cons.mp h with rfl | h
    · exact ⟨w, o, by simp, by simp, rfl⟩
    · obtain ⟨w', o', h1, h2, h3⟩ := mem_zw h
      exact ⟨w', o', by simp [h1], by simp [h2], h3⟩
theorem vmix_bd {ws os : List Int} (W : Wts ws) (O : Wts os) {v : Int} (h : v ∈ vmix ws os) : 0 ≤ v ∧ v ≤ 16000000 := by
  obtain ⟨w, o, h1, h2, rfl⟩ := mem_zw h
  have a1 := W.lo w h1
  have a2 := W.hi w h1
  have b1 := O.lo o h2
  have b2 := O.hi o h2
  have s1 := W.sum_le
  have s2 := O.sum_le
  have p1 := W.sum
  have p2 := O.sum
  have m1 := Int.mul_le_mul a2 s2 (Int.le_of_lt p2) (by omega)
  have m2 := Int.mul_le_mul b2 s1 (Int.le_of_lt p1) (by omega)
  have n1 := Int.mul_nonneg a1 (Int.le_of_lt p2)
  have n2 := Int.mul_nonneg b1 (Int.le_of_lt p1)
  omega
theorem map_div_sum {g : Int} (hg : g ≠ 0) : ∀ {l : List Int}, (∀ w ∈ l, g ∣ w) → (l.map (· / g)).sum * g = l.sum
  | [], _ => by simp
  | w :: l, h => by
    simp only [List.map_cons, List.sum_cons, Int.add_mul, Int.ediv_mul_cancel (h w (by simp)), map_div_sum hg (l := l) fun w hw => h w (by simp [hw])]
theorem map_div_dot {g : Int} (hg : g ≠ 0) : ∀ {l ms : List Int}, (∀ w ∈ l, g ∣ w) → dot (l.map (· / g)) ms * g = dot l ms
  | [], ms, _ => by simp
  | w :: l, [], _ => by simp
  | w :: l, m :: ms, h => by
    have e : w / g * m * g = w * m := by rw [Int.mul_assoc, Int.mul_comm m g, ← Int.mul_assoc, Int.ediv_mul_cancel (h w (by simp))]
    simp only [List.map_cons, dot_cons, Int.add_mul, e, map_div_dot hg (l := l) fun w hw => h w (by simp [hw])]
/-- what one needs of mixed weights -/
structure MixOk (ws os f : List Int) (g : Int) : Prop where
  g0 : 0 < g
  g1 : g ≤ 16000000
  len : f.length = ws.length
  lo : ∀ x ∈ f, 0 ≤ x
  hi : ∀ x ∈ f, x ≤ 16000000
  sum : f.sum * g = 2 * (ws.sum * os.sum)
  pre : ∀ c, DK.pre c f * g = DK.pre c ws * os.sum + DK.pre c os * ws.sum
  dot : ∀ ms, ws.length = ms.length → DK.dot f ms * g = DK.dot ws ms * os.sum + DK.dot os ms * ws.sum
  one : foldG 0 f = 1
theorem mix_ok {ws os : List Int} (W : Wts ws) (O : Wts os) (h : ws.length = os.length) : MixOk ws os (mix ws os) (foldG 0 (vmix ws os)) := by
  have vs : 0 < (vmix ws os).sum := by
    rw [vmix_sum h]
    have := Int.mul_pos W.sum O.sum
    omega
  obtain ⟨v, hv, v0⟩ := pos_mem (fun v hv => (vmix_bd W O hv).1) vs
  obtain ⟨p1, p2⟩ := foldG_pos hv v0
  have dv := (foldG_dvd (l := vmix ws os) (g := 0)).2
  refine ⟨p1, Int.le_trans p2 (vmix_bd W O hv).2, by simp [mix, vmix_len h], fun x hx => ?_, fun x hx => ?_, ?_, fun c => ?_, fun ms hm => ?_, foldG_one p1⟩
  · obtain ⟨u, hu, rfl⟩ := List.mem_map.mp hx
    exact Int.ediv_nonneg (vmix_bd W O hu).1 (by omega)
  · obtain ⟨u, hu, rfl⟩ := List.mem_map.mp hx
    have := vmix_bd W O hu
    exact Int.le_trans (Int.ediv_le_self _ this.1) this.2
  · unfold mix
    rw [map_div_sum (by omega) dv, vmix_sum h]
  · unfold DK.pre mix
    rw [← List.map_take, map_div_sum (by omega) fun w hw => dv w (List.mem_of_mem_take hw)]
    exact vmix_pre h c
  · unfold mix
    rw [map_div_dot (by omega) dv, vmix_dot h hm]
theorem MixOk.sum_pos {ws os f : List Int} {g : Int} (m : MixOk ws os f g) (W : Wts ws) (O : Wts os) : 0 < f.sum := by
  have := Int.mul_pos W.sum O.sum
  have h := m.sum
  have h0 := sum_nonneg m.lo
  rcases Int.lt_or_eq_of_le h0 with h1 | h1
  · exact h1
  · rw [← h1, Int.zero_mul] at h
    omega
theorem MixOk.wts {ws os f : List Int} {g : Int} (m : MixOk ws os f g) (W : Wts ws) (O : Wts os) (h : ∀ x ∈ f, x ≤ 1000) : Wts f :=
  ⟨fun e => by have h1 := m.len; have := W.pos; rw [e] at h1; simp at h1; omega, by rw [m.len]; exact W.len, m.lo, h, m.sum_pos W O⟩
theorem vmix_comm : ∀ {ws os : List Int}, vmix ws os = vmix os ws := fun {ws os} => by
  unfold vmix
  have : ∀ (s t : Int) (a b : List Int), List.zipWith (fun x y => x * s + y * t) a b = List.zipWith (fun x y => x * t + y * s) b a := by
    intro s t a
    induction a with
    | nil => intro b; cases b <;> rfl
    | cons x a ih =>
      intro b
      cases b with
      | nil => rfl
      | cons y b => rw [List.zipWith_cons_cons, List.zipWith_cons_cons, ih, Int.add_comm]
  exact this _ _ _ _
theorem mix_comm {ws os : List Int} : mix ws os = mix os ws := by unfold mix; rw [vmix_comm]
end DK

set_option Elab.async false
set_option linter.all false
set_option maxRecDepth 100000
set_option maxHeartbeats 1000000
/-! x in a tuple of data of any depth -/
namespace DK
open PySem PySem.Spec PyProof.Rows L2 RZ
variable [TabsC]
def rInT (K : PySem.W.Frag) : R2 := fun x y H Q => ∃ d ds, Dp K H x d ∧ Dp K H y (.tuple ds) ∧ SeqAt.shaped d = true ∧ SeqAt.shaped (.tuple ds) = true ∧ Q (.bl (ds.any fun z => PyData.eqv z d)) H
theorem op_inT {X : Cx} (hu : X.A.units + 65 < cLine) : OpR X (compareOp .In) (rInT X.K) := by
  intro pins s σ H x y v u Q I rx ry h
  obtain ⟨d, ds, hd, he, sd, se, q⟩ := h
  obtain ⟨as, r1⟩ := Dp.reads I d x v hd rx
  obtain ⟨bs, r2⟩ := Dp.reads I (.tuple ds) y u he ry
  exact SeqAt.in_tuple_reads r2 r1 (SeqAt.canLay_of_shaped se) (SeqAt.canLay_of_shaped sd) (room_in_shaped sd hu) ⟨.bl _, H, I, rfl, q⟩
def gInT (x : D) : D → Option Vl
  | .tup xs => if okD 12 x && okD 12 (.tup xs) then some (.p (.bl (inD x xs))) else none
  | _ => none
theorem any_deq (x : D) : ∀ (n : Nat) (ds : List D), okDs n ds = true → ((toPs ds).any fun z => PyData.eqv z (toP x)) = inD x ds
  | n, [], _ => rfl
  | n, d :: ds, h => by
    rw [okDs, Bool.and_eq_true] at h
    show (PyData.eqv (toP d) (toP x) || (toPs ds).any fun z => PyData.eqv z (toP x)) = (deq d x || inD x ds)
    rw [eqv_deq n d x h.1, any_deq x n ds h.2]
theorem o2_inT {K : PySem.W.Frag} {mg : Str → Option Value} : Op2 K mg (rInT K) gInT := fun Fz H x y dx dy v sub hx hy e Q q => by
  unfold gInT at e
  split at e
  · split at e
    · rename_i xs h
      rw [Bool.and_eq_true] at h
      cases e
      refine ⟨toP dx, toPs xs, dp_br sub h.1 hx, dp_br sub h.2 hy, shaped_ok h.1, shaped_ok h.2, ?_⟩
      rw [any_deq dx 11 xs h.2]
      exact q _ Fz H (oe_bl sub)
    · cases e
  · cases e
theorem e_inT {X : Cx} {E : XK} {a b : Expr} {fa fb : FE} {pos : Pos} {j : Nat} (hr : Room (j + 1) X.A) (ha : DE X E a fa) (hb : DE X E b fb) (hm : behindInMarks .In b = false := by rfl) : DE X E (.Compare a [.In] [b] pos) (fOp2 gInT fa fb) := de_cmp (op_inT (by have := hr.un; omega)) o2_inT ha hb hm
@[simp] theorem gInT_t {x : D} {xs : List D} : gInT x (.tup xs) = if okD 12 x && okD 12 (.tup xs) then some (.p (.bl (inD x xs))) else none := rfl
@[simp] theorem inD_nil {x : D} : inD x [] = false := rfl
@[simp] theorem inD_cons {x y : D} {xs : List D} : inD x (y :: xs) = (deq y x || inD x xs) := rfl
end DK

set_option Elab.async false
set_option linter.all false
set_option maxRecDepth 100000
set_option maxHeartbeats 1000000
/-! xs[j], ys[k] = a, b -/
namespace DK
open PySem PySem.Spec PyProof.Rows L2 RZ
variable [TabsC]
def set1 (i : Nat) (j : FE) (d : D) : Ds → R Ds := fun st => match st[i]? with
  | some (.o _) => (j st).bind fun y => match y.1, y.2[i]? with
    | .p (.int n), some (.o xs) => match ixN xs.length n with
      | some m => .ok (y.2.set i (.o (xs.set m d)))
      | none => .stuck
    | _, _ => .stuck
  | _ => .stuck
def fSw (i1 : Nat) (j1 : FE) (i2 : Nat) (j2 : FE) (e : FA) : FS := fun st => (e st).bind fun x => match x.1 with
  | [.p d1, .p d2] => (set1 i1 j1 d1 x.2).bind fun st2 => (set1 i2 j2 d2 st2).bind fun st3 => .ok (.nx st3)
  | _ => .stuck
section
variable {K : PySem.W.Frag} {mg : Str → Option Value} {ad : Nat → Option Addr} {Fz H Fz' H' Fz1 H1 : Hp} {st st' st1 : Ds} {σ : L2.St} {P P1 : Addr → Prop} {E : XK} {D : Ends}
theorem g_set1 {i : Nat} {fj : FE} {d : DK.D} {x : V} {Q : L2.St → Hp → Prop} (rs : RS K mg ad Fz1 H1 st σ) (fr : Fr P Fz H (Ows st σ) Fz1 H1) (r : Rep K mg Fz1 d x)
    (h : Out mg E P H (set1 i fj d st) fun st' => ∀ Fz' H', SEnd K mg ad P Fz H st' σ Fz' H' → (∀ q o, Fz1 q = some o → Fz' q = some o) → Q σ H') : L2.gSub (tVar i) (tE K mg ad E fj) rSetL x σ H1 Q := by
  unfold set1 at h
  split at h
  · rename_i xs0 e3
    obtain ⟨a, zs, us, m1, m2, m3, m4, m5⟩ := rs.own ⟨xs0, .inl e3⟩
    refine ⟨.ref a, m2, ⟨st, Fz1, rs, Out.shift h.bind fr fun ⟨vj, st3⟩ h3 y Fz3 H3 e4 => ?_⟩⟩
    dsimp only at h3
    split at h3
    · rename_i n xs e6
      split at h3
      · rename_i m em
        have f3 := fr.trans e4.fr
        have r3 : Rep K mg Fz3 d x := r.mono e4.fr.fmon
        obtain ⟨b, zs', us', n1, n2, n3, n4, n5⟩ := e4.rs.own ⟨xs, .inl e6⟩
        have : zs' = xs := by
          rcases n1 with n1 | n1 <;> rw [e6] at n1 <;> cases n1 <;> rfl
        subst this
        rw [m2] at n2
        cases n2
        have ey : y = .int n := VOk.int e4.val
        exact ⟨a, us', n, m, rfl, ey, n3, by rw [← n5.len]; exact em, h3 Fz3 _ (write_ok e4.rs f3 ⟨zs', .inl e6⟩ m2 (.inl rfl) n4 (n5.set m r3)) e4.fr.fmon⟩
      · exact h3.elim
    · exact h3.elim
  · exact h.elim
theorem tS_sw {i1 i2 : Nat} {j1 j2 : FE} {fe : FA} (h : tS K mg ad E (fSw i1 j1 i2 j2 fe) D σ H) :
    tAsg (tTup (tA K mg ad E fe)) (gTup K 2 (gCons (L2.gSub (tVar i1) (tE K mg ad E j1) rSetL) (gCons (L2.gSub (tVar i2) (tE K mg ad E j2) rSetL) gNil))) D σ H := by
  obtain ⟨st, Fz, rs, h⟩ := h
  refine ⟨st, Fz, rs, h.bind.imp fun ⟨vs, st1⟩ h1 xs Fz1 H1 e1 => ?_⟩
  dsimp only at h1
  split at h1
  · rename_i d1 d2
    have k := e1.val
    match xs, k with
    | [x, y], k =>
      have k1 : Rep K mg Fz1 d1 x := k.1
      have k2 : Rep K mg Fz1 d2 y := k.2.1.1
      refine ⟨by show 2 ≤ sizeLine; decide, fun p hp => ⟨p, [x, y], rfl, .inl (.inl upd_same), rfl, x, [y], rfl, ?_⟩⟩
      have oe : OEnd K mg Fz1 H1 (.p .non) .non Fz1 (upd H1 p (.tup [x, y])) := by
        have ne : ∀ q o, H1 q = some o → q ≠ p := fun q o h => ne_of_none h hp
        refine .of (fun q o h => by rw [upd_ne (ne q o h)]; exact h) (fun q o h => by rw [upd_ne (ne q o (e1.rs.sub q o h))]; exact e1.rs.sub q o h) (fun _ _ h => h) (fun _ o h => .inl ⟨o, h⟩) (fun h => h) ?_
        show Rep K mg Fz1 .non .non
        rw [Rep]
      have b1 : RS K mg ad Fz1 (upd H1 p (.tup [x, y])) st1 σ := oe.rs e1.rs
      refine g_set1 (P := Ows st σ) (Fz := Fz) (H := H) b1 (e1.fr.trans oe.fr) k1 (h1.bind.imp fun st2 h2 Fz2 H2 s2 fm => ?_)
      refine ⟨y, [], rfl, ?_⟩
      refine g_set1 (P := Ows st σ) (Fz := Fz) (H := H) s2.rs s2.fr (k2.mono fm) (h2.bind.imp fun st3 h3 Fz3 H3 s3 fm3 => ?_)
      exact ⟨rfl, h3 σ Fz3 H3 s3⟩
  · exact h1.elim
end
section
variable {X : Cx} {E : XK} {a b j k : Expr} {fl : FA} {fj fk : FE} {x y : Str} {pos p1 p2 p3 p4 pt p5 : Pos} {kt kv : Nat}
theorem ds_sw (i1 i2 : Nat) (ha : DA X E [a, b] fl) (hj : DE X E j fj) (hk : DE X E k fk) (hN : X.N[i1]? = some x := by rfl) (hN2 : X.N[i2]? = some y := by rfl)
    (hv : Vis X.env.scope x := by first | exact Or.inl rfl | exact Or.inr (Or.inl rfl) | exact Or.inr (Or.inr rfl)) (hv2 : Vis X.env.scope y := by first | exact Or.inl rfl | exact Or.inr (Or.inl rfl) | exact Or.inr (Or.inr rfl))
    (hd : (x == ("__debug__" : Str)) = false := by decide) (hd2 : (y == ("__debug__" : Str)) = false := by decide) (hcd : (x == ("__classdict__" : Str)) = false := by decide) (hcd2 : (y == ("__classdict__" : Str)) = false := by decide)
    (hc : X.calm = true := by rfl)
    (h1 : ∀ v, assign (.Subscript (.Name x p1) j p2) X.env v = (do
      let ov ← holding [v] (eval (.Name x p1) X.env)
      let iv ← holding [v, ov] (eval j X.env)
      standAt p2
      holding [v, ov, iv] (setItem ov iv v)
      release [v, ov, iv] []) := by intro _; rfl)
    (h2 : ∀ v, assign (.Subscript (.Name y p3) k p4) X.env v = (do
      let ov ← holding [v] (eval (.Name y p3) X.env)
      let iv ← holding [v, ov] (eval k X.env)
      standAt p4
      holding [v, ov, iv] (setItem ov iv v)
      release [v, ov, iv] []) := by intro _; rfl)
    (e1 : (assignEach [.Subscript (.Name x p1) j p2, .Subscript (.Name y p3) k p4] X.env).map (·.2) = assign (.Subscript (.Name x p1) j p2) X.env :: (assignEach [.Subscript (.Name y p3) k p4] X.env).map (·.2) := by rfl)
    (e2 : (assignEach [.Subscript (.Name y p3) k p4] X.env).map (·.2) = assign (.Subscript (.Name y p3) k p4) X.env :: (assignEach [] X.env).map (·.2) := by rfl)
    (hn : (assignEach [.Subscript (.Name x p1) j p2, .Subscript (.Name y p3) k p4] X.env).length = 2 := by rfl) (hst : (assignEach [.Subscript (.Name x p1) j p2, .Subscript (.Name y p3) k p4] X.env).findIdx? (·.1) = none := by rfl)
    (hs : swapsWithSole [.Tuple [.Subscript (.Name x p1) j p2, .Subscript (.Name y p3) k p4] kt pt] (.Tuple [a, b] kv p5) pos.line X.env = pure false := by rfl) (hw : swappedStores [.Tuple [.Subscript (.Name x p1) j p2, .Subscript (.Name y p3) k p4] kt pt] (.Tuple [a, b] kv p5) X.env = pure none := by rfl)
    (hm : (assignEach [.Tuple [.Subscript (.Name x p1) j p2, .Subscript (.Name y p3) k p4] kt pt] X.env).map (·.2) = [assign (.Tuple [.Subscript (.Name x p1) j p2, .Subscript (.Name y p3) k p4] kt pt) X.env] := by rfl) :
    DS X E (.Assign [.Tuple [.Subscript (.Name x p1) j p2, .Subscript (.Name y p3) k p4] kt pt] (.Tuple [a, b] kv p5) pos) (fSw i1 fj i2 fk fl) := fun ad =>
  PS_conseq (ps_asg (pe_tup (ha ad)) (pg_tup hc (pgs_cons (pg_sub (pe_var hN hv hd hcd) (hj ad) set_list h1) (pgs_cons (pg_sub (pe_var hN2 hv2 hd2 hcd2) (hk ad) set_list h2) pgs_nil e2) e1) hn hst) hs hw hm) fun D σ H h => tS_sw h
end
end DK

set_option Elab.async false
set_option linter.all false
set_option maxRecDepth 100000
set_option maxHeartbeats 1000000
/-! is not True, is not False; xs[j], ys[k] = a tuple -/
namespace DK
open PySem PySem.Spec PyProof.Rows L2 RZ
variable [TabsC]
def gIsntB : D → D → Option Vl
  | .bl a, .bl b => some (.p (.bl (!decide (a = b))))
  | _, _ => none
@[simp] theorem gIsntB_b {a b : Bool} : gIsntB (.bl a) (.bl b) = some (.p (.bl (!decide (a = b)))) := rfl
theorem o2_isntB {K : PySem.W.Frag} {mg : Str → Option Value} : Op2 K mg rNotB gIsntB := fun Fz H x y dx dy v sub hx hy e Q q => by
  unfold gIsntB at e
  split at e
  · cases e
    obtain rfl := br_bl hx
    obtain rfl := br_bl hy
    exact ⟨_, _, rfl, rfl, q _ Fz H (oe_bl sub)⟩
  · cases e
theorem t_isntB {X : Cx} {E : XK} {a b : Expr} {fa fb : FE} {pos : Pos} (ha : DE X E a fa) (hb : DE X E b fb) : DT X E (.Compare a [.IsNot] [b] pos) (fOp2 gIsntB fa fb) := dt_cmp op_notBl o2_isntB ha hb (nomark _)
theorem e_isntB {X : Cx} {E : XK} {a b : Expr} {fa fb : FE} {pos : Pos} (ha : DE X E a fa) (hb : DE X E b fb) : DE X E (.Compare a [.IsNot] [b] pos) (fOp2 gIsntB fa fb) := de_cmp op_notBl o2_isntB ha hb (nomark _)
def fSwE (i1 : Nat) (j1 : FE) (i2 : Nat) (j2 : FE) (e : FE) : FS := fun st => (e st).bind fun x => match x.1 with
  | .p (.tup [d1, d2]) => (set1 i1 j1 d1 x.2).bind fun st2 => (set1 i2 j2 d2 st2).bind fun st3 => .ok (.nx st3)
  | _ => .stuck
theorem tS_swE {K : PySem.W.Frag} {mg : Str → Option Value} {ad : Nat → Option Addr} {H : Hp} {σ : L2.St} {E : XK} {D : Ends} {i1 i2 : Nat} {j1 j2 : FE} {fe : FE} (h : tS K mg ad E (fSwE i1 j1 i2 j2 fe) D σ H) :
    tAsg (tE K mg ad E fe) (gTup K 2 (gCons (L2.gSub (tVar i1) (tE K mg ad E j1) rSetL) (gCons (L2.gSub (tVar i2) (tE K mg ad E j2) rSetL) gNil))) D σ H := by
  obtain ⟨st, Fz, rs, h⟩ := h
  refine ⟨st, Fz, rs, h.bind.imp fun ⟨v, st1⟩ h1 x Fz1 H1 e1 => ?_⟩
  dsimp only at h1
  split at h1
  · rename_i d1 d2
    have hv : Rep K mg Fz1 (.tup [d1, d2]) x := e1.val
    rw [Rep] at hv
    obtain ⟨a, vs, rfl, hs, hr⟩ := hv
    obtain ⟨x, vs1, rfl, k1, hr⟩ := hr.cons_inv
    obtain ⟨y, vs2, rfl, k2, hr⟩ := hr.cons_inv
    obtain rfl := hr.nil_inv
    refine ⟨a, [x, y], rfl, sqT_mono e1.rs.sub hs, rfl, x, [y], rfl, ?_⟩
    refine g_set1 (P := Ows st σ) (Fz := Fz) (H := H) e1.rs e1.fr k1 (h1.bind.imp fun st2 h2 Fz2 H2 s2 fm => ?_)
    refine ⟨y, [], rfl, ?_⟩
    refine g_set1 (P := Ows st σ) (Fz := Fz) (H := H) s2.rs s2.fr (k2.mono fm) (h2.bind.imp fun st3 h3 Fz3 H3 s3 fm3 => ?_)
    exact ⟨rfl, h3 σ Fz3 H3 s3⟩
  · exact h1.elim
section
variable {X : Cx} {E : XK} {e j k : Expr} {fe fj fk : FE} {x y : Str} {pos p1 p2 p3 p4 pt : Pos} {kt : Nat}
theorem ds_swE (i1 i2 : Nat) (he : DE X E e fe) (hj : DE X E j fj) (hk : DE X E k fk) (hN : X.N[i1]? = some x := by rfl) (hN2 : X.N[i2]? = some y := by rfl)
    (hv : Vis X.env.scope x := by first | exact Or.inl rfl | exact Or.inr (Or.inl rfl) | exact Or.inr (Or.inr rfl)) (hv2 : Vis X.env.scope y := by first | exact Or.inl rfl | exact Or.inr (Or.inl rfl) | exact Or.inr (Or.inr rfl))
    (hd : (x == ("__debug__" : Str)) = false := by decide) (hd2 : (y == ("__debug__" : Str)) = false := by decide) (hcd : (x == ("__classdict__" : Str)) = false := by decide) (hcd2 : (y == ("__classdict__" : Str)) = false := by decide)
    (hc : X.calm = true := by rfl)
    (h1 : ∀ v, assign (.Subscript (.Name x p1) j p2) X.env v = (do
      let ov ← holding [v] (eval (.Name x p1) X.env)
      let iv ← holding [v, ov] (eval j X.env)
      standAt p2
      holding [v, ov, iv] (setItem ov iv v)
      release [v, ov, iv] []) := by intro _; rfl)
    (h2 : ∀ v, assign (.Subscript (.Name y p3) k p4) X.env v = (do
      let ov ← holding [v] (eval (.Name y p3) X.env)
      let iv ← holding [v, ov] (eval k X.env)
      standAt p4
      holding [v, ov, iv] (setItem ov iv v)
      release [v, ov, iv] []) := by intro _; rfl)
    (e1 : (assignEach [.Subscript (.Name x p1) j p2, .Subscript (.Name y p3) k p4] X.env).map (·.2) = assign (.Subscript (.Name x p1) j p2) X.env :: (assignEach [.Subscript (.Name y p3) k p4] X.env).map (·.2) := by rfl)
    (e2 : (assignEach [.Subscript (.Name y p3) k p4] X.env).map (·.2) = assign (.Subscript (.Name y p3) k p4) X.env :: (assignEach [] X.env).map (·.2) := by rfl)
    (hn : (assignEach [.Subscript (.Name x p1) j p2, .Subscript (.Name y p3) k p4] X.env).length = 2 := by rfl) (hst : (assignEach [.Subscript (.Name x p1) j p2, .Subscript (.Name y p3) k p4] X.env).findIdx? (·.1) = none := by rfl)
    (hs : swapsWithSole [.Tuple [.Subscript (.Name x p1) j p2, .Subscript (.Name y p3) k p4] kt pt] e pos.line X.env = pure false := by rfl) (hw : swappedStores [.Tuple [.Subscript (.Name x p1) j p2, .Subscript (.Name y p3) k p4] kt pt] e X.env = pure none := by rfl)
    (hm : (assignEach [.Tuple [.Subscript (.Name x p1) j p2, .Subscript (.Name y p3) k p4] kt pt] X.env).map (·.2) = [assign (.Tuple [.Subscript (.Name x p1) j p2, .Subscript (.Name y p3) k p4] kt pt) X.env] := by rfl) :
    DS X E (.Assign [.Tuple [.Subscript (.Name x p1) j p2, .Subscript (.Name y p3) k p4] kt pt] e pos) (fSwE i1 fj i2 fk fe) := fun ad =>
  PS_conseq (ps_asg (he ad) (pg_tup hc (pgs_cons (pg_sub (pe_var hN hv hd hcd) (hj ad) set_list h1) (pgs_cons (pg_sub (pe_var hN2 hv2 hd2 hcd2) (hk ad) set_list h2) pgs_nil e2) e1) hn hst) hs hw hm) fun D σ H h => tS_swE h
end
/-! running them -/
def kSw2 (i : Nat) (d : D) (y : Vl × Ds) : R Ds := match y.1, y.2[i]? with
  | .p (.int n), some (.o xs) => match ixN xs.length n with
    | some m => .ok (y.2.set i (.o (xs.set m d)))
    | none => .stuck
  | _, _ => .stuck
@[simp] theorem set1_eq {i : Nat} {j : FE} {d : D} {st : Ds} : set1 i j d st = (match st[i]? with
  | some (.o _) => (j st).bind (kSw2 i d)
  | _ => .stuck) := rfl
@[simp] theorem kSw2_eq {i : Nat} {d : D} {n : Int} {st : Ds} : kSw2 i d (.p (.int n), st) = (match st[i]? with
  | some (.o xs) => match ixN xs.length n with
    | some m => .ok (st.set i (.o (xs.set m d)))
    | none => .stuck
  | _ => .stuck) := by
  unfold kSw2
  cases h : st[i]? with
  | none => simp [h]
  | some s => cases s <;> simp [h]
def kNx (st : Ds) : R Fl := .ok (.nx st)
@[simp] theorem kNx_eq {st : Ds} : kNx st = .ok (.nx st) := rfl
def kSwb (i : Nat) (j : FE) (d : D) (st : Ds) : R Fl := (set1 i j d st).bind kNx
@[simp] theorem kSwb_eq {i : Nat} {j : FE} {d : D} {st : Ds} : kSwb i j d st = (set1 i j d st).bind kNx := rfl
def kSw (i1 : Nat) (j1 : FE) (i2 : Nat) (j2 : FE) (x : List Vl × Ds) : R Fl := match x.1 with
  | [.p d1, .p d2] => (set1 i1 j1 d1 x.2).bind (kSwb i2 j2 d2)
  | _ => .stuck
@[simp] theorem kSw_eq {i1 i2 : Nat} {j1 j2 : FE} {d1 d2 : D} {st : Ds} : kSw i1 j1 i2 j2 ([.p d1, .p d2], st) = (set1 i1 j1 d1 st).bind (kSwb i2 j2 d2) := rfl
@[simp] theorem fSw_eq {i1 i2 : Nat} {j1 j2 : FE} {e : FA} {st : Ds} : fSw i1 j1 i2 j2 e st = (e st).bind (kSw i1 j1 i2 j2) := rfl
def kSwE (i1 : Nat) (j1 : FE) (i2 : Nat) (j2 : FE) (x : Vl × Ds) : R Fl := match x.1 with
  | .p (.tup [d1, d2]) => (set1 i1 j1 d1 x.2).bind (kSwb i2 j2 d2)
  | _ => .stuck
@[simp] theorem kSwE_eq {i1 i2 : Nat} {j1 j2 : FE} {d1 d2 : D} {st : Ds} : kSwE i1 j1 i2 j2 (.p (.tup [d1, d2]), st) = (set1 i1 j1 d1 st).bind (kSwb i2 j2 d2) := rfl
@[simp] theorem fSwE_eq {i1 i2 : Nat} {j1 j2 : FE} {e : FE} {st : Ds} : fSwE i1 j1 i2 j2 e st = (e st).bind (kSwE i1 j1 i2 j2) := rfl
end DK

set_option Elab.async false
set_option linter.all false
set_option maxRecDepth 100000
set_option maxHeartbeats 1000000
/-! tuples of texts as constants of the module; ranges as lists and tuples -/
namespace DK
open PySem PySem.Spec PyProof.Rows L2 RZ
variable [TabsC]
def TupO (o : Obj) (xs : List V) : Prop := ∃ (its : Array Value) (n : Nat), o.cls = .type "tuple" ∧ o.data = .seq its n ∧ its.size ≤ sizeLine ∧ Vals xs its.toList
def TupK (K : PySem.W.Frag) (mg : Str → Option Value) (x : Str) (xs : List Str) : Prop := ∃ a o, mg x = some (.ref a) ∧ K.lookup a = some o ∧ TupO o (xs.map V.str)
theorem repL_ofStrs {K : PySem.W.Frag} {mg : Str → Option Value} {Fz : Hp} : ∀ (ns : List Str), RepL K mg Fz (ns.map D.str) (ns.map V.str)
  | [] => repL_nil
  | n :: ns => repL_cons (by rw [Rep]) (repL_ofStrs ns)
theorem dgt {X : Cx} {E : XK} {pos : Pos} {x : Str} {xs : List Str} (h : TupK X.K X.mg x xs) (hg : Gl X x := by rfl) (hdb : (x == ("__debug__" : Str)) = false := by decide) : DE X E (.Name x pos) (fC (.tup (xs.map D.str))) := by
  obtain ⟨a, o, h1, h2, its, n, h3, h4, h5, h6⟩ := h
  exact de_glob (v := .ref a) hg h1 rfl (fun Fz => by
    rw [Rep]
    exact ⟨a, xs.map V.str, rfl, .inr ⟨o, its, n, h2, h3, h4, h5, h6⟩, repL_ofStrs xs⟩) hdb
/-! ranges -/
def gLRg : D → Option Vl
  | .int j => if rOk j && decide (j ≤ 16777216) then some (.o (rng 0 j.toNat)) else none
  | _ => none
def gLRg2 : D → D → Option Vl
  | .int i, .int j => if rOk i && rOk j && decide (0 ≤ i ∧ 0 ≤ j ∧ i ≤ 16777216 ∧ j ≤ 16777216) then some (.o (rng i (j - i).toNat)) else none
  | _, _ => none
def gTRg : D → Option Vl
  | .int j => if rOk j && decide (j ≤ 16777216) then some (.p (.tup (rng 0 j.toNat))) else none
  | _ => none
theorem rep_rng {K : PySem.W.Frag} {mg : Str → Option Value} {Fz : Hp} {a b : Int} : RepL K mg Fz (rng a (b - a).toNat) (rgV a b) := by
  have := repL_ofInts (K := K) (mg := mg) (Fz := Fz) ((List.range (b - a).toNat).map fun i : Nat => a + i)
  rw [List.map_map, List.map_map] at this
  exact this
theorem rgok {j : Int} (h : rOk j = true) (h2 : j ≤ 16777216) : RgOk 0 j := by
  unfold rOk at h
  simp at h
  exact ⟨by omega, by omega, by omega, by omega, by omega⟩
theorem o1_lrg {K : PySem.W.Frag} {mg : Str → Option Value} : Op1 K mg (fun x H Q => ∃ n, x = V.int n ∧ RgOk 0 n ∧ ∀ q, H q = none → Q (.ref q) (upd H q (.lst (rgV 0 n)))) gLRg := fun Fz H x dx v sub hx e Q q => by
  unfold gLRg at e
  split at e
  · rename_i j
    split at e
    · rename_i c
      rw [Bool.and_eq_true, decide_eq_true_eq] at c
      cases e
      obtain rfl := br_int hx
      have rr := rep_rng (K := K) (mg := mg) (Fz := Fz) (a := 0) (b := j)
      rw [Int.sub_zero] at rr
      exact ⟨j, rfl, rgok c.1 c.2, fun l hl => q _ _ _ (OEnd.new_lst sub hl rr)⟩
    · cases e
  · cases e
theorem o1_trg {K : PySem.W.Frag} {mg : Str → Option Value} : Op1 K mg (fun x H Q => ∃ n, x = V.int n ∧ RgOk 0 n ∧ ∀ q, H q = none → Q (.ref q) (upd H q (.tup (rgV 0 n)))) gTRg := fun Fz H x dx v sub hx e Q q => by
  unfold gTRg at e
  split at e
  · rename_i j
    split at e
    · rename_i c
      rw [Bool.and_eq_true, decide_eq_true_eq] at c
      cases e
      obtain rfl := br_int hx
      have rr := rep_rng (K := K) (mg := mg) (Fz := Fz) (a := 0) (b := j)
      rw [Int.sub_zero] at rr
      exact ⟨j, rfl, rgok c.1 c.2, fun l hl => q _ _ _ (OEnd.new_tup sub hl rr)⟩
    · cases e
  · cases e
theorem o2_lrg {K : PySem.W.Frag} {mg : Str → Option Value} : Op2 K mg (fun x y H Q => ∃ i j, x = V.int i ∧ y = V.int j ∧ RgOk i j ∧ ∀ q, H q = none → Q (.ref q) (upd H q (.lst (rgV i j)))) gLRg2 := fun Fz H x y dx dy v sub hx hy e Q q => by
  unfold gLRg2 at e
  split at e
  · rename_i i j
    split at e
    · rename_i c
      rw [Bool.and_eq_true, decide_eq_true_eq] at c
      cases e
      obtain rfl := br_int hx
      obtain rfl := br_int hy
      exact ⟨i, j, rfl, rfl, ⟨by omega, by omega, by omega, by omega, by omega⟩, fun l hl => q _ _ _ (OEnd.new_lst sub hl rep_rng)⟩
    · cases e
  · cases e
section
variable {X : Cx} {E : XK} {a b : Expr} {fa fb : FE} {pos p p2 q : Pos}
theorem de_lrg1 (hm : X.mg "list" = none) (hm2 : X.mg "range" = none) (ha : DE X E a fa) (hg : Gl X "list" := by rfl) (hg2 : Gl X "range" := by rfl) (hc : X.calm = true := by rfl) (na : starEach [a] X.env = (false, eval a X.env) :: starEach [] X.env := by rfl)
    (nb : starEach [.Call (.Name "range" p2) [a] [] q] X.env = (false, eval (.Call (.Name "range" p2) [a] [] q) X.env) :: starEach [] X.env := by rfl) : DE X E (.Call (.Name "list" p) [.Call (.Name "range" p2) [a] [] q] [] pos) (fOp1 gLRg fa) :=
  fun ad => PE_conseq (pe_listRg hc hg hm (prg_1 hg2 hm2 (ha ad) na) nb) fun σ H Q h => tE_op1 o1_lrg h
theorem de_trg1 (hm : X.mg "tuple" = none) (hm2 : X.mg "range" = none) (ha : DE X E a fa) (hg : Gl X "tuple" := by rfl) (hg2 : Gl X "range" := by rfl) (hc : X.calm = true := by rfl) (na : starEach [a] X.env = (false, eval a X.env) :: starEach [] X.env := by rfl)
    (nb : starEach [.Call (.Name "range" p2) [a] [] q] X.env = (false, eval (.Call (.Name "range" p2) [a] [] q) X.env) :: starEach [] X.env := by rfl) : DE X E (.Call (.Name "tuple" p) [.Call (.Name "range" p2) [a] [] q] [] pos) (fOp1 gTRg fa) :=
  fun ad => PE_conseq (pe_tupRg hc hg hm (prg_1 hg2 hm2 (ha ad) na) nb) fun σ H Q h => tE_op1 o1_trg h
theorem de_lrg2 (hm : X.mg "list" = none) (hm2 : X.mg "range" = none) (ha : DE X E a fa) (hb : DE X E b fb) (hg : Gl X "list" := by rfl) (hg2 : Gl X "range" := by rfl) (hc : X.calm = true := by rfl) (na : starEach [a, b] X.env = (false, eval a X.env) :: starEach [b] X.env := by rfl) (na2 : starEach [b] X.env = (false, eval b X.env) :: starEach [] X.env := by rfl)
    (nb : starEach [.Call (.Name "range" p2) [a, b] [] q] X.env = (false, eval (.Call (.Name "range" p2) [a, b] [] q) X.env) :: starEach [] X.env := by rfl) (hpl : (backTo q (starEach [b] X.env)).any (·.1) = false := by rfl) : DE X E (.Call (.Name "list" p) [.Call (.Name "range" p2) [a, b] [] q] [] pos) (fOp2 gLRg2 fa fb) :=
  fun ad => PE_conseq (pe_listRg hc hg hm (prg_2 hg2 hm2 (ha ad) (hb ad) na na2 hpl) nb) fun σ H Q h => tE_op2 o2_lrg h
end
section
variable {i j : Int}
@[simp] theorem gLRg_i : gLRg (.int j) = if rOk j && decide (j ≤ 16777216) then some (.o (rng 0 j.toNat)) else none := rfl
@[simp] theorem gTRg_i : gTRg (.int j) = if rOk j && decide (j ≤ 16777216) then some (.p (.tup (rng 0 j.toNat))) else none := rfl
@[simp] theorem gLRg2_i : gLRg2 (.int i) (.int j) = if rOk i && rOk j && decide (0 ≤ i ∧ 0 ≤ j ∧ i ≤ 16777216 ∧ j ≤ 16777216) then some (.o (rng i (j - i).toNat)) else none := rfl
end
end DK

set_option Elab.async false
set_option linter.all false
set_option maxRecDepth 100000
set_option maxHeartbeats 2000000
/-! more loops; plain weights -/
namespace DK
open PySem PySem.Spec PyProof.Rows L2 RZ
theorem seqg {f1 f2 : FS} {st st1 : Ds} {Q : Ds → Prop} (h : f1 st = .ok (.nx st1)) (k : ∃ st', f2 st1 = .ok (.nx st') ∧ Q st') : ∃ st', fSeq f1 f2 st = .ok (.nx st') ∧ Q st' := by
  obtain ⟨st', e, q⟩ := k
  refine ⟨st', ?_, q⟩
  rw [fSeq_eq, h, R.bind_ok, sK_nx, e]
theorem lastg {f1 : FS} {st : Ds} {Q : Ds → Prop} (h : f1 st = .ok (.nx st)) (k : Q st) : ∃ st', f1 st = .ok (.nx st') ∧ Q st' := ⟨st, h, k⟩
/-- a loop that ends with a return at the first item of a kind -/
theorem for_find {tg : TGf} {body : FS} (I : Ds → Prop) (q : D → Bool) (v : D → Vl) : ∀ {ds : List D} {st : Ds}, I st → (∀ d ∈ ds, ∀ st, I st → ∃ st1 st', tg d st = some st1 ∧ I st' ∧ (q d = true → body st1 = .ok (.rt (v d) st')) ∧ (q d = false → body st1 = .ok (.nx st'))) →
    ∃ st', I st' ∧ forL tg body ds st = match ds.find? q with | some d => .ok (.rt (v d) st') | none => .ok (.nx st')
  | [], st, h, _ => ⟨st, h, rfl⟩
  | d :: ds, st, h, hs => by
    obtain ⟨st1, st', e1, h', e2, e3⟩ := hs d (by simp) st h
    cases hq : q d with
    | true =>
      refine ⟨st', h', ?_⟩
      rw [List.find?_cons_of_pos hq]
      show (match tg d st with | some st1 => (body st1).bind _ | none => .stuck) = _
      rw [e1]
      show (body st1).bind _ = _
      rw [e2 hq]
      rfl
    | false =>
      obtain ⟨st2, h2, e4⟩ := for_find I q v (ds := ds) (st := st') h' fun d' hd => hs d' (List.mem_cons_of_mem _ hd)
      refine ⟨st2, h2, ?_⟩
      rw [forL_step e1 (e3 hq), e4, List.find?_cons_of_neg (by simp [hq])]
/-- a comprehension with a condition; the items keep the state -/
theorem lc_filter {tg : TGf} {ft fe : FE} {vs : List Nat} {st : Ds} (p : D → Bool) (g : D → D) : ∀ {ds acc : List D}, acc.length + ds.length ≤ 100000 →
    (∀ d ∈ ds, ∃ st1, tg d st = some st1 ∧ ft st1 = .ok (.p (.bl (p d)), st1) ∧ wipeD st1 vs = st ∧ (p d = true → ∃ st3 v, fe st1 = .ok (v, st1) ∧ fzV v st1 = some (g d, st3) ∧ wipeD st3 vs = st)) →
    lcL tg (nE ft) (nE fe) vs ds acc st = .ok (acc ++ (ds.filter p).map g, st)
  | [], acc, _, _ => by simp [lcL]
  | d :: ds, acc, hl, hs => by
    obtain ⟨st1, e1, e2, e3, e4⟩ := hs d (by simp)
    rw [List.length_cons] at hl
    unfold lcL
    rw [e1]
    show (ft st1).noErr.bind _ = _
    rw [e2]
    cases hp : p d with
    | true =>
      obtain ⟨st3, v, e5, e6, e7⟩ := e4 hp
      show (fe st1).noErr.bind _ = _
      rw [e5]
      show (match fzV v st1 with | some (z, st3) => if acc.length < 100000 then lcL tg _ _ vs ds (acc ++ [z]) (wipeD st3 vs) else .stuck | none => .stuck) = _
      rw [e6]
      show (if acc.length < 100000 then lcL tg _ _ vs ds (acc ++ [g d]) (wipeD st3 vs) else .stuck) = _
      rw [if_pos (by omega), e7, lc_filter p g (by rw [List.length_append, List.length_singleton]; omega) fun d' hd => hs d' (List.mem_cons_of_mem _ hd), List.filter_cons_of_pos hp]
      simp
    | false =>
      show lcL tg _ _ vs ds acc (wipeD st1 vs) = _
      rw [e3, lc_filter p g (by omega) fun d' hd => hs d' (List.mem_cons_of_mem _ hd), List.filter_cons_of_neg (by simp [hp])]
/-! texts -/
@[simp] theorem okD_str {n : Nat} {s : Str} : okD n (.str s) = s.cps.all (· < 0x110000) := by cases n <;> rfl
@[simp] theorem deq_str {a b : Str} : deq (.str a) (.str b) = decide (a = b) := by
  rw [deq]
  by_cases h : a = b <;> simp [h]
theorem gEq_s {a b : Str} {k : Bool} (h : decide (a = b) = k) (ha : a.cps.all (· < 0x110000) = true := by decide +kernel) (hb : b.cps.all (· < 0x110000) = true := by decide +kernel) : gEq (.str a) (.str b) = some (.p (.bl k)) := by
  rw [gEq_eq, okD_str, okD_str, ha, hb, deq_str, h]
  rfl
theorem gNe_s {a b : Str} {k : Bool} (h : decide (a = b) = k) (ha : a.cps.all (· < 0x110000) = true := by decide +kernel) (hb : b.cps.all (· < 0x110000) = true := by decide +kernel) : gNe (.str a) (.str b) = some (.p (.bl (!k))) := by
  rw [gNe_eq, okD_str, okD_str, ha, hb, deq_str, h]
  rfl
/-! plain weights -/
theorem sum_rep (x : Int) : ∀ n : Nat, (List.replicate n x).sum = n * x
  | 0 => by simp
  | n + 1 => by
    rw [List.replicate_succ, List.sum_cons, sum_rep x n, Int.natCast_add, Int.add_mul]
    omega
def pln (h k l : Nat) : List Int := List.replicate h 0 ++ List.replicate k 1 ++ List.replicate l 0
theorem pre_pln (c h k l : Nat) : pre c (pln h k l) = ((min (c - h) k : Nat) : Int) := by
  unfold pre pln
  rw [List.take_append, List.take_append, List.take_replicate, List.take_replicate, List.take_replicate, List.sum_append, List.sum_append, sum_rep, sum_rep, sum_rep]
  simp
theorem pln_len (h k l : Nat) : (pln h k l).length = h + k + l := by simp [pln]; omega
theorem pln_sum (h k l : Nat) : (pln h k l).sum = k := by
  unfold pln
  rw [List.sum_append, List.sum_append, sum_rep, sum_rep, sum_rep]
  omega
theorem pln_mem {h k l : Nat} {w : Int} (hw : w ∈ pln h k l) : w = 0 ∨ w = 1 := by
  unfold pln at hw
  simp only [List.mem_append] at hw
  rcases hw with (hw | hw) | hw <;> rw [List.eq_of_mem_replicate hw] <;> simp
theorem pln_wts {h k l : Nat} (hk : 0 < k) (hn : h + k + l ≤ 8) : Wts (pln h k l) :=
  ⟨fun e => by have := pln_len h k l; rw [e] at this; simp at this; omega, by rw [pln_len]; exact hn, fun w hw => by rcases pln_mem hw with rfl | rfl <;> omega, fun w hw => by rcases pln_mem hw with rfl | rfl <;> omega, by rw [pln_sum]; omega⟩
theorem repD1 (n : Nat) (d : D) : repD (n : Int) [d] = List.replicate n d := by
  unfold repD
  rw [Int.toNat_natCast]
  induction n with
  | zero => rfl
  | succ n ih => rw [List.replicate_succ, List.flatten_cons, ih]; rfl
theorem mul_rep {n : Nat} {x i : Int} (h : i = n) (hn : n ≤ 1000) : gMulT i [.int x] = some (.p (.tup (List.replicate n (.int x)))) := by
  subst h
  unfold gMulT
  rw [if_pos (by simp; omega), repD1]
theorem mul_repL {n : Nat} {x i : Int} (h : i = n) (hn : n ≤ 1000) : gMulL i [.int x] = some (.o (List.replicate n (.int x))) := by
  subst h
  unfold gMulL
  rw [if_pos (by simp; omega), repD1]
theorem dot_zeros : ∀ (l : Nat) (a : List Int), dot (List.replicate l 0) a = 0
  | 0, a => by simp
  | l + 1, [] => by simp
  | l + 1, x :: a => by rw [List.replicate_succ, dot_cons, dot_zeros l a]; simp
theorem dot_skip : ∀ (h : Nat) (r a : List Int), dot (List.replicate h 0 ++ r) a = dot r (a.drop h)
  | 0, r, a => by simp
  | h + 1, r, [] => by simp
  | h + 1, r, x :: a => by rw [List.replicate_succ, List.cons_append, dot_cons, dot_skip h r a]; simp
theorem dot_ones : ∀ (k l : Nat) (a : List Int), k ≤ a.length → dot (List.replicate k 1 ++ List.replicate l 0) a = pre k a
  | 0, l, a, _ => by simp [pre, dot_zeros]
  | k + 1, l, [], h => by simp at h
  | k + 1, l, x :: a, h => by
    rw [List.replicate_succ, List.cons_append, dot_cons, dot_ones k l a (by simpa using h)]
    simp [pre]
theorem pre_drop (h k : Nat) (a : List Int) : pre k (a.drop h) = pre (h + k) a - pre h a := by
  unfold pre
  rw [List.take_add, List.sum_append]
  omega
theorem dot_pln {h k l : Nat} {a : List Int} (ha : a.length = h + k + l) : dot (pln h k l) a = pre (h + k) a - pre h a := by
  unfold pln
  rw [List.append_assoc, dot_skip, dot_ones k l _ (by simp; omega), pre_drop]
theorem pre_all {a : List Int} {c : Nat} (h : a.length ≤ c) : pre c a = a.sum := by unfold pre; rw [List.take_of_length_le h]
theorem pre_rev {a : List Int} {c : Nat} (h : c ≤ a.length) : pre c a.reverse = a.sum - pre (a.length - c) a := by
  unfold pre
  rw [List.take_reverse, List.sum_reverse]
  have := List.take_append_drop (a.length - c) a
  conv => rhs; rw [← this, List.sum_append, this]
  omega
theorem dot_comm : ∀ (a b : List Int), dot a b = dot b a
  | [], b => by simp
  | x :: a, [] => by simp
  | x :: a, y :: b => by rw [dot_cons, dot_cons, dot_comm a b, Int.mul_comm]
theorem dot_reverse {a b : List Int} (h : a.length = b.length) : dot a.reverse b.reverse = dot a b := by
  unfold dot
  rw [← List.reverse_zipWith h, List.sum_reverse]
/-- sums by parts -/
theorem abel (s t G : Int) : ∀ (ws os r : List Int) (a m : Int), ws.length = os.length → ws.length = r.length → a ≤ G → (∀ c, c ≤ ws.length → a + ((os.take c).sum * s - (ws.take c).sum * t) ≤ G) → r.Pairwise (fun x y => y ≤ x) → (∀ x ∈ r, 0 ≤ x ∧ x ≤ m) → 0 ≤ m → a * m + (dot os r * s - dot ws r * t) ≤ G * m
  | [], [], [], a, m, _, _, ha, _, _, _, hm => by simpa using Int.mul_le_mul_of_nonneg_right ha hm
  | [], _ :: _, _, _, _, h, _, _, _, _, _, _ => by simp at h
  | _ :: _, [], _, _, _, h, _, _, _, _, _, _ => by simp at h
  | [], [], _ :: _, _, _, _, h, _, _, _, _, _ => by simp at h
  | _ :: _, _ :: _, [], _, _, _, h, _, _, _, _, _ => by simp at h
  | w :: ws, o :: os, x :: r, a, m, h1, h2, ha, hc, hp, hb, hm => by
    have hp' := List.pairwise_cons.mp hp
    obtain ⟨x0, xm⟩ := hb x (by simp)
    have h11 := hc 1 (by simp)
    simp at h11
    have ih := abel s t G ws os r (a + (o * s - w * t)) x (by simpa using h1) (by simpa using h2) (by omega) (fun c hcl => by
      have := hc (c + 1) (by simp; omega)
      simp only [List.take_succ_cons, List.sum_cons, Int.add_mul] at this
      omega) hp'.2 (fun y hy => ⟨(hb y (by simp [hy])).1, hp'.1 y hy⟩) x0
    rw [dot_cons, dot_cons]
    have e1 : a * m ≤ G * (m - x) + a * x := by
      have := Int.mul_le_mul_of_nonneg_right ha (show 0 ≤ m - x by omega)
      rw [Int.mul_sub a] at this
      omega
    have e2 : (a + (o * s - w * t)) * x = a * x + (o * x * s - w * x * t) := by
      rw [Int.add_mul, Int.sub_mul, Int.mul_right_comm o, Int.mul_right_comm w]
    rw [e2] at ih
    have e3 : G * (m - x) = G * m - G * x := Int.mul_sub _ _ _
    rw [Int.add_mul, Int.add_mul]
    omega
/-- weights that never rise, and sums of the first ones -/
theorem dot_heads {w a b : List Int} (h1 : a.length = b.length) (h2 : a.length = w.length) (hw : w.Pairwise (fun x y => y ≤ x)) (h0 : ∀ x ∈ w, 0 ≤ x) (h : ∀ c, c ≤ a.length → pre c b ≤ pre c a) : dot w b ≤ dot w a := by
  cases hm : w with
  | nil => simp
  | cons m r =>
    have := abel 1 1 0 a b w 0 (maxI w) h1 h2 (Int.le_refl _) (fun c hc => by have := h c hc; unfold pre at this; omega) hw (fun x hx => ⟨h0 x hx, (maxI_spec (by rw [hm]; simp)).2 x hx⟩) (h0 _ (maxI_spec (by rw [hm]; simp)).1)
    rw [dot_comm b, dot_comm a, hm] at this
    omega
theorem zip_F2 : ∀ {a b : List Int}, a.length = b.length → (∀ q ∈ a.zip b, ¬ q.1 < q.2) → F2 b a
  | [], [], _, _ => .nil
  | [], _ :: _, h, _ => by simp at h
  | _ :: _, [], h, _ => by simp at h
  | x :: a, y :: b, h, hz => .cons (by have := hz (x, y) (by simp); simp at this; omega) (zip_F2 (by simpa using h) fun q hq => hz q (by simp [hq]))
theorem F2_zip : ∀ {a b : List Int}, F2 b a → ∀ q ∈ a.zip b, ¬ q.1 < q.2
  | _, _, .nil, q, hq => by simp at hq
  | _, _, .cons (x := y) (y := x) e t, q, hq => by
    rw [List.zip_cons_cons] at hq
    rcases List.mem_cons.mp hq with rfl | hq
    · simp; omega
    · exact F2_zip t q hq
theorem pre_F2 : ∀ {a b : List Int}, a.length = b.length → (∀ p, p < a.length → pre (p + 1) b - pre p b ≤ pre (p + 1) a - pre p a) → F2 b a
  | [], [], _, _ => .nil
  | [], _ :: _, h, _ => by simp at h
  | _ :: _, [], h, _ => by simp at h
  | x :: a, y :: b, h, hz => .cons (by have := hz 0 (by simp); simp [pre] at this; omega) (pre_F2 (by simpa using h) fun p hp => by
    have := hz (p + 1) (by simpa using hp)
    simp only [pre, List.take_succ_cons, List.sum_cons] at this ⊢
    omega)
theorem F2_pre : ∀ {a b : List Int}, F2 b a → ∀ p, p < a.length → pre (p + 1) b - pre p b ≤ pre (p + 1) a - pre p a
  | _, _, .nil, p, hp => by simp at hp
  | _, _, .cons e t, 0, hp => by simp [pre]; omega
  | _, _, .cons e t, p + 1, hp => by
    have := F2_pre t p (by simpa using hp)
    simp only [pre, List.take_succ_cons, List.sum_cons] at this ⊢
    omega
end DK

set_option Elab.async false
set_option linter.all false
set_option maxRecDepth 100000
set_option maxHeartbeats 3200000
/-! sorted(set(xs)), xs a list of ints -/
namespace DK
open PySem PySem.Spec PyProof.Rows L2 RZ
variable [TabsC]
abbrev freshSet (w : World) : Obj := { cls := .type "set", dict := none, data := .set #[] 0 (.fresh 0 0 (!w.params.followText "set-order")) }
section
variable {P : Program} {w : World} {A : Around} {E : Value → Shared → Prop} {s : Shared}
theorem fill_list {l L : Addr} {its : Array Value} {ns : List Int} {R : Result → Shared → Prop} {s0 : Shared} (hh : A.handled = none) (e0 : s0.heap.get? L = some (freshSet w)) (el : s0.heap.IsList l its) (ne : l ≠ L) (hi : IntsAre its.toList ns) (hb : ns.length + 1 < scanBound)
    (k : ∀ s' c, c ≤ ns.length → SetR w s'.heap L (fun j => decide (j ∈ ns)) c → (∀ b o, b ≠ L → s0.heap.get? b = some o → s'.heap.get? b = some o) → s'.gens = s0.gens → s'.drawn = s0.drawn → s'.os = s0.os → R (.ok (.ret .none)) s') :
    codeAny (model P w) A (.builtin "set.update.loop" ⟨[.ref L, .ref s0.heap.objs.size], []⟩) R { s0 with heap := s0.heap.push { cls := .type "list_iterator", data := .fields #[.ref l, .int 0 0] } } := by
  have sz : its.size = ns.length := by
    have := hi.length
    rwa [Array.length_toList] at this
  have lL := Heap.lt_size e0
  obtain ⟨ol, hol, r1⟩ := id el
  have ll := Heap.lt_size hol
  have nI : l ≠ s0.heap.objs.size := Nat.ne_of_lt ll
  have hf : L ∉ [s0.heap.objs.size, l] := by
    simp only [List.mem_cons, List.not_mem_nil, or_false, not_or]
    exact ⟨Nat.ne_of_lt lL, ne.symm⟩
  have va : ∀ (i : Nat) (v : Value), its[i]? = some v → ∃ k t, ns[i]? = some k ∧ v = .int k t := fun i v hv => by
    have hlt : i < ns.length := by rw [← sz]; exact (Array.getElem?_eq_some_iff.mp hv).1
    obtain ⟨t, e⟩ := hi.int_at i v (by rw [Array.getElem?_toList]; exact hv)
    refine ⟨_, t, List.getElem?_eq_getElem hlt, ?_⟩
    rw [e, List.getD_eq_getElem?_getD, List.getElem?_eq_getElem hlt]
    rfl
  have ge : (s0.heap.push { cls := .type "list_iterator", data := .fields #[.ref l, .int 0 0] }).get? L = some (freshSet w) := Heap.get?_push_of_some _ e0
  refine set_update_ints (St := fun i s => s.heap.IsListIter s0.heap.objs.size l i ∧ s.heap.IsList l its) ((Walks.list (by simpa using hh) s0.heap.objs.size l nI its).toS) L hf ns sz hb va its.size 0 _ rfl (Nat.zero_le _) ⟨⟨_, Heap.get?_push_size _ rfl, rfl, rfl⟩, el.push _⟩ ⟨0, Nat.le_refl 0, setR_new_at ge⟩ fun s' c mv hc R1 => ?_
  refine k s' c (by omega) R1 (fun b o nb e => ?_) mv.gens mv.drawn mv.os
  refine mv.heap b o (fun z => ?_) (Heap.get?_push_of_some _ e)
  simp only [List.mem_cons, List.not_mem_nil, or_false] at z
  rcases z with z | z
  · exact nb z
  · subst z
    exact Nat.lt_irrefl _ (Heap.lt_size e)
theorem call_set_lst {l : Addr} {its : Array Value} {ns : List Int} {Q : Value → Shared → Prop} (hh : A.handled = none) (el : s.heap.IsList l its) (hi : IntsAre its.toList ns) (hb : ns.length + 1 < scanBound)
    (k : ∀ (h' : Heap) (tk c : Nat), SetR w h' s.heap.objs.size (fun j => decide (j ∈ ns)) c → c ≤ ns.length → (∀ b o, s.heap.get? b = some o → h'.get? b = some o) → Q (.ref s.heap.objs.size) { s with heap := h', toks := tk }) :
    wpAny (model P w) A (call (.type "set") [.ref l]) Q E s := by
  obtain ⟨c1, c2, c3⟩ := F.called_set.mro
  have f1 := F.called_set.made
  have f2 := F.called_set.sub
  have f3 := F.called_set.notType
  have f4 := F.called_set.canCreate
  have f5 := F.typeCall_set_1 (.ref l)
  refine wpAny_call (codeAny_of_tree ?_)
  show wpAny _ _ (callAny (.type "set") _) _ _ _
  refine wpAny_pure ⟨Code.quiet_builtin _ (by decide +kernel), codeAny_builtin F.entry_type_call ?_⟩
  rw [Around.under_plain (weight_type_call_type "set" [.ref l] []) rfl]
  repeat (any_goals (first | assumption | wp_step))
  refine codeAny_mono (code_set_led1 (.ref l) (E := E) (Q₁ := fun x s1 => x = .ref s.heap.objs.size ∧ s1 = { s with heap := s.heap.push (freshSet w) }) ⟨rfl, rfl⟩) fun r s1 hr => ?_
  cases r with
  | error e => exact hr
  | ok fl =>
    cases fl with
    | ret x =>
      obtain ⟨e1, e2⟩ := hr
      subst e1 e2
      have e0 : (s.heap.push (freshSet w)).get? s.heap.objs.size = some (freshSet w) := Heap.get?_push_size _ rfl
      have ty : Shared.TypeIs { s with heap := s.heap.push (freshSet w) } (.ref s.heap.objs.size) "set" := ⟨_, e0, rfl⟩
      have g1 := F.called_set.init.lookup
      have g2 := F.called_set.init.bind (.ref s.heap.objs.size)
      repeat (any_goals (first | assumption | wp_step))
      refine codeAny_mono (codeAny_call_builtin (R := wants (fun r s2 => r = .none ∧ ∃ h' tk c, s2 = { s with heap := h', toks := tk } ∧ SetR w h' s.heap.objs.size (fun j => decide (j ∈ ns)) c ∧ c ≤ ns.length ∧ (∀ b o, s.heap.get? b = some o → h'.get? b = some o)) E) F.called_set.init.plain F.entry_set_init (check_set_init_1 ty ?_)) fun r2 s2 hr2 => ?_
      · obtain ⟨⟨ocls, odict, odata, oslots⟩, hol, hcl, nl, hdl⟩ := id el
        simp only at hcl hdl
        subst hcl hdl
        have hol2 : (s.heap.push (freshSet w)).get? l = some _ := Heap.get?_push_of_some _ hol
        have q1 := F.sub_list_set
        have q2 := F.sub_list_frozenset
        have q3 : (Value.type "list" == Value.type "dict") = false := by decide
        have el1 : (s.heap.push (freshSet w)).IsList l its := el.push _
        have ne : l ≠ s.heap.objs.size := Nat.ne_of_lt (Heap.lt_size hol)
        unfold Builtin.«set.__init__» noKeywords Builtin.Frozenset.updateFrom
        generalize hPI : pyIter = PI
        wp_walk
        subst hPI
        refine wpAny_pyIter_list el1 ?_
        refine wpAny_bind (wpAny_runValue ?_)
        refine fill_list (s0 := { s with heap := s.heap.push (freshSet w) }) (by simp [hh]) e0 el1 ne hi hb fun s' c hc R1 kp k1 k2 k3 => ?_
        obtain ⟨h', g', d', tk', os'⟩ := s'
        have k1 : g' = s.gens := k1
        have k2 : d' = s.drawn := k2
        have k3 : os' = s.os := k3
        subst k1 k2 k3
        show wpAny _ _ _ _ _ _
        refine wpAny_pure ?_
        show wpAny _ _ (ret Value.none) _ _ _
        exact wpAny_pure ⟨rfl, h', tk', c, rfl, R1, hc, fun b o e => kp b o (Nat.ne_of_lt (Heap.lt_size e)) (Heap.get?_push_of_some _ e)⟩
      · cases r2 with
        | error e => exact hr2
        | ok fl2 =>
          cases fl2 with
          | ret r =>
            obtain ⟨rfl, h', tk, c, rfl, z1, z2, z3⟩ := hr2
            repeat (any_goals (first | assumption | wp_step))
            exact k _ _ _ z1 z2 z3
          | _ => exact hr2.elim
    | _ => exact hr.elim
/-- sorted of a set of any size -/
theorem sorted_setN {a : Addr} {S : Int → Bool} {n : Nat} {Q : Value → Shared → Prop} (R1 : SetR w s.heap a S n) (hh : A.handled = none)
    (hQ : ∀ s' p (out : List Value) (c : Nat) (ns : List Int), (∀ b o, s.heap.get? b = some o → s'.heap.get? b = some o) → s'.gens = s.gens → s'.os = s.os → s.heap.objs.size ≤ p →
      s'.heap.get? p = some (seqObj "list" out.toArray c) → IntsAre out ns → ns.Pairwise (· < ·) → (∀ k, k ∈ ns ↔ S k = true) → ns.length = n → Q (.ref p) s') :
    wpAny (model P w) A (call (.builtin "sorted") [.ref a]) Q E s := by
  obtain ⟨o, es, ep, t, ho, hex, hd, g, nd, hm, hb, hf, hn, hr, hl⟩ := R1
  refine Calls.call_function_entry kind_sorted plain_sorted entry_sorted (args_sorted1 _) ?_
  unfold Builtin.«sorted»
  refine wpAny_bind (m := checkCount "sorted" 1 1 _) (wpAny_pure ?_)
  refine wpAny_bind (collect_set (A := A.in1) hh ⟨o, ho, hex.1, hd⟩ hf hb hr hl fun s1 vs k1 hz g1 o1 pm => ?_)
  have vl : vs.length = n := by rw [pm.length_eq, List.length_map, Array.length_toList, hn]
  have vz : vs.length ≤ sizeLine := by rw [vl, sizeLine_eq]; unfold scanBound at hb; omega
  have vi : IntsAre vs (vs.map Builtin.Re.reRawOf) := L2.ints_of vs fun v hv => by
    obtain ⟨e, he, q⟩ := List.mem_map.mp (pm.mem_iff.mp hv)
    obtain ⟨k, tk, h1, h2⟩ := g e he
    exact ⟨k, tk, q ▸ h1⟩
  have pk : (vs.map Builtin.Re.reRawOf).Perm (es.toList.map keyOf) := by
    have q := pm.map Builtin.Re.reRawOf
    rwa [List.map_map] at q
  refine wpAny_bind (wpAny_newList ?_ vz)
  have ho2 : (s1.heap.push (seqObj "list" vs.toArray 0)).get? s1.heap.objs.size = some (seqObj "list" vs.toArray 0) := Heap.get?_push_size _ rfl
  refine wpAny_bind (wpAny_holding (wpAny_call_entry slot_list_sort ⟨_, ho2, rfl⟩ entry_list_sort (SrtO.list_sort_ord SrtO.swo_int ho2 vz (fun h2 => SrtO.ints_sortable vi h2) fun out h1 h2 => ⟨_, rfl, ?_⟩) (args_list_sort _)))
  obtain ⟨i1, i2, i3⟩ := SrtO.ints_out vi h1 h2
  obtain ⟨c, hc⟩ := sortedHeap_at (vs := vs) (out := out.toArray) ho2
  have pn := i2.trans pk
  refine wpAny_pure ⟨_, rfl, hQ _ s1.heap.objs.size out c _ (fun b u e => ?_) g1 o1 hz hc i1 (lt_of_le_nodup _ i3 (pn.nodup_iff.mpr nd)) (fun k => by rw [pn.mem_iff, ← hm k]) ?_⟩
  · have q := k1 b u e
    have lt := Heap.lt_size q
    show (sortedHeap (s1.heap.push (seqObj "list" vs.toArray 0)) s1.heap.objs.size vs out.toArray).get? b = some u
    rw [sortedHeap_old (Nat.ne_of_lt lt) (by rw [size_push']; exact Nat.lt_succ_of_lt lt)]
    exact Heap.get?_push_of_some _ q
  · rw [pn.length_eq, List.length_map, Array.length_toList, hn]
end
section
variable {X : Cx}
def rSetL (K : PySem.W.Frag) (w : World) : List V → Hp → VK → Prop := fun xs H Q => ∃ (l : Addr) (ns : List Int), xs = [.ref l] ∧ SqL K H l (ns.map V.int) ∧ ns.length + 1 < 4096 ∧ ∀ a c, H a = none → c ≤ ns.length → Q (.ref a) (upd H a (SetO w a (fun j => decide (j ∈ ns)) c))
theorem cr_setL (hc : X.calm = true) : CallR X (.type "set") (rSetL X.K X.w) := by
  intro pins s σ H xs us Q I r h
  obtain ⟨l, ns, rfl, hs, hb, q⟩ := h
  obtain ⟨its, rv, hl, hz⟩ := I.list hs
  rw [Vals.ref1 r]
  refine call_set_lst (ns := ns) (its := its.toArray) (I.ok.hd hc) hl.isList rv.ints (by unfold scanBound; omega) fun h' tk c R1 hcn kp => ?_
  exact ⟨.ref _, upd H s.heap.objs.size (SetO X.w s.heap.objs.size (fun j => decide (j ∈ ns)) c), I.laid (t' := tk) kp (Nat.le_refl _) (setO_new R1), rfl, q _ c (I.hok.fresh (Nat.le_refl _)) hcn⟩
def rSortSet (w : World) : List V → Hp → VK → Prop := fun vs H Q => ∃ (a : Addr) (S : Int → Bool) (n : Nat), vs = [V.ref a] ∧ H a = some (SetO w a S n) ∧
  ∀ (ns : List Int) (p : Addr), ns.Pairwise (· < ·) → (∀ k : Int, k ∈ ns ↔ S k = true) → H p = none → Q (.ref p) (upd H p (.lst (ns.map V.int)))
theorem cr_sortSet (hc : X.calm = true) : CallR X (.builtin "sorted") (rSortSet X.w) := by
  intro pins s σ H vs us Q I r h
  obtain ⟨a, S, n, rfl, ha, q⟩ := h
  have R1 := setO_get I ha
  have nb : n < scanBound := by
    obtain ⟨_, es, _, _, _, _, _, _, _, _, hb, _, hn, _⟩ := R1
    omega
  rw [Vals.ref1 r]
  refine sorted_setN R1 (I.ok.hd hc) fun s' p out c ns kp gg' oo hp hg hi hs hm hl => ?_
  have hlen : (ns.map V.int).length ≤ sizeLine := by rw [List.length_map, hl, sizeLine_eq]; unfold scanBound at nb; omega
  have hn : H p = none := I.hok.fresh hp
  have J : Inv X pins σ (upd H p (.lst (ns.map V.int))) { s with heap := s'.heap, gens := s'.gens, drawn := s'.drawn, toks := s'.toks } :=
    I.call (ch := []) (Un.laid kp hp hn) (I.hok.laid kp hp ⟨hlen, out, c, vals_of_ints hi, hg⟩) (by rw [gg']; exact I.bare) (fun _ z => nomatch z)
  have e : s' = { s with heap := s'.heap, gens := s'.gens, drawn := s'.drawn, toks := s'.toks } := by
    obtain ⟨_, _, _, _, _⟩ := s'
    obtain ⟨_, _, _, _, _⟩ := s
    cases oo
    rfl
  rw [e]
  exact ⟨.ref p, _, J, rfl, q ns p hs hm hn⟩
end
end DK

set_option Elab.async false
set_option linter.all false
set_option maxRecDepth 100000
set_option maxHeartbeats 1000000
/-! sorted(set(e)) over data -/
namespace DK
open PySem PySem.Spec PyProof.Rows L2 RZ
variable [TabsC]
def insU (x : Int) : List Int → List Int
  | [] => [x]
  | y :: r => if x < y then x :: y :: r else if x = y then y :: r else y :: insU x r
def usrt : List Int → List Int
  | [] => []
  | x :: r => insU x (usrt r)
theorem insU_mem {x z : Int} : ∀ {l : List Int}, z ∈ insU x l ↔ z = x ∨ z ∈ l
  | [] => by simp [insU]
  | y :: r => by
    unfold insU
    by_cases h1 : x < y
    · rw [if_pos h1]; simp
    · rw [if_neg h1]
      by_cases h2 : x = y
      · rw [if_pos h2]; subst h2; simp
      · rw [if_neg h2, List.mem_cons, insU_mem, List.mem_cons]
        constructor
        · rintro (h | h | h)
          · exact .inr (.inl h)
          · exact .inl h
          · exact .inr (.inr h)
        · rintro (h | h | h)
          · exact .inr (.inl h)
          · exact .inl h
          · exact .inr (.inr h)
theorem insU_up {x : Int} : ∀ {l : List Int}, l.Pairwise (· < ·) → (insU x l).Pairwise (· < ·)
  | [], _ => by simp [insU]
  | y :: r, h => by
    have h' := List.pairwise_cons.mp h
    unfold insU
    by_cases h1 : x < y
    · rw [if_pos h1]
      refine List.pairwise_cons.mpr ⟨fun z hz => ?_, h⟩
      rcases List.mem_cons.mp hz with rfl | hz
      · exact h1
      · have := h'.1 z hz; omega
    · rw [if_neg h1]
      by_cases h2 : x = y
      · rw [if_pos h2]; exact h
      · rw [if_neg h2]
        refine List.pairwise_cons.mpr ⟨fun z hz => ?_, insU_up h'.2⟩
        rcases insU_mem.mp hz with rfl | hz
        · omega
        · exact h'.1 z hz
theorem usrt_mem {z : Int} : ∀ {l : List Int}, z ∈ usrt l ↔ z ∈ l
  | [] => by simp [usrt]
  | x :: r => by rw [usrt, insU_mem, usrt_mem, List.mem_cons]
theorem usrt_up : ∀ l : List Int, (usrt l).Pairwise (· < ·)
  | [] => .nil
  | x :: r => insU_up (usrt_up r)
theorem up_one : ∀ {l m : List Int}, l.Pairwise (· < ·) → m.Pairwise (· < ·) → (∀ z, z ∈ l ↔ z ∈ m) → l = m
  | [], [], _, _, _ => rfl
  | [], y :: m, _, _, h => by have := (h y).mpr (by simp); simp at this
  | x :: l, [], _, _, h => by have := (h x).mp (by simp); simp at this
  | x :: l, y :: m, hl, hm, h => by
    have hl' := List.pairwise_cons.mp hl
    have hm' := List.pairwise_cons.mp hm
    have e : x = y := by
      rcases List.mem_cons.mp ((h x).mp (by simp)) with e | e
      · exact e
      · rcases List.mem_cons.mp ((h y).mpr (by simp)) with e2 | e2
        · exact e2.symm
        · have := hl'.1 _ e2; have := hm'.1 _ e; omega
    subst e
    congr 1
    refine up_one hl'.2 hm'.2 fun z => ⟨fun hz => ?_, fun hz => ?_⟩
    · rcases List.mem_cons.mp ((h z).mp (by simp [hz])) with e | e
      · subst e; have := hl'.1 _ hz; omega
      · exact e
    · rcases List.mem_cons.mp ((h z).mpr (by simp [hz])) with e | e
      · subst e; have := hm'.1 _ hz; omega
      · exact e
def gSSet : D → Option Vl
  | .lst xs => match intsD xs with
    | some ns => if ns.length + 1 < 4096 then some (.o ((usrt ns).map D.int)) else none
    | none => none
  | _ => none
def rSSet (K : PySem.W.Frag) (w : World) : V → Hp → VK → Prop := fun x H Q => rSetL K w [x] H fun y H2 => rSortSet w [y] H2 Q
theorem o1_sset {K : PySem.W.Frag} {w : World} {mg : Str → Option Value} : Op1 K mg (rSSet K w) gSSet := fun Fz H x dx v sub hx e Q q => by
  unfold gSSet at e
  split at e
  · rename_i xs
    split at e
    · rename_i ns hns
      split at e
      · rename_i hl
        cases e
        obtain ⟨l, vs, rfl, h1, h2⟩ := hx
        have := intsD_some hns
        subst this
        have e2 := repL_ints h2
        subst e2
        refine ⟨l, ns, rfl, .inl (.inl h1), hl, fun a c hn hc => ⟨a, _, c, rfl, upd_same, fun ms p hm hk hp => q _ Fz _ ?_⟩⟩
        have em : ms = usrt ns := up_one hm (usrt_up ns) fun z => by rw [hk z, usrt_mem, decide_eq_true_eq]
        subst em
        have n1 : p ≠ a := fun z => by rw [z, upd_same] at hp; cases hp
        rw [upd_ne n1] at hp
        have na : ∀ q o, H q = some o → q ≠ a := fun q o h => ne_of_none h hn
        have np : ∀ q o, H q = some o → q ≠ p := fun q o h => ne_of_none h hp
        have kp : ∀ b o, H b = some o → upd (upd H a (SetO w a (fun j => decide (j ∈ ns)) c)) p (.lst ((usrt ns).map V.int)) b = some o := fun b o h => by rw [upd_ne (np b o h), upd_ne (na b o h)]; exact h
        refine .of kp (fun b o h => kp b o (sub b o h)) (fun _ _ h => h) (fun _ o h => .inl ⟨o, h⟩) (fun h => h) ⟨p, _, rfl, upd_same, ?_, hp, repL_ofInts _⟩
        cases z : Fz p with
        | none => rfl
        | some o => have := sub p o z; rw [hp] at this; cases this
      · cases e
    · cases e
  · cases e
theorem de_sset {X : Cx} {E : XK} {a : Expr} {fa : FE} {p p2 q pos : Pos} (hm : X.mg "sorted" = none) (hm2 : X.mg "set" = none) (ha : DE X E a fa) (hg : Gl X "sorted" := by rfl) (hg2 : Gl X "set" := by rfl) (hc : X.calm = true := by rfl)
    (na : starEach [a] X.env = (false, eval a X.env) :: starEach [] X.env := by rfl) (nb : starEach [.Call (.Name "set" p2) [a] [] q] X.env = (false, eval (.Call (.Name "set" p2) [a] [] q) X.env) :: starEach [] X.env := by rfl)
    (hp1 : (backTo q (starEach [] X.env)).any (·.1) = false := by rfl) (hp2 : (backTo pos (starEach [] X.env)).any (·.1) = false := by rfl) : DE X E (.Call (.Name "sorted" p) [.Call (.Name "set" p2) [a] [] q] [] pos) (fOp1 gSSet fa) :=
  fun ad => PE_conseq (pe_callB (cr_sortSet hc) hg hm (by rfl) (pa_cons (pe_callTy (cr_setL hc) hg2 hm2 (by rfl) (pa_cons (ha ad) pa_nil na) (by decide) (by decide) na hp1) pa_nil nb) (by decide) (by decide) nb hp2) fun σ H Q h => tE_op1 (r := rSSet X.K X.w) o1_sset h
@[simp] theorem gSSet_m {ns : List Int} : gSSet (.lst (ns.map D.int)) = if ns.length + 1 < 4096 then some (.o ((usrt ns).map D.int)) else none := by
  unfold gSSet
  simp only [intsD_map]
end DK

set_option Elab.async false
set_option linter.all false
set_option maxRecDepth 100000
set_option maxHeartbeats 2000000
/-! a lambda without parameters handed to a def that calls it in a try -/
namespace DK
open PySem PySem.Spec PyProof.Rows L2 RZ LamX
/-- the context of the def that got the lambda -/
abbrev gCx (X : Cx) (Ng : List Str) (x : Str) (sg : Scope) (g : Addr) (cdg : Value) (s : Shared) (H : Hp) : Cx := cxOf L2.CX0 X.prog X.w X.K X.mg X.base Ng x sg g cdg X.A X.stack s H L2.E0
abbrev klam (X : Cx) (params : Arguments) (body : Expr) (scope : Scope) (pm : Value) (c' : Addr) (ctv : Value) : Obj := PySem.W.kla_obj "<lambda>" (X.env.qual ++ "<lambda>") params body scope (cloFrom X.env.cells scope.names []) pm c' ctv
/-- the lambda is made; what stood stands -/
theorem lam_made {X : Cx} {pins : List (Addr × Obj)} {σ : L2.St} {H : Hp} {s : Shared} {T : List (Addr × Str)} {c P : Addr} {params : Arguments} {body : Expr} {scope : Scope} {lp : Pos} {E Q : Value → Shared → Prop} (I : Inv X pins σ H s) (TB : TabB X.base X.mg c P) (hcode : X.env.code = .ref c)
    (hm : (P, X.env.qual ++ "<lambda>") ∈ T) (hu : ∀ p ∈ T, p.1 = P → p.2 = X.env.qual ++ "<lambda>") (hT : Tabs T H) (hdef : defaultsOf params X.env = ([], [])) (hfree : ∀ y ∈ scope.names, y.2 = .free → ∃ c, X.env.cells.lookup y.1 = some c)
    (k : ∀ (f c' : Addr) (pm ctv : Value) (H1 : Hp) (s' : Shared), Inv X pins σ H1 s' → ExtN H H1 → (∀ q, H1 q = none → H q = none) → Tabs T H1 → s'.heap.get? f = some (klam X params body scope pm c' ctv) → H1 f = none → f ∉ frs X.stack → H1 c' = some (CodeO c' (X.env.qual ++ "<lambda>")) → Q (.ref f) s') :
    wpAny (model X.prog X.w) X.A (eval (.Lambda params body scope lp) X.env) Q E s := by
  obtain ⟨ps, tP, tt, ta⟩ := hT _ hm
  have oP : s.heap.get? P = some { cls := .none, data := .fields ps } := I.hok P _ tP
  have low : ∀ g, s.heap.objs.size ≤ g → g ∉ frs X.stack := fun g hg z => by
    rcases List.mem_cons.mp (I.stkSub _ z) with e | e
    · have := I.lt
      rw [← e] at this
      exact Nat.lt_irrefl _ (Nat.lt_of_lt_of_le this hg)
    · exact I.nofs hg e
  refine PySem.W.kla_eval hdef ?_
  cases hc : codeAmong lp ps.toList with
  | some cv =>
    obtain ⟨c', rfl, hco⟩ := ta lp cv hc
    refine PySem.W.kla_makeFunctionHit (mg := X.mg) (c := c) (P := P) (ps := ps) (closure_ok hfree) I.ok.glob (I.mod.glob.keeps I.bk) hcode (TB.code.keeps I.bk) oP tt hc (TB.bm.keeps I.bk) fun ctv h' tk hx hsz => ?_
    exact k h'.objs.size c' ((X.mg "__name__").getD .none) ctv H _ (I.kept (t' := tk) fun b o e => Heap.get?_push_of_some _ (hx b o e)) (ExtN.refl H) (fun _ z => z) hT (Heap.get?_push_size _ rfl) (I.hok.fresh hsz) (low _ hsz) hco
  | none =>
    refine PySem.W.kla_makeFunction (mg := X.mg) (c := c) (P := P) (ps := ps) (closure_ok hfree) I.ok.glob (I.mod.glob.keeps I.bk) hcode (TB.code.keeps I.bk) oP tt hc TB.gP (TB.bm.keeps I.bk) fun c' ctv h' tk hx hge hlt hrec htb => ?_
    obtain ⟨_, oc, vs, tq, e2, r1, r2, r3⟩ := hrec
    cases e2
    have up : s.heap.objs.size ≤ h'.objs.size := Nat.le_trans hge (Nat.le_of_lt hlt)
    have nC : H c' = none := I.hok.fresh hge
    have nPC : P ≠ c' := ne_of_none tP nC
    obtain ⟨more, hmore⟩ : ∃ m : Array Value, m = #[rawInt lp.line, rawInt lp.col, .ref c'] := ⟨_, rfl⟩
    rw [← hmore] at htb
    obtain ⟨H1, hH1⟩ : ∃ H1, H1 = upd (upd H P (.tbl (ps ++ more))) c' (CodeO c' (X.env.qual ++ "<lambda>")) := ⟨_, rfl⟩
    have at1 : H1 c' = some (CodeO c' (X.env.qual ++ "<lambda>")) := by rw [hH1, upd_same]
    have at2 : H1 P = some (.tbl (ps ++ more)) := by rw [hH1, upd_ne nPC, upd_same]
    have at3 : ∀ b, b ≠ P → b ≠ c' → H1 b = H b := fun b n1 n2 => by rw [hH1, upd_ne n2, upd_ne n1]
    have J := inv_table (t' := tk) (more := more) (h' := h'.push (klam X params body scope ((X.mg "__name__").getD .none) c' ctv)) I tP (fun b o nb e => Heap.get?_push_of_some _ (hx b o nb e)) (Heap.get?_push_of_some _ htb) hge ⟨oc, vs, tq, Heap.get?_push_of_some _ r1, r2, r3⟩
    rw [← hH1] at J
    have eN : ExtN H H1 := fun b o e n => by
      rw [at3 b (fun z => n ps (by rw [z, tP] at e; exact (Option.some.inj e).symm)) (ne_of_none e nC)]
      exact e
    have dm : ∀ q, H1 q = none → H q = none := fun q z => by
      by_cases h1 : q = P
      · rw [h1, at2] at z; cases z
      · by_cases h2 : q = c'
        · rw [h2]; exact nC
        · rwa [at3 q h1 h2] at z
    have eL : (ps ++ more).toList = ps.toList ++ [rawInt lp.line, rawInt lp.col, .ref c'] := by rw [hmore]; simp
    refine k h'.objs.size c' ((X.mg "__name__").getD .none) ctv H1 _ J eN dm (fun p hp => ?_) (Heap.get?_push_size _ rfl) ?_ (low _ up) at1
    · by_cases hb : p.1 = P
      · rw [hu p hp hb, hb]
        refine ⟨_, at2, by rw [eL]; exact PySem.TriplesOk_snoc _ _ _ _ tt, fun p' cv hcv => ?_⟩
        rw [eL] at hcv
        rcases among_app _ tt hcv with z | z
        · obtain ⟨c0, e1, e2⟩ := ta p' cv z
          exact ⟨c0, e1, eN _ _ e2 codeO_ne⟩
        · exact ⟨c', z, at1⟩
      · obtain ⟨qs, a1, a2, a3⟩ := hT p hp
        refine ⟨qs, by rw [at3 _ hb (ne_of_none a1 nC)]; exact a1, a2, fun p' cv hcv => ?_⟩
        obtain ⟨c0, e1, e2⟩ := a3 p' cv hcv
        exact ⟨c0, e1, eN _ _ e2 codeO_ne⟩
    · rw [at3 _ (Nat.ne_of_gt (Nat.lt_of_lt_of_le (Heap.lt_size oP) up)) (Nat.ne_of_gt hlt)]
      exact I.hok.fresh up
def tLamD (T : List (Addr × Str)) (TT : (XK → Hp → VK → Prop) → Hp → VK → Prop) (t : XK → TE) : TE := fun σ H Q => Tabs T H ∧ ∀ H1, ExtN H H1 → (∀ q, H1 q = none → H q = none) → Tabs T H1 → TT (fun E H' Q' => t E σ H' Q') H1 Q
section
variable {X : Cx}
/-- a(), its exceptions wished for at the slots of the caller -/
theorem pe_thunk {Ng : List Str} {x : Str} {sg : Scope} {g f c' : Addr} {cdg pm ctv : Value} {params : Arguments} {body : Expr} {scope : Scope} {k i : Nat} {a : Str} {pn pins : List (Addr × Obj)} {xe : Value → Shared → Prop} {W : WX} {tb : XK → TE} {p1 p2 : Pos} {σ : L2.St} {H : Hp} {s : Shared}
    (I : Inv X pins σ H s) (L : LamS X.env.scope scope) (of : s.heap.get? f = some (klam X params body scope pm c' ctv)) (nf : H f = none) (ff : f ∉ frs X.stack)
    (hbind : bindArgs (PySem.W.kla_fn "<lambda>" (X.env.qual ++ "<lambda>") params body scope (cloFrom X.env.cells scope.names []) pm (.ref c') ctv) ⟨[], []⟩ = pure [])
    (tk : Takes ((gCx X Ng x sg g cdg s H).tr pn xe) W) (hr : Room (k + 1) (X.A.deeper (envOfC x sg s.heap.objs.size g cdg)))
    (hbody : ∀ (E : XK) (A : Around) (outer : List Env) (s : Shared) (H : Hp), Room k (A.deeper (lamEnv X scope s.heap.objs.size f c')) → PE (lamCx X A outer s H E scope f c') body (tb E))
    (hN : Ng[i]? = some a) (hv : Vis sg a) (hd : (a == ("__debug__" : Str)) = false) (hcd : (a == ("__classdict__" : Str)) = false) :
    PE ((gCx X Ng x sg g cdg s H).tr pn xe) (.Call (.Name a p1) [] [] p2) (fun σZ HZ Q => σZ[i]? = some (some (.ref f)) ∧ HZ c' = some (CodeO c' (X.env.qual ++ "<lambda>")) ∧ ∃ E : XK, (∀ cls d H', E cls d H' → W cls d σZ H') ∧ tb E σ HZ Q) := by
  constructor
  intro pZ sZ σZ HZ Q IZ h
  obtain ⟨h1, h2, E, hW, h3⟩ := h
  have rd := (pe_var (pos := p1) (i := i) hN hv hd hcd).run pZ sZ σZ HZ (fun v H1 => v = .ref f ∧ H1 = HZ) IZ ⟨.ref f, h1, rfl, rfl⟩
  refine wpAny_Call_Name_kw (thn rd fun u s1 q => ?_)
  obtain ⟨v, H1, I1, r1, e1, e2⟩ := q
  subst e1 e2
  obtain rfl : u = Value.ref f := r1
  have of1 : s1.heap.get? f = some (klam X params body scope pm c' ctv) := I1.base.keep f _ of nf ff (fun z => nomatch (show f ∈ ([] : List Addr) from z))
  have un : Un (frs X.stack) [] H H1 s.heap s1.heap := I1.base
  obtain ⟨⟨oc, vs, t, q1, q2, q3⟩, _⟩ := I1.hok c' _ h2
  refine PySem.W.callWith_F0 ⟨_, _, _, _, of1⟩ ?_
  have run : codeAny (model X.prog X.w) (X.A.deeper (envOfC x sg s.heap.objs.size g cdg)) (.call (.ref f) ⟨[], []⟩) (CR (L2.CX X.prog X.w) (envOfC x sg s.heap.objs.size g cdg :: X.stack) X.prog X.w H1 s1 Q E) s1 := by
    refine PySem.W.kla_callFunE hr.depth of1 rfl L.co L.gen rfl ⟨c', oc, vs, t, rfl, q1, q2, q3⟩ ?_
    rw [hbind]
    refine wpAny_pure (wpAny_newFunctionEnv (fun y hy => (L.own y hy).2) (fun y hy => absurd hy (by simp)) (fun h₁ hns hsb => ?_) L.kind)
    refine ⟨I1.nolimit.fresh _ hsb, ?_⟩
    show codeAny _ _ (.expr body (lamEnv X scope s1.heap.objs.size f c')) _ _
    have J := lam_start2 (f := f) (c' := c') (E := E) (tk := s1.toks + ([] : List (Str × Value)).length) I L I1.env0 hr.hd un hns fun b o e => hsb.extBut b o (Nat.ne_of_lt (Heap.lt_size e)) (Heap.get?_push_of_some _ e)
    refine PySem.W.kla_codeExpr (wpAny_mono ((hbody E _ _ s1 H1 (hr.deeper _)).run [] _ _ H1 Q J h3) (fun v s' hq => ?_) fun e s' hq => hq)
    obtain ⟨w', H', J', rv, q⟩ := hq
    exact ⟨w', H', J'.os, J'.bare, J'.base, J'.hok, rv, q⟩
  refine wpAny_call (codeAny_mono run fun r s' hq => ?_)
  cases r with
  | error e => exact tk e s' (XE.of_call I1 (fun cls d H' z => hW cls d H' z) hq)
  | ok fl => cases fl with
    | ret u => exact I1.after hq
    | next => exact hq.elim
    | brk => exact hq.elim
    | cont => exact hq.elim
/-- what the def makes of the lambda's reading -/
def Gives (X : Cx) (Ng : List Str) (x : Str) (sg : Scope) (g : Addr) (cdg : Value) (bg : List Stmt) (a : Str) (q : Str) (TT : (XK → Hp → VK → Prop) → Hp → VK → Prop) : Prop :=
  ∀ (f c' : Addr) (s : Shared) (H : Hp) (Q : VK) (tl : XK → Hp → VK → Prop),
    (∀ (W : WX) (pn : List (Addr × Obj)) (xe : Value → Shared → Prop) (p1 p2 : Pos), Takes ((gCx X Ng x sg g cdg s H).tr pn xe) W →
      PE ((gCx X Ng x sg g cdg s H).tr pn xe) (.Call (.Name a p1) [] [] p2) (fun σZ HZ Q => σZ[0]? = some (some (.ref f)) ∧ HZ c' = some (CodeO c' q) ∧ ∃ E : XK, (∀ cls d H', E cls d H' → W cls d σZ H') ∧ tl E HZ Q)) →
    H c' = some (CodeO c' q) → TT tl H Q → ∃ t, PSs (gCx X Ng x sg g cdg s H).nox bg t ∧ t { nx := fun _ H' => Q .non H', rt := Q } (L2.start Ng [.ref f]) H
/-- x(lambda: body) -/
theorem pe_lamto {T : List (Addr × Str)} {TT : (XK → Hp → VK → Prop) → Hp → VK → Prop} {x a : Str} {g c P : Addr} {k : Nat} {pg : Arguments} {bg : List Stmt} {sg : Scope} {dV kV doc pm cdv ct oc : Value} {an od : Option Addr} {osl : Array (Option Value)} {Ng : List Str}
    {params : Arguments} {body : Expr} {scope : Scope} {t : XK → TE} {p lpos pos : Pos} (hg : Gl X x) (hm : X.mg x = some (.ref g)) (hk : PySem.W.keepIn X.K (.ref g) = true)
    (lk : X.K.lookup g = some ⟨oc, od, .func (PySem.W.fnOf x x pg bg sg dV kV doc pm an cdv ct), osl⟩) (hcg : PySem.W.codeIn X.K cdv x = true) (hb : L2.Binds X.K (PySem.W.fnOf x x pg bg sg dV kV doc pm an cdv ct) [a] []) (Sg : FnScope Ng [a] sg) (hNg : Ng[0]? = some a) (hva : Vis sg a)
    (hG : Gives X Ng x sg g cdv bg a (X.env.qual ++ "<lambda>") TT)
    (TB : TabB X.base X.mg c P) (hcode : X.env.code = .ref c) (hmT : (P, X.env.qual ++ "<lambda>") ∈ T) (hu : ∀ p ∈ T, p.1 = P → p.2 = X.env.qual ++ "<lambda>") (hr : Room (k + 2) X.A) (L : LamS X.env.scope scope) (hdef : defaultsOf params X.env = ([], []))
    (hbind : ∀ (q : Str) (cl : List (Str × Addr)) (pm cv ctv : Value), bindArgs (PySem.W.kla_fn "<lambda>" q params body scope cl pm cv ctv) ⟨[], []⟩ = pure [])
    (hbody : ∀ (E : XK) (A : Around) (outer : List Env) (s : Shared) (H : Hp) (f c' : Addr), Room k (A.deeper (lamEnv X scope s.heap.objs.size f c')) → PE (lamCx X A outer s H E scope f c') body (t E))
    (hdb : (x == ("__debug__" : Str)) = false) (hd : (a == ("__debug__" : Str)) = false) (hcd : (a == ("__classdict__" : Str)) = false) :
    PE X (.Call (.Name x p) [.Lambda params body scope lpos] [] pos) (tLamD T TT t) := by
  constructor
  intro pins s σ H Q I h
  refine wpAny_Call_Name_kw (ld_glob I hg hm ?_ hdb)
  refine PySem.W.callWith_K (h₀ := X.base) I.ok.mod.kin hk ?_ (by rfl) (by rfl)
  show wpAny _ _ (spliced ((false, eval (.Lambda params body scope lpos) X.env) :: backTo pos (starEach [] X.env))) _ _ s
  refine Calls.spliced_cons (lam_made I TB hcode hmT hu h.1 hdef (L.has I.ok) fun f c' pm' ctv H1 s' I1 eN dm T1 hf hfn hfr hco => Calls.spliced_nil ⟨I1.kIn, ?_⟩)
  have run : codeAny (model X.prog X.w) X.A (.call (.ref g) ⟨[.ref f], []⟩) (CR L2.CX0 X.stack X.prog X.w H1 s' Q L2.E0) s' := by
    refine run_ofS (N := Ng) (ps := [a]) (us := [.ref f]) (vs := [.ref f]) lk hcg Sg hr I1.env0 (hb s' [.ref f] I1.kIn rfl) (.cons rfl .nil) rfl fun hr' => ?_
    obtain ⟨t', k1, k2⟩ := hG f c' s' H1 Q (fun E H' Q' => t E σ H' Q') (fun W pn xe p1 p2 tk => pe_thunk (i := 0) I1 L hf hfn hfr (hbind _ _ _ _ _) tk hr' (fun E A outer s H hr2 => hbody E A outer s H f c' hr2) hNg hva hd hcd) hco (h.2 H1 eN dm T1)
    exact ⟨t', k1.nox, k2⟩
  refine wpAny_call (codeAny_mono run fun r s2 hq => ?_)
  cases r with
  | error e => exact (show False from hq).elim
  | ok fl => cases fl with
    | ret u => exact I1.after hq
    | next => exact hq.elim
    | brk => exact hq.elim
    | cont => exact hq.elim
end
end DK

set_option Elab.async false
set_option linter.all false
set_option maxRecDepth 100000
set_option maxHeartbeats 2000000
/-! a op1 b op2 c op3 d -/
namespace DK
open PySem PySem.Spec PyProof.Rows L2 RZ
variable [TabsC]
def fChain3 (g g' g'' : D → D → Option Vl) (a b c d : FE) : FE := fun st => (a st).bind fun x => (b x.2).bind fun y => match bD2 x.1 y.1 y.2 g with
  | some (.p (.bl true)) => (c y.2).bind fun z => match bD2 y.1 z.1 z.2 g' with
    | some (.p (.bl true)) => (d z.2).bind fun w => oV (bD2 z.1 w.1 w.2 g'') w.2
    | some (.p (.bl false)) => .ok (.p (.bl false), z.2)
    | _ => .stuck
  | some (.p (.bl false)) => .ok (.p (.bl false), y.2)
  | _ => .stuck
def tChain3 (r r' r'' : R2) (ta tb tc td : TE) : TE := fun σ H Q => ta σ H fun x H1 => tb σ H1 fun y H2 => r x y H2 fun z H3 => ∃ k, z = .bl k ∧
  (if k = true then tc σ H3 fun w H4 => r' y w H4 fun z' H5 => ∃ k', z' = .bl k' ∧ (if k' = true then td σ H5 fun u H6 => r'' w u H6 Q else Q (.bl false) H5) else Q (.bl false) H3)
section
variable {X : Cx} {a b c d : Expr} {ta tb tc td : TE} {pos : Pos}
theorem pt_chain3 {op op' op'' : CmpOp} {r r' r'' : R2} (ho : OpR X (compareOp op) r) (ho' : OpR X (compareOp op') r') (ho'' : OpR X (compareOp op'') r'') (ha : PE X a ta) (hb : PE X b tb) (hc : PE X c tc) (hd : PE X d td)
    (hm : lastMarks [op, op', op''] [b, c, d] = false := by with_unfolding_all rfl) : PT X (.Compare a [op, op', op''] [b, c, d] pos) (tTest (tChain3 r r' r'' ta tb tc td)) := by
  refine ⟨fun pins s σ H Q I h => ?_⟩
  refine isTrue_chain (thn (ha.run pins s σ H _ I h) fun v s1 ⟨x, H1, I1, r1, q1⟩ => test_link (thn (hb.run pins s1 σ H1 _ I1 q1) fun u s2 ⟨y, H2, I2, r2, q2⟩ =>
    thn (ho pins s2 σ H2 x y v u _ I2 r1 r2 q2) fun d s3 ⟨z, H3, I3, r3, k, e, q3⟩ => ?_)) hm
  subst e
  cases r3
  refine wpAny_truthy_bool ?_
  cases k with
  | false =>
    obtain ⟨k', e', q'⟩ := q3
    cases e'
    exact ite_ff ⟨H3, I3, q'⟩
  | true =>
    refine ite_tt (test_link (thn (hc.run pins s3 σ H3 _ I3 q3) fun w' s4 ⟨z', H4, I4, r4, q4⟩ => thn (ho' pins s4 σ H4 y z' u w' _ I4 r2 r4 q4) fun d' s5 ⟨z2, H5, I5, r5, k2, e2, q5⟩ => ?_))
    subst e2
    cases r5
    refine wpAny_truthy_bool ?_
    cases k2 with
    | false =>
      obtain ⟨k', e', q'⟩ := q5
      cases e'
      exact ite_ff ⟨H5, I5, q'⟩
    | true =>
      refine ite_tt (test_last (thn (hd.run pins s5 σ H5 _ I5 q5) fun u' s6 ⟨z3, H6, I6, r6, q6⟩ => thn (ho'' pins s6 σ H6 z' z3 w' u' _ I6 r4 r6 q6) fun d' s7 ⟨z4, H7, I7, r7, k3, e3, q7⟩ => ?_))
      subst e3
      cases r7
      exact wpAny_truthy_bool ⟨H7, I7, q7⟩
end
section
variable {K : PySem.W.Frag} {mg : Str → Option Value} {ad : Nat → Option Addr} {σ : L2.St} {H : Hp} {E : XK}
theorem tE_chain3 {fa fb fc fd : FE} {g g' g'' : D → D → Option Vl} {r r' r'' : R2} (hr : Op2 K mg r g) (hr' : Op2 K mg r' g') (hr'' : Op2 K mg r'' g'') {Q : VK} (h : tE K mg ad E (fChain3 g g' g'' fa fb fc fd) σ H Q) : tChain3 r r' r'' (tE K mg ad E fa) (tE K mg ad E fb) (tE K mg ad E fc) (tE K mg ad E fd) σ H Q := by
  obtain ⟨st, Fz, rs, h⟩ := h
  refine ⟨st, Fz, rs, h.bind.imp fun ⟨vx, st1⟩ h1 x Fz1 H1 e1 => ⟨st1, Fz1, e1.rs, Out.shift (Out.bind h1) e1.fr fun ⟨vy, st2⟩ h2 y Fz2 H2 e2 => ?_⟩⟩
  dsimp only at h2
  split at h2
  · rename_i e
    refine bD2_ok0 hr e2.rs (e1.val.stay e2.fr) e2.val e fun z Fz3 H3 oe => ⟨true, oe.bl_inv, ⟨st2, Fz3, oe.rs e2.rs, Out.shift h2.bind ((e1.fr.trans e2.fr).trans oe.fr) fun ⟨vz, st4⟩ h4 w Fz4 H4 e4 => ?_⟩⟩
    dsimp only at h4
    split at h4
    · rename_i e'
      refine bD2_ok0 hr' e4.rs ((e2.val.stay oe.fr).stay e4.fr) e4.val e' fun z' Fz5 H5 oe' => ⟨true, oe'.bl_inv, ⟨st4, Fz5, oe'.rs e4.rs, Out.shift h4.bind ((((e1.fr.trans e2.fr).trans oe.fr).trans e4.fr).trans oe'.fr) fun ⟨vw, st6⟩ h6 u Fz6 H6 e6 => ?_⟩⟩
      dsimp only at h6
      cases ez : bD2 vz vw st6 g'' with
      | none => rw [ez] at h6; exact h6.elim
      | some v =>
        rw [ez] at h6
        exact bD2_ok hr'' e6.rs (((((e1.fr.trans e2.fr).trans oe.fr).trans e4.fr).trans oe'.fr).trans e6.fr) ((e4.val.stay oe'.fr).stay e6.fr) e6.val ez h6
    · rename_i e'
      exact bD2_ok0 hr' e4.rs ((e2.val.stay oe.fr).stay e4.fr) e4.val e' fun z' Fz5 H5 oe' => ⟨false, oe'.bl_inv, h4 _ _ _ (EEnd.of_p (oe'.rs e4.rs) ((((e1.fr.trans e2.fr).trans oe.fr).trans e4.fr).trans oe'.fr) repBl)⟩
    · exact h4.elim
  · rename_i e
    exact bD2_ok0 hr e2.rs (e1.val.stay e2.fr) e2.val e fun z Fz3 H3 oe => ⟨false, oe.bl_inv, h2 _ _ _ (EEnd.of_p (oe.rs e2.rs) ((e1.fr.trans e2.fr).trans oe.fr) repBl)⟩
  · exact h2.elim
end
section
variable {X : Cx} {E : XK} {a b c d : Expr} {fa fb fc fd : FE} {pos : Pos}
theorem dt_chain3 {op op' op'' : CmpOp} {r r' r'' : R2} {g g' g'' : D → D → Option Vl} (ho : OpR X (compareOp op) r) (hr : Op2 X.K X.mg r g) (ho' : OpR X (compareOp op') r') (hr' : Op2 X.K X.mg r' g') (ho'' : OpR X (compareOp op'') r'') (hr'' : Op2 X.K X.mg r'' g'')
    (ha : DE X E a fa) (hb : DE X E b fb) (hc : DE X E c fc) (hd : DE X E d fd) (hm : lastMarks [op, op', op''] [b, c, d] = false := by with_unfolding_all rfl) : DT X E (.Compare a [op, op', op''] [b, c, d] pos) (fChain3 g g' g'' fa fb fc fd) :=
  fun ad => PT_conseq (pt_chain3 ho ho' ho'' (ha ad) (hb ad) (hc ad) (hd ad) hm) fun σ H Q h => tE_chain3 hr hr' hr'' (tT_of_tE h)
/-! by simp -/
def kCh3d (g'' : D → D → Option Vl) (z : Vl) (w : Vl × Ds) : R (Vl × Ds) := oV (bD2 z w.1 w.2 g'') w.2
def kCh3c (g' g'' : D → D → Option Vl) (d : FE) (y : Vl) (z : Vl × Ds) : R (Vl × Ds) := match bD2 y z.1 z.2 g' with
    | some (.p (.bl true)) => (d z.2).bind (kCh3d g'' z.1)
    | some (.p (.bl false)) => .ok (.p (.bl false), z.2)
    | _ => .stuck
def kCh3b (g g' g'' : D → D → Option Vl) (c d : FE) (x : Vl) (y : Vl × Ds) : R (Vl × Ds) := match bD2 x y.1 y.2 g with
  | some (.p (.bl true)) => (c y.2).bind (kCh3c g' g'' d y.1)
  | some (.p (.bl false)) => .ok (.p (.bl false), y.2)
  | _ => .stuck
def kCh3a (g g' g'' : D → D → Option Vl) (b c d : FE) (x : Vl × Ds) : R (Vl × Ds) := (b x.2).bind (kCh3b g g' g'' c d x.1)
variable {g g' g'' : D → D → Option Vl} {st : Ds} {x y z w : Vl}
@[simp] theorem fChain3_eq : fChain3 g g' g'' fa fb fc fd st = (fa st).bind (kCh3a g g' g'' fb fc fd) := rfl
@[simp] theorem kCh3a_eq : kCh3a g g' g'' fb fc fd (x, st) = (fb st).bind (kCh3b g g' g'' fc fd x) := rfl
@[simp] theorem kCh3b_eq : kCh3b g g' g'' fc fd x (y, st) = (match bD2 x y st g with
  | some (.p (.bl true)) => (fc st).bind (kCh3c g' g'' fd y)
  | some (.p (.bl false)) => .ok (.p (.bl false), st)
  | _ => .stuck) := rfl
@[simp] theorem kCh3c_eq : kCh3c g' g'' fd y (z, st) = (match bD2 y z st g' with
  | some (.p (.bl true)) => (fd st).bind (kCh3d g'' z)
  | some (.p (.bl false)) => .ok (.p (.bl false), st)
  | _ => .stuck) := rfl
@[simp] theorem kCh3d_eq : kCh3d g'' z (w, st) = oV (bD2 z w st g'') st := rfl
end
end DK

set_option Elab.async false
set_option linter.all false
set_option maxRecDepth 100000
set_option maxHeartbeats 2000000
/-! a lambda handed to a def that asks whether it raises; raise -/
namespace DK
open PySem PySem.Spec PyProof.Rows L2 RZ LamX
/-- found = False; try: a() except e: found = True; return found -/
def TRef (K : PySem.W.Frag) (CS : Addr) : (XK → Hp → VK → Prop) → Hp → VK → Prop := fun tl H Q =>
  tl (fun cls _ H' => ∃ b, PySem.W.exmOne K cls (.ref CS) = some b ∧ (b = true → Q (.bl true) H') ∧ (b = false → False)) H (fun _ H' => Q (.bl false) H')
theorem refu_gives {X : Cx} {Ng : List Str} {x a e y q : Str} {sg : Scope} {g CS : Addr} {cdg : Value} {j1 j2 : _} {p1 p2 p3 p4 p5 p6 p7 p8 p9 p10 p11 p12 p13 p14 : Pos} (S : FnScope Ng [a] sg) (hNa : Ng[0]? = some a) (hNy : Ng[1]? = some y) (hl : sg.names.lookup y = some .local)
    (hge : sg.names.lookup e = some .globalImplicit) (hme : X.mg e = some (.ref CS)) (hde : (e == ("__debug__" : Str)) = false) (hdy : (y == ("__debug__" : Str)) = false) (hcy : (y == ("__classdict__" : Str)) = false) :
    Gives X Ng x sg g cdg [.Assign [.Name y p1] (.Constant (.bool false) j1 p2) p3, .Try [.Expr (.Call (.Name a p4) [] [] p5) p6] [.ExceptHandler (some (.Name e p7)) none [.Assign [.Name y p8] (.Constant (.bool true) j2 p9) p10] p11] [] [] p12, .Return (some (.Name y p13)) p14] a q (TRef X.K CS) := by
  intro f c' s H Q tl act hc h
  have hgl : Gl (gCx X Ng x sg g cdg s H).nox e := hge
  have nd := S.nd
  have hlen : 1 < Ng.length := (List.getElem?_eq_some_iff.mp hNy).1
  refine ⟨_, pss_cons (ps_set (X := (gCx X Ng x sg g cdg s H).nox) (i := 1) nd hNy (.inl hl) pe_bl) (pss_cons (ps_try_only (X := (gCx X Ng x sg g cdg s H).nox) (c := .ref CS)
    (tb := fun W D σ H => σ[0]? = some (some (.ref f)) ∧ H c' = some (CodeO c' q) ∧ ∃ E : XK, (∀ cls d H', E cls d H' → W cls d σ H') ∧ tl E H (fun _ H' => D.nx σ H'))
    rfl rfl ⟨hgl, hde, .inl hme⟩ LamX.takes0 (fun W pn xe tk _ => pss_one (ps_expr (act W pn xe p4 p5 tk)))
    (fun a oe cls d pn _ _ => pss_one (ps_set (i := 1) nd hNy (.inl hl) pe_bl))) (pss_one (ps_ret (pe_var (i := 1) hNy (.inl hl) hdy hcy)))), ?_⟩
  have l0 : 1 < (L2.start Ng [V.ref f]).length := by
    simp [L2.start]; omega
  have s0 : (L2.start Ng [V.ref f])[0]? = some (some (.ref f)) := by
    simp [L2.start]
  refine ⟨?_, hc, ?_⟩
  · rw [List.getElem?_set_ne (by decide)]; exact s0
  refine ⟨fun cls _ H' => ∃ b, PySem.W.exmOne X.K cls (.ref CS) = some b ∧ (b = true → Q (.bl true) H') ∧ (b = false → False), fun cls d H' ⟨b, e1, e2, e3⟩ => ⟨b, e1, fun hb a _ => ?_, fun hb => e3 hb⟩, ?_⟩
  · refine ⟨.bl true, ?_, e2 hb⟩
    rw [List.set_set, List.getElem?_set_self l0]
  · have hh : TRef X.K CS tl H Q := h
    unfold TRef at hh
    have : (fun (_ : V) H' => Q (.bl false) H') = fun (_ : V) (H' : Hp) => (tRet (tVar 1) { nx := fun _ H' => Q .non H', rt := Q } ((L2.start Ng [V.ref f]).set 1 (some (.bl false))) H') := by
      funext v H'
      have e : ((L2.start Ng [V.ref f]).set 1 (some (V.bl false)))[1]? = some (some (.bl false)) := List.getElem?_set_self l0
      apply propext
      constructor
      · intro z; exact ⟨_, e, z⟩
      · rintro ⟨v, e1, z⟩
        rw [e] at e1; cases e1; exact z
    rw [this] at hh
    exact hh
section
variable [TabsC]
def wipeS : Sl → Sl
  | .o _ => .un
  | .s _ => .un
  | s => s
def wipeO (st : Ds) : Ds := st.map wipeS
theorem wipe_own {st : Ds} {i : Nat} (h : Own (wipeO st) i) : False := by
  obtain ⟨xs, h | h⟩ := h
  all_goals
    unfold DK.wipeO at h
    rw [List.getElem?_map] at h
    cases e : st[i]? with
    | none => rw [e] at h; cases h
    | some s => rw [e] at h; cases s <;> cases h
theorem RS.wipeO {K : PySem.W.Frag} {mg : Str → Option Value} {ad : Nat → Option Addr} {Fz H : Hp} {st : Ds} {σ : L2.St} (rs : RS K mg ad Fz H st σ) : RS K mg ad Fz H (wipeO st) σ := by
  refine ⟨by unfold DK.wipeO; rw [List.length_map]; exact rs.len, rs.sub, fun i s h => ?_, fun i j a h => (wipe_own h).elim, rs.tab⟩
  unfold DK.wipeO at h
  rw [List.getElem?_map] at h
  cases e : st[i]? with
  | none => rw [e] at h; cases h
  | some s0 =>
    rw [e] at h
    have k := rs.slot i s0 e
    cases s0 with
    | un => cases h; trivial
    | p d => cases h; exact k
    | o xs => cases h; trivial
    | s xs => cases h; trivial
/-- whether fb raises what is caught -/
def fRefu (caught : Str → Bool) (fb : FE) : FE := fun st => match fb (wipeO st) with
  | .ok _ => .ok (.p (.bl false), st)
  | .err c _ => if caught c then .ok (.p (.bl true), st) else .stuck
  | .stuck => .stuck
theorem de_of_refu {X : Cx} {E : XK} {e : Expr} {fb : FE} {CS : Addr} {caught : Str → Bool} (h : ∀ ad, PE X e (tLamD TabsC.T (TRef X.K CS) (fun E' => tE X.K X.mg ad E' fb)))
    (hc : ∀ c, caught c = true → ∃ C, X.mg c = some (.ref C) ∧ PySem.W.exmOne X.K (.ref C) (.ref CS) = some true) : DE X E e (fRefu caught fb) := by
  intro ad
  refine PE_conseq (h ad) fun σ H Q hh => ?_
  obtain ⟨st, Fz, rs, hp⟩ := hh
  refine ⟨rs.tab.1, fun H1 eN dm T1 => ?_⟩
  have sub1 : ∀ a o, Fz a = some o → H1 a = some o := fun a o z => eN a o (rs.sub a o z) (fun ps => rs.tab.2 a o z ps)
  have rs1 : RS X.K X.mg ad Fz H1 st σ := rs.ext sub1 (fun q o z n => eN q o z n) (fun _ _ z => z) ⟨fun _ => T1, fun z => z⟩ (fun q o z => .inl ⟨o, z⟩)
  have own0 : ∀ q, ¬ Ows (wipeO st) σ q := fun q ⟨i, z, _⟩ => wipe_own z
  have fin : ∀ (b : Bool) (H2 : Hp), EK (Ows (wipeO st) σ) H1 H2 → (∀ x Fz' H', EEnd X.K X.mg ad (Ows st σ) Fz H (.p (.bl b)) st σ x Fz' H' → Q x H') → Q (.bl b) H2 := fun b H2 ek z => by
    have kp : ∀ q o, H1 q = some o → NT o → H2 q = some o := fun q o z n => ek.1 q o z (own0 q) n
    refine z (.bl b) Fz H2 (EEnd.of_p (rs1.ext (fun a o y => kp a o (sub1 a o y) (fun ps => rs.tab.2 a o y ps)) kp (fun _ _ y => y) ⟨ek.2.2, fun y => y⟩ (fun q o y => .inl ⟨o, y⟩)) ?_ (by rw [Rep]))
    exact ⟨fun q o y _ n => kp q o (eN q o y n) n, fun q y => dm q (ek.2.1 q y), fun _ _ y => y, fun q o y => .inl ⟨o, y⟩, fun q y => .inl y, fun _ => ek.2.2 T1, fun y => y⟩
  unfold TRef
  refine ⟨wipeO st, Fz, rs1.wipeO, ?_⟩
  unfold Post at hp ⊢
  unfold fRefu at hp
  cases r : fb (wipeO st) with
  | stuck => rw [r] at hp; exact hp.elim
  | err c l =>
    rw [r] at hp
    dsimp only at hp
    intro H2 ek C mC
    cases q : caught c with
    | false => rw [q] at hp; exact hp.elim
    | true =>
      rw [q] at hp
      obtain ⟨C', m1, m2⟩ := hc c q
      rw [mC] at m1
      cases m1
      have g : ∃ b, PySem.W.exmOne X.K (.ref C) (.ref CS) = some b ∧ (b = true → Q (.bl true) H2) ∧ (b = false → False) := ⟨true, m2, fun _ => fin true H2 ek hp, fun z => by cases z⟩
      cases l with
      | none => exact g
      | some n => exact fun d _ => g
  | ok v =>
    rw [r] at hp
    intro x Fz2 H2 ee
    exact fin false H2 ⟨ee.fr.keep, ee.fr.dom, ee.fr.tab.1⟩ hp
/-- one of the tables -/
def InT (T : List (Addr × Str)) (P : Addr) (q : Str) : Prop := (P, q) ∈ T ∧ ∀ p ∈ T, p.1 = P → p.2 = q
theorem inT_one {T : List (Addr × Str)} {P : Addr} {q : Str} (h : T = [(P, q)]) : InT T P q := by
  subst h
  exact ⟨List.mem_singleton.mpr rfl, fun p hp _ => by rw [List.mem_singleton.mp hp]⟩
/-- an exception class that a clause names -/
def ExcC (K : PySem.W.Frag) (mg : Str → Option Value) (x : Str) : Prop := ∃ C, mg x = some (.ref C) ∧ PySem.W.exmOne K (.ref C) (.ref C) = some true
/-- x(lambda: body), x asking whether it raises e -/
theorem de_refu {X : Cx} {E : XK} {st : Stmt} {Ng : List Str} {x a e y : Str} {c P : Addr} {k j : Nat} {fb : FE} {params : Arguments} {body : Expr} {scope : Scope} {p lpos pos p1 p2 p3 p4 p5 p6 p7 p8 p9 p10 p11 p12 p13 p14 : Pos} {j1 j2 : _}
    (h : Has X.K X.mg x st [a]) (hbd : defBody st = [.Assign [.Name y p1] (.Constant (.bool false) j1 p2) p3, .Try [.Expr (.Call (.Name a p4) [] [] p5) p6] [.ExceptHandler (some (.Name e p7)) none [.Assign [.Name y p8] (.Constant (.bool true) j2 p9) p10] p11] [] [] p12, .Return (some (.Name y p13)) p14])
    (S : FnScope Ng [a] (defScope st)) (he : ExcC X.K X.mg e) (TB : TabB X.base X.mg c P) (hT : InT TabsC.T P (X.env.qual ++ "<lambda>")) (hr : Room j X.A)
    (hbody : ∀ (E' : XK) (A : Around) (outer : List Env) (s : Shared) (H : Hp) (f c' : Addr), Room k (A.deeper (lamEnv X scope s.heap.objs.size f c')) → DE (lamCx X A outer s H E' scope f c') E' body fb)
    (L : LamS X.env.scope scope) (hcode : X.env.code = .ref c := by rfl) (hk : k + 2 ≤ j := by decide) (hg : Gl X x := by rfl) (hNa : Ng[0]? = some a := by rfl) (hNy : Ng[1]? = some y := by rfl) (hla : (defScope st).names.lookup a = some .local := by rfl) (hl : (defScope st).names.lookup y = some .local := by rfl)
    (hge : (defScope st).names.lookup e = some .globalImplicit := by rfl) (hdef : defaultsOf params X.env = ([], []) := by rfl)
    (hbind : ∀ (q : Str) (cl : List (Str × Addr)) (pm cv ctv : Value), bindArgs (PySem.W.kla_fn "<lambda>" q params body scope cl pm cv ctv) ⟨[], []⟩ = pure [] := by exact fun _ _ _ _ _ => rfl)
    (hdb : (x == ("__debug__" : Str)) = false := by decide) (hd : (a == ("__debug__" : Str)) = false := by decide) (hcd : (a == ("__classdict__" : Str)) = false := by decide) (hde : (e == ("__debug__" : Str)) = false := by decide) (hdy : (y == ("__debug__" : Str)) = false := by decide) (hcy : (y == ("__classdict__" : Str)) = false := by decide) :
    DE X E (.Call (.Name x p) [.Lambda params body scope lpos] [] pos) (fRefu (fun c => decide (c = e)) fb) := by
  obtain ⟨f, fd, hm, F, hb⟩ := h
  obtain ⟨CS, hme, hex⟩ := he
  have kp := F.kp
  obtain ⟨oc, od, kV, doc, pm, an, cdv, ct, osl, rfl, lk, hcd2⟩ := F.ex
  refine de_of_refu (CS := CS) (fun ad => ?_) (fun c hc => ?_)
  · refine pe_lamto (T := TabsC.T) (TT := TRef X.K CS) (k := k) (t := fun E' => tE X.K X.mg ad E' fb) hg hm kp lk hcd2 hb S hNa (.inl hla) ?_ TB hcode hT.1 hT.2 (hr.mono hk) L hdef hbind (fun E' A outer s H f c' hr2 => hbody E' A outer s H f c' hr2 ad) hdb hd hcd
    rw [hbd]
    exact refu_gives S hNa hNy hl hge hme hde hdy hcy
  · have : c = e := of_decide_eq_true hc
    subst this
    exact ⟨CS, hme, hex⟩
/-! raise -/
/-- an own exception class without own __init__, under ValueError -/
def ExcK (K : PySem.W.Frag) (mg : Str → Option Value) (x : Str) : Prop := ∃ C, mg x = some (.ref C) ∧ PySem.W.excIn K C [.type "ValueError", .type "Exception", .type "BaseException", .type "object"] "ValueError.__new__" = true ∧ PySem.W.keepIn K (.ref C) = true ∧
  PySem.W.subIn K (.ref C) (.type "BaseException") = some true ∧ PySem.W.typeIn K (.ref C) = some (.type "type")
def fErr (c : Str) : FS := fun _ => .err c none
theorem EK.refl {P : Addr → Prop} {H : Hp} : EK P H H := ⟨fun _ _ h _ _ => h, fun _ h => h, fun h => h⟩
theorem ds_raise {X : Cx} {E : XK} {x m : Str} {j : _} {p p2 p3 pos : Pos} (h : ExcK X.K X.mg x) (tk : Takes X (fun cls d _ H => E cls d H)) (hc : X.calm = true := by rfl) (hg : Gl X x := by rfl) (hdb : (x == ("__debug__" : Str)) = false := by decide) :
    DS X E (.Raise (some (.Call (.Name x p) [.Constant (.str m) j p2] [] p3)) none pos) (fErr x) := by
  intro ad
  obtain ⟨C, mC, q, kC, h1, h2⟩ := h
  refine PS_conseq (ps_raise hc tk (pmk_own PySem.F.excBase_ValueError q mC kC (raises_own h1 h2) hg hdb)) fun D σ H hh => ?_
  obtain ⟨st, Fz, rs, hp⟩ := hh
  exact hp H EK.refl C mC
/-- a law that makes lambdas -/
theorem fn_lawT {P : Program} {w : World} {K : PySem.W.Frag} {mg : Str → Option Value} {base : Heap} {st : Stmt} {f : Addr} {N : List Str} {k : Nat} {body : FS} {oc : Value} {od an : Option Addr} {osl : Array (Option Value)} {kV doc pm cdv ct : Value}
    (lk : K.lookup f = some ⟨oc, od, .func (PySem.W.fnOf "law" "law" (defArgs st) (defBody st) (defScope st) .none kV doc pm an cdv ct), osl⟩) (hcd : PySem.W.codeIn K cdv "law" = true) (S : FnScope N ["script"] (defScope st))
    (hb : ∀ (A : Around) (outer : List Env) (s : Shared) (H : Hp) (E : XK), Room k (A.deeper (envOfC "law" (defScope st) s.heap.objs.size f cdv)) → DSs (cxOf L2.CX0 P w K mg base N "law" (defScope st) f cdv A outer s H E).nox L2.E0 (defBody st) body)
    (h : ∀ ns : List Int, ns.length ≤ 63 → runF 1 N.length body [.scr ns] = .ok (.p (.bl true))) : FnOk P w K mg base L2.CX0 (k + 1) f (PySem.W.fnOf "law" "law" (defArgs st) (defBody st) (defScope st) .none kV doc pm an cdv ct) ["script"] (spLaw K) := by
  refine fn_of lk hcd S (fun vs H Q E ⟨a, ns, e, _⟩ => by subst e; rfl) fun A outer s H vs Q E hr ⟨a, ns, e, hS, hl, tb, q⟩ => ?_
  subst e
  refine ⟨_, (hb A outer s H E hr fun _ => none).nox, (body_ok (E := L2.E0) (np := 1) ⟨noT H, [.scr ns], fun _ _ z => noT_sub z, repL_cons (by rw [Rep]; exact ⟨a, rfl, sqL_noT hS⟩) repL_nil, ⟨tb, noT_nt⟩, ?_⟩).2⟩
  rw [h ns hl]
  intro x Fz' H' oe
  rw [oe.bl_inv]
  exact q H'
end
/-- the name of the code objects of the law's lambdas -/
abbrev lamName : Str := (("law" : Str) ++ (".<locals>." : Str)) ++ ("<lambda>" : Str)
/-- what the law's end wants -/
theorem law_at {l : PySem.W.OpenLaw} {w : World} {K : PySem.W.Frag} {mg : Str → Option Value} {fa c P : Addr} {h : Heap} {k : Nat} {fd : FuncData} (KX : K.In h) (hT : ∀ q ∈ [P], h.get? q = some (PySem.W.tabObj #[])) (nP : K.lookup P = none) (hC : PySem.W.codeHdIn K c P = true)
    (hbd : ∀ (s : Shared) (u : Value), BindsTo s fd ⟨[u], []⟩ [("script", u)])
    (hF : ∀ base : Heap, K.In base → base.Ns mainGlobals mg → TabB base mg c P → letI : TabsC := ⟨[(P, lamName)]⟩; FnOk l.prog w K mg base L2.CX0 k fa fd ["script"] (spLaw K)) : LawAtS l w K L2.CX0 k 63 "script" mg fa h := by
  letI : TabsC := ⟨[(P, lamName)]⟩
  refine ⟨fd, [(c, P)], spLaw K, fun p hp => ?_, fun p hp => ?_, fun p hp => ?_, hbd, fun H a ns hl _ ht hS => ⟨a, ns, rfl, hS, hl, fun p hp => ?_, fun _ => rfl⟩, fun base kb nb tb => hF base kb nb (tb _ (List.mem_singleton.mpr rfl))⟩
  · rw [List.mem_singleton.mp hp]; exact hT _ (List.mem_singleton.mpr rfl)
  · rw [List.mem_singleton.mp hp]; exact nP
  · rw [List.mem_singleton.mp hp]; exact PySem.W.codeHd_of_K KX hC
  · have e : p = (P, lamName) := List.mem_singleton.mp hp
    have z := ht _ (List.mem_singleton.mpr rfl)
    refine ⟨#[], by rw [e]; exact z, ?_, fun p' cv hcv => ?_⟩
    · first | exact trivial | exact .nil | simp [PySem.TriplesOk]
    · first | cases hcv | (simp [codeAmong] at hcv)
/-! running them by simp -/
section
variable {st : Ds} {c : Str} {l : Option Int} {x : Vl × Ds} {k : Str → Bool} {fb : FE}
@[simp] theorem fErr_eq : fErr c st = .err c none := rfl
def kRefu (k : Str → Bool) (st : Ds) : R (Vl × Ds) → R (Vl × Ds)
  | .ok _ => .ok (.p (.bl false), st)
  | .err c _ => if k c then .ok (.p (.bl true), st) else .stuck
  | .stuck => .stuck
@[simp] theorem fRefu_eq : fRefu k fb st = kRefu k st (fb (wipeO st)) := rfl
@[simp] theorem kRefu_ok : kRefu k st (.ok x) = .ok (.p (.bl false), st) := rfl
@[simp] theorem kRefu_err : kRefu k st (.err c l) = if k c then .ok (.p (.bl true), st) else .stuck := rfl
@[simp] theorem wipeO_nil : wipeO [] = [] := rfl
@[simp] theorem wipeO_cons {s : Sl} : wipeO (s :: st) = wipeS s :: wipeO st := rfl
@[simp] theorem wipeS_p {d : D} : wipeS (.p d) = .p d := rfl
@[simp] theorem wipeS_un : wipeS .un = .un := rfl
@[simp] theorem wipeS_o {xs : List D} : wipeS (.o xs) = .un := rfl
@[simp] theorem wipeS_s {xs : List D} : wipeS (.s xs) = .un := rfl
end
end DK

set_option Elab.async false
set_option linter.all false
set_option maxRecDepth 100000
set_option maxHeartbeats 2000000
/-! what a call made, changed and forgotten -/
namespace DK
open PySem PySem.Spec PyProof.Rows L2 RZ
mutual
/-- no list within -/
def noL : D → Bool
  | .non => true
  | .bl _ => true
  | .int _ => true
  | .str _ => true
  | .tup xs => noLs xs
  | .lst _ => false
  | .scr _ => false
  | .obj c _ xs => decide (c = "") && noLs xs
def noLs : List D → Bool
  | [] => true
  | d :: ds => noL d && noLs ds
end
section
variable {K : PySem.W.Frag} {mg : Str → Option Value} {Fz Fz' : Hp}
theorem sqT_nl {a : Addr} {xs : List V} (e : ∀ b o, Fz b = some o → (∀ vs, o ≠ .lst vs) → Fz' b = some o) (h : SqT K Fz a xs) : SqT K Fz' a xs := by
  rcases h with (h | ⟨o, h⟩) | h
  · exact .inl (.inl (e _ _ h fun vs z => by cases z))
  · exact .inl (.inr ⟨o, e _ _ h fun vs z => by cases z⟩)
  · exact .inr h
mutual
theorem Rep.nl (e : ∀ b o, Fz b = some o → (∀ vs, o ≠ .lst vs) → Fz' b = some o) : ∀ (d : D) (v : V), noL d = true → Rep K mg Fz d v → Rep K mg Fz' d v
  | .non, v, _, h => by rw [Rep] at h ⊢; exact h
  | .bl b, v, _, h => by rw [Rep] at h ⊢; exact h
  | .int i, v, _, h => by rw [Rep] at h ⊢; exact h
  | .str s, v, _, h => by rw [Rep] at h ⊢; exact h
  | .tup ds, v, n, h => by
    rw [Rep] at h ⊢
    obtain ⟨a, vs, e1, e2, e3⟩ := h
    exact ⟨a, vs, e1, sqT_nl e e2, RepL.nl e ds vs (by rw [noL] at n; exact n) e3⟩
  | .lst ds, v, n, h => by rw [noL] at n; cases n
  | .scr ns, v, n, h => by rw [noL] at n; cases n
  | .obj c ks ds, v, n, h => by
    rw [noL, Bool.and_eq_true, decide_eq_true_eq] at n
    rw [Rep] at h ⊢
    obtain ⟨a, vs, e1, e2, e3⟩ := h
    refine ⟨a, vs, e1, RepL.nl e ds vs n.2 e2, ?_⟩
    rcases e3 with ⟨z, o, h1, h2⟩ | ⟨z, _⟩
    · exact .inl ⟨z, o, e _ _ h1 (fun vs w => by cases w), h2⟩
    · exact (z n.1).elim
theorem RepL.nl (e : ∀ b o, Fz b = some o → (∀ vs, o ≠ .lst vs) → Fz' b = some o) : ∀ (d : List D) (v : List V), noLs d = true → RepL K mg Fz d v → RepL K mg Fz' d v
  | [], [], _, h => by rw [RepL]; trivial
  | [], _ :: _, _, h => by rw [RepL] at h; exact h.elim; all_goals simp
  | _ :: _, [], _, h => by rw [RepL] at h; exact h.elim; all_goals simp
  | d :: ds, v :: vs, n, h => by
    rw [RepL] at h ⊢
    rw [noLs, Bool.and_eq_true] at n
    exact ⟨Rep.nl e d v n.1 h.1, RepL.nl e ds vs n.2 h.2⟩
end
end
/-- what is left of a slot behind such a block: ahead, behind -/
def mx : Sl → Sl → Sl
  | .p d, _ => .p d
  | .o _, .o ys => if noLs ys then .o ys else .un
  | .o _, .p (.lst ys) => if noLs ys then .p (.lst ys) else .un
  | _, _ => .un
theorem mx_o {a b : Sl} {xs : List D} (h : mx a b = .o xs) : ∃ zs, a = .o zs ∧ ∃ ys, b = .o ys := by
  cases a with
  | un => cases h
  | p d => cases h
  | s zs => cases h
  | o zs =>
    refine ⟨zs, rfl, ?_⟩
    cases b with
    | un => cases h
    | s ys => cases h
    | o ys => exact ⟨ys, rfl⟩
    | p d =>
      cases d with
      | lst ys =>
        simp only [mx] at h
        split at h <;> cases h
      | _ => cases h
theorem mx_s {a b : Sl} {xs : List D} (h : mx a b = .s xs) : False := by
  cases a with
  | un => cases h
  | p d => cases h
  | s zs => cases h
  | o zs =>
    cases b with
    | un => cases h
    | s ys => cases h
    | o ys =>
      simp only [mx] at h
      split at h <;> cases h
    | p d =>
      cases d with
      | lst ys =>
        simp only [mx] at h
        split at h <;> cases h
      | _ => cases h
def mxs (i : Nat) (st2 st4 : Ds) : Ds := (List.zipWith mx st2 st4).set i .un
theorem mxs_get {i j : Nat} {st2 st4 : Ds} {s : Sl} (h : (mxs i st2 st4)[j]? = some s) : (j = i ∧ s = .un) ∨ (j ≠ i ∧ ∃ a b, st2[j]? = some a ∧ st4[j]? = some b ∧ s = mx a b) := by
  unfold mxs at h
  rw [List.getElem?_set] at h
  split at h
  · rename_i e
    split at h
    · cases h; exact .inl ⟨e.symm, rfl⟩
    · cases h
  · rename_i e
    rw [List.getElem?_zipWith] at h
    split at h
    · rename_i a b e1 e2
      cases h
      exact .inr ⟨fun z => e z.symm, a, b, e1, e2, rfl⟩
    · cases h
section
variable [TabsC]
variable {K : PySem.W.Frag} {mg : Str → Option Value} {ad : Nat → Option Addr} {Fz2 H2 Fz4 H4 H6 : Hp} {st2 st4 : Ds} {σ : L2.St} {i : Nat} {x : V} {M : Addr → Prop}
open Classical in
/-- the frozen part without what was changed -/
noncomputable def cut (Fz : Hp) (M : Addr → Prop) : Hp := fun q => if M q then none else Fz q
theorem cut_some {Fz : Hp} {q : Addr} {o : HO} (h : cut Fz M q = some o) : ¬ M q ∧ Fz q = some o := by
  unfold cut at h
  split at h
  · cases h
  · rename_i n; exact ⟨n, h⟩
theorem cut_of {Fz : Hp} {q : Addr} {o : HO} (n : ¬ M q) (h : Fz q = some o) : cut Fz M q = some o := by
  unfold cut
  rw [if_neg n]; exact h
theorem cut_none {Fz : Hp} {q : Addr} (h : Fz q = none) : cut Fz M q = none := by
  unfold cut
  split
  · rfl
  · exact h
theorem thaw_end (rs2 : RS K mg ad Fz2 H2 st2 σ) (rs4 : RS K mg ad Fz4 H4 st4 (σ.set i (some x)))
    (keep : ∀ q o, H2 q = some o → ¬ Ows st2 σ q → NT o → H4 q = some o) (dom : ∀ q, H4 q = none → H2 q = none) (fmon : ∀ q o, Fz2 q = some o → Fz4 q = some o) (fnew : ∀ q o, Fz4 q = some o → (∃ u, Fz2 q = some u) ∨ Ows st2 σ q ∨ H2 q = none)
    (hM : ∀ q, M q → H2 q = none ∧ ∃ vs, Fz4 q = some (.lst vs)) (h6 : ∀ q, ¬ M q → H6 q = H4 q) (m6 : ∀ q, M q → ∃ vs, H6 q = some (.lst vs)) (tb : Tbs H2 → Tbs H6) :
    SEnd K mg ad (Ows st2 σ) Fz2 H2 (mxs i st2 st4) (σ.set i (some x)) (cut Fz4 M) H6 := by
  have l2 := rs2.len
  have l4 := rs4.len
  rw [List.length_set] at l4
  have sub6 : ∀ a o, cut Fz4 M a = some o → H6 a = some o := fun a o h => by
    obtain ⟨n, h⟩ := cut_some h
    rw [h6 a n]; exact rs4.sub a o h
  have f26 : ∀ q o, Fz2 q = some o → cut Fz4 M q = some o := fun q o h => cut_of (fun m => by
    have := (hM q m).1
    rw [rs2.sub q o h] at this; cases this) (fmon q o h)
  have nl : ∀ b o, Fz4 b = some o → (∀ vs, o ≠ .lst vs) → cut Fz4 M b = some o := fun b o h n => cut_of (fun m => by
    obtain ⟨_, vs, e⟩ := hM b m
    rw [h] at e; cases e; exact n _ rfl) h
  have sg : ∀ j, j ≠ i → (σ.set i (some x))[j]? = σ[j]? := fun j n => List.getElem?_set_ne (fun z => n z.symm)
  have own : ∀ j, Own (mxs i st2 st4) j → j ≠ i ∧ Own st2 j ∧ Own st4 j := fun j ⟨xs, h⟩ => by
    rcases h with h | h
    · rcases mxs_get h with ⟨_, z⟩ | ⟨n, a, b, e1, e2, e3⟩
      · cases z
      · obtain ⟨zs, rfl, ys, rfl⟩ := mx_o e3.symm
        exact ⟨n, ⟨_, .inl e1⟩, ⟨_, .inl e2⟩⟩
    · rcases mxs_get h with ⟨_, z⟩ | ⟨n, a, b, e1, e2, e3⟩
      · cases z
      · exact (mx_s e3.symm).elim
  have ows : ∀ q, Ows (mxs i st2 st4) (σ.set i (some x)) q → Ows st2 σ q := fun q ⟨j, h1, h2⟩ => by
    obtain ⟨n, o2, _⟩ := own j h1
    exact ⟨j, o2, by rw [← sg j n]; exact h2⟩
  refine ⟨⟨?_, sub6, fun j s h => ?_, fun j k a hj hk e1 e2 => ?_, tb rs2.tab.1, fun q o h => rs4.tab.2 q o (cut_some h).2⟩, ⟨fun q o h n nt => ?_, fun q h => ?_, f26, fun q o h => fnew q o (cut_some h).2, fun q h => .inl (ows q h), tb, fun _ q o h => rs4.tab.2 q o (cut_some h).2⟩⟩
  · unfold mxs
    rw [List.length_set, List.length_zipWith, List.length_set, l2, l4, Nat.min_self]
  · rcases mxs_get h with ⟨_, z⟩ | ⟨n, a, b, e1, e2, e3⟩
    · rw [z]; trivial
    · have k2 := rs2.slot j a e1
      have k4 := rs4.slot j b e2
      rw [sg j n] at k4 ⊢
      cases a with
      | un => simp only [mx] at e3; rw [e3]; trivial
      | s xs => simp only [mx] at e3; rw [e3]; trivial
      | p d =>
        simp only [mx] at e3
        rw [e3]
        obtain ⟨y, y1, y2⟩ := k2
        exact ⟨y, y1, y2.mono f26⟩
      | o xs =>
        obtain ⟨s, vs, z1, z2, z3, z4⟩ := k2
        cases b with
        | un => simp only [mx] at e3; rw [e3]; trivial
        | s xs => simp only [mx] at e3; rw [e3]; trivial
        | o ys =>
          simp only [mx] at e3
          split at e3
          · rename_i hn
            rw [e3]
            obtain ⟨t, ws, w1, w2, w3, w4⟩ := k4
            refine ⟨t, ws, w1, ?_, cut_none w3, RepL.nl nl ys ws hn w4⟩
            rw [h6 t fun m => by
              obtain ⟨_, vs, e⟩ := hM t m
              rw [w3] at e; cases e]
            exact w2
          · rw [e3]; trivial
        | p d =>
          cases d with
          | lst ys =>
            simp only [mx] at e3
            split at e3
            · rename_i hn
              rw [e3]
              obtain ⟨y, y1, y2⟩ := k4
              rw [Rep] at y2
              obtain ⟨t, ws, w1, w2, w3⟩ := y2
              refine ⟨y, y1, ?_⟩
              rw [Rep]
              rw [z1, w1] at y1
              have est : s = t := by cases y1; rfl
              refine ⟨t, ws, w1, cut_of (fun m => ?_) w2, RepL.nl nl ys ws hn w3⟩
              have hm := (hM t m).1
              rw [← est, z2] at hm; cases hm
            · rw [e3]; trivial
          | _ => simp only [mx] at e3; rw [e3]; trivial
  · obtain ⟨nj, _, o4⟩ := own j hj
    obtain ⟨nk, _, p4⟩ := own k hk
    exact rs4.inj j k a o4 p4 e1 e2
  · have h4 := keep q o h n nt
    rw [h6 q fun m => by have := (hM q m).1; rw [h] at this; cases this]
    exact h4
  · by_cases m : M q
    · obtain ⟨vs, e⟩ := m6 q m
      rw [e] at h; cases h
    · rw [h6 q m] at h
      exact dom q h
end
end DK

set_option Elab.async false
set_option linter.all false
set_option maxRecDepth 100000
set_option maxHeartbeats 2000000
/-! x = f(..); if c: return False; x[0].append(..); .. : x is forgotten -/
namespace DK
open PySem PySem.Spec PyProof.Rows L2 RZ
def nlF (Fz : Hp) : Hp := fun q => match Fz q with
  | some (.lst _) => none
  | o => o
theorem nlF_some {Fz : Hp} {q : Addr} {o : HO} (h : nlF Fz q = some o) : Fz q = some o ∧ ∀ vs, o ≠ .lst vs := by
  unfold nlF at h
  split at h
  · cases h
  · rename_i n
    exact ⟨h, fun vs z => n vs (by rw [h, z])⟩
theorem nlF_of {Fz : Hp} {q : Addr} {o : HO} (h : Fz q = some o) (n : ∀ vs, o ≠ .lst vs) : nlF Fz q = some o := by
  unfold nlF
  split
  · rename_i vs e
    rw [h] at e; cases e
    exact (n vs rfl).elim
  · exact h
def dat : Vl → Option D
  | .p d => some d
  | .o xs => some (.lst xs)
  | .r _ => none
section
variable [TabsC]
variable {K : PySem.W.Frag} {mg : Str → Option Value} {ad : Nat → Option Addr} {Fz2 H2 Fzc H3 : Hp} {st2 : Ds} {σ : L2.St} {i : Nat} {x : V} {v : Vl} {d : D} {E : XK}
/-- what a call made -/
structure Fresh (K : PySem.W.Frag) (mg : Str → Option Value) (ad : Nat → Option Addr) (Fz2 H2 : Hp) (st2 : Ds) (σ : L2.St) (i : Nat) (d : D) (x : V) (H3 Fz3 FzN : Hp) : Prop where
  rs : RS K mg ad Fz3 H3 (st2.set i (.p d)) (σ.set i (some x))
  keep : ∀ q o, H2 q = some o → NT o → H3 q = some o
  dom : ∀ q, H3 q = none → H2 q = none
  fmon : ∀ q o, Fz2 q = some o → Fz3 q = some o
  fnew : ∀ q o, Fz3 q = some o → (∃ u, Fz2 q = some u) ∨ H2 q = none
  tab : Tbs H2 → Tbs H3
  val : Rep K mg FzN d x
  sub : ∀ q o, FzN q = some o → Fz3 q = some o
  new : ∀ q vs, FzN q = some (.lst vs) → H2 q = none
theorem fresh_ok (rs2 : RS K mg ad Fz2 H2 st2 σ) (oe : OEnd K mg (nlF Fz2) H2 v x Fzc H3) (hd : dat v = some d) : ∃ Fz3 FzN, Fresh K mg ad Fz2 H2 st2 σ i d x H3 Fz3 FzN := by
  have core : ∀ FzN : Hp, (∀ q o, FzN q = some o → H3 q = some o) → NoTb FzN → (∀ q o, FzN q = some o → (∃ u, nlF Fz2 q = some u ∧ u = o) ∨ H2 q = none) → Rep K mg FzN d x → ∃ Fz3 FzN, Fresh K mg ad Fz2 H2 st2 σ i d x H3 Fz3 FzN := fun FzN sN tN nN rN => by
    obtain ⟨Fz3, h3⟩ : ∃ Fz3 : Hp, ∀ q, Fz3 q = match Fz2 q with | some o => some o | none => FzN q := ⟨fun q => match Fz2 q with | some o => some o | none => FzN q, fun q => rfl⟩
    have f23 : ∀ q o, Fz2 q = some o → Fz3 q = some o := fun q o e => by rw [h3, e]
    have inv : ∀ q o, Fz3 q = some o → Fz2 q = some o ∨ FzN q = some o := fun q o e => by
      rw [h3] at e
      cases z : Fz2 q with
      | some u => rw [z] at e; exact .inl e
      | none => rw [z] at e; exact .inr e
    have sub3 : ∀ q o, Fz3 q = some o → H3 q = some o := fun q o e => by
      rcases inv q o e with e | e
      · exact oe.keep q o (rs2.sub q o e) (rs2.tab.2 q o e)
      · exact sN q o e
    have fN3 : ∀ q o, FzN q = some o → Fz3 q = some o := fun q o e => by
      cases z : Fz2 q with
      | none => rw [h3, z]; exact e
      | some u =>
        have := sub3 q u (f23 q u z)
        rw [sN q o e] at this
        rw [f23 q u z, this]
    have fnew : ∀ q o, Fz3 q = some o → (∃ u, Fz2 q = some u) ∨ H2 q = none := fun q o e => by
      rcases inv q o e with e | e
      · exact .inl ⟨o, e⟩
      · rcases nN q o e with ⟨u, z, _⟩ | z
        · exact .inl ⟨u, (nlF_some z).1⟩
        · exact .inr z
    have nt3 : NoTb Fz3 := fun q o e => by
      rcases inv q o e with e | e
      · exact rs2.tab.2 q o e
      · exact tN q o e
    have rs3 : RS K mg ad Fz3 H3 st2 σ := rs2.ext sub3 oe.keep f23 ⟨oe.tab.1, fun _ => nt3⟩ fnew
    exact ⟨Fz3, FzN, ⟨rs3.set_p (rN.mono fN3), oe.keep, oe.dom, f23, fnew, oe.tab.1, rN, fN3, fun q vs e => by
      rcases nN q _ e with ⟨u, z, zz⟩ | z
      · exact ((nlF_some z).2 vs zz).elim
      · exact z⟩⟩
  have ntc : NoTb Fzc := oe.tab.2 fun q o e => rs2.tab.2 q o (nlF_some e).1
  have nc : ∀ q o, Fzc q = some o → (∃ u, nlF Fz2 q = some u ∧ u = o) ∨ H2 q = none := fun q o e => by
    rcases oe.fnew q o e with ⟨u, z⟩ | z
    · refine .inl ⟨u, z, ?_⟩
      have := oe.fmon q u z
      rw [e] at this
      exact (Option.some.inj this).symm
    · exact .inr z
  cases v with
  | r j => cases hd
  | p d' =>
    cases hd
    exact core Fzc oe.sub ntc nc oe.val
  | o xs =>
    cases hd
    obtain ⟨a, vs, e1, e2, e3, e4, e5⟩ := oe.val
    have mono : ∀ q o, Fzc q = some o → upd Fzc a (.lst vs) q = some o := fun q o e => by
      rw [upd_ne (fun z => by rw [z, e3] at e; cases e)]; exact e
    refine core (upd Fzc a (.lst vs)) (fun q o e => ?_) (ntb_lst ntc) (fun q o e => ?_) (by rw [Rep]; exact ⟨a, vs, e1, upd_same, e5.mono mono⟩)
    · by_cases z : q = a
      · rw [z, upd_same] at e; cases e; rw [z]; exact e2
      · rw [upd_ne z] at e; exact oe.sub q o e
    · by_cases z : q = a
      · rw [z]; exact .inr e4
      · rw [upd_ne z] at e; exact nc q o e
/-- x = f(..); if c: return False; and some changes at what is new -/
def fFresh (chk : D → Bool) (i : Nat) (fn : List D → R Vl) (fa : FA) (c : FE) : FS := fun st => match fa st with
  | .ok x => match fzVs x.1 x.2 with
    | some (ds, st2) => if noLs ds && decide (i < st2.length) then match fn ds with
      | .ok v => match dat v with
        | some d => if chk d then match c (st2.set i (.p d)) with
          | .ok y => match y.1 with
            | .p (.bl false) => .ok (.nx (mxs i st2 y.2))
            | _ => .stuck
          | _ => .stuck
          else .stuck
        | none => .stuck
      | _ => .stuck
      else .stuck
    | none => .stuck
  | _ => .stuck
/-- the changes m keep all but what is new -/
def Changes (K : PySem.W.Frag) (mg : Str → Option Value) (i : Nat) (chk : D → Bool) (m : TS) : Prop :=
  ∀ (d : D) (x : V) (FzN H4 : Hp) (σ : L2.St) (D : Ends), chk d = true → Rep K mg FzN d x → (∀ q o, FzN q = some o → H4 q = some o) → (σ[i]? = some (some x)) →
    (∀ (M : Addr → Prop) (H6 : Hp), (∀ q, M q → ∃ vs, FzN q = some (.lst vs)) → (∀ q, ¬ M q → H6 q = H4 q) → (∀ q, M q → ∃ vs, H6 q = some (.lst vs)) → (Tbs H4 → Tbs H6) → D.nx σ H6) → m D σ H4
theorem set_own {d : D} {q : Addr} (h : Ows (st2.set i (.p d)) (σ.set i (some x)) q) : Ows st2 σ q := by
  obtain ⟨j, ⟨xs, o⟩, e⟩ := h
  by_cases z : j = i
  · subst z
    rcases o with o | o <;> (rw [List.getElem?_set] at o; simp at o)
  · rw [List.getElem?_set_ne (fun w => z w.symm)] at o e
    exact ⟨j, ⟨xs, o⟩, e⟩
theorem tS_fresh {chk : D → Bool} {fn : List D → R Vl} {fa : FA} {c : FE} {m : TS} {D : Ends} {H : Hp} (hm : Changes K mg i chk m) (h : tS K mg ad E (fFresh chk i fn fa c) D σ H) :
    tSeq (tAsg (tCall (spF K mg fn) [] E (tA K mg ad E fa)) (gName i)) (tSeq (tIfS (tT K mg ad E c) (tRet (tC (.bl false))) tNext) m) D σ H := by
  obtain ⟨st, Fz, rs, h⟩ := h
  unfold fFresh at h
  cases efa : fa st with
  | stuck => rw [efa] at h; exact h.elim
  | err c l => rw [efa] at h; exact h.elim
  | ok y =>
    obtain ⟨vs, st1⟩ := y
    rw [efa] at h
    dsimp only at h
    refine ⟨st, Fz, rs, ?_⟩
    rw [efa]
    intro xs Fz1 H1 e1
    show spF K mg fn (xs ++ []) H1 _ E
    rw [List.append_nil]
    cases e : fzVs vs st1 with
    | none => rw [e] at h; exact h.elim
    | some dq =>
      obtain ⟨ds, st2⟩ := dq
      rw [e] at h
      dsimp only at h
      obtain ⟨Fz2, rs2, fr2, r2, fm2, ow2⟩ := fzVs_ok e1.rs e1.fr e1.val e1.new e
      cases hn2 : (noLs ds && decide (i < st2.length)) with
      | false => rw [hn2] at h; exact h.elim
      | true =>
        rw [hn2] at h
        simp only [if_true] at h
        have hn : noLs ds = true := (Bool.and_eq_true _ _ ▸ hn2).1
        have hi : i < σ.length := by
          have := of_decide_eq_true (Bool.and_eq_true _ _ ▸ hn2).2
          rw [← rs2.len]; exact this
        refine ⟨nlF Fz2, ds, fun q o z => rs2.sub q o (nlF_some z).1, RepL.nl (fun b o z n => nlF_of z n) ds xs hn r2, ⟨rs2.tab.1, fun q o z => rs2.tab.2 q o (nlF_some z).1⟩, ?_⟩
        cases ef : fn ds with
        | stuck => rw [ef] at h; exact h.elim
        | err c l => rw [ef] at h; exact h.elim
        | ok v =>
          rw [ef] at h
          dsimp only at h
          intro x Fzc H3 oe
          cases ed : dat v with
          | none => rw [ed] at h; exact h.elim
          | some d =>
            rw [ed] at h
            dsimp only at h
            cases ec : chk d with
            | false => rw [ec] at h; exact h.elim
            | true =>
              rw [ec] at h
              simp only [if_true] at h
              obtain ⟨Fz3, FzN, F⟩ := fresh_ok (i := i) rs2 oe ed
              cases et : c (st2.set i (.p d)) with
              | stuck => rw [et] at h; exact h.elim
              | err c l => rw [et] at h; exact h.elim
              | ok y =>
                obtain ⟨w, st4⟩ := y
                rw [et] at h
                dsimp only at h
                split at h
                · show tSeq (tIfS (tT K mg ad E c) (tRet (tC (.bl false))) tNext) m D (σ.set i (some x)) H3
                  refine ⟨st2.set i (.p d), Fz3, F.rs, ?_⟩
                  rw [et]
                  refine ⟨false, rfl, fun Fz4 H4 rs4 fr4 => ?_⟩
                  show m D (σ.set i (some x)) H4
                  refine hm d x FzN H4 _ D ec F.val (fun q o z => rs4.sub q o (fr4.fmon q o (F.sub q o z))) (List.getElem?_set_self hi) fun M H6 hM h6 m6 t6 => ?_
                  have en := thaw_end (M := M) (H6 := H6) rs2 rs4 (fun q o z n nt => fr4.keep q o (F.keep q o z nt) (fun w => n (set_own w)) nt) (fun q z => F.dom q (fr4.dom q z)) (fun q o z => fr4.fmon q o (F.fmon q o z))
                    (fun q o z => by
                      rcases fr4.fnew q o z with ⟨u, z⟩ | z | z
                      · rcases F.fnew q u z with z | z
                        · exact .inl z
                        · exact .inr (.inr z)
                      · exact .inr (.inl (set_own z))
                      · exact .inr (.inr (F.dom q z)))
                    (fun q mq => by
                      obtain ⟨vs, z⟩ := hM q mq
                      exact ⟨F.new q vs z, vs, fr4.fmon q _ (F.sub q _ z)⟩) h6 m6 (fun t => t6 (fr4.tab.1 (F.tab t)))
                  exact h _ _ _ ⟨en.rs, fr2.trans en.fr⟩
                · exact h.elim
theorem sqT_keep {Fz H : Hp} {t a0 : Addr} {vs ws us : List V} (h : SqT K Fz t vs) (e : ∀ q o, Fz q = some o → H q = some o) (f : Fz a0 = some (.lst us)) : SqT K (upd H a0 (.lst ws)) t vs := by
  rcases h with (h | ⟨o, h⟩) | h
  · exact .inl (.inl (by rw [upd_ne (fun z => by rw [z, f] at h; cases h)]; exact e _ _ h))
  · exact .inl (.inr ⟨o, by rw [upd_ne (fun z => by rw [z, f] at h; cases h)]; exact e _ _ h⟩)
  · exact .inr h
theorem tyl {H : Hp} {a : Addr} {vs : List V} (h : H a = some (.lst vs)) : tyV K "list" (.ref a) H := .inl ⟨rfl, vs, .inl (.inl h)⟩
def chk09 : D → Bool
  | .lst (.lst l0 :: rest) => decide (l0.length < 99998) && decide (rest.length < 99998)
  | _ => false
theorem lt_line {n : Nat} (h : n < 100000) : n < sizeLine := Nat.lt_of_lt_of_le h (by decide)
/-- x[0].append(s); x.append(t) -/
theorem ch09 {s t : Str} : Changes K mg i chk09 (tSeq (tDrop (tBM K "list" rAppend (tOp (rIxL K) (tVar i) (tC (.int 0))) (tCons (tC (.str s)) tNil))) (tDrop (tBM K "list" rAppend (tVar i) (tCons (tC (.str t)) tNil)))) := by
  intro d x FzN H4 σ D hc hr sub hσ k
  obtain ⟨l0, rest, rfl⟩ : ∃ l0 rest, d = .lst (.lst l0 :: rest) := by
    unfold chk09 at hc
    split at hc
    · exact ⟨_, _, rfl⟩
    · cases hc
  have hc : (decide (l0.length < 99998) && decide (rest.length < 99998)) = true := hc
  rw [Bool.and_eq_true] at hc
  have c1 := of_decide_eq_true hc.1
  have c2 := of_decide_eq_true hc.2
  rw [Rep] at hr
  obtain ⟨a, vs, rfl, fa, rv⟩ := hr
  obtain ⟨v0, vs', rfl, r0, rv'⟩ := rv.cons_inv
  rw [Rep] at r0
  obtain ⟨a0, vs0, rfl, f0, rv0⟩ := r0
  have l0' := rv0.len
  have l1' := rv'.len
  have h0 := sub _ _ f0
  have ha := sub _ _ fa
  obtain ⟨H5, e5⟩ : ∃ H5, H5 = upd H4 a0 (.lst (vs0 ++ [.str s])) := ⟨_, rfl⟩
  obtain ⟨ws, hw, wl⟩ : ∃ ws, H5 a = some (.lst ws) ∧ ws.length < 100000 := by
    by_cases z : a = a0
    · exact ⟨vs0 ++ [.str s], by rw [e5, z, upd_same], by simp; omega⟩
    · exact ⟨_, by rw [e5, upd_ne z]; exact ha, by simp; omega⟩
  refine ⟨.ref a, hσ, a, _, 0, .ref a0, rfl, rfl, .inl (.inl ha), by simp [atI, ixN], tyl h0, a0, vs0, .str s, rfl, rfl, h0, lt_line (by omega), ?_⟩
  rw [← e5]
  refine ⟨.ref a, hσ, tyl hw, a, ws, .str t, rfl, rfl, hw, lt_line wl, ?_⟩
  refine k (fun q => q = a0 ∨ q = a) _ (fun q hq => ?_) (fun q hq => ?_) (fun q hq => ?_) (fun tb => tbs_write hw (by rw [e5]; exact tbs_write h0 tb))
  · rcases hq with rfl | rfl
    · exact ⟨_, f0⟩
    · exact ⟨_, fa⟩
  · rw [upd_ne (fun z => hq (.inr z)), e5, upd_ne (fun z => hq (.inl z))]
  · by_cases z : q = a
    · rw [z, upd_same]; exact ⟨_, rfl⟩
    · rcases hq with rfl | w
      · rw [upd_ne z, e5, upd_same]; exact ⟨_, rfl⟩
      · exact (z w).elim
def chk07 : D → Bool
  | .tup [.lst l0, .lst l1] => decide (l0.length < 99998) && decide (l1.length < 99998)
  | _ => false
/-- x[0].append(s); x[1].append(t) -/
theorem ch07 {s t : Str} : Changes K mg i chk07 (tSeq (tDrop (tBM K "list" rAppend (tOp (rIxT K) (tVar i) (tC (.int 0))) (tCons (tC (.str s)) tNil))) (tDrop (tBM K "list" rAppend (tOp (rIxT K) (tVar i) (tC (.int 1))) (tCons (tC (.str t)) tNil)))) := by
  intro d x FzN H4 σ D hc hr sub hσ k
  obtain ⟨l0, l1, rfl⟩ : ∃ l0 l1, d = .tup [.lst l0, .lst l1] := by
    unfold chk07 at hc
    split at hc
    · exact ⟨_, _, rfl⟩
    · cases hc
  have hc : (decide (l0.length < 99998) && decide (l1.length < 99998)) = true := hc
  rw [Bool.and_eq_true] at hc
  have c1 := of_decide_eq_true hc.1
  have c2 := of_decide_eq_true hc.2
  rw [Rep] at hr
  obtain ⟨tt, vs, rfl, ft, rv⟩ := hr
  obtain ⟨v0, vs', rfl, r0, rv'⟩ := rv.cons_inv
  obtain ⟨v1, vs'', rfl, r1, rv''⟩ := rv'.cons_inv
  have := rv''.nil_inv
  subst this
  rw [Rep] at r0 r1
  obtain ⟨a0, vs0, rfl, f0, rv0⟩ := r0
  obtain ⟨a1, vs1, rfl, f1, rv1⟩ := r1
  have l0' := rv0.len
  have l1' := rv1.len
  have h0 := sub _ _ f0
  have h1 := sub _ _ f1
  obtain ⟨H5, e5⟩ : ∃ H5, H5 = upd H4 a0 (.lst (vs0 ++ [.str s])) := ⟨_, rfl⟩
  obtain ⟨ws, hw, wl⟩ : ∃ ws, H5 a1 = some (.lst ws) ∧ ws.length < 100000 := by
    by_cases z : a1 = a0
    · exact ⟨vs0 ++ [.str s], by rw [e5, z, upd_same], by simp; omega⟩
    · exact ⟨_, by rw [e5, upd_ne z]; exact h1, by omega⟩
  refine ⟨.ref tt, hσ, tt, _, 0, .ref a0, rfl, rfl, sqT_mono sub ft, by simp [atI, ixN], tyl h0, a0, vs0, .str s, rfl, rfl, h0, lt_line (by omega), ?_⟩
  rw [← e5]
  refine ⟨.ref tt, hσ, tt, _, 1, .ref a1, rfl, rfl, by rw [e5]; exact sqT_keep ft sub f0, by simp [atI, ixN], tyl hw, a1, ws, .str t, rfl, rfl, hw, lt_line wl, ?_⟩
  refine k (fun q => q = a0 ∨ q = a1) _ (fun q hq => ?_) (fun q hq => ?_) (fun q hq => ?_) (fun tb => tbs_write hw (by rw [e5]; exact tbs_write h0 tb))
  · rcases hq with rfl | rfl
    · exact ⟨_, f0⟩
    · exact ⟨_, f1⟩
  · rw [upd_ne (fun z => hq (.inr z)), e5, upd_ne (fun z => hq (.inl z))]
  · by_cases z : q = a1
    · rw [z, upd_same]; exact ⟨_, rfl⟩
    · rcases hq with rfl | w
      · rw [upd_ne z, e5, upd_same]; exact ⟨_, rfl⟩
      · exact (z w).elim
/-- a list is frozen where it stands -/
def fFz (j : Nat) (f : FS) : FS := fun st => match fzV (.r j) st with
  | some (_, st1) => f st1
  | none => .stuck
theorem tS_fz {j : Nat} {f : FS} {D : Ends} {H : Hp} (h : tS K mg ad E (fFz j f) D σ H) : tS K mg ad E f D σ H := by
  obtain ⟨st, Fz, rs, h⟩ := h
  unfold fFz at h
  cases e : fzV (.r j) st with
  | none => rw [e] at h; exact h.elim
  | some q =>
    obtain ⟨d, st1⟩ := q
    rw [e] at h
    dsimp only at h
    have ow : ∃ xs, st[j]? = some (.o xs) := by
      unfold fzV at e
      dsimp only at e
      split at e
      · rename_i xs z; exact ⟨xs, z⟩
      · cases e
    obtain ⟨xs, ow⟩ := ow
    obtain ⟨a, ys, vs, _, k2, _⟩ := rs.own ⟨xs, .inl ow⟩
    obtain ⟨Fz2, rs2, fr2, _⟩ := fzV_ok rs Fr.refl (v := .r j) (x := .ref a) k2 (fun a z => z.elim) e
    refine ⟨st1, Fz2, rs2, ?_⟩
    cases ef : f st1 with
    | stuck => rw [ef] at h; exact h.elim
    | err c l => rw [ef] at h; exact fun H' k => h H' (fr2.ek k)
    | ok fl =>
      rw [ef] at h
      cases fl with
      | nx st' => exact fun σ' Fz' H' en => h σ' Fz' H' ⟨en.rs, fr2.trans en.fr⟩
      | bk st' => exact fun σ' Fz' H' en => h σ' Fz' H' ⟨en.rs, fr2.trans en.fr⟩
      | ct st' => exact fun σ' Fz' H' en => h σ' Fz' H' ⟨en.rs, fr2.trans en.fr⟩
      | rt v st' => exact fun x σ' Fz' H' en => h x σ' Fz' H' ⟨en.rs, fr2.trans en.fr, en.val, fun a z => (en.new a z).elim (fun z => (fr2.onew a z).elim .inl .inr) fun z => .inr z⟩
end
section
variable [TabsC]
variable {X : Cx} {E : XK} {e c : Expr} {es : List Expr} {fa : FA} {fc : FE} {fb : FS} {fn : List D → R Vl} {i : Nat} {x y : Str} {pos p pos' p1 p2 p3 p4 p5 p6 : Pos} {chk : D → Bool} {rest : List Stmt}
theorem dss_fz (j : Nat) {sts : List Stmt} {f : FS} (h : DSs X E sts f) : DSs X E sts (fFz j f) := fun ad => PSs_conseq (h ad) fun D σ H z => tS_fz z
theorem dss_fresh {s1 s3 s4 : Stmt} {t3 t4 : TS} {j : _} (h1 : ∀ ad, PS X s1 (tAsg (tCall (spF X.K X.mg fn) [] E (tA X.K X.mg ad E fa)) (gName i))) (hc : DT X E c fc) (h3 : PS X s3 t3) (h4 : PS X s4 t4) (hm : Changes X.K X.mg i chk (tSeq t3 t4)) (hr : DSs X E rest fb) :
    DSs X E (s1 :: .If c [.Return (some (.Constant (.bool false) j p1)) p2] [] p3 :: s3 :: s4 :: rest) (fSeq (fFresh chk i fn fa fc) fb) :=
  fun ad => PSs_conseq (pss_cons (h1 ad) (pss_cons (ps_if (hc ad) (pss_one (ps_ret pe_bl)) pss_nil) (pss_cons h3 (pss_cons h4 (hr ad))))) fun D σ H h => tS_fresh hm (D := { D with nx := tS X.K X.mg ad E fb D }) (tS_seq h)
/-- x = f(..) -/
theorem ps_cl (i : Nat) {st : Stmt} {ps : List Str} {k j : Nat} (hN : X.N.Nodup) (h : Has X.K X.mg y st ps) (ok : Keeps X.prog X.w X.K X.mg X.base k y st ps (spF X.K X.mg fn)) (hr : Room j X.A) (hx : Passes (L2.CX X.prog X.w) X E) (ha : DA X E (e :: es) fa) (hk : k ≤ j := by decide) (hg : Gl X y := by rfl)
    (hi : X.N[i]? = some x := by rfl) (hxl : Loc X.env.scope x := by first | exact Or.inl rfl | exact Or.inr rfl) (hs : swapsWith (.Call (.Name y p) (e :: es) [] pos) (some (.Name x pos')) p1.line X.env = pure false := by rfl)
    (hf : X.fn x = true ∨ X.env.scope.names.lookup x = some .local := by first | exact .inl rfl | exact .inr rfl)
    (hdb : (y == ("__debug__" : Str)) = false := by decide) (he : starEach (e :: es) X.env = (false, eval e X.env) :: starEach es X.env := by rfl) (hpl : (backTo pos (starEach es X.env)).any (·.1) = false := by rfl) :
    ∀ ad, PS X (.Assign [.Name x pos'] (.Call (.Name y p) (e :: es) [] pos) p1) (tAsg (tCall (spF X.K X.mg fn) [] E (tA X.K X.mg ad E fa)) (gName i)) := fun ad => by
  obtain ⟨f, fd, hm, F, hb⟩ := h
  exact ps_set hN hi hxl (pe_call (ok f fd F) (hr.mono hk) hg hm F.kp hb .nil hx (ha ad) hdb he hpl) hs hf
/-- x.append("s") -/
theorem ps_app1 (i : Nat) {s : Str} {j : _} (hN : X.N[i]? = some x := by rfl) (hv : Vis X.env.scope x := by first | exact Or.inl rfl | exact Or.inr (Or.inl rfl) | exact Or.inr (Or.inr rfl)) (hd : (x == ("__debug__" : Str)) = false := by decide) (hcd : (x == ("__classdict__" : Str)) = false := by decide)
    (hbase : attributeBase (.Name x p1) "append" X.env (eval (.Name x p1) X.env) = eval (.Name x p1) X.env := by rfl)
    (hfew : ((backTo p3 (starEach (.Constant (.str s) j p4 :: []) X.env)).all (fun x => !x.1) && (backToKw p3 (keywordEach [] X.env)).all (fun x => x.1.isSome)
      && decide ((Expr.Constant (.str s) j p4 :: []).length + ([] : List Keyword).length + (if ([] : List Keyword).isEmpty then 0 else 1) < 30)) = true := by rfl)
    (hline : (p2.endLine == p3.line) = true := by rfl) (hs : starEach (.Constant (.str s) j p4 :: []) X.env = (false, eval (.Constant (.str s) j p4) X.env) :: starEach [] X.env := by rfl) (hplain : (backTo p3 (starEach [] X.env)).any (·.1) = false := by rfl)
    (hsw : swapsWith (.Call (.Attribute (.Name x p1) "append" p2) [.Constant (.str s) j p4] [] p3) none pos.line X.env = pure false := by rfl) :
    PS X (.Expr (.Call (.Attribute (.Name x p1) "append" p2) [.Constant (.str s) j p4] [] p3) pos) (tDrop (tBM X.K "list" rAppend (tVar i) (tCons (tC (.str s)) tNil))) :=
  ps_expr (pe_bm PySem.F.plainAttrs_list PySem.F.slot_list_append PySem.F.type_list_append mt_append (pe_var hN hv hd hcd) (pa_cons pe_str pa_nil hs) hbase hfew hline hs hplain) hsw
/-- x[n].append("s") -/
theorem ps_app0 {r : R2} (ix : IxR X r) (i : Nat) {s : Str} {n : Int} {j j2 : _} (hN : X.N[i]? = some x := by rfl) (hv : Vis X.env.scope x := by first | exact Or.inl rfl | exact Or.inr (Or.inl rfl) | exact Or.inr (Or.inr rfl)) (hd : (x == ("__debug__" : Str)) = false := by decide) (hcd : (x == ("__classdict__" : Str)) = false := by decide)
    (hix : PlainIx (.Constant (.int n) j2 p5) := by exact fun _ _ => rfl)
    (hbase : attributeBase (.Subscript (.Name x p1) (.Constant (.int n) j2 p5) p6) "append" X.env (eval (.Subscript (.Name x p1) (.Constant (.int n) j2 p5) p6) X.env) = eval (.Subscript (.Name x p1) (.Constant (.int n) j2 p5) p6) X.env := by rfl)
    (hfew : ((backTo p3 (starEach (.Constant (.str s) j p4 :: []) X.env)).all (fun x => !x.1) && (backToKw p3 (keywordEach [] X.env)).all (fun x => x.1.isSome)
      && decide ((Expr.Constant (.str s) j p4 :: []).length + ([] : List Keyword).length + (if ([] : List Keyword).isEmpty then 0 else 1) < 30)) = true := by rfl)
    (hline : (p2.endLine == p3.line) = true := by rfl) (hs : starEach (.Constant (.str s) j p4 :: []) X.env = (false, eval (.Constant (.str s) j p4) X.env) :: starEach [] X.env := by rfl) (hplain : (backTo p3 (starEach [] X.env)).any (·.1) = false := by rfl)
    (hsw : swapsWith (.Call (.Attribute (.Subscript (.Name x p1) (.Constant (.int n) j2 p5) p6) "append" p2) [.Constant (.str s) j p4] [] p3) none pos.line X.env = pure false := by rfl) :
    PS X (.Expr (.Call (.Attribute (.Subscript (.Name x p1) (.Constant (.int n) j2 p5) p6) "append" p2) [.Constant (.str s) j p4] [] p3) pos) (tDrop (tBM X.K "list" rAppend (tOp r (tVar i) (tC (.int n))) (tCons (tC (.str s)) tNil))) :=
  ps_expr (pe_bm PySem.F.plainAttrs_list PySem.F.slot_list_append PySem.F.type_list_append mt_append (pe_ix ix (pe_var hN hv hd hcd) pe_int hix) (pa_cons pe_str pa_nil hs) hbase hfew hline hs hplain) hsw
end
/-! by simp -/
section
variable {chk : D → Bool} {i j : Nat} {fn : List D → R Vl} {fa : FA} {c : FE} {st st2 : Ds} {f : FS}
def kFr4 (i : Nat) (st2 : Ds) : R (Vl × Ds) → R Fl
  | .ok y => match y.1 with
    | .p (.bl false) => .ok (.nx (mxs i st2 y.2))
    | _ => .stuck
  | _ => .stuck
def kFr3 (chk : D → Bool) (i : Nat) (c : FE) (st2 : Ds) : R Vl → R Fl
  | .ok v => match dat v with
        | some d => if chk d then kFr4 i st2 (c (st2.set i (.p d))) else .stuck
        | none => .stuck
  | _ => .stuck
def kFr2 (chk : D → Bool) (i : Nat) (fn : List D → R Vl) (c : FE) : Option (List D × Ds) → R Fl
  | some (ds, st2) => if noLs ds && decide (i < st2.length) then kFr3 chk i c st2 (fn ds) else .stuck
  | none => .stuck
def kFr1 (chk : D → Bool) (i : Nat) (fn : List D → R Vl) (c : FE) : R (List Vl × Ds) → R Fl
  | .ok x => kFr2 chk i fn c (fzVs x.1 x.2)
  | _ => .stuck
@[simp] theorem fFresh_eq : fFresh chk i fn fa c st = kFr1 chk i fn c (fa st) := by
  unfold fFresh kFr1
  split
  · unfold kFr2
    split
    · split
      · unfold kFr3
        split
        · split
          · split
            · unfold kFr4
              split
              · split <;> rfl
              · rfl
            · rfl
          · rfl
        · rfl
      · rfl
    · rfl
  · rfl
@[simp] theorem kFr1_ok {vs : List Vl} : kFr1 chk i fn c (.ok (vs, st)) = kFr2 chk i fn c (fzVs vs st) := rfl
@[simp] theorem kFr2_some {ds : List D} : kFr2 chk i fn c (some (ds, st2)) = if noLs ds && decide (i < st2.length) then kFr3 chk i c st2 (fn ds) else .stuck := rfl
@[simp] theorem kFr3_o {xs : List D} : kFr3 chk i c st2 (.ok (.o xs)) = if chk (.lst xs) then kFr4 i st2 (c (st2.set i (.p (.lst xs)))) else .stuck := rfl
@[simp] theorem kFr3_p {d : D} : kFr3 chk i c st2 (.ok (.p d)) = if chk d then kFr4 i st2 (c (st2.set i (.p d))) else .stuck := rfl
@[simp] theorem kFr4_ok : kFr4 i st2 (.ok (.p (.bl false), st)) = .ok (.nx (mxs i st2 st)) := rfl
@[simp] theorem fFz_eq : fFz j f st = (match fzV (.r j) st with
  | some (_, st1) => f st1
  | none => .stuck) := rfl
end
end DK

set_option Elab.async false
set_option linter.all false
set_option maxRecDepth 100000
/-! recursion: fuel -/
namespace DK
open PySem PySem.Spec PyProof.Rows L2 RZ
variable [TabsC]
theorem dss_nv {X : Cx} {E : XK} {sts : List Stmt} : DSs X E sts fNever := fun ad => PSs_conseq pss_never fun D σ H h => by
  obtain ⟨st, Fz, rs, h⟩ := h
  exact h.elim
end DK

set_option Elab.async false
set_option linter.all false
set_option maxRecDepth 100000
set_option maxHeartbeats 1000000
/-! defs (other than the law) that make lambdas: their code object is known -/
namespace DK
open PySem PySem.Spec PyProof.Rows L2 RZ LamX
variable [TabsC]
def HasC (K : PySem.W.Frag) (mg : Str → Option Value) (x : Str) (st : Stmt) (ps : List Str) (c : Addr) : Prop := ∃ f fd, mg x = some (.ref f) ∧ Fun K x x st f fd ∧ Binds K fd ps [] ∧ fd.code = .ref c
def KeepsC (P : Program) (w : World) (K : PySem.W.Frag) (mg : Str → Option Value) (base : Heap) (k : Nat) (x : Str) (st : Stmt) (ps : List Str) (c : Addr) (sp : Sp) : Prop := ∀ f fd, Fun K x x st f fd → fd.code = .ref c → FnOk P w K mg base (L2.CX P w) k f fd ps sp
section
variable {P : Program} {w : World} {K : PySem.W.Frag} {mg : Str → Option Value} {base : Heap}
theorem fn_okC {x qual : Str} {st : Stmt} {f c : Addr} {fd : FuncData} {N ps : List Str} {k : Nat} {body : FS} (F : Fun K x qual st f fd) (hcode : fd.code = .ref c) (S : FnScope N ps (defScope st))
    (hb : ∀ (A : Around) (outer : List Env) (s : Shared) (H : Hp) (E : XK), Room k (A.deeper (envOfC qual (defScope st) s.heap.objs.size f (.ref c))) → DSs (cxOf (L2.CX P w) P w K mg base N qual (defScope st) f (.ref c) A outer s H E) E (defBody st) body) :
    FnOk P w K mg base (L2.CX P w) (k + 1) f fd ps (spF K mg (runF ps.length N.length body)) := by
  obtain ⟨oc, od, kV, doc, pm, an, cdv, ct, osl, rfl, lk, hcd⟩ := F.ex
  obtain rfl : cdv = .ref c := hcode
  exact fn_of lk hcd S (fun vs H Q E h => (body_ok (ad := fun _ => none) h).1) fun A outer s H vs Q E hr h => ⟨_, hb A outer s H E hr fun _ => none, (body_ok h).2⟩
end
section
variable {X : Cx} {E : XK} {e : Expr} {es : List Expr} {fl : FA} {pos p : Pos} {x : Str}
theorem dclC {st : Stmt} {ps : List Str} {c : Addr} {k j : Nat} {fn : List D → R Vl} (h : HasC X.K X.mg x st ps c) (ok : KeepsC X.prog X.w X.K X.mg X.base k x st ps c (spF X.K X.mg fn)) (hr : Room j X.A) (hx : Passes (L2.CX X.prog X.w) X E) (ha : DA X E (e :: es) fl) (hk : k ≤ j := by decide) (hg : Gl X x := by rfl)
    (hdb : (x == ("__debug__" : Str)) = false := by decide) (he : starEach (e :: es) X.env = (false, eval e X.env) :: starEach es X.env := by rfl) (hpl : (backTo pos (starEach es X.env)).any (·.1) = false := by rfl) : DE X E (.Call (.Name x p) (e :: es) [] pos) (fCall fn fl) := by
  obtain ⟨f, fd, hm, F, hb, hc⟩ := h
  exact de_call (ok f fd F hc) (hr.mono hk) hg hm F.kp hb hx ha hdb he hpl
end
end DK
namespace DK
open PySem PySem.Spec PyProof.Rows L2 RZ LamX
/-- what the law's end wants, several tables -/
theorem law_ats {l : PySem.W.OpenLaw} {w : World} {K : PySem.W.Frag} {mg : Str → Option Value} {fa : Addr} {h : Heap} {k : Nat} {fd : FuncData} (cs : List (Addr × Addr)) (T : List (Addr × Str)) (KX : K.In h) (hT : ∀ p ∈ cs, h.get? p.2 = some (PySem.W.tabObj #[])) (nP : ∀ p ∈ cs, K.lookup p.2 = none) (hC : ∀ p ∈ cs, PySem.W.codeHdIn K p.1 p.2 = true)
    (hTT : ∀ p ∈ T, ∃ q ∈ cs, q.2 = p.1) (hbd : ∀ (s : Shared) (u : Value), BindsTo s fd ⟨[u], []⟩ [("script", u)])
    (hF : ∀ base : Heap, K.In base → base.Ns mainGlobals mg → (∀ p ∈ cs, TabB base mg p.1 p.2) → letI : TabsC := ⟨T⟩; FnOk l.prog w K mg base L2.CX0 k fa fd ["script"] (spLaw K)) : LawAtS l w K L2.CX0 k 63 "script" mg fa h := by
  letI : TabsC := ⟨T⟩
  refine ⟨fd, cs, spLaw K, fun p hp => hT p hp, fun p hp => nP p hp, fun p hp => PySem.W.codeHd_of_K KX (hC p hp), hbd, fun H a ns hl _ ht hS => ⟨a, ns, rfl, hS, hl, fun p hp => ?_, fun _ => rfl⟩, fun base kb nb tb => hF base kb nb tb⟩
  obtain ⟨q, hq, e⟩ := hTT p hp
  have z := ht q hq
  refine ⟨#[], by rw [← e]; exact z, ?_, fun p' cv hcv => ?_⟩
  · first | exact trivial | exact .nil | simp [PySem.TriplesOk]
  · first | cases hcv | (simp [codeAmong] at hcv)
end DK

set_option Elab.async false
set_option linter.all false
set_option maxRecDepth 100000
set_option maxHeartbeats 2000000
/-! several except clauses, with and without a name -/
namespace DK
open PySem PySem.Spec PyProof.Rows L2 RZ LamX
/-- a clause: its class, the slot of its name, its suite's reading -/
abbrev Cls := Value × Option Nat × (Addr → Value → Option Addr → TS)
/-- what the clauses wish -/
def wMix (K : PySem.W.Frag) (Wo : WX) (D : Ends) : List Cls → WX
  | [] => Wo
  | (c, none, ts) :: r => fun cls d σ H => ∃ b, PySem.W.exmOne K cls c = some b ∧ (b = true → ∀ a, H a = none → ts a cls d D σ H) ∧ (b = false → wMix K Wo D r cls d σ H)
  | (c, some i, ts) :: r => fun cls d σ H => ∃ b, PySem.W.exmOne K cls c = some b ∧ (b = true → ∀ a, H a = none → ts a cls d { nx := fun σ1 H1 => D.nx (σ1.set i none) H1, rt := D.rt, bk := fun σ1 H1 => D.bk (σ1.set i none) H1, ct := fun σ1 H1 => D.ct (σ1.set i none) H1 } (σ.set i (some (.ref a))) H) ∧ (b = false → wMix K Wo D r cls d σ H)
inductive HdsM (Y : Cx) : List ExceptHandler → List Cls → Prop
  | nil : HdsM Y [] []
  | cons {x : Str} {c : Value} {ts : Addr → Value → Option Addr → TS} {b₀ : Stmt} {suite : List Stmt} {np pos' : Pos} {hds : List ExceptHandler} {l : List Cls} (hc : Names Y x c)
      (hsu : ∀ (a : Addr) (oe : Obj) (cls : Value) (d : Option Addr) (pn : List (Addr × Obj)), Zc cls d oe → (∃ vs, oe.data = .fields vs) → PSs (Y.suite a ((a, oe) :: pn)) (b₀ :: suite) (ts a cls d)) (r : HdsM Y hds l) :
      HdsM Y (.ExceptHandler (some (.Name x np)) none (b₀ :: suite) pos' :: hds) ((c, none, ts) :: l)
  | as {x n : Str} {i : Nat} {c : Value} {ts : Addr → Value → Option Addr → TS} {b₀ : Stmt} {suite : List Stmt} {np pos' : Pos} {hds : List ExceptHandler} {l : List Cls} (hi : Y.N[i]? = some n) (hln : Y.env.kindOf n = some .local) (hc : Names Y x c)
      (hsu : ∀ (a : Addr) (oe : Obj) (cls : Value) (d : Option Addr) (pn : List (Addr × Obj)), Zc cls d oe → (∃ vs, oe.data = .fields vs) → PSs (Y.suite a ((a, oe) :: pn)) (b₀ :: suite) (ts a cls d)) (r : HdsM Y hds l) :
      HdsM Y (.ExceptHandler (some (.Name x np)) (some n) (b₀ :: suite) pos' :: hds) ((c, some i, ts) :: l)
section
variable {Y : Cx} {body : List Stmt} {h₀ : ExceptHandler} {hds : List ExceptHandler} {l : List Cls} {pos : Pos} {tb : WX → TS} {Wout : WX}
theorem ps_try_mix (hs : Y.stack = Y.env :: Y.outer) (hf : Y.env.frame = some Y.env.locals) (hN : Y.N.Nodup) (tk : Takes Y Wout)
    (hb : ∀ (W : WX) (pn : List (Addr × Obj)) (xe : Value → Shared → Prop), Takes (Y.tr pn xe) W → PassesOwn (model Y.prog Y.w) Y.A Y.env xe → PSs (Y.tr pn xe) body (tb W))
    (hh : HdsM Y (h₀ :: hds) l) : PS Y (.Try body (h₀ :: hds) [] [] pos) (fun D σ H => tb (wMix Y.K Wout D l) D σ H) := by
  refine ⟨fun pins s σ H D I hD => ?_⟩
  have yk := I.ok
  have hfr : Y.A.frames = some (Y.env :: Y.outer) := by rw [yk.frames, hs]
  refine wpAny_Try_except ?_
  refine wpAny_mono ((hb (wMix Y.K Wout D l) (Y.pn ++ pins) (fun e s₁ => wpAny (model Y.prog Y.w) Y.A (noteFrame e Y.env) (fun _ s₂ => wpAny (model Y.prog Y.w) Y.A (setFlight e none) (fun _ s₃ =>
    wpAny (model Y.prog Y.w) Y.A (handleBy e Y.env (h₀ :: hds)) (SP Y pins D) Y.xe s₃) Y.xe s₂) Y.xe s₁) (fun u s' xx => ?_) PassesOwn.looking).run [] s σ H D (I.toTry _) hD) (fun f t1 hsq => ?_) (fun e t1 jh => jh)
  · -- the catch
    obtain ⟨a, B, sI, pins', σ', H', cls, d, rfl, I1, nb, up, sky, na, os, ag, ww⟩ := xx
    have J : Inv Y pins σ' H' sI := I1.ofTry yk
    have sky' : Sky B (Y.env :: Y.outer) a (Zc cls d) Y.env.locals s'.heap := by rw [← hs]; exact sky
    show wpAny (model Y.prog Y.w) Y.A (noteFrame (.ref a) Y.env) _ _ _
    refine Sky.land Zc.steady hfr hf sky' fun h3 gl3 vp3 => ?_
    have I3 : Inv Y pins σ' H' { s' with heap := h3 } := J.landed nb gl3.1 (up.trans vp3) os ag
    obtain ⟨oe3, vs3, je3, hz3, jd3⟩ := gl3.there
    have nFr : ∀ {h : Heap} {o : Obj} {vs : Array Value}, h.FunFrames B (Y.env :: Y.outer) → h.get? a = some o → o.data = .fields vs → a ∉ frs (Y.env :: Y.outer) := fun {h o vs} ff e dd hm => by
      obtain ⟨_, o1, e1, hnf⟩ := ff.mem hm
      rw [e] at e1; cases e1
      exact hnf _ dd
    have nf := nFr gl3.2.2.1 je3 jd3
    have nL : a ≠ Y.env.locals := fun z => nf (List.mem_filterMap.mpr ⟨Y.env, List.mem_cons_self, by rw [hf, z]⟩)
    have nF : a ∉ Y.fs := fun hm => by
      obtain ⟨e, jh, q⟩ := List.mem_filterMap.mp hm
      exact nf (List.mem_filterMap.mpr ⟨e, List.mem_cons_of_mem _ jh, q⟩)
    have R3 := I3.suite je3 jd3 na nL nF
    have go : ∀ {hds' : List ExceptHandler} {l' : List Cls}, HdsM Y hds' l' → wMix Y.K Wout D l' cls d σ' H' →
        wpAny (model Y.prog Y.w) Y.A (handleBy (.ref a) Y.env hds') (SP Y pins D) Y.xe { s' with heap := h3 } := by
      intro hds' l' hk
      induction hk with
      | nil =>
        intro ww
        refine wpAny_handleBy_nil ?_
        obtain ⟨k1, k2, k3, oe, vs, T, oT, ts', jh, hz, hd, h1, hr⟩ := id gl3
        unfold PySem.passOn
        refine wpAny_bind (wpAny_field jh hd h1 ?_)
        rw [if_neg (show ¬ ((Value.ref T == Value.none) = true) by simp)]
        have fin : wpAny (model Y.prog Y.w) Y.A (setFlight (.ref a) Y.env.frame) (fun _ s4 => wpAny (model Y.prog Y.w) Y.A (throw (.ref a) : Sem Flow) (SP Y pins D) Y.xe s4) Y.xe { s' with heap := h3 } := by
          rw [hf]
          refine HandSPX.setFlight_upZ gl3 fun h4 hh4 vp4 => wpAny_throw (tk _ _ ?_)
          exact ⟨a, B, sI, pins, σ', H', cls, d, rfl, J, nb, (up.trans vp3).trans vp4, .inr (.inr (by rw [hs]; exact hh4)), na, os, ag, ww⟩
        first | exact wpAny_bind (wpAny_pure (wpAny_bind fin)) | exact wpAny_bind fin
      | @cons x c ts b₀ suite np pos1 hds2 l2 hn hsu r ih =>
        intro ww
        obtain ⟨b, hb1, hyes, hno⟩ := ww
        refine wpAny_handleBy_cons (codeAny_handlers_test ?_) fun q => (by cases q)
        have LT : PySem.W.Looks (model Y.prog Y.w) h3 (typeOf (.ref a)) cls := fun A Q E s k q => wpAny_typeOf_ref (k _ _ je3) (by rw [hz3.1]; exact q)
        have LM := PySem.W.exm_one (M := model Y.prog Y.w) (I3.kIn) LT hb1
        have test : ∀ {Q : Value → Shared → Prop} {E : Value → Shared → Prop}, Q c { s' with heap := h3 } → wpAny (model Y.prog Y.w) (Y.A.mark (some (.ref a))) (eval (.Name x np) Y.env) Q E { s' with heap := h3 } := fun {Q E} q => by
          obtain ⟨hg, hdbg, hm | ⟨hm, hv, hnn⟩⟩ := hn
          · exact ld_glob (X := Y.suite a ((a, oe3) :: (Y.pn ++ pins))) R3 hg hm q hdbg
          · exact ld_blt (X := Y.suite a ((a, oe3) :: (Y.pn ++ pins))) R3 hg hm hv q hnn hdbg
        refine test (LM.here ?_)
        cases b with
        | true =>
          apply codeAny_handlers_suite
          refine HandSPX.lands_againZ gl3 fun h4 gl4 vp4 => ?_
          have I4 : Inv Y pins σ' H' { s' with heap := h4 } := J.landed nb gl4.1 ((up.trans vp3).trans vp4) os ag
          obtain ⟨oe4, vs4, je4, hz4, jd4⟩ := gl4.there
          have R4 := I4.suite je4 jd4 na nL nF
          refine wpAny_mono ((hsu a oe4 cls d (Y.pn ++ pins) hz4 ⟨_, jd4⟩).run [] _ _ H' _ R4 (hyes rfl a na)) (fun f t6 hsq => ?_) (fun _ _ z => False.elim z)
          cases f with
          | next =>
            obtain ⟨σ6, H6, S6, p6⟩ := hsq
            exact ⟨_, _, S6.unsuite yk, p6⟩
          | brk =>
            obtain ⟨σ6, H6, S6, p6⟩ := hsq
            exact ⟨_, _, S6.unsuite yk, p6⟩
          | cont =>
            obtain ⟨σ6, H6, S6, p6⟩ := hsq
            exact ⟨_, _, S6.unsuite yk, p6⟩
          | ret u =>
            obtain ⟨v6, σ6, H6, S6, r6, p6⟩ := hsq
            exact ⟨_, _, _, S6.unsuite yk, r6, p6⟩
        | false =>
          show wpAny _ Y.A (handleBy (.ref a) Y.env hds2) _ _ _
          exact ih (hno rfl)
      | @as x n i c ts b₀ suite np pos1 hds2 l2 hi hln hn hsu r ih =>
        intro ww
        obtain ⟨b, hb1, hyes, hno⟩ := ww
        refine wpAny_handleBy_cons (codeAny_handlers_test ?_) fun q => (by cases q)
        have LT : PySem.W.Looks (model Y.prog Y.w) h3 (typeOf (.ref a)) cls := fun A Q E s k q => wpAny_typeOf_ref (k _ _ je3) (by rw [hz3.1]; exact q)
        have LM := PySem.W.exm_one (M := model Y.prog Y.w) (I3.kIn) LT hb1
        have test : ∀ {Q : Value → Shared → Prop} {E : Value → Shared → Prop}, Q c { s' with heap := h3 } → wpAny (model Y.prog Y.w) (Y.A.mark (some (.ref a))) (eval (.Name x np) Y.env) Q E { s' with heap := h3 } := fun {Q E} q => by
          obtain ⟨hg, hdbg, hm | ⟨hm, hv, hnn⟩⟩ := hn
          · exact ld_glob (X := Y.suite a ((a, oe3) :: (Y.pn ++ pins))) R3 hg hm q hdbg
          · exact ld_blt (X := Y.suite a ((a, oe3) :: (Y.pn ++ pins))) R3 hg hm hv q hnn hdbg
        refine test (LM.here ?_)
        cases b with
        | true =>
          apply codeAny_handlers_suite_as
          refine HandSPX.lands_againZ gl3 fun h4 gl4 vp4 => ?_
          have I4 : Inv Y pins σ' H' { s' with heap := h4 } := J.landed nb gl4.1 ((up.trans vp3).trans vp4) os ag
          obtain ⟨oe4, vs4, je4, hz4, jd4⟩ := gl4.there
          have R4 := I4.suite je4 jd4 na nL nF
          refine store_ok (X := Y.suite a ((a, oe4) :: (Y.pn ++ pins))) (v := .ref a) R4 hN hi (.inl hln) rfl (fun s5 R5 => ?_) (.inr hln)
          refine wpAny_mono ((hsu a oe4 cls d (Y.pn ++ pins) hz4 ⟨_, jd4⟩).run [] s5 _ H' _ R5 (hyes rfl a na)) (fun f t6 hsq => ?_) (fun _ _ z => z.elim)
          have last : ∀ {τ : L2.St} {G : Hp} {Q : Shared → Prop}, Inv (Y.suite a ((a, oe4) :: (Y.pn ++ pins))) [] τ G t6 → (∀ t7, Inv Y pins (τ.set i none) G t7 → Q t7) →
              wpAny (model Y.prog Y.w) Y.A (do bindName Y.env n .none; unbindBehindTheSuite Y.env n pos1) (fun _ t7 => Q t7) Y.xe t6 := fun {τ G Q} R6 hq => gone_ok (R6.unsuite yk) hN hi hln hq
          cases f with
          | next =>
            obtain ⟨τ, G, R6, p6⟩ := hsq
            exact last R6 fun _ J7 => ⟨_, _, J7, p6⟩
          | brk =>
            obtain ⟨τ, G, R6, p6⟩ := hsq
            exact last R6 fun _ J7 => ⟨_, _, J7, p6⟩
          | cont =>
            obtain ⟨τ, G, R6, p6⟩ := hsq
            exact last R6 fun _ J7 => ⟨_, _, J7, p6⟩
          | ret u =>
            obtain ⟨v6, τ, G, R6, r6, p6⟩ := hsq
            exact last R6 fun _ J7 => ⟨_, _, _, J7, r6, p6⟩
        | false =>
          show wpAny _ Y.A (handleBy (.ref a) Y.env hds2) _ _ _
          exact ih (hno rfl)
    exact go hh ww
  · cases f with
    | next =>
      obtain ⟨σ', H', I1, q⟩ := hsq
      exact wpAny_execs_nil ⟨σ', H', I1.ofTry yk, q⟩
    | brk =>
      obtain ⟨σ', H', I1, q⟩ := hsq
      exact ⟨σ', H', I1.ofTry yk, q⟩
    | cont =>
      obtain ⟨σ', H', I1, q⟩ := hsq
      exact ⟨σ', H', I1.ofTry yk, q⟩
    | ret u =>
      obtain ⟨v, σ', H', I1, r, q⟩ := hsq
      exact ⟨v, σ', H', I1.ofTry yk, r, q⟩
end
end DK

set_option Elab.async false
set_option linter.all false
set_option maxRecDepth 100000
set_option maxHeartbeats 1000000
/-! a lambda handed to a def that tells the name of its error -/
namespace DK
open PySem PySem.Spec PyProof.Rows L2 RZ LamX
inductive Ncl where | str (s : Str) | lim (p : Str)
/-- what the clauses wish -/
def wNm (K : PySem.W.Frag) (mg : Str → Option Value) (Q : VK) : List (Str × Ncl) → XK
  | [] => fun _ _ _ => False
  | (x, .str s) :: r => fun cls d H => ∃ C b, mg x = some (.ref C) ∧ PySem.W.exmOne K cls (.ref C) = some b ∧ (b = true → Q (.str s) H) ∧ (b = false → wNm K mg Q r cls d H)
  | (x, .lim p) :: r => fun cls d H => ∃ C b, mg x = some (.ref C) ∧ PySem.W.exmOne K cls (.ref C) = some b ∧ (b = true → cls = .ref C ∧ ∃ (dd : Addr) (n : Int), d = some dd ∧ H dd = some (.xd [("limit", .int n)]) ∧ n.natAbs.log2 < 1920 ∧ p.length + (toString n : Str).length ≤ sizeLine ∧ Q (.str (p ++ toString n)) H) ∧ (b = false → wNm K mg Q r cls d H)
/-- a class whose instances' limit is read -/
def LimC (K : PySem.W.Frag) (mg : Str → Option Value) (x : Str) : Prop := ∃ C, mg x = some (.ref C) ∧ XfC K C ∧ PySem.W.findIn K (.ref C) "limit" = some none
inductive NHds (K : PySem.W.Frag) (mg : Str → Option Value) (sg : Scope) (y e : Str) : List ExceptHandler → List (Str × Ncl) → Prop
  | nil : NHds K mg sg y e [] []
  | str {x s : Str} {j : _} {p7 p8 p9 p10 p11 : Pos} {hds : List ExceptHandler} {l : List (Str × Ncl)} (hm : ∃ C, mg x = some (.ref C)) (r : NHds K mg sg y e hds l) (hg : sg.names.lookup x = some .globalImplicit := by rfl) (hd : (x == ("__debug__" : Str)) = false := by decide) :
      NHds K mg sg y e (.ExceptHandler (some (.Name x p7)) none [.Assign [.Name y p8] (.Constant (.str s) j p9) p10] p11 :: hds) ((x, .str s) :: l)
  | lim {x s : Str} {j : _} {p7 p8 p9 p10 p11 q1 q2 q3 q4 q5 : Pos} {hds : List ExceptHandler} {l : List (Str × Ncl)} (hm : LimC K mg x) (hs : mg "str" = none) (r : NHds K mg sg y e hds l) (hg : sg.names.lookup x = some .globalImplicit := by rfl) (hgs : sg.names.lookup ("str" : Str) = some .globalImplicit := by rfl) (he : sg.names.lookup e = some .local := by rfl) (hd : (x == ("__debug__" : Str)) = false := by decide)
      (hde : (e == ("__debug__" : Str)) = false := by decide) (hce : (e == ("__classdict__" : Str)) = false := by decide) :
      NHds K mg sg y e (.ExceptHandler (some (.Name x p7)) (some e) [.Assign [.Name y p8] (.BinOp (.Constant (.str s) j p9) .Add (.Call (.Name "str" q1) [.Attribute (.Name e q2) "limit" q3] [] q4) q5) p10] p11 :: hds) ((x, .lim s) :: l)
theorem hds_nm {X : Cx} {Ng : List Str} {x0 y e a0 : Str} {sg : Scope} {g : Addr} {cdg : Value} {s : Shared} {H0 : Hp} (S : FnScope Ng [a0] sg) (hNy : Ng[1]? = some y) (hNe : Ng[2]? = some e ∨ True) (hl : sg.names.lookup y = some .local) {hds : List ExceptHandler} {tbl : List (Str × Ncl)}
    (hh : NHds X.K X.mg sg y e hds tbl) (hE : ∀ z ∈ tbl, (∃ p, z.2 = .lim p) → Ng[2]? = some e) :
    ∃ L, HdsM (gCx X Ng x0 sg g cdg s H0).nox hds L ∧ ∀ (D : Ends) (Q : VK) (σ : L2.St) (cls : Value) (d : Option Addr) (H : Hp), 2 < σ.length ∨ (1 < σ.length ∧ ∀ z ∈ tbl, ∃ s, z.2 = .str s) → (∀ (σ1 : L2.St) (v : V) (H1 : Hp), σ1[1]? = some (some v) → Q v H1 → D.nx σ1 H1) → wNm X.K X.mg Q tbl cls d H → wMix X.K (fun _ _ _ _ => False) D L cls d σ H := by
  induction hh with
  | nil => exact ⟨[], .nil, fun _ _ _ _ _ _ _ _ w => w.elim⟩
  | @str x st j p7 p8 p9 p10 p11 hds l hm r hg hd ih =>
    obtain ⟨L, h1, h2⟩ := ih fun z hz => hE z (List.mem_cons_of_mem _ hz)
    obtain ⟨C, hm⟩ := hm
    refine ⟨(.ref C, none, fun _ _ _ => _) :: L, .cons (c := .ref C) ⟨hg, hd, .inl hm⟩ (fun a oe cls d pn _ _ => pss_one (ps_set (i := 1) S.nd hNy (.inl hl) pe_str)) h1, fun D Q σ cls d H hs hD w => ?_⟩
    obtain ⟨C', b, m1, m2, m3, m4⟩ := w
    rw [hm] at m1
    cases m1
    refine ⟨b, m2, fun hb a _ => ?_, fun hb => h2 D Q σ cls d H ?_ hD (m4 hb)⟩
    · refine hD _ (.str st) H ?_ (m3 hb)
      rw [List.getElem?_set_self (hs.elim (fun z => by omega) fun z => z.1)]
    · exact hs.imp id fun z => ⟨z.1, fun q hq => z.2 q (List.mem_cons_of_mem _ hq)⟩
  | @lim x st j p7 p8 p9 p10 p11 q1 q2 q3 q4 q5 hds l hm hs r hg hgs he hd hde hce ih =>
    obtain ⟨L, h1, h2⟩ := ih fun z hz => hE z (List.mem_cons_of_mem _ hz)
    obtain ⟨C, hm, XF, hno⟩ := hm
    have hN2 : Ng[2]? = some e := hE _ (.head _) ⟨_, rfl⟩
    refine ⟨(.ref C, some 2, fun a cls d => _) :: L, .as (c := .ref C) hN2 he ⟨hg, hd, .inl hm⟩ (fun a oe cls d pn hz hf => pss_one (ps_set (i := 1) S.nd hNy (.inl hl)
      (pe_op op_add_str pe_str (pe_callTy call_str_int hgs hs PyProof.Rows.boot_str (pa_cons (pe_xf (X := (gCx X Ng x0 sg g cdg s H0).nox) XF hno hz hf (pe_var (i := 2) hN2 (.inl he) hde hce)) pa_nil))))) h1, fun D Q σ cls d H hs hD w => ?_⟩
    obtain ⟨C', b, m1, m2, m3, m4⟩ := w
    rw [hm] at m1
    cases m1
    have h2l : 2 < σ.length := hs.elim id fun z => by
      obtain ⟨s', z⟩ := z.2 _ (.head _)
      cases z
    refine ⟨b, m2, fun hb a _ => ?_, fun hb => h2 D Q σ cls d H (.inl h2l) hD (m4 hb)⟩
    obtain ⟨ec, dd, n, ed, ex, n1, n2, q⟩ := m3 hb
    subst ec
    refine ⟨.ref a, by rw [List.getElem?_set_self h2l], rfl, rfl, dd, _, .int n, ed, ex, by rfl, n, rfl, n1, st, _, rfl, rfl, n2, ?_⟩
    refine hD _ (.str (st ++ toString n)) H ?_ q
    rw [List.getElem?_set_ne (by decide), List.getElem?_set_self (by rw [List.length_set]; omega)]
/-- y = ''; try: a() except ..: y = ..; return y -/
def TNam (K : PySem.W.Frag) (mg : Str → Option Value) (tbl : List (Str × Ncl)) : (XK → Hp → VK → Prop) → Hp → VK → Prop := fun tl H Q => tl (wNm K mg Q tbl) H (fun _ H' => Q (.str "") H')
theorem name_gives {X : Cx} {Ng : List Str} {x a e y q : Str} {sg : Scope} {g : Addr} {cdg : Value} {j1 : _} {h₀ : ExceptHandler} {hds : List ExceptHandler} {tbl : List (Str × Ncl)} {p1 p2 p3 p4 p5 p6 p12 p13 p14 : Pos} (S : FnScope Ng [a] sg) (hNa : Ng[0]? = some a) (hNy : Ng[1]? = some y) (hl : sg.names.lookup y = some .local)
    (NH : NHds X.K X.mg sg y e (h₀ :: hds) tbl) (hE : ∀ z ∈ tbl, (∃ p, z.2 = .lim p) → Ng[2]? = some e) (hL : 2 < Ng.length ∨ ∀ z ∈ tbl, ∃ s, z.2 = .str s) (hdy : (y == ("__debug__" : Str)) = false) (hcy : (y == ("__classdict__" : Str)) = false) :
    Gives X Ng x sg g cdg [.Assign [.Name y p1] (.Constant (.str "") j1 p2) p3, .Try [.Expr (.Call (.Name a p4) [] [] p5) p6] (h₀ :: hds) [] [] p12, .Return (some (.Name y p13)) p14] a q (TNam X.K X.mg tbl) := by
  intro f c' s H Q tl act hc h
  have nd := S.nd
  have hlen : 1 < Ng.length := (List.getElem?_eq_some_iff.mp hNy).1
  obtain ⟨L, hL1, hw⟩ := hds_nm (x0 := x) (g := g) (cdg := cdg) (s := s) (H0 := H) S hNy (.inr trivial) hl NH hE
  refine ⟨_, pss_cons (ps_set (X := (gCx X Ng x sg g cdg s H).nox) (i := 1) nd hNy (.inl hl) pe_str) (pss_cons (ps_try_mix (Y := (gCx X Ng x sg g cdg s H).nox) (l := L)
    (tb := fun W D σ H => σ[0]? = some (some (.ref f)) ∧ H c' = some (CodeO c' q) ∧ ∃ E : XK, (∀ cls d H', E cls d H' → W cls d σ H') ∧ tl E H (fun _ H' => D.nx σ H'))
    rfl rfl nd LamX.takes0 (fun W pn xe tk _ => pss_one (ps_expr (act W pn xe p4 p5 tk))) hL1) (pss_one (ps_ret (pe_var (i := 1) hNy (.inl hl) hdy hcy)))), ?_⟩
  have ls : (L2.start Ng [V.ref f]).length = Ng.length := by
    simp [L2.start]; omega
  have l0 : 1 < (L2.start Ng [V.ref f]).length := by rw [ls]; exact hlen
  have s0 : (L2.start Ng [V.ref f])[0]? = some (some (.ref f)) := by
    simp [L2.start]
  refine ⟨?_, hc, wNm X.K X.mg Q tbl, fun cls d H' w => ?_, ?_⟩
  · rw [List.getElem?_set_ne (by decide)]; exact s0
  · refine hw _ Q _ cls d H' ?_ (fun σ1 v H1 e1 q1 => ⟨v, e1, q1⟩) w
    rw [List.length_set, ls]
    exact hL.imp id fun z => ⟨hlen, z⟩
  · have hh : TNam X.K X.mg tbl tl H Q := h
    unfold TNam at hh
    have : (fun (_ : V) H' => Q (.str "") H') = fun (_ : V) (H' : Hp) => (tRet (tVar 1) { nx := fun _ H' => Q .non H', rt := Q } ((L2.start Ng [V.ref f]).set 1 (some (.str ""))) H') := by
      funext v H'
      have e : ((L2.start Ng [V.ref f]).set 1 (some (V.str "")))[1]? = some (some (.str "")) := List.getElem?_set_self l0
      apply propext
      constructor
      · intro z; exact ⟨_, e, z⟩
      · rintro ⟨v, e1, z⟩
        rw [e] at e1; cases e1; exact z
    rw [this] at hh
    exact hh
section
variable [TabsC]
/-- the first clause of that class -/
def pickN (tbl : List (Str × Ncl)) (c : Str) (l : Option Int) : Option Str := match tbl with
  | [] => none
  | (x, k) :: r => if c = x then (match k, l with
    | .str s, _ => some s
    | .lim p, some n => if n.natAbs.log2 < 1920 ∧ p.length + (toString n : Str).length ≤ sizeLine then some (p ++ toString n) else none
    | .lim _, none => none) else pickN r c l
/-- the clauses' classes, apart -/
def ExcAll (K : PySem.W.Frag) (mg : Str → Option Value) (xs : List Str) : Prop := ∀ c ∈ xs, ∃ C, mg c = some (.ref C) ∧ ∀ x ∈ xs, ∃ D, mg x = some (.ref D) ∧ PySem.W.exmOne K (.ref C) (.ref D) = some (decide (c = x))
def fName (tbl : List (Str × Ncl)) (fb : FE) : FE := fun st => match fb (wipeO st) with
  | .ok _ => .ok (.p (.str ""), st)
  | .err c l => if decide (c ∈ tbl.map (·.1)) then (match pickN tbl c l with
    | some s => .ok (.p (.str s), st)
    | none => .stuck) else .stuck
  | .stuck => .stuck
theorem wNm_ok {K : PySem.W.Frag} {mg : Str → Option Value} {Q : VK} {xs : List Str} {c s : Str} {l : Option Int} {C : Addr} {H : Hp} {d : Option Addr} (ha : ExcAll K mg xs) (hC : mg c = some (.ref C)) (hc : c ∈ xs) (hd : ∀ n, l = some n → ∃ dd, d = some dd ∧ H dd = some (.xd [("limit", .int n)])) (q : Q (.str s) H) :
    ∀ {tbl : List (Str × Ncl)}, (∀ z ∈ tbl, z.1 ∈ xs) → pickN tbl c l = some s → wNm K mg Q tbl (.ref C) d H
  | [], _, h => by cases h
  | (x, k) :: r, hx, h => by
    obtain ⟨C', e1, e2⟩ := ha c hc
    rw [hC] at e1
    cases e1
    obtain ⟨D, f1, f2⟩ := e2 x (hx (x, k) (.head _))
    unfold pickN at h
    have rest : c ≠ x → wNm K mg Q r (.ref C) d H := fun n => by
      rw [if_neg n] at h
      exact wNm_ok ha hC hc hd q (fun z hz => hx z (List.mem_cons_of_mem _ hz)) h
    cases k with
    | str s' =>
      refine ⟨D, _, f1, f2, fun hb => ?_, fun hb => rest (of_decide_eq_false hb)⟩
      have e : c = x := of_decide_eq_true hb
      rw [if_pos e] at h
      have : s' = s := Option.some.inj h
      rw [this]; exact q
    | lim p =>
      refine ⟨D, _, f1, f2, fun hb => ?_, fun hb => rest (of_decide_eq_false hb)⟩
      have e : c = x := of_decide_eq_true hb
      rw [if_pos e] at h
      subst e
      rw [hC] at f1
      cases f1
      cases l with
      | none => cases h
      | some n =>
        dsimp only at h
        split at h
        · rename_i hz
          cases h
          obtain ⟨dd, d1, d2⟩ := hd n rfl
          exact ⟨rfl, dd, n, d1, d2, hz.1, hz.2, q⟩
        · cases h
theorem de_of_name {X : Cx} {E : XK} {e : Expr} {fb : FE} {tbl : List (Str × Ncl)} (h : ∀ ad, PE X e (tLamD TabsC.T (TNam X.K X.mg tbl) (fun E' => tE X.K X.mg ad E' fb))) (ha : ExcAll X.K X.mg (tbl.map (·.1))) : DE X E e (fName tbl fb) := by
  intro ad
  refine PE_conseq (h ad) fun σ H Q hh => ?_
  obtain ⟨st, Fz, rs, hp⟩ := hh
  refine ⟨rs.tab.1, fun H1 eN dm T1 => ?_⟩
  have sub1 : ∀ a o, Fz a = some o → H1 a = some o := fun a o z => eN a o (rs.sub a o z) (fun ps => rs.tab.2 a o z ps)
  have rs1 : RS X.K X.mg ad Fz H1 st σ := rs.ext sub1 (fun q o z n => eN q o z n) (fun _ _ z => z) ⟨fun _ => T1, fun z => z⟩ (fun q o z => .inl ⟨o, z⟩)
  have own0 : ∀ q, ¬ Ows (wipeO st) σ q := fun q ⟨i, z, _⟩ => wipe_own z
  have fin : ∀ (b : Str) (H2 : Hp), EK (Ows (wipeO st) σ) H1 H2 → (∀ x Fz' H', EEnd X.K X.mg ad (Ows st σ) Fz H (.p (.str b)) st σ x Fz' H' → Q x H') → Q (.str b) H2 := fun b H2 ek z => by
    have kp : ∀ q o, H1 q = some o → NT o → H2 q = some o := fun q o z n => ek.1 q o z (own0 q) n
    refine z (.str b) Fz H2 (EEnd.of_p (rs1.ext (fun a o y => kp a o (sub1 a o y) (fun ps => rs.tab.2 a o y ps)) kp (fun _ _ y => y) ⟨ek.2.2, fun y => y⟩ (fun q o y => .inl ⟨o, y⟩)) ?_ (by rw [Rep]))
    exact ⟨fun q o y _ n => kp q o (eN q o y n) n, fun q y => dm q (ek.2.1 q y), fun _ _ y => y, fun q o y => .inl ⟨o, y⟩, fun q y => .inl y, fun _ => ek.2.2 T1, fun y => y⟩
  unfold TNam
  refine ⟨wipeO st, Fz, rs1.wipeO, ?_⟩
  unfold Post at hp ⊢
  unfold fName at hp
  cases r : fb (wipeO st) with
  | stuck => rw [r] at hp; exact hp.elim
  | err c l =>
    rw [r] at hp
    dsimp only at hp
    intro H2 ek C mC
    cases hin : decide (c ∈ tbl.map (·.1)) with
    | false => rw [hin] at hp; exact hp.elim
    | true =>
      rw [hin, if_pos rfl] at hp
      cases hs : pickN tbl c l with
      | none => rw [hs] at hp; exact hp.elim
      | some s =>
        rw [hs] at hp
        have hz : ∀ z ∈ tbl, z.1 ∈ tbl.map (·.1) := fun z hz => List.mem_map_of_mem hz
        cases l with
        | none => exact wNm_ok ha mC (of_decide_eq_true hin) (fun n z => by cases z) (fin s H2 ek hp) hz hs
        | some n => exact fun d hd => wNm_ok ha mC (of_decide_eq_true hin) (fun m z => ⟨d, rfl, by cases z; exact hd⟩) (fin s H2 ek hp) hz hs
  | ok v =>
    rw [r] at hp
    intro x Fz2 H2 ee
    exact fin "" H2 ⟨ee.fr.keep, ee.fr.dom, ee.fr.tab.1⟩ hp
/-- x(lambda: body), x telling the error's name -/
theorem de_name {X : Cx} {E : XK} {st : Stmt} {Ng : List Str} {x a e y : Str} {c P : Addr} {k j : Nat} {fb : FE} {params : Arguments} {body : Expr} {scope : Scope} {p lpos pos p1 p2 p3 p4 p5 p6 p12 p13 p14 : Pos} {j1 : _} {h₀ : ExceptHandler} {hds : List ExceptHandler} {tbl : List (Str × Ncl)}
    (h : Has X.K X.mg x st [a]) (hbd : defBody st = [.Assign [.Name y p1] (.Constant (.str "") j1 p2) p3, .Try [.Expr (.Call (.Name a p4) [] [] p5) p6] (h₀ :: hds) [] [] p12, .Return (some (.Name y p13)) p14])
    (S : FnScope Ng [a] (defScope st)) (NH : NHds X.K X.mg (defScope st) y e (h₀ :: hds) tbl) (hE : ∀ z ∈ tbl, (∃ p, z.2 = .lim p) → Ng[2]? = some e) (hL : 2 < Ng.length ∨ ∀ z ∈ tbl, ∃ s, z.2 = .str s) (ha : ExcAll X.K X.mg (tbl.map (·.1))) (TB : TabB X.base X.mg c P) (hT : InT TabsC.T P (X.env.qual ++ "<lambda>")) (hr : Room j X.A)
    (hbody : ∀ (E' : XK) (A : Around) (outer : List Env) (s : Shared) (H : Hp) (f c' : Addr), Room k (A.deeper (lamEnv X scope s.heap.objs.size f c')) → DE (lamCx X A outer s H E' scope f c') E' body fb)
    (L : LamS X.env.scope scope) (hcode : X.env.code = .ref c := by rfl) (hk : k + 2 ≤ j := by decide) (hg : Gl X x := by rfl) (hNa : Ng[0]? = some a := by rfl) (hNy : Ng[1]? = some y := by rfl) (hla : (defScope st).names.lookup a = some .local := by rfl) (hl : (defScope st).names.lookup y = some .local := by rfl)
    (hdef : defaultsOf params X.env = ([], []) := by rfl)
    (hbind : ∀ (q : Str) (cl : List (Str × Addr)) (pm cv ctv : Value), bindArgs (PySem.W.kla_fn "<lambda>" q params body scope cl pm cv ctv) ⟨[], []⟩ = pure [] := by exact fun _ _ _ _ _ => rfl)
    (hdb : (x == ("__debug__" : Str)) = false := by decide) (hd : (a == ("__debug__" : Str)) = false := by decide) (hcd : (a == ("__classdict__" : Str)) = false := by decide) (hdy : (y == ("__debug__" : Str)) = false := by decide) (hcy : (y == ("__classdict__" : Str)) = false := by decide) :
    DE X E (.Call (.Name x p) [.Lambda params body scope lpos] [] pos) (fName tbl fb) := by
  obtain ⟨f, fd, hm, F, hb⟩ := h
  have kp := F.kp
  obtain ⟨oc, od, kV, doc, pm, an, cdv, ct, osl, rfl, lk, hcd2⟩ := F.ex
  refine de_of_name (fun ad => ?_) ha
  refine pe_lamto (T := TabsC.T) (TT := TNam X.K X.mg tbl) (k := k) (t := fun E' => tE X.K X.mg ad E' fb) hg hm kp lk hcd2 hb S hNa (.inl hla) ?_ TB hcode hT.1 hT.2 (hr.mono hk) L hdef hbind (fun E' A outer s H f c' hr2 => hbody E' A outer s H f c' hr2 ad) hdb hd hcd
  rw [hbd]
  exact name_gives S hNa hNy hl NH hE hL hdy hcy
/-! running it by simp -/
def kName (tbl : List (Str × Ncl)) (st : Ds) : R (Vl × Ds) → R (Vl × Ds)
  | .ok _ => .ok (.p (.str ""), st)
  | .err c l => if decide (c ∈ tbl.map (·.1)) then (match pickN tbl c l with
    | some s => .ok (.p (.str s), st)
    | none => .stuck) else .stuck
  | .stuck => .stuck
@[simp] theorem fName_eq {tbl : List (Str × Ncl)} {fb : FE} {st : Ds} : fName tbl fb st = kName tbl st (fb (wipeO st)) := rfl
end
end DK

set_option Elab.async false
set_option linter.all false
set_option maxRecDepth 100000
set_option maxHeartbeats 1000000
/-! raise X(e), X an own class whose __init__ calls its base's and keeps a limit -/
namespace DK
open PySem PySem.Spec PyProof.Rows L2 RZ LamX
/-- a class over ValueError without an own __init__ -/
def MeC (K : PySem.W.Frag) (mg : Str → Option Value) (x : Str) : Prop := ∃ C mc, mg x = some (.ref C) ∧ PySem.W.specialIn K (.ref C) "__getattribute__" = some (some (.builtin "type.__getattribute__")) ∧ PySem.W.typeIn K (.ref C) = some mc ∧ PySem.W.readsIn K C mc = true ∧
  PySem.W.findCls K (.ref C) mc "__init__" = some (.val (.builtin "ValueError.__init__"))
theorem pe_meinit {X : Cx} {x : Str} {e : Expr} {es : List Expr} {ta : TA} {p1 p2 pos : Pos} {pl : Sem Bool} (hg : Gl X x) (T : MeC X.K X.mg x) (hdb : (x == ("__debug__" : Str)) = false) (ha : PA X (e :: es) ta)
    (hc : eval (.Call (.Attribute (.Name x p1) "__init__" p2) (e :: es) [] pos) X.env = (do
      let ov ← eval (.Name x p1) X.env
      standAt p2.atName
      let (fx, first) ← holding [ov] (getMethod ov "__init__" pl)
      callWith pos fx first (backTo pos (starEach (e :: es) X.env)) (backToKw pos (keywordEach [] X.env))) := by rfl)
    (he : starEach (e :: es) X.env = (false, eval e X.env) :: starEach es X.env := by rfl) (hpl : (backTo pos (starEach es X.env)).any (·.1) = false := by rfl) : PE X (.Call (.Attribute (.Name x p1) "__init__" p2) (e :: es) [] pos) (tVeI X.K ta) := by
  obtain ⟨C, mc, hm, k1, k2, k3, k4⟩ := T
  refine ⟨fun pins s σ H Q I hq0 => ?_⟩
  refine PySem.W.methodCall_KW (ld_glob I hg hm ?_ hdb) hc
  obtain ⟨m, fr⟩ := I.fr
  refine PySem.W.method_of_cls fr I.ok.mod.kin k1 (PySem.W.cls_val fr I.ok.mod.kin k2 k3 k4 (by decide +kernel) ?_)
  show wpAny _ _ (callWith pos (.builtin "ValueError.__init__") [] (backTo pos (starEach (e :: es) X.env)) []) _ _ _
  exact PyProof.Rows.callWith_method1 (thn (ha.run pos pins _ σ H _ (I.tok _) hq0) fun us s1 ⟨vs, H1, I1, r1, a, C1, ws, ev, hl, T1, ea, q⟩ => by
    subst ev
    cases r1 with
    | @cons _ u0 _ ur ra rr =>
      obtain rfl : u0 = .ref a := ra
      have hle : ur.length ≤ sizeLine := by
        rw [← Paired.length rr, sizeLine_eq]; omega
      exact oinit_ok T1 I1 ea hle fun s' J => ⟨.non, H1, J, rfl, q⟩) he hpl
def spInit (K : PySem.W.Frag) (f : Str) : Sp := fun vs H Q _ => ∃ (a C : Addr) (v : V), vs = [.ref a, v] ∧ OexC K C ∧ PySem.W.findIn K (.ref C) f = some none ∧ H a = some (exo a C none) ∧ ∀ dx, H dx = none → dx ≠ a → Q .non (upd (upd H dx (exd dx [(f, v)])) a (exo a C (some dx)))
theorem init_ok {P : Program} {w : World} {K : PySem.W.Frag} {mg : Str → Option Value} {base : Heap} {st : Stmt} {fI : Addr} {fd : FuncData} {qual x m sn vn f : Str} {j : _} {p1 p2 p3 p4 p5 p6 p7 p8 p9 p10 : Pos} (F : Fun K "__init__" qual st fI fd)
    (hbd : defBody st = [.Expr (.Call (.Attribute (.Name x p1) "__init__" p2) [.Name sn p3, .Constant (.str m) j p4] [] p5) p6, .Assign [.Attribute (.Name sn p7) f p8] (.Name vn p9) p10]) (S : FnScope [sn, vn] [sn, vn] (defScope st)) (M : MeC K mg x)
    (hg : (defScope st).names.lookup x = some .globalImplicit) (h0 : (defScope st).names.lookup sn = some .local) (h1 : (defScope st).names.lookup vn = some .local) (hd : (x == ("__debug__" : Str)) = false) (hd0 : (sn == ("__debug__" : Str)) = false) (hc0 : (sn == ("__classdict__" : Str)) = false) (hd1 : (vn == ("__debug__" : Str)) = false) (hc1 : (vn == ("__classdict__" : Str)) = false)
    (hat : ∀ (cdv : Value) (A : Around) (outer : List Env) (s : Shared) (H : Hp) (E : XK), ∃ pl : Sem Bool, eval (.Call (.Attribute (.Name x p1) "__init__" p2) [.Name sn p3, .Constant (.str m) j p4] [] p5) (cxOf L2.CX0 P w K mg base [sn, vn] qual (defScope st) fI cdv A outer s H E).nox.env = (do
      let ov ← eval (.Name x p1) (cxOf L2.CX0 P w K mg base [sn, vn] qual (defScope st) fI cdv A outer s H E).nox.env
      standAt p2.atName
      let (fx, first) ← holding [ov] (getMethod ov "__init__" pl)
      callWith p5 fx first (backTo p5 (starEach [.Name sn p3, .Constant (.str m) j p4] (cxOf L2.CX0 P w K mg base [sn, vn] qual (defScope st) fI cdv A outer s H E).nox.env)) (backToKw p5 (keywordEach [] (cxOf L2.CX0 P w K mg base [sn, vn] qual (defScope st) fI cdv A outer s H E).nox.env))) := by exact fun _ _ _ _ _ _ => ⟨_, rfl⟩) :
    FnOk P w K mg base L2.CX0 1 fI fd [sn, vn] (spInit K f) := by
  refine F.ok S (fun vs H Q E ⟨a, C, v, e, _⟩ => by subst e; rfl) fun cdv A outer s H vs Q E hr ⟨a, C, v, e, T, hno, ea, q⟩ => ?_
  subst e
  obtain ⟨pl, hat⟩ := hat cdv A outer s H E
  rw [hbd]
  refine ⟨_, pss_cons (ps_expr (pe_meinit (X := (cxOf L2.CX0 P w K mg base [sn, vn] qual (defScope st) fI cdv A outer s H E).nox) (pl := pl) hg M hd (pa_cons (pe_var (i := 0) rfl (.inl h0) hd0 hc0) (pa_cons pe_str pa_nil)) hat)) (pss_one (ps_ost (pe_var (i := 0) rfl (.inl h0) hd0 hc0) (pe_var (i := 1) rfl (.inl h1) hd1 hc1))), ?_⟩
  refine ⟨.ref a, rfl, a, C, [.str m], rfl, by simp, T, ea, v, rfl, .ref a, rfl, a, C, rfl, T, hno, .inl ⟨ea, fun dx h1 h2 => q dx h1 h2⟩⟩
/-- an own class with such an __init__ -/
def LimD (K : PySem.W.Frag) (mg : Str → Option Value) (x qual : Str) (st : Stmt) : Prop := ∃ C fI fd, mg x = some (.ref C) ∧ OexC K C ∧ PySem.W.findIn K (.ref C) "__init__" = some (some (.ref fI)) ∧ PySem.W.typeIn K (.ref fI) = some (.type "function") ∧ Fun K "__init__" qual st fI fd ∧ Binds K fd ["self", "limit"] [] ∧ PySem.W.findIn K (.ref C) "limit" = some none
section
variable [TabsC]
def kErrL (c : Str) (x : Vl × Ds) : R Fl := match x.1 with
  | .p (.int n) => .err c (some n)
  | _ => .stuck
def fErrL (c : Str) (fe : FE) : FS := fun st => (fe st).bind (kErrL c)
@[simp] theorem fErrL_eq {c : Str} {fe : FE} {st : Ds} : fErrL c fe st = (fe st).bind (kErrL c) := rfl
@[simp] theorem kErrL_eq {c : Str} {n : Int} {st : Ds} : kErrL c (.p (.int n), st) = .err c (some n) := rfl
theorem ds_raiseM {X : Cx} {E : XK} {x x0 qual m : Str} {st : Stmt} {e : Expr} {fe : FE} {jj : Nat} {j : _} {p1 p2 p3 p4 p5 p6 p7 p8 p9 p10 p pp pos : Pos} (h : LimD X.K X.mg x qual st) (M : MeC X.K X.mg x0)
    (hbd : defBody st = [.Expr (.Call (.Attribute (.Name x0 p1) "__init__" p2) [.Name "self" p3, .Constant (.str m) j p4] [] p5) p6, .Assign [.Attribute (.Name "self" p7) "limit" p8] (.Name "limit" p9) p10]) (S : FnScope ["self", "limit"] ["self", "limit"] (defScope st))
    (hr : Room jj X.A) (tk : Takes X (fun cls d _ H => E cls d H)) (he : DE X E e fe) (hj : 2 ≤ jj := by decide) (hg : Gl X x := by rfl) (hc : X.calm = true := by rfl) (hdb : (x == ("__debug__" : Str)) = false := by decide)
    (hg0 : (defScope st).names.lookup x0 = some .globalImplicit := by rfl) (h0 : (defScope st).names.lookup ("self" : Str) = some .local := by rfl) (h1 : (defScope st).names.lookup ("limit" : Str) = some .local := by rfl) (hd : (x0 == ("__debug__" : Str)) = false := by decide)
    (hs1 : starEach [e] X.env = (false, eval e X.env) :: starEach [] X.env := by rfl)
    (hat : ∀ (fI : Addr) (cdv : Value) (A : Around) (outer : List Env) (s : Shared) (H : Hp) (E : XK), ∃ pl : Sem Bool, eval (.Call (.Attribute (.Name x0 p1) "__init__" p2) [.Name "self" p3, .Constant (.str m) j p4] [] p5) (cxOf L2.CX0 X.prog X.w X.K X.mg X.base ["self", "limit"] qual (defScope st) fI cdv A outer s H E).nox.env = (do
      let ov ← eval (.Name x0 p1) (cxOf L2.CX0 X.prog X.w X.K X.mg X.base ["self", "limit"] qual (defScope st) fI cdv A outer s H E).nox.env
      standAt p2.atName
      let (fx, first) ← holding [ov] (getMethod ov "__init__" pl)
      callWith p5 fx first (backTo p5 (starEach [.Name "self" p3, .Constant (.str m) j p4] (cxOf L2.CX0 X.prog X.w X.K X.mg X.base ["self", "limit"] qual (defScope st) fI cdv A outer s H E).nox.env)) (backToKw p5 (keywordEach [] (cxOf L2.CX0 X.prog X.w X.K X.mg X.base ["self", "limit"] qual (defScope st) fI cdv A outer s H E).nox.env))) := by exact fun _ _ _ _ _ _ _ => ⟨_, rfl⟩) :
    DS X E (.Raise (some (.Call (.Name x p) [e] [] pp)) none pos) (fErrL x fe) := by
  intro ad
  obtain ⟨C, fI, fd, mC, T, iC, tI, F, hb, hno⟩ := h
  have FI := init_ok (P := X.prog) (w := X.w) (mg := X.mg) (base := X.base) F hbd S M hg0 h0 h1 hd (by decide) (by decide) (by decide) (by decide) (hat fI)
  refine PS_conseq (ps_raise hc tk (pmk_oex T iC tI FI (hr.mono hj) hb .nil pass0 hg mC (pa_cons (he ad) pa_nil hs1) hdb hs1 (by rfl))) fun D σ H hh => ?_
  obtain ⟨st, Fz, rs, hp⟩ := hh
  refine ⟨st, Fz, rs, ?_⟩
  unfold fErrL at hp
  unfold Post
  cases r : fe st with
  | stuck => rw [r] at hp; exact hp.elim
  | err c l => rw [r] at hp; exact hp
  | ok y =>
    obtain ⟨v, st1⟩ := y
    rw [r, DK.R.bind_ok] at hp
    unfold kErrL at hp
    dsimp only at hp
    split at hp
    · rename_i n
      intro x1 Fz1 H1 ee
      obtain rfl := ee.val.int
      refine ⟨by simp, fun a ha => ⟨a, C, .int n, rfl, T, hno, upd_same, fun dx hdx hne => ⟨rfl, dx, [("limit", .int n)], upd_same, ?_, ?_, ?_⟩⟩⟩
      · rw [upd_ne hne, upd_same]
      · rw [upd_ne hne] at hdx; exact hdx
      · have hd1 : H1 dx = none := by rw [upd_ne hne] at hdx; exact hdx
        have at_ : ∀ q, q ≠ dx → q ≠ a → upd (del (upd (upd (upd H1 a (exo a C none)) dx (exd dx [("limit", .int n)])) a (exo a C (some dx))) a) dx (.xd [("limit", .int n)]) q = H1 q := fun q n1 n2 => by
          rw [upd_ne n1, del_ne n2, upd_ne n2, upd_ne n1, upd_ne n2]
        have kp : ∀ q o, H1 q = some o → upd (del (upd (upd (upd H1 a (exo a C none)) dx (exd dx [("limit", .int n)])) a (exo a C (some dx))) a) dx (.xd [("limit", .int n)]) q = some o := fun q o z => by
          rw [at_ q (ne_of_none z hd1) (ne_of_none z ha)]; exact z
        have e9 : upd (del (upd (upd (upd H1 a (exo a C none)) dx (exd dx [("limit", .int n)])) a (exo a C (some dx))) a) dx (.xd [("limit", .int n)]) dx = some (.xd [("limit", .int n)]) := upd_same
        generalize upd (del (upd (upd (upd H1 a (exo a C none)) dx (exd dx [("limit", .int n)])) a (exo a C (some dx))) a) dx (.xd [("limit", .int n)]) = H9 at *
        have dm : ∀ q, H9 q = none → H1 q = none := fun q z => by
          cases e : H1 q with
          | none => rfl
          | some o => rw [kp q o e] at z; cases z
        have ek : EK (Ows st1 σ) H1 H9 := ⟨fun q o z _ _ => kp q o z, dm, fun t => tbs_ext t kp⟩
        exact hp H9 (ee.fr.ek ek) C mC dx e9
    · exact hp.elim
end
/-- a class's facts, as one test -/
def oexL (K : PySem.W.Frag) (C : Addr) : Bool := match K.lookup C with
  | some ⟨.type "type", _, .cls cd, slots⟩ => (match cd.mro, slots.toList with
    | .ref C1 :: bm, [_, _, _, _, some (.builtin n), _] => C1 == C && n == "ValueError.__new__" && cd.hasDict && !cd.hasDel && PySem.HandSPX.refsVE bm
    | _, _ => false)
  | _ => false
def oexB (K : PySem.W.Frag) (C : Addr) : Bool := oexL K C && (decide (PySem.W.findIn K (.ref C) "__setattr__" = some (some (.builtin "object.__setattr__"))) && (decide (PySem.W.subIn K (.ref C) (.type "BaseException") = some true) && (decide (PySem.W.typeIn K (.ref C) = some (.type "type")) && PySem.W.keepIn K (.ref C))))
theorem oexL_ok {K : PySem.W.Frag} {C : Addr} (h : oexL K C = true) : ∃ nm q N bs bm sn sub ab col dd k0 k1 k2 k3 k5, K.lookup C = some (excClassObj nm q C N bs bm true sn sub ab col dd k0 k1 k2 k3 k5 "ValueError.__new__") ∧ PySem.HandSPX.refsVE bm = true := by
  unfold oexL at h
  split at h
  · rename_i dd cd sl hlk
    split at h
    · rename_i C1 bm k0 k1 k2 k3 n k5 hmro hsl
      simp only [Bool.and_eq_true, beq_iff_eq, Bool.not_eq_true'] at h
      obtain ⟨⟨⟨⟨rfl, rfl⟩, hdct⟩, hdel⟩, hr⟩ := h
      obtain ⟨nm, bs, mro, ns, qn, hd, sn, sub, ab, col, del_⟩ := cd
      dsimp only at hmro hdel hdct
      subst hmro hdel hdct
      have e : sl = #[k0, k1, k2, k3, some (.builtin "ValueError.__new__"), k5] := by
        obtain ⟨l⟩ := sl
        exact congrArg Array.mk hsl
      subst e
      exact ⟨nm, qn, ns, bs, bm, sn, sub, ab, col, dd, k0, k1, k2, k3, k5, hlk, hr⟩
    · cases h
  · cases h
theorem oexB_ok {K : PySem.W.Frag} {C : Addr} (h : oexB K C = true) : OexC K C := by
  unfold oexB at h
  simp only [Bool.and_eq_true, decide_eq_true_eq] at h
  exact ⟨oexL_ok h.1, h.2.1, h.2.2.1, h.2.2.2.1, h.2.2.2.2⟩
end DK

set_option Elab.async false
set_option linter.all false
set_option maxRecDepth 100000
set_option maxHeartbeats 3200000
/-! x = {}; for t in ..: x[e] = True; return [.. for y in sorted(x)] -/
namespace DK
open PySem PySem.Spec PyProof.Rows L2 RZ LamX
section
variable {X : Cx}
def rSortDN : List V → Hp → VK → Prop := fun xs H Q => ∃ (a : Addr) (kvs : List (Key × V)) (ks : List Int), xs = [.ref a] ∧ H a = some (.dK kvs) ∧ kvs.map (·.1) = ks.map Sum.inl ∧ ∀ (ys : List Int) (p : Addr), ys.Perm ks → ys.Pairwise (· ≤ ·) → H p = none → Q (.ref p) (upd H p (.lst (ys.map V.int)))
/-- sorted(d), d with whole numbers as keys, any number of them -/
theorem cr_sortDN (hcalm : X.calm = true) : CallR X (.builtin "sorted") rSortDN := by
  intro pins s σ H xs us0 Q I r q
  obtain ⟨a, kvs, ks, ex, hd, hk0, q⟩ := q
  subst ex
  rw [Vals.ref1 r]
  obtain ⟨z, lo, vs, rel, dd⟩ := dk_rd I.hok (.inl hd)
  obtain ⟨ep, hat⟩ := dd.dictAt
  have hkk : vs.map (·.1) = ks.map Sum.inl := rel.keys.symm.trans hk0
  have hl0 : vs.length = ks.length := by
    have e := congrArg List.length hkk
    rwa [List.length_map, List.length_map] at e
  have hl9 : kvs.length = ks.length := by
    have e := congrArg List.length hk0
    rwa [List.length_map, List.length_map] at e
  have h16 : vs.length ≤ sizeLine := by rw [hl0, ← hl9]; exact z
  apply Calls.call_function_entry kind_sorted plain_sorted entry_sorted (args_sorted1 _)
  unfold Builtin.«sorted»
  refine wpAny_bind (m := checkCount "sorted" 1 1 _) (wpAny_pure ?_)
  refine wpAny_bind (PySem.W.kdu_collect (A := X.A.in1) (PySem.W.kdl_dict (knd := mixKind X.prog X.w) (kvs := vs) (ep := ep) lo) (I.ok.hd hcalm) hat h16 fun h1 tk ac0 hk hacc => ?_)
  have hac : ac0.toList.length = ks.length := by rw [Array.length_toList, hacc.1, hl0]
  have hSa : IntsAre ac0.toList ks := ints_each hac fun j v e => by
    obtain ⟨k, x, e1, e2⟩ := hacc.2 j v <| by rw [← Array.getElem?_toList]; exact e
    have e3a : (vs.map (·.1))[j]? = some k := by rw [List.getElem?_map, e1]; rfl
    rw [hkk, List.getElem?_map] at e3a
    cases e4 : ks[j]? with
    | none => rw [e4] at e3a; cases e3a
    | some y =>
      rw [e4] at e3a
      have e5a : Sum.inl y = k := Option.some.inj e3a
      subst e5a
      rcases keyIs_shape (show keyIs (Sum.inl y) v = true from e2) with ⟨i, t, ek, ev⟩ | ⟨_, t, ek, ev⟩
      · cases ek
        exact ⟨y, t, rfl, ev⟩
      · cases ek
  have vz : ac0.toList.length ≤ sizeLine := by rw [hac, ← hl0]; exact h16
  have I1 : Inv X pins σ H { s with heap := h1, toks := tk } := I.kept hk
  refine wpAny_bind (wpAny_newList ?_ vz)
  have ho2 : (h1.push (seqObj "list" ac0.toList.toArray 0)).get? h1.objs.size = some (seqObj "list" ac0.toList.toArray 0) := Heap.get?_push_size _ rfl
  show wpAny _ _ _ _ _ { s with heap := h1.push (seqObj "list" ac0.toList.toArray 0), toks := tk }
  refine wpAny_bind (wpAny_holding (wpAny_call_entry slot_list_sort ⟨_, ho2, rfl⟩ entry_list_sort (SrtO.list_sort_ord (s := { s with heap := h1.push (seqObj "list" ac0.toList.toArray 0), toks := tk }) SrtO.swo_int ho2 vz (fun h2 => SrtO.ints_sortable hSa h2) fun out g1 g2 => ⟨_, rfl, ?_⟩) (args_list_sort _)))
  obtain ⟨i1, i2, i3⟩ := SrtO.ints_out hSa g1 g2
  obtain ⟨c, hc⟩ := sortedHeap_at (vs := ac0.toList) (out := out.toArray) ho2
  have hle : ((out.map SrtO.iv).map V.int).length ≤ sizeLine := by
    rw [List.length_map, i2.length_eq, ← hac]
    exact vz
  refine wpAny_pure ⟨_, rfl, .ref h1.objs.size, upd H h1.objs.size (.lst ((out.map SrtO.iv).map V.int)), I1.laid (t' := tk) (fun b u e => ?_) (Nat.le_refl _)
    (show ObjOk X.prog X.w _ _ _ (.lst ((out.map SrtO.iv).map V.int)) from ⟨hle, out, c, vals_of_ints i1, hc⟩), rfl, q _ _ i2 i3 (I1.hok.fresh (Nat.le_refl _))⟩
  have hbb : b < h1.objs.size := Heap.lt_size e
  rw [sortedHeap_old (Nat.ne_of_lt hbb) (by rw [size_push']; exact Nat.lt_succ_of_lt hbb)]
  exact Heap.get?_push_of_some _ e
end
def insK (n : Int) (ks : List Int) : List Int := if n ∈ ks then ks else ks ++ [n]
def kvK (ks : List Int) : List (Key × V) := ks.map fun k => ((Sum.inl k : Key), V.bl true)
theorem kvK_keys (ks : List Int) : (kvK ks).map (·.1) = ks.map Sum.inl := by
  unfold kvK
  rw [List.map_map]
  rfl
theorem put_kvK (ks : List Int) (n : Int) : putK (kvK ks) (Sum.inl n) (.bl true) = kvK (insK n ks) := by
  have h : ((kvK ks).any fun kv => decide (kv.1 = Sum.inl n)) = decide (n ∈ ks) := by
    unfold kvK
    rw [List.any_map]
    by_cases h : n ∈ ks
    · rw [decide_eq_true h, List.any_eq_true]
      exact ⟨n, h, by simp⟩
    · rw [decide_eq_false h, List.any_eq_false]
      intro x hx
      have : x ≠ n := fun z => h (z ▸ hx)
      simp [this]
  unfold putK insK
  rw [h]
  by_cases h : n ∈ ks
  · rw [if_pos (decide_eq_true h), if_pos h]
    unfold kvK
    rw [List.map_map]
    refine List.map_congr_left fun x _ => ?_
    by_cases e : x = n <;> simp [e]
  · rw [if_neg (by simpa using h), if_neg h]
    unfold kvK
    rw [List.map_append]
    rfl
theorem insK_len {n : Int} {ks : List Int} : (insK n ks).length ≤ ks.length + 1 := by
  unfold insK
  split
  · omega
  · rw [List.length_append, List.length_singleton]; omega
section
variable [TabsC]
def dkL (j : Nat) (key : FE) : List D → List Int → Ds → R (List Int × Ds)
  | [], ks, st => .ok (ks, st)
  | d :: ds, ks, st => (key (st.set j (.p d))).bind fun x => match x.1 with
    | .p (.int n) => if ks.length < 100000 then dkL j key ds (insK n ks) x.2 else .stuck
    | _ => .stuck
def fKeys (ks : List Int) : FE := fun st => .ok (.o ((srt ks).map D.int), st)
def kDict2 (tg2 : TGf) (elt : FE) (vs : List Nat) (y : List Int × Ds) : R Fl := (fLc (fIt (fKeys y.1)) tg2 (nE fYes) (nE elt) vs y.2).bind kRet
def kDict (j : Nat) (key : FE) (tg2 : TGf) (elt : FE) (vs : List Nat) (x : List D × Ds) : R Fl := (dkL j key x.1 [] x.2).bind (kDict2 tg2 elt vs)
def fDict (i : Nat) (fi : FI) (j : Nat) (key : FE) (tg2 : TGf) (elt : FE) (vs : List Nat) : FS := fun st => match st[i]? with
  | some .un => (fi st).bind (kDict j key tg2 elt vs)
  | _ => .stuck
section
variable {K : PySem.W.Frag} {mg : Str → Option Value} {ad : Nat → Option Addr} {Fz H Fz1 H1 : Hp} {st : Ds} {σ : L2.St} {P P1 : Addr → Prop} {E : XK}
theorem NT_dK {kvs : List (Key × V)} : NT (.dK kvs) := fun ps z => by cases z
theorem RS.poke (rs : RS K mg ad Fz H st σ) {q : Addr} {o o' : HO} (hq : H q = some o) (fq : Fz q = none) (nl : ∀ vs, o ≠ .lst vs) (nc : ∀ c q, o ≠ CodeO c q) (nt : NT o) : RS K mg ad Fz (upd H q o') st σ := by
  have ne : ∀ b vs, H b = some (.lst vs) → b ≠ q := fun b vs h z => by rw [z, hq] at h; cases h; exact nl _ rfl
  refine ⟨rs.len, fun a u h => by rw [upd_ne (fun z => by rw [z, fq] at h; cases h)]; exact rs.sub a u h, fun i s h => ?_, rs.inj, fun p hp => ?_, rs.tab.2⟩
  · have k := rs.slot i s h
    cases s with
    | un => trivial
    | p d => exact k
    | o xs => obtain ⟨a, vs, e1, e2, e3, e4⟩ := k; exact ⟨a, vs, e1, by rw [upd_ne (ne a vs e2)]; exact e2, e3, e4⟩
    | s xs => obtain ⟨a, vs, e1, e0, e2, e3, e4⟩ := k; exact ⟨a, vs, e1, e0, by rw [upd_ne (ne a vs e2)]; exact e2, e3, e4⟩
  · obtain ⟨ps, h1, h2, h3⟩ := rs.tab.1 p hp
    refine ⟨ps, by rw [upd_ne (fun z => by rw [z, hq] at h1; cases h1; exact nt _ rfl)]; exact h1, h2, fun pos cv hc => ?_⟩
    obtain ⟨c, e1, e2⟩ := h3 pos cv hc
    exact ⟨c, e1, by rw [upd_ne (fun z => by rw [z, hq] at e2; cases e2; exact nc _ _ rfl)]; exact e2⟩
theorem Fr.poke (fr : Fr P Fz H P1 Fz1 H1) {q : Addr} {o' : HO} (hq : H q = none) (rs0 : RS K mg ad Fz1 H1 st σ) (rs1 : RS K mg ad Fz1 (upd H1 q o') st σ) (h1 : ∃ o, H1 q = some o) : Fr P Fz H P1 Fz1 (upd H1 q o') where
  keep := fun b o h n nt => by rw [upd_ne (ne_of_none h hq)]; exact fr.keep b o h n nt
  dom := fun b h => by
    by_cases z : b = q
    · rw [z]; exact hq
    · rw [upd_ne z] at h; exact fr.dom b h
  fmon := fr.fmon
  fnew := fr.fnew
  onew := fr.onew
  tab := ⟨fun _ => rs1.tab.1, fr.tab.2⟩
theorem dK_lst {kvs : List (Key × V)} : ∀ vs, HO.dK kvs ≠ .lst vs := fun vs z => by cases z
theorem dK_code {kvs : List (Key × V)} : ∀ c q, HO.dK kvs ≠ CodeO c q := fun c q z => by unfold LamX.CodeO at z; cases z
/-- the dict stands while other things are done -/
structure Gh (Fz H : Hp) (σ : L2.St) (i : Nat) (q : Addr) (ks : List Int) : Prop where
  sl : σ[i]? = some (some (.ref q))
  at_ : H q = some (.dK (kvK ks))
  fz : Fz q = none
theorem Gh.go {i : Nat} {q : Addr} {ks : List Int} {st1 : Ds} {P1 : Addr → Prop} (g : Gh Fz H σ i q ks) (rs : RS K mg ad Fz H st σ) (fr : Fr (Ows st σ) Fz H P1 Fz1 H1) : Gh Fz1 H1 σ i q ks := by
  have no : ¬ Ows st σ q := fun z => by
    obtain ⟨vs, e, _⟩ := rs.ows z
    rw [g.at_] at e; cases e
  refine ⟨g.sl, fr.keep _ _ g.at_ no NT_dK, ?_⟩
  cases e : Fz1 q with
  | none => rfl
  | some o =>
    rcases fr.fnew q o e with ⟨u, z⟩ | z | z
    · rw [g.fz] at z; cases z
    · exact (no z).elim
    · rw [g.at_] at z; cases z
theorem Gh.oe {i : Nat} {q : Addr} {ks : List Int} {v : Vl} {x : V} (g : Gh Fz H σ i q ks) (oe : OEnd K mg Fz H v x Fz1 H1) : Gh Fz1 H1 σ i q ks := by
  refine ⟨g.sl, oe.keep _ _ g.at_ NT_dK, ?_⟩
  cases e : Fz1 q with
  | none => rfl
  | some o =>
    rcases oe.fnew q o e with ⟨u, z⟩ | z
    · rw [g.fz] at z; cases z
    · rw [g.at_] at z; cases z
theorem keys_iter {i : Nat} {q : Addr} {ks : List Int} {R : It → Hp → Prop} (g : Gh Fz H σ i q ks) (h : tI K mg ad E (fIt (fKeys ks)) σ H R) : iList K (tCB rSortDN (tCons (tVar i) tNil)) σ H R := by
  obtain ⟨st, Fz', rs, h⟩ := h
  refine ⟨.ref q, g.sl, q, kvK ks, ks, rfl, g.at_, kvK_keys ks, fun ys p hp hs hn => ?_⟩
  have e : ys = srt ks := sorted_one (hp.trans (srt_perm ks).symm) hs (srt_sorted ks)
  subst e
  have oe : OEnd K mg Fz' H (.o ((srt ks).map D.int)) (.ref p) Fz' (upd H p (.lst ((srt ks).map V.int))) := OEnd.new_lst rs.sub hn (repL_ofInts _)
  have ee : EEnd K mg ad (Ows st σ) Fz' H (.o ((srt ks).map D.int)) st σ (.ref p) Fz' (upd H p (.lst ((srt ks).map V.int))) := oe.eend rs Fr.refl
  obtain ⟨Fz2, rs2, fr2, r2, _⟩ := fzV_ok (d := .lst ((srt ks).map D.int)) (st' := st) ee.rs ee.fr ee.val ee.new rfl
  rw [Rep] at r2
  obtain ⟨a, vs, e1, h1, h2⟩ := r2
  cases e1
  exact ⟨p, rfl, ⟨vs, .inl (.inl (rs2.sub _ _ h1))⟩, h _ Fz2 _ rs2 fr2 (serves_list (.inl (.inl h1)) h2)⟩
theorem tS_dict {wi : TI} {i j : Nat} {fi : FI} {key elt : FE} {tg2 : TGf} {g2 : TG} {is vs : List Nat} {D : Ends} (hij : i ≠ j) (hw : ∀ σ H R, tI K mg ad E fi σ H R → wi σ H R) (hg2 : TGOk K mg g2 tg2 is) (hv : ∀ i ∈ is, i ∈ vs) (h : tS K mg ad E (fDict i fi j key tg2 elt vs) D σ H) :
    tSeq (tAsg tDNewK (gName i)) (tSeq (tFor wi (gName j) (sDPut (tVar i) (tE K mg ad E key) (tC (.bl true)))) (tRet (tLc (iList K (tCB rSortDN (tCons (tVar i) tNil))) g2 tYes (tE K mg ad L2.E0 elt) vs))) D σ H := by
  obtain ⟨st, Fz, rs, h⟩ := h
  unfold fDict at h
  split at h
  case h_2 => exact h.elim
  rename_i hun
  have hi : i < st.length := (List.getElem?_eq_some_iff.mp hun).1
  intro q hq
  show tSeq _ _ D (σ.set i (some (.ref q))) (upd H q (.dK []))
  -- the new dict
  have oe0 : OEnd K mg Fz H (.p .non) .non Fz (upd H q (.dK [])) := .of (fun b o z => by rw [upd_ne (ne_of_none z hq)]; exact z) (fun b o z => by rw [upd_ne (ne_of_none (rs.sub b o z) hq)]; exact rs.sub b o z) (fun _ _ z => z) (fun _ o z => .inl ⟨o, z⟩) (fun z => z) (by show Rep K mg Fz .non .non; rw [Rep])
  have rsB := oe0.rs rs
  have own : ∀ k, Own st k → k ≠ i := fun k ⟨xs, z⟩ e => by rw [e, hun] at z; rcases z with z | z <;> cases z
  have sg : ∀ k, k ≠ i → (σ.set i (some (V.ref q)))[k]? = σ[k]? := fun k n => List.getElem?_set_ne (fun z => n z.symm)
  have rsA : RS K mg ad Fz (upd H q (.dK [])) st (σ.set i (some (.ref q))) := by
    refine ⟨by rw [List.length_set]; exact rsB.len, rsB.sub, fun k s hk => ?_, fun a b c h1 h2 h3 h4 => rsB.inj a b c h1 h2 (by rw [← sg a (own a h1)]; exact h3) (by rw [← sg b (own b h2)]; exact h4), rsB.tab⟩
    by_cases e : k = i
    · subst e
      rw [hun] at hk
      cases hk
      trivial
    · rw [sg k e]
      exact rsB.slot k s hk
  have frA : Fr (Ows st σ) Fz H (Ows st (σ.set i (some (.ref q)))) Fz (upd H q (.dK [])) := (oe0.fr (st := st) (σ := σ)).less fun b ⟨k, h1, h2⟩ => ⟨k, h1, by rw [← sg k (own k h1)]; exact h2⟩
  have gA : Gh Fz (upd H q (.dK [])) (σ.set i (some (.ref q))) i q [] := ⟨List.getElem?_set_self (by rw [← rs.len]; exact hi), upd_same, by
    cases e : Fz q with
    | none => rfl
    | some o => have := rs.sub q o e; rw [hq] at this; cases this⟩
  generalize hσ : σ.set i (some (V.ref q)) = σA at *
  generalize hHA : upd H q (.dK []) = HA at *
  refine hw σA HA _ ⟨st, Fz, rsA, Out.shift h.bind frA fun ⟨items, st1⟩ h1 J Fz1 H1 rs1 fr1 sv => ?_⟩
  unfold kDict at h1
  dsimp only at h1 sv rs1 fr1
  have g1 := gA.go (st1 := st1) rsA fr1
  have frB := frA.trans fr1
  refine ⟨fun i' m σ' H' => ∃ st' Fz' ks, RS K mg ad Fz' H' st' σ' ∧ Fr (Ows st σ) Fz H (Ows st' σ') Fz' H' ∧ (∀ a o, Fz1 a = some o → Fz' a = some o) ∧ Gh Fz' H' σ' i q ks ∧ i' + m = items.length ∧ Out mg E (Ows st σ) H ((dkL j key (items.drop i') ks st').bind (kDict2 tg2 elt vs)) (FOk K mg ad (Ows st σ) Fz H D),
    ⟨items.length, st1, Fz1, [], rs1, frB, fun _ _ z => z, g1, by omega, h1⟩, fun i' m σ' H' hW => ?_⟩
  obtain ⟨st', Fz', ks, rs', fr', fm', g', em, hf⟩ := hW
  by_cases hi' : i' < items.length
  · obtain ⟨hgo, hy⟩ := (sv Fz' H' fm' rs'.sub).2 i' _ (List.getElem?_eq_getElem hi')
    rw [List.drop_eq_getElem_cons hi'] at hf
    refine .inr ⟨hgo, fun σ2 H2 => ∃ st2 Fz2 ks2, RS K mg ad Fz2 H2 st2 σ2 ∧ Fr (Ows st σ) Fz H (Ows st2 σ2) Fz2 H2 ∧ (∀ a o, Fz1 a = some o → Fz2 a = some o) ∧ Gh Fz2 H2 σ2 i q ks2 ∧ Out mg E (Ows st σ) H ((dkL j key (items.drop (i' + 1)) ks2 st2).bind (kDict2 tg2 elt vs)) (FOk K mg ad (Ows st σ) Fz H D),
      fun σ2 H2 ⟨st2, Fz2, ks2, k1, k2, k3, k4, k5⟩ => ⟨m - 1, by omega, st2, Fz2, ks2, k1, k2, k3, k4, by omega, k5⟩, fun x H3 y => ?_⟩
    obtain ⟨Fz3, oe⟩ := hy x H3 y
    have rs3 := oe.rs rs'
    have fr3 : Fr (Ows st' σ') Fz' H' (Ows st' σ') Fz3 H3 := oe.fr
    have g3 := g'.oe oe
    have rs4 := rs3.set_p (i := j) oe.val
    have fr4 : Fr (Ows st σ) Fz H (Ows (st'.set j (.p items[i'])) (σ'.set j (some x))) Fz3 H3 := (fr'.trans fr3).less fun b z => ows_set_p z
    have g4 : Gh Fz3 H3 (σ'.set j (some x)) i q ks := ⟨by rw [List.getElem?_set_ne (fun z => hij z.symm)]; exact g3.sl, g3.at_, g3.fz⟩
    unfold dkL at hf
    show sDPut _ _ _ _ (σ'.set j (some x)) H3
    generalize σ'.set j (some x) = σ4 at *
    generalize st'.set j (.p items[i']) = st4 at *
    have hf2 := hf.bind
    refine ⟨.ref q, g4.sl, st4, Fz3, rs4, Out.shift hf2.bind fr4 fun ⟨v, st5⟩ h5 x5 Fz5 H5 e5 => ?_⟩
    dsimp only at h5 e5
    have g5 := g4.go (st1 := st5) rs4 e5.fr
    have fr5 := fr4.trans e5.fr
    split at h5
    case h_2 => exact h5.elim
    rename_i n
    obtain rfl := e5.val.int
    split at h5
    case isFalse => exact h5.elim
    rename_i hlen
    have hz : (kvK ks).length < sizeLine := by unfold kvK; rw [List.length_map]; exact lt_line hlen
    have rs6 : RS K mg ad Fz5 (upd H5 q (.dK (putK (kvK ks) (Sum.inl n) (.bl true)))) st5 σ4 := e5.rs.poke g5.at_ g5.fz dK_lst dK_code NT_dK
    have fr6 := fr5.poke (o' := .dK (putK (kvK ks) (Sum.inl n) (.bl true))) hq e5.rs rs6 ⟨_, g5.at_⟩
    refine ⟨q, _, rfl, DPut.k (k := Sum.inl n) g5.at_ hz, st5, Fz5, insK n ks, rs6, fr6, fun a o z => e5.fr.fmon _ _ (oe.fmon _ _ (fm' _ _ z)), ⟨g5.sl, by rw [upd_same, put_kvK], g5.fz⟩, ?_⟩
    cases hh : dkL j key (items.drop (i' + 1)) (insK n ks) st5 with
    | stuck => rw [hh] at h5; exact h5
    | err c l => rw [hh] at h5; exact h5
    | ok a => rw [hh] at h5; exact h5
  · have e : i' = items.length := by omega
    subst e
    rw [List.drop_of_length_le (Nat.le_refl _)] at hf
    refine .inl ⟨(sv Fz' H' fm' rs'.sub).1, ?_⟩
    have hf : Out mg E (Ows st σ) H ((fLc (fIt (fKeys ks)) tg2 (nE fYes) (nE elt) vs st').bind kRet) (FOk K mg ad (Ows st σ) Fz H D) := hf
    have key2 := tE_lc (E := E) (σ := σ') (H := H') (Q := D.rt) (wi := fun σ1 H1 R => σ1 = σ' → H1 = H' → iList K (tCB rSortDN (tCons (tVar i) tNil)) σ1 H1 R) (g := g2) (tt := tYes) (fi := fIt (fKeys ks)) (tg := tg2) (ft := fYes) (fe := elt) (is := is) (vs := vs)
      (fun σ1 H1 R q1 e1 e2 => by subst e1 e2; exact keys_iter g' q1) hg2 hv (fun σ H Q q => tT_yes q) ⟨st', Fz', rs', Out.shift hf.bind fr' fun ⟨v, st9⟩ h9 x9 Fz9 H9 e9 => h9 x9 σ' Fz9 H9 ⟨e9.rs, fr'.trans e9.fr, e9.val, fun a z => (e9.new a z).elim (fun z => fr'.onew a z) fun z => .inr (fr'.dom a z)⟩⟩
    exact key2 rfl rfl
end
end
end DK

set_option Elab.async false
set_option linter.all false
set_option maxRecDepth 100000
set_option maxHeartbeats 2000000
/-! the statements of DK33; a block behind which its new list is changed -/
namespace DK
open PySem PySem.Spec PyProof.Rows L2 RZ LamX
section
variable [TabsC]
section
variable {X : Cx} {E : XK} {x y : Str} {elt tgE iter keyE : Expr} {scope : Scope} {fi : FI} {key fe : FE} {ftg : TGf} {g2 : TG} {is : List Nat} {p1 p2 p3 p4 p5 p6 p7 p8 p9 p10 p11 p12 p13 py : Pos} {j1 : _} {k : Nat}
theorem dss_dict (i j : Nat) (own : List (Str × Nat)) (hN : X.N.Nodup) (hp : PassesOwn (model X.prog X.w) X.A X.env X.xe) (hr : Room k X.A) (hm : X.mg "sorted" = none) (hi : DI X E (.Name y py) iter fi) (hk : DE X E keyE key) (ok : BlkOk X.N X.env.scope scope own)
    (hg : ∀ s H C cl fp, DG (Bk X scope s H C cl fp) tgE g2 ftg is) (he : ∀ s H C cl fp, DE (Bk X scope s H C cl fp) L2.E0 elt fe) (hv : ∀ i ∈ is, i ∈ own.map (·.2) := by decide) (hij : i ≠ j := by decide) (hc : X.calm = true := by rfl)
    (hx : X.N[i]? = some x := by rfl) (hlx : X.env.scope.names.lookup x = some .local := by rfl) (hy : X.N[j]? = some y := by rfl) (hly : X.env.scope.names.lookup y = some .local ∨ X.env.scope.names.lookup y = some .cell := by first | exact Or.inl rfl | exact Or.inr rfl)
    (hfy : X.fn y = true ∨ X.env.scope.names.lookup y = some .local := by first | exact .inl rfl | exact .inr rfl) (hdx : (x == ("__debug__" : Str)) = false := by decide) (hcx : (x == ("__classdict__" : Str)) = false := by decide)
    (hs0 : swapsWith (.Dict [] [] p2) (some (.Name x p1)) p3.line X.env = pure false := by rfl) (hs1 : ∀ v, foldedSetIterable iter X.env v = pure v := by intro _; rfl) (hs2 : swapsWith (.Constant (.bool true) j1 p6) (some (.Subscript (.Name x p4) keyE p5)) p7.line X.env = pure false := by rfl)
    (hgs : Gl X "sorted" := by rfl) (hst : starEach [.Name x p10] X.env = (false, eval (.Name x p10) X.env) :: starEach [] X.env := by rfl) (hs3 : ∀ v, foldedSetIterable (.Call (.Name "sorted" p9) [.Name x p10] [] p11) X.env v = pure v := by intro _; rfl) :
    DSs X E [.Assign [.Name x p1] (.Dict [] [] p2) p3, .For (.Name y py) iter [.Assign [.Subscript (.Name x p4) keyE p5] (.Constant (.bool true) j1 p6) p7] [] p8, .Return (some (.ListComp elt [⟨tgE, .Call (.Name "sorted" p9) [.Name x p10] [] p11, [], 0⟩] scope p12)) p13]
      (fDict i fi j key ftg fe (own.map (·.2))) := fun ad =>
  have pv : ∀ {p : Pos}, PE X (.Name x p) (tVar i) := pe_var hx (.inl hlx) hdx hcx
  ⟨fun pins s σ H D I q => (pss_cons (ps_set hN hx (.inl hlx) pe_dnewK hs0 (.inr hlx)) (pss_cons (ps_for hp hc (hi ad) (pg_name hN hy hly hfy) (pss_one (ps_dput (by have := hr.un; omega) pv (hk ad) pe_bl hs2)) hs1)
    (pss_one (ps_ret (pe_lc hc hN (pi_list (pe_callB (cr_sortDN hc) hgs hm (by rfl) (pa_cons pv pa_nil hst) (by decide) (by decide) hst (by rfl))) ok (fun s H C cl fp => (hg s H C cl fp).pg) (fun _ _ _ _ _ => pts_nil) (fun s H C cl fp => he s H C cl fp ad) hs3))))).run pins s σ H D I
    (tS_dict hij (fun σ H R q => q) (hg s H 0 [] []).ok hv q)⟩
end
end
end DK

set_option Elab.async false
set_option linter.all false
set_option maxRecDepth 100000
set_option maxHeartbeats 2000000
/-! a block behind which a list that it made, and froze, is changed and forgotten -/
namespace DK
open PySem PySem.Spec PyProof.Rows L2 RZ LamX
def isInt : D → Bool
  | .int _ => true
  | _ => false
mutual
/-- no list within but lists of whole numbers -/
def okL : D → Bool
  | .non => true
  | .bl _ => true
  | .int _ => true
  | .str _ => true
  | .tup xs => okLs xs
  | .lst xs => xs.all isInt
  | .scr _ => true
  | .obj c _ xs => decide (c = "") && okLs xs
def okLs : List D → Bool
  | [] => true
  | d :: ds => okL d && okLs ds
end
def isIntV : V → Bool
  | .int _ => true
  | _ => false
/-- what is kept of the frozen part -/
def keepI (o : HO) : Prop := ∀ vs, o = .lst vs → vs.all isIntV = true
def nlI (Fz : Hp) : Hp := fun q => match Fz q with
  | some (.lst vs) => if vs.all isIntV then some (.lst vs) else none
  | o => o
theorem nlI_some {Fz : Hp} {q : Addr} {o : HO} (h : nlI Fz q = some o) : Fz q = some o ∧ keepI o := by
  unfold nlI at h
  split at h
  · rename_i vs e
    split at h
    · rename_i hi
      cases h
      exact ⟨e, fun ws z => by cases z; exact hi⟩
    · cases h
  · rename_i n
    exact ⟨h, fun vs z => (n vs (by rw [h, z])).elim⟩
theorem nlI_of {Fz : Hp} {q : Addr} {o : HO} (h : Fz q = some o) (k : keepI o) : nlI Fz q = some o := by
  unfold nlI
  split
  · rename_i vs e
    rw [h] at e
    cases e
    rw [if_pos (k vs rfl)]
  · exact h
section
variable {K : PySem.W.Frag} {mg : Str → Option Value} {Fz Fz' : Hp}
theorem ints_V {ns : List Int} : (ns.map V.int).all isIntV = true := by
  rw [List.all_map]
  exact List.all_eq_true.mpr fun _ _ => rfl
theorem ints_D : ∀ {xs : List D} {vs : List V}, xs.all isInt = true → RepL K mg Fz xs vs → vs.all isIntV = true
  | [], vs, _, h => by rw [h.nil_inv]; rfl
  | x :: xs, vs, hi, h => by
    obtain ⟨v, vs', rfl, h1, h2⟩ := h.cons_inv
    rw [List.all_cons, Bool.and_eq_true] at hi
    cases x with
    | int i =>
      rw [Rep] at h1
      subst h1
      rw [List.all_cons, ints_D hi.2 h2]
      rfl
    | _ => cases hi.1
theorem repL_int (e : ∀ b o, Fz b = some o → keepI o → Fz' b = some o) : ∀ {xs : List D} {vs : List V}, xs.all isInt = true → RepL K mg Fz xs vs → RepL K mg Fz' xs vs
  | [], vs, _, h => by rw [h.nil_inv]; exact repL_nil
  | x :: xs, vs, hi, h => by
    obtain ⟨v, vs', rfl, h1, h2⟩ := h.cons_inv
    rw [List.all_cons, Bool.and_eq_true] at hi
    cases x with
    | int i =>
      rw [Rep] at h1
      subst h1
      exact repL_cons (by rw [Rep]) (repL_int e hi.2 h2)
    | _ => cases hi.1
theorem sqT_kI {a : Addr} {xs : List V} (e : ∀ b o, Fz b = some o → keepI o → Fz' b = some o) (h : SqT K Fz a xs) : SqT K Fz' a xs := by
  rcases h with (h | ⟨o, h⟩) | h
  · exact .inl (.inl (e _ _ h fun vs z => by cases z))
  · exact .inl (.inr ⟨o, e _ _ h fun vs z => by cases z⟩)
  · exact .inr h
mutual
theorem Rep.kI (e : ∀ b o, Fz b = some o → keepI o → Fz' b = some o) : ∀ (d : D) (v : V), okL d = true → Rep K mg Fz d v → Rep K mg Fz' d v
  | .non, v, _, h => by rw [Rep] at h ⊢; exact h
  | .bl b, v, _, h => by rw [Rep] at h ⊢; exact h
  | .int i, v, _, h => by rw [Rep] at h ⊢; exact h
  | .str s, v, _, h => by rw [Rep] at h ⊢; exact h
  | .tup ds, v, n, h => by
    rw [Rep] at h ⊢
    obtain ⟨a, vs, e1, e2, e3⟩ := h
    exact ⟨a, vs, e1, sqT_kI e e2, RepL.kI e ds vs (by rw [okL] at n; exact n) e3⟩
  | .lst ds, v, n, h => by
    rw [Rep] at h ⊢
    rw [okL] at n
    obtain ⟨a, vs, e1, e2, e3⟩ := h
    exact ⟨a, vs, e1, e _ _ e2 fun ws z => by cases z; exact ints_D n e3, repL_int e n e3⟩
  | .scr ns, v, n, h => by
    rw [Rep] at h ⊢
    obtain ⟨a, e1, (h | ⟨o, h⟩) | h⟩ := h
    · exact ⟨a, e1, .inl (.inl (e _ _ h fun ws z => by cases z; exact ints_V))⟩
    · exact ⟨a, e1, .inl (.inr ⟨o, e _ _ h fun ws z => by cases z⟩)⟩
    · exact ⟨a, e1, .inr h⟩
  | .obj c ks ds, v, n, h => by
    rw [okL, Bool.and_eq_true, decide_eq_true_eq] at n
    rw [Rep] at h ⊢
    obtain ⟨a, vs, e1, e2, e3⟩ := h
    refine ⟨a, vs, e1, RepL.kI e ds vs n.2 e2, ?_⟩
    rcases e3 with ⟨z, o, h1, h2⟩ | ⟨z, _⟩
    · exact .inl ⟨z, o, e _ _ h1 (fun vs w => by cases w), h2⟩
    · exact (z n.1).elim
theorem RepL.kI (e : ∀ b o, Fz b = some o → keepI o → Fz' b = some o) : ∀ (d : List D) (v : List V), okLs d = true → RepL K mg Fz d v → RepL K mg Fz' d v
  | [], [], _, h => by rw [RepL]; trivial
  | [], _ :: _, _, h => by rw [RepL] at h; exact h.elim; all_goals simp
  | _ :: _, [], _, h => by rw [RepL] at h; exact h.elim; all_goals simp
  | d :: ds, v :: vs, n, h => by
    rw [RepL] at h ⊢
    rw [okLs, Bool.and_eq_true] at n
    exact ⟨Rep.kI e d v n.1 h.1, RepL.kI e ds vs n.2 h.2⟩
end
end
/-- what a slot keeps -/
def stripS : Sl → Sl
  | .p d => if okL d then .p d else .un
  | .o xs => if okLs xs then .o xs else .un
  | _ => .un
theorem strip_eqp {d : D} : stripS (.p d) = if okL d then .p d else .un := rfl
theorem strip_eqo {xs : List D} : stripS (.o xs) = if okLs xs then .o xs else .un := rfl
theorem strip_o {s : Sl} {xs : List D} (h : stripS s = .o xs) : s = .o xs ∧ okLs xs = true := by
  cases s with
  | un => cases h
  | s ys => cases h
  | p d =>
    rw [strip_eqp] at h
    split at h <;> cases h
  | o ys =>
    rw [strip_eqo] at h
    split at h
    · rename_i z; cases h; exact ⟨rfl, z⟩
    · cases h
theorem strip_s {s : Sl} {xs : List D} (h : stripS s = .s xs) : False := by
  cases s with
  | un => cases h
  | s ys => cases h
  | p d =>
    rw [strip_eqp] at h
    split at h <;> cases h
  | o ys =>
    rw [strip_eqo] at h
    split at h <;> cases h
theorem strip_own {st : Ds} {i : Nat} (h : Own (st.map stripS) i) : ∃ xs, st[i]? = some (.o xs) ∧ okLs xs = true := by
  obtain ⟨xs, h | h⟩ := h
  all_goals
    rw [List.getElem?_map] at h
    cases e : st[i]? with
    | none => rw [e] at h; cases h
    | some s =>
      rw [e] at h
      have h := Option.some.inj h
      first
        | exact (strip_s h).elim
        | (obtain ⟨rfl, z⟩ := strip_o h; exact ⟨xs, rfl, z⟩)
section
variable [TabsC]
variable {K : PySem.W.Frag} {mg : Str → Option Value} {ad : Nat → Option Addr} {Fz H Fz' H' : Hp} {st : Ds} {σ : L2.St} {i : Nat} {E : XK}
theorem strip_ows {q : Addr} (h : Ows (st.map stripS) σ q) : Ows st σ q := by
  obtain ⟨j, h1, h2⟩ := h
  obtain ⟨xs, e, _⟩ := strip_own h1
  exact ⟨j, ⟨xs, .inl e⟩, h2⟩
theorem RS.strip (rs : RS K mg ad Fz H st σ) (hs : ∀ q o, Fz' q = some o → H' q = some o) (hk : ∀ b o, Fz b = some o → keepI o → Fz' b = some o) (hH : ∀ a vs, Ows st σ a → H a = some (.lst vs) → Fz a = none → H' a = some (.lst vs) ∧ Fz' a = none) (tb : Tbs H' ∧ NoTb Fz') :
    RS K mg ad Fz' H' (st.map stripS) σ := by
  refine ⟨by rw [List.length_map]; exact rs.len, hs, fun j s h => ?_, fun j k a h1 h2 => ?_, tb⟩
  · rw [List.getElem?_map] at h
    cases e : st[j]? with
    | none => rw [e] at h; cases h
    | some s0 =>
      rw [e] at h
      have h := Option.some.inj h
      have k := rs.slot j s0 e
      cases s0 with
      | un => rw [← h]; trivial
      | s xs => rw [← h]; trivial
      | p d =>
        rw [strip_eqp] at h
        split at h
        · rename_i z
          rw [← h]
          obtain ⟨x, e1, e2⟩ := k
          exact ⟨x, e1, Rep.kI hk d x z e2⟩
        · rw [← h]; trivial
      | o xs =>
        rw [strip_eqo] at h
        split at h
        · rename_i z
          rw [← h]
          obtain ⟨a, vs, e1, e2, e3, e4⟩ := k
          have ow : Ows st σ a := ⟨j, ⟨xs, .inl e⟩, by
            cases q : σ[j]? with
            | none => rw [q] at e1; cases e1
            | some y => rw [q] at e1; cases y with
              | none => cases e1
              | some w => cases e1; rfl⟩
          obtain ⟨g1, g2⟩ := hH a vs ow e2 e3
          exact ⟨a, vs, e1, g1, g2, RepL.kI hk xs vs z e4⟩
        · rw [← h]; trivial
  · obtain ⟨xs, e1, _⟩ := strip_own h1
    obtain ⟨ys, e2, _⟩ := strip_own h2
    exact rs.inj j k a ⟨xs, .inl e1⟩ ⟨ys, .inl e2⟩
theorem RS.drop (rs : RS K mg ad Fz H st σ) : RS K mg ad Fz H (st.set i .un) σ := by
  have own : ∀ k, Own (st.set i .un) k → Own st k := fun k ⟨xs, z⟩ => by
    by_cases e : i = k
    · subst e
      rcases z with z | z <;> (rw [List.getElem?_set] at z; simp at z)
    · rw [List.getElem?_set_ne e] at z
      exact ⟨xs, z⟩
  refine ⟨by rw [List.length_set]; exact rs.len, rs.sub, fun j s h => ?_, fun j k a h1 h2 => rs.inj j k a (own j h1) (own k h2), rs.tab⟩
  by_cases e : i = j
  · subst e
    rw [List.getElem?_set] at h
    split at h
    · split at h
      · cases h; trivial
      · cases h
    · rename_i z; exact (z rfl).elim
  · rw [List.getElem?_set_ne e] at h
    exact rs.slot j s h
theorem drop_ows {q : Addr} (h : Ows (st.set i .un) σ q) : Ows st σ q := by
  obtain ⟨k, ⟨xs, z⟩, h2⟩ := h
  refine ⟨k, ⟨xs, ?_⟩, h2⟩
  by_cases e : i = k
  · subst e
    rcases z with z | z <;> (rw [List.getElem?_set] at z; simp at z)
  · rwa [List.getElem?_set_ne e] at z
def kBlk (i : Nat) : R Fl → R Fl
  | .ok (.nx st4) => match st4[i]? with
    | some (.p (.lst (.tup _ :: rest))) => if rest.length < 99998 then .ok (.nx ((st4.map stripS).set i .un)) else .stuck
    | _ => .stuck
  | _ => .stuck
def fBlkApp (i : Nat) (B : FS) : FS := fun st => kBlk i (B (st.map stripS))
@[simp] theorem fBlkApp_eq {B : FS} : fBlkApp i B st = kBlk i (B (st.map stripS)) := rfl
theorem tS_blk {B : FS} {s : Str} {D : Ends} (h : tS K mg ad E (fBlkApp i B) D σ H) : tSeq (tS K mg ad E B) (tDrop (tBM K "list" rAppend (tVar i) (tCons (tC (.str s)) tNil))) D σ H := by
  obtain ⟨st, Fz, rs, h⟩ := h
  unfold fBlkApp at h
  have rs0 : RS K mg ad (nlI Fz) H (st.map stripS) σ := rs.strip (fun q o z => rs.sub q o (nlI_some z).1) (fun b o z k => nlI_of z k) (fun a vs _ h1 h2 => ⟨h1, by
    cases e : nlI Fz a with
    | none => rfl
    | some o => have := (nlI_some e).1; rw [h2] at this; cases this⟩) ⟨rs.tab.1, fun q o z => rs.tab.2 q o (nlI_some z).1⟩
  refine ⟨st.map stripS, nlI Fz, rs0, ?_⟩
  cases eB : B (st.map stripS) with
  | stuck => rw [eB] at h; exact h.elim
  | err c l => rw [eB] at h; exact h.elim
  | ok f =>
    rw [eB] at h
    cases f with
    | bk st4 => exact h.elim
    | ct st4 => exact h.elim
    | rt v st4 => exact h.elim
    | nx st4 =>
      unfold kBlk at h
      dsimp only at h
      split at h
      case h_2 => exact h.elim
      rename_i ds rest e4
      split at h
      case isFalse => exact h.elim
      rename_i hlen
      intro σ5 Fz5 H5 e5
      obtain ⟨x, x1, x2⟩ := e5.rs.slot i _ e4
      rw [Rep] at x2
      obtain ⟨a, vs, rfl, fa, rv⟩ := x2
      obtain ⟨v0, vs', rfl, r0, rv'⟩ := rv.cons_inv
      rw [Rep] at r0
      obtain ⟨a0, vs0, rfl, _, _⟩ := r0
      have hσ : σ5[i]? = some (some (.ref a)) := by
        cases q : σ5[i]? with
        | none => rw [q] at x1; cases x1
        | some y => rw [q] at x1; cases y with
          | none => cases x1
          | some w => cases x1; rfl
      have ha := e5.rs.sub _ _ fa
      have hl := rv'.len
      have fr5 := e5.fr
      have nk : ¬ keepI (.lst (.ref a0 :: vs')) := fun k => by have := k _ rfl; simp [isIntV] at this
      have n0 : nlI Fz a = none := by
        cases e : nlI Fz a with
        | none => rfl
        | some u =>
          have h1 := fr5.fmon a u e
          rw [fa] at h1
          cases h1
          exact (nk (nlI_some e).2).elim
      have po : Ows st σ a ∨ H a = none := by
        rcases fr5.fnew a _ fa with ⟨u, z⟩ | z | z
        · rw [n0] at z; cases z
        · exact .inl (strip_ows z)
        · exact .inr z
      have fzn : ∀ b, Ows (st.map stripS) σ b ∨ H b = none → Fz b = none := fun b z => by
        rcases z with z | z
        · obtain ⟨_, _, h2⟩ := rs.ows (strip_ows z); exact h2
        · cases e : Fz b with
          | none => rfl
          | some o => rw [rs.sub b o e] at z; cases z
      have fza : Fz a = none := by
        rcases po with z | z
        · obtain ⟨_, _, h2⟩ := rs.ows z; exact h2
        · exact fzn a (.inr z)
      have old : ∀ q o, Fz q = some o → H5 q = some o := fun q o z => fr5.keep q o (rs.sub q o z) (fun w => by
        have := fzn q (.inl w); rw [z] at this; cases this) (rs.tab.2 q o z)
      obtain ⟨Fz', hF⟩ : ∃ Fz' : Hp, ∀ q, Fz' q = match Fz q with | some o => some o | none => if q = a then none else Fz5 q := ⟨fun q => match Fz q with | some o => some o | none => if q = a then none else Fz5 q, fun q => rfl⟩
      have f1 : ∀ q o, Fz q = some o → Fz' q = some o := fun q o z => by rw [hF, z]
      have f2 : ∀ q o, Fz' q = some o → Fz q = some o ∨ (q ≠ a ∧ Fz5 q = some o) := fun q o z => by
        rw [hF] at z
        cases e : Fz q with
        | some u => rw [e] at z; exact .inl z
        | none =>
          rw [e] at z
          dsimp only at z
          split at z
          · cases z
          · rename_i n; exact .inr ⟨n, z⟩
      obtain ⟨H6, h6⟩ : ∃ H6, H6 = upd H5 a (.lst (.ref a0 :: vs' ++ [.str s])) := ⟨_, rfl⟩
      have at6 : ∀ q, q ≠ a → H6 q = H5 q := fun q n => by rw [h6, upd_ne n]
      have ne1 : ∀ q o, Fz q = some o → q ≠ a := fun q o z w => by rw [w, fza] at z; cases z
      have sub6 : ∀ q o, Fz' q = some o → H6 q = some o := fun q o z => by
        rcases f2 q o z with z | ⟨n, z⟩
        · rw [at6 q (ne1 q o z)]; exact old q o z
        · rw [at6 q n]; exact e5.rs.sub q o z
      have keep6 : ∀ b o, Fz5 b = some o → keepI o → Fz' b = some o := fun b o z k => by
        have nb : b ≠ a := fun w => by rw [w, fa] at z; cases z; exact nk k
        rw [hF]
        cases e : Fz b with
        | none => show (if b = a then none else Fz5 b) = _; rw [if_neg nb]; exact z
        | some u =>
          have := old b u e
          rw [e5.rs.sub b o z] at this
          exact this.symm
      have ntb : NoTb Fz' := fun q o z => by
        rcases f2 q o z with z | ⟨_, z⟩
        · exact rs.tab.2 q o z
        · exact e5.rs.tab.2 q o z
      have tb6 : Tbs H5 → Tbs H6 := fun t => by rw [h6]; exact tbs_write ha t
      have rs6 : RS K mg ad Fz' H6 (st4.map stripS) σ5 := e5.rs.strip sub6 keep6 (fun b ws ow h1 h2 => by
        have nb : b ≠ a := fun w => by rw [w, fa] at h2; cases h2
        refine ⟨by rw [at6 b nb]; exact h1, ?_⟩
        rw [hF, fzn b (fr5.onew b ow)]
        show (if b = a then none else Fz5 b) = none
        rw [if_neg nb]; exact h2) ⟨tb6 e5.rs.tab.1, ntb⟩
      have fr6 : Fr (Ows st σ) Fz H (Ows ((st4.map stripS).set i .un) σ5) Fz' H6 := by
        refine ⟨fun q o z n nt => ?_, fun q z => ?_, f1, fun q o z => ?_, fun q z => ?_, fun t => tb6 (fr5.tab.1 t), fun _ => ntb⟩
        · have nq : q ≠ a := fun w => by
            rw [w] at z n
            rcases po with y | y
            · exact n y
            · rw [z] at y; cases y
          rw [at6 q nq]
          exact fr5.keep q o z (fun w => n (strip_ows w)) nt
        · by_cases w : q = a
          · rw [w, h6, upd_same] at z; cases z
          · rw [at6 q w] at z; exact fr5.dom q z
        · rcases f2 q o z with z | ⟨_, z⟩
          · exact .inl ⟨o, z⟩
          · rcases fr5.fnew q o z with ⟨u, y⟩ | y | y
            · exact .inl ⟨u, (nlI_some y).1⟩
            · exact .inr (.inl (strip_ows y))
            · exact .inr (.inr y)
        · exact (fr5.onew q (strip_ows (drop_ows z))).imp strip_ows id
      refine ⟨.ref a, hσ, tyl ha, a, _, .str s, rfl, rfl, ha, lt_line (by rw [List.length_cons, ← hl]; omega), ?_⟩
      rw [show upd H5 a (.lst (.ref a0 :: vs' ++ [.str s])) = H6 from h6.symm]
      exact h σ5 Fz' H6 ⟨rs6.drop, fr6⟩
end
section
variable [TabsC]
variable {X : Cx} {E : XK} {f1 f2 f3 fb : FS} {s1 s2 s3 s4 : Stmt} {rest : List Stmt} {s : Str}
theorem dss_blk (i : Nat) (h1 : DS X E s1 f1) (h2 : DS X E s2 f2) (h3 : DS X E s3 f3) (h4 : PS X s4 (tDrop (tBM X.K "list" rAppend (tVar i) (tCons (tC (.str s)) tNil)))) (hr : DSs X E rest fb) : DSs X E (s1 :: s2 :: s3 :: s4 :: rest) (fSeq (fBlkApp i (fSeq f1 (fSeq f2 f3))) fb) :=
  fun ad => PSs_conseq (pss_cons (h1 ad) (pss_cons (h2 ad) (pss_cons (h3 ad) (pss_cons h4 (hr ad))))) fun D σ H h => by
    have k := tS_blk (s := s) (D := { D with nx := tS X.K X.mg ad E fb D }) (tS_seq h)
    have k2 := tS_seq k
    obtain ⟨st, Fz, rs, k3⟩ := k2
    exact ⟨st, Fz, rs, k3.imp fun f hf => by
      cases f with
      | nx st' => exact fun σ' Fz' H' e => tS_seq (hf σ' Fz' H' e)
      | bk st' => exact hf
      | ct st' => exact hf
      | rt v st' => exact hf⟩
end
end DK

set_option Elab.async false
set_option linter.all false
set_option maxRecDepth 100000
set_option maxHeartbeats 2000000
/-! tuples whose objects are known, and their methods -/
namespace DK
open PySem PySem.Spec PyProof.Rows L2 RZ
abbrev etp (xs : List D) : D := .obj "" [] xs
def plainT (o : Obj) : Prop := o.cls = .type "tuple" ∧ o.dict = none
section
variable {X : Cx} {es : List Expr} {t : TA} {pos : Pos}
def tTupX (t : TA) : TE := fun σ H Q => t σ H fun xs H1 => xs.length ≤ sizeLine ∧ ∀ p o, H1 p = none → plainT o → Q (.ref p) (upd H1 p (.frz o (.tup xs)))
theorem pe_tupX {x1} (h : PA X es t) : PE X (.Tuple es x1 pos) (tTupX t) := by
  refine ⟨fun pn0 s σ H Q I hq => wpAny_Tuple_spliced (thn (h.run pos pn0 s σ H _ I hq) fun us s1 ⟨xs, H1, I1, r, z, q⟩ => ⟨by rw [← r.length]; exact z, ?_⟩)⟩
  have hfr : H1 s1.heap.objs.size = none := I1.hok.fresh (Nat.le_refl _)
  refine ⟨.ref s1.heap.objs.size, upd H1 s1.heap.objs.size (.frz { cls := .type "tuple", data := .seq us.toArray } (.tup xs)), I1.laid (t' := s1.toks) (fun b u e => Heap.get?_push_of_some _ e) (Nat.le_refl _) ?_, rfl, q _ _ hfr ⟨rfl, rfl⟩⟩
  exact ⟨Heap.get?_push_size _ rfl, z, us, r, ⟨_, Heap.get?_push_size _ rfl, rfl, _, rfl⟩⟩
def rTupX (K : PySem.W.Frag) : List V → Hp → VK → Prop := fun xs H Q => ∃ p ys, xs = [.ref p] ∧ SqL K H p ys ∧ ∀ l o, H l = none → plainT o → Q (.ref l) (upd H l (.frz o (.tup ys)))
theorem cr_tupleX : CallR X (.type "tuple") (rTupX X.K) := by
  intro pn0 s σ H xs us Q I r h
  obtain ⟨p, ys, rfl, hq, q⟩ := h
  rw [Vals.ref1 r]
  obtain ⟨its, r1, pl, hz⟩ := I.list hq
  have hlen := r1.length
  refine call_tuple_list pl.isList (fun h1 kp => ?_) (by rw [List.size_toArray, ← hlen]; exact hz)
  have I1 : Inv X pn0 σ H { s with heap := h1 } := I.kept (t' := s.toks) kp
  have I2 : Inv X pn0 σ (upd H h1.objs.size (.frz { cls := .type "tuple", data := .seq its.toArray } (.tup ys))) { s with heap := h1.push { cls := .type "tuple", data := .seq its.toArray } } :=
    I1.laid (t' := s.toks) (fun b o e => Heap.get?_push_of_some _ e) (Nat.le_refl _) ⟨Heap.get?_push_size _ rfl, hz, its, r1, IsTup.new _ _⟩
  exact ⟨.ref h1.objs.size, _, I2, rfl, q _ _ (I1.hok.fresh (Nat.le_refl _)) ⟨rfl, rfl⟩⟩
def rCatX (K : PySem.W.Frag) : R2 := fun x y H Q => ∃ a b xs ys, x = .ref a ∧ y = .ref b ∧ SqT K H a xs ∧ SqT K H b ys ∧ xs ≠ [] ∧ xs.length + ys.length ≤ sizeLine ∧ (ys = [] → Q (.ref a) H) ∧ (ys ≠ [] → ∀ p o, H p = none → plainT o → Q (.ref p) (upd H p (.frz o (.tup (xs ++ ys)))))
theorem op_catX : OpR X (binaryOp .Add) (rCatX X.K) := by
  intro pn0 s σ H x y v u Q I rx ry h
  obtain ⟨a, b, xs, ys, rfl, rfl, ha, hb, hx, hz, q1, q2⟩ := h
  cases rx
  cases ry
  obtain ⟨i1, r1, p1, _⟩ := I.tuple ha
  obtain ⟨i2, r2, p2, _⟩ := I.tuple hb
  refine HT.cat_tup p1 p2 (fun z => hx (by subst z; cases r1; rfl)) (fun z => ⟨.ref a, H, I, rfl, q1 (by subst z; cases r2; rfl)⟩) (fun z => ?_) (by rw [← r1.length, ← r2.length]; exact hz)
  have ny : ys ≠ [] := fun w => z (by subst w; cases r2; rfl)
  refine ⟨.ref s.heap.objs.size, _, I.laid (t' := s.toks) (o := .frz { cls := .type "tuple", data := .seq (i1 ++ i2).toArray } (.tup (xs ++ ys))) (fun b ob q => Heap.get?_push_of_some _ q) (Nat.le_refl _) ?_, rfl, q2 ny _ _ (I.hok.fresh (Nat.le_refl _)) ⟨rfl, rfl⟩⟩
  exact ⟨Heap.get?_push_size _ rfl, by rw [List.length_append]; exact hz, _, r1.append r2, IsTup.new _ _⟩
/-- a method of a tuple whose object is known -/
def tBMX (r : V → List V → Hp → VK → Prop) (to : TE) (t : TA) : TE := fun σ H Q => to σ H fun x H1 => (∃ a o vs, x = .ref a ∧ H1 a = some (.frz o (.tup vs)) ∧ plainT o) ∧ t σ H1 fun xs H2 => r x xs H2 Q
theorem pe_bmX {o e : Expr} {to : TE} {name : Str} {apos cpos : Pos} {id : String} {r : V → List V → Hp → VK → Prop} (pa : PlainAttrs "tuple") (slot : Slot "tuple" name id) (hty : typeOf (.builtin id) = pure (.type "method_descriptor")) (hm : MtR X id r) (ho : PE X o to) (ha : PA X (e :: es) t)
    (hb0 : attributeBase o name X.env (eval o X.env) = eval o X.env := by rfl)
    (hfew : ((backTo cpos (starEach (e :: es) X.env)).all (fun x => !x.1) && (backToKw cpos (keywordEach [] X.env)).all (fun x => x.1.isSome) && decide ((e :: es).length + ([] : List Keyword).length + (if ([] : List Keyword).isEmpty then 0 else 1) < 30)) = true := by rfl)
    (hl0 : (apos.endLine == cpos.line) = true := by rfl) (hs : starEach (e :: es) X.env = (false, eval e X.env) :: starEach es X.env := by rfl) (hp0 : (backTo cpos (starEach es X.env)).any (·.1) = false := by rfl) :
    PE X (.Call (.Attribute o name apos) (e :: es) [] cpos) (tBMX r to t) := by
  refine ⟨fun pn0 s σ H Q I hq => wpAny_Call_method_late hb0 hfew hl0 rfl (thn (ho.run pn0 s σ H _ I hq) fun v s1 ⟨x, H1, I1, r1, ⟨a, ob, vs, e1, e2, c1, c2⟩, q1⟩ => ?_)⟩
  subst e1
  obtain rfl : v = .ref a := r1
  have hob : s1.heap.get? a = some ob := (I1.hok a _ e2).1
  refine ⟨"tuple", id, pa, slot, hty, ⟨ob, hob, c1⟩, fun b eb => by cases eb; exact ⟨ob, hob, c2⟩, ?_⟩
  have hAr := ha.run cpos pn0 s1 σ H1 _ I1 q1
  rw [hs] at hAr ⊢
  refine Calls.callWith_builtin (by show (false || (backTo cpos (starEach es X.env)).any (·.1)) = false; rw [hp0] <;> rfl) (Calls.evalArgs_plain ?_)
  exact thn hAr fun us s2 ⟨ws, H2, I2, r2, q2⟩ => hm pn0 s2 σ H2 (.ref a) ws _ us Q I2 rfl r2 q2
def rCntX (K : PySem.W.Frag) : V → List V → Hp → VK → Prop := fun x xs H Q => ∃ (p : Addr) (ns : List Int) (k : Int), x = .ref p ∧ xs = [.int k] ∧ SqT K H p (ns.map V.int) ∧ Q (.int (ns.count k : Nat)) H
theorem mt_countX : MtR X "tuple.count" (rCntX X.K) := by
  intro pn0 s σ H x xs v us Q I rx rx9 h
  obtain ⟨p, ns, k, rfl, rfl, hs, q⟩ := h
  cases rx
  obtain ⟨u, rfl, ru⟩ := rx9.one
  obtain ⟨t, rfl⟩ := ru
  obtain ⟨its, rv, ⟨⟨cls, dd, data, sl⟩, ho, hc, n, hd⟩, hlen⟩ := I.tuple hs
  simp only at hc hd
  subst hc hd
  have hi := ints_of_vals rv
  refine call_meets PySem.F.slot_tuple_count ⟨_, ho, rfl⟩ PySem.F.entry_tuple_count (PySem.F.args_tuple_count_2 _ _)
    (SeqAt.tuple_countAt p its.toArray n dd sl (.int k t) (eqk k)) ⟨ho, fun y hy => (eqk_gives hi y (by simpa using hy)).at _ _, .int (ns.count k : Nat), H, I.tok _, ⟨s.toks, ?_⟩, q⟩
  have ec0 : its.toArray.toList.countP (eqk k) = ns.count k := eqk_count hi
  show Value.int ((its.toArray.toList.countP (eqk k) : Nat) : Int) s.toks = _
  rw [ec0]
def rIdxX (K : PySem.W.Frag) : V → List V → Hp → VK → Prop := fun x xs H Q => ∃ (p : Addr) (ns : List Int) (k : Int), x = .ref p ∧ xs = [.int k] ∧ SqT K H p (ns.map V.int) ∧ k ∈ ns ∧ Q (.int (ns.idxOf k : Nat)) H
theorem mt_indexX2 : MtR X "tuple.index" (rIdxX X.K) := by
  intro pn0 s σ H x xs v us Q I rx rx9 h
  obtain ⟨p, ns, k, rfl, rfl, hs, hk, q⟩ := h
  cases rx
  obtain ⟨u, rfl, ru⟩ := rx9.one
  obtain ⟨t, rfl⟩ := ru
  obtain ⟨its, rv, ⟨o, ho, hc, n, hd⟩, hlen⟩ := I.tuple hs
  have hi := ints_of_vals rv
  exact PySem.SeqAt.tuple_index_ints (vs := its) ⟨o, ho, hc, n, hd⟩ hi hk ⟨.int (ns.idxOf k : Nat), H, I.tok _, ⟨_, rfl⟩, q⟩
end
end DK
namespace DK
open PySem PySem.Spec PyProof.Rows L2 RZ
section
variable [TabsC]
variable {K : PySem.W.Frag} {mg : Str → Option Value} {ad : Nat → Option Addr} {Fz H Fz' H' : Hp} {σ : L2.St} {E : XK}
theorem ntb_frz {Fz : Hp} {a : Addr} {o : Obj} {u : HO} (h : NoTb Fz) : NoTb (upd Fz a (.frz o u)) := fun q z e => by
  by_cases w : q = a
  · rw [w, upd_same] at e; cases e; exact fun ps z => by cases z
  · rw [upd_ne w] at e; exact h q z e
theorem OEnd.new_etp {a : Addr} {o : Obj} {xs : List D} {vs : List V} (sub : ∀ a o, Fz a = some o → H a = some o) (hn : H a = none) (po : plainT o) (r : RepL K mg Fz xs vs) : OEnd K mg Fz H (.p (etp xs)) (.ref a) (upd Fz a (.frz o (.tup vs))) (upd H a (.frz o (.tup vs))) := by
  have ne : ∀ q u, H q = some u → q ≠ a := fun q u h => ne_of_none h hn
  have fm : ∀ q u, Fz q = some u → upd Fz a (.frz o (.tup vs)) q = some u := fun q u h => by rw [upd_ne (ne q u (sub q u h))]; exact h
  refine .of (fun q u h => by rw [upd_ne (ne q u h)]; exact h) (fun q u h => ?_) fm (fun q u h => ?_) ntb_frz ?_
  · by_cases e : q = a
    · subst e; rw [upd_same] at h ⊢; exact h
    · rw [upd_ne e] at h ⊢; exact sub q u h
  · by_cases e : q = a
    · subst e; exact .inr hn
    · rw [upd_ne e] at h; exact .inl ⟨u, h⟩
  · show Rep K mg _ (etp xs) _
    rw [Rep]
    exact ⟨a, vs, rfl, r.mono fm, .inl ⟨rfl, o, upd_same, po.1, po.2⟩⟩
theorem rep_etp {xs : List D} {x : V} (h : Rep K mg Fz (etp xs) x) : ∃ a vs, x = .ref a ∧ RepL K mg Fz xs vs ∧ TupX Fz a vs := by
  rw [Rep] at h
  obtain ⟨a, vs, e1, e2, ⟨_, e3⟩ | ⟨z, _⟩⟩ := h
  · exact ⟨a, vs, e1, e2, e3⟩
  · exact (z rfl).elim
theorem tupX_sq {a : Addr} {vs : List V} (h : TupX Fz a vs) : SqT K Fz a vs := by
  obtain ⟨o, h, _⟩ := h
  exact .inl (.inr ⟨o, h⟩)
theorem rep_weak {xs : List D} {x : V} (h : Rep K mg Fz (etp xs) x) : Rep K mg Fz (.tup xs) x := by
  obtain ⟨a, vs, e1, e2, e3⟩ := rep_etp h
  rw [Rep]
  exact ⟨a, vs, e1, (tupX_sq e3), e2⟩
theorem br_etp {xs : List D} {x : V} (h : BR K mg Fz H (etp xs) x) : ∃ a vs, x = .ref a ∧ RepL K mg Fz xs vs ∧ TupX Fz a vs := rep_etp h
/-! a value is taken as a plain tuple -/
def wkV : Vl → Vl
  | .p (.obj c ks xs) => if c = "" then .p (.tup xs) else .p (.obj c ks xs)
  | v => v
def kWk (x : Vl × Ds) : R (Vl × Ds) := .ok (wkV x.1, x.2)
def fWk (e : FE) : FE := fun st => (e st).bind kWk
theorem wk_val {Fz H : Hp} {st : Ds} {v : Vl} {x : V} (h : VOk K mg Fz H st σ v x) : VOk K mg Fz H st σ (wkV v) x := by
  cases v with
  | o xs => exact h
  | r i => exact h
  | p d =>
    cases d with
    | obj c ks xs =>
      have h : Rep K mg Fz (.obj c ks xs) x := h
      show VOk K mg Fz H st σ (if c = "" then .p (.tup xs) else .p (.obj c ks xs)) x
      split
      · rename_i e
        subst e
        rw [Rep] at h
        obtain ⟨a, vs, e1, e2, ⟨_, e3⟩ | ⟨z, _⟩⟩ := h
        · show Rep K mg Fz (.tup xs) x
          rw [Rep]
          exact ⟨a, vs, e1, (tupX_sq e3), e2⟩
        · exact (z rfl).elim
      · exact h
    | _ => exact h
theorem wk_ad {v : Vl} {x : V} {a : Addr} (h : VAd (wkV v) x a) : VAd v x a := by
  cases v with
  | o xs => exact h
  | r i => exact h
  | p d =>
    cases d with
    | obj c ks xs =>
      have h : VAd (if c = "" then .p (.tup xs) else .p (.obj c ks xs)) x a := h
      split at h <;> exact h.elim
    | _ => exact h
theorem tE_wk {fe : FE} {Q : VK} (h : tE K mg ad E (fWk fe) σ H Q) : tE K mg ad E fe σ H Q := by
  obtain ⟨st, Fz, rs, h⟩ := h
  refine ⟨st, Fz, rs, h.bind.imp fun ⟨v, st1⟩ h1 x Fz1 H1 e => ?_⟩
  exact h1 x Fz1 H1 ⟨e.rs, e.fr, wk_val e.val, fun a z => e.new a (wk_ad z)⟩
/-! exact tuples are made -/
def kTupX2 : Option (List D × Ds) → R (Vl × Ds)
  | some (ds, st2) => .ok (.p (etp ds), st2)
  | none => .stuck
def kTupX (x : List Vl × Ds) : R (Vl × Ds) := kTupX2 (fzVs x.1 x.2)
def fTupX (a : FA) : FE := fun st => (a st).bind kTupX
theorem tE_tupX {fa : FA} {n : Nat} (hn : n ≤ 10000) (hl : FALen fa n) {Q : VK} (h : tE K mg ad E (fTupX fa) σ H Q) : tTupX (tA K mg ad E fa) σ H Q := by
  obtain ⟨st, Fz, rs, h⟩ := h
  refine ⟨st, Fz, rs, ?_⟩
  cases r : fa st with
  | stuck => unfold fTupX at h; rw [r] at h; exact h.elim
  | err c l => unfold fTupX at h; rw [r] at h; exact h
  | ok y =>
    obtain ⟨vs, st1⟩ := y
    unfold fTupX at h
    rw [r, DK.R.bind_ok] at h
    have hvl : vs.length = n := hl _ _ r
    intro xs Fz1 H1 e1
    unfold kTupX at h
    dsimp only at h e1
    cases e : fzVs vs st1 with
    | none => rw [e] at h; exact h.elim
    | some dq =>
      obtain ⟨ds, st2⟩ := dq
      rw [e] at h
      obtain ⟨Fz2, rs2, fr2, r2, fm2, ow2⟩ := fzVs_ok e1.rs e1.fr e1.val e1.new e
      have hx : xs.length = n := by
        have : ∀ {vs : List Vl} {xs : List V}, VOks K mg Fz1 H1 st1 σ vs xs → vs.length = xs.length := by
          intro vs
          induction vs with
          | nil => intro xs h; cases xs with
            | nil => rfl
            | cons x xs => exact h.elim
          | cons v vs ih => intro xs h; cases xs with
            | nil => exact h.elim
            | cons x xs => simp [ih h.2.1]
        rw [← this e1.val, hvl]
      exact ⟨by rw [hx]; exact small_sz hn, fun p o hp po => h (.ref p) _ _ ((OEnd.new_etp rs2.sub hp po r2).eend rs2 fr2)⟩
def gTupleX : List D → Option Vl
  | [.lst xs] => some (.p (etp xs))
  | _ => none
theorem on_tupleX : OpN K mg (rTupX K) gTupleX := fun Fz H xs ds v sub hx e Q q => by
  unfold gTupleX at e
  split at e
  · cases e
    obtain ⟨x, rfl, a, vs, rfl, h2, h3⟩ := brs1 hx
    exact ⟨a, vs, rfl, .inl (.inl h2), fun l o hl po => q _ _ _ (OEnd.new_etp sub hl po h3)⟩
  · cases e
def gAddX : D → D → Option Vl
  | .obj c _ xs, .obj c2 _ ys => if c = "" ∧ c2 = "" ∧ xs ≠ [] ∧ xs.length + ys.length ≤ 100000 then some (.p (etp (xs ++ ys))) else none
  | _, _ => none
theorem rep_c {c : Str} {ks : List Str} {xs : List D} {x : V} (e : c = "") (h : Rep K mg Fz (.obj c ks xs) x) : Rep K mg Fz (etp xs) x := by
  subst e
  rw [Rep] at h ⊢
  obtain ⟨a, vs, e1, e2, ⟨z, e3⟩ | ⟨z, _⟩⟩ := h
  · exact ⟨a, vs, e1, e2, .inl ⟨z, e3⟩⟩
  · exact (z rfl).elim
theorem o2_addX : Op2 K mg (rCatX K) gAddX := fun Fz H x y dx dy v sub hx hy e Q q => by
  unfold gAddX at e
  split at e
  · split at e
    · rename_i c k xs c2 k2 ys hl
      cases e
      obtain ⟨a, vs, rfl, h1, t1⟩ := rep_etp (rep_c hl.1 hx)
      obtain ⟨b, us, rfl, h2, t2⟩ := rep_etp (rep_c hl.2.1 hy)
      refine ⟨a, b, vs, us, rfl, rfl, sqT_mono sub (tupX_sq t1), sqT_mono sub (tupX_sq t2), fun z => hl.2.2.1 ?_, ?_, fun z => ?_, fun z p o hp po => q _ _ _ (OEnd.new_etp sub hp po (h1.append h2))⟩
      · subst z
        exact List.eq_nil_of_length_eq_zero (by rw [h1.len]; rfl)
      · rw [← h1.len, ← h2.len]; exact sz5 hl.2.2.2
      · subst z
        have : ys = [] := List.eq_nil_of_length_eq_zero (by rw [h2.len]; rfl)
        subst this
        rw [List.append_nil] at q
        exact q _ Fz H (OEnd.val_p sub (by
          show Rep K mg Fz (etp xs) _
          rw [Rep]
          exact ⟨a, vs, rfl, h1, .inl ⟨rfl, t1⟩⟩))
    · cases e
  · cases e
/-! methods -/
def gCountX : D → D → Option Vl
  | .obj c _ xs, .int k => if c = "" then (match intsD xs with
    | some ns => some (.p (.int (ns.count k : Nat)))
    | none => none) else none
  | _, _ => none
def gIdxX : D → D → Option Vl
  | .obj c _ xs, .int k => if c = "" then (match intsD xs with
    | some ns => if k ∈ ns then some (.p (.int (ns.idxOf k : Nat))) else none
    | none => none) else none
  | _, _ => none
def MOk (K : PySem.W.Frag) (mg : Str → Option Value) (r : V → List V → Hp → VK → Prop) (g : D → D → Option Vl) : Prop := Op2 K mg (fun x y => r x [y]) g
theorem mo_count : MOk K mg (rCntX K) gCountX := fun Fz H x y dx dy v sub hx hy e Q q => by
  unfold gCountX at e
  split at e
  · split at e
    · rename_i c k xs j hc
      split at e
      · rename_i ns en
        cases e
        obtain ⟨a, vs, rfl, h1, t1⟩ := rep_etp (rep_c hc hx)
        obtain rfl := br_int hy
        rw [intsD_some en] at h1
        have := repL_ints h1
        subst this
        exact ⟨a, ns, j, rfl, rfl, sqT_mono sub (tupX_sq t1), q _ Fz H (oe_int sub)⟩
      · cases e
    · cases e
  · cases e
theorem mo_idx : MOk K mg (rIdxX K) gIdxX := fun Fz H x y dx dy v sub hx hy e Q q => by
  unfold gIdxX at e
  split at e
  · split at e
    · rename_i c k xs j hc
      split at e
      · rename_i ns en
        split at e
        · rename_i hk
          cases e
          obtain ⟨a, vs, rfl, h1, t1⟩ := rep_etp (rep_c hc hx)
          obtain rfl := br_int hy
          rw [intsD_some en] at h1
          have := repL_ints h1
          subst this
          exact ⟨a, ns, j, rfl, rfl, sqT_mono sub (tupX_sq t1), hk, q _ Fz H (oe_int sub)⟩
        · cases e
      · cases e
    · cases e
  · cases e
def kMet (g : D → D → Option Vl) (b : FE) (x : Vl × Ds) : R (Vl × Ds) := match x.1 with
  | .p (.obj c ks xs) => if c = "" then (b x.2).bind (fun y => oV (bD2 (.p (.obj c ks xs)) y.1 y.2 g) y.2) else .stuck
  | _ => .stuck
def fMet (g : D → D → Option Vl) (a b : FE) : FE := fun st => (a st).bind (kMet g b)
theorem tE_met {fa fb : FE} {g : D → D → Option Vl} {r : V → List V → Hp → VK → Prop} (hr : MOk K mg r g) {Q : VK} (h : tE K mg ad E (fMet g fa fb) σ H Q) : tBMX r (tE K mg ad E fa) (tCons (tE K mg ad E fb) tNil) σ H Q := by
  obtain ⟨st, Fz, rs, h⟩ := h
  refine ⟨st, Fz, rs, h.bind.imp fun ⟨vx, st1⟩ h1 x Fz1 H1 e1 => ?_⟩
  unfold kMet at h1
  dsimp only at h1 e1
  split at h1
  · rename_i c ks xs
    split at h1
    · rename_i hc
      obtain ⟨a, vs, ex, _, o, h2, h3, h4⟩ := rep_etp (rep_c hc e1.val)
      refine ⟨⟨a, o, vs, ex, e1.rs.sub _ _ h2, h3, h4⟩, st1, Fz1, e1.rs, Out.shift h1.bind e1.fr fun ⟨vy, st2⟩ h5 y Fz2 H2 e2 => ?_⟩
      cases e : bD2 (.p (.obj c ks xs)) vy st2 g with
      | none => rw [e] at h5; exact h5.elim
      | some v =>
        rw [e] at h5
        exact bD2_ok hr e2.rs (e1.fr.trans e2.fr) (e1.val.stay e2.fr) e2.val e h5
    · exact h1.elim
  · exact h1.elim
end
section
variable [TabsC]
variable {X : Cx} {E : XK} {a b e o : Expr} {es : List Expr} {fa fb fe : FE} {fl : FA} {pos p apos cpos : Pos}
theorem de_wk (h : DE X E e fe) : DE X E e (fWk fe) := fun ad => PE_conseq (h ad) fun σ H Q q => tE_wk q
theorem de_tupX {x1} {n : Nat} (hl : DA X E es fl) (hn : FALen fl n := by repeat (first | exact falen_nil | refine falen_cons ?_)) (hz : n ≤ 10000 := by decide) : DE X E (.Tuple es x1 pos) (fTupX fl) := fun ad => PE_conseq (pe_tupX (hl ad)) fun σ H Q h => tE_tupX hz hn h
theorem b_tupleX (hm : X.mg "tuple" = none) (ha : DA X E [a] fl) (hg : Gl X "tuple" := by rfl) (he : starEach [a] X.env = (false, eval a X.env) :: starEach [] X.env := by rfl) : DE X E (.Call (.Name "tuple" p) [a] [] pos) (fCB gTupleX fl) :=
  de_callTy (T := "tuple") cr_tupleX on_tupleX hg hm (by rfl) ha (by decide) (by decide) he rfl
theorem o_addX (ha : DE X E a fa) (hb : DE X E b fb) : DE X E (.BinOp a .Add b pos) (fOp2 gAddX fa fb) := de_op op_catX o2_addX ha hb
theorem m_countX (ho : DE X E o fa) (ha : DE X E e fb) (hbase : attributeBase o "count" X.env (eval o X.env) = eval o X.env := by rfl)
    (hfew : ((backTo cpos (starEach (e :: []) X.env)).all (fun x => !x.1) && (backToKw cpos (keywordEach [] X.env)).all (fun x => x.1.isSome) && decide ((e :: []).length + ([] : List Keyword).length + (if ([] : List Keyword).isEmpty then 0 else 1) < 30)) = true := by rfl)
    (hline : (apos.endLine == cpos.line) = true := by rfl) (hs : starEach (e :: []) X.env = (false, eval e X.env) :: starEach [] X.env := by rfl) (hplain : (backTo cpos (starEach [] X.env)).any (·.1) = false := by rfl) :
    DE X E (.Call (.Attribute o "count" apos) [e] [] cpos) (fMet gCountX fa fb) := fun ad => PE_conseq (pe_bmX PySem.F.plainAttrs_tuple PySem.F.slot_tuple_count PySem.F.type_tuple_count mt_countX (ho ad) (pa_cons (ha ad) pa_nil hs) hbase hfew hline hs hplain) fun σ H Q q => tE_met mo_count q
theorem m_indexX (ho : DE X E o fa) (ha : DE X E e fb) (hbase : attributeBase o "index" X.env (eval o X.env) = eval o X.env := by rfl)
    (hfew : ((backTo cpos (starEach (e :: []) X.env)).all (fun x => !x.1) && (backToKw cpos (keywordEach [] X.env)).all (fun x => x.1.isSome) && decide ((e :: []).length + ([] : List Keyword).length + (if ([] : List Keyword).isEmpty then 0 else 1) < 30)) = true := by rfl)
    (hline : (apos.endLine == cpos.line) = true := by rfl) (hs : starEach (e :: []) X.env = (false, eval e X.env) :: starEach [] X.env := by rfl) (hplain : (backTo cpos (starEach [] X.env)).any (·.1) = false := by rfl) :
    DE X E (.Call (.Attribute o "index" apos) [e] [] cpos) (fMet gIdxX fa fb) := fun ad => PE_conseq (pe_bmX PySem.F.plainAttrs_tuple PySem.F.slot_tuple_index PySem.F.type_tuple_index mt_indexX2 (ho ad) (pa_cons (ha ad) pa_nil hs) hbase hfew hline hs hplain) fun σ H Q q => tE_met mo_idx q
end
/-! by simp -/
section
variable {st : Ds} {a b : FE} {fa : FA} {ds xs ys : List D} {g : D → D → Option Vl} {x : Vl} {ns ms : List Int} {k : Int}
@[simp] theorem fWk_eq : fWk a st = (a st).bind kWk := rfl
@[simp] theorem kWk_eq : kWk (x, st) = .ok (wkV x, st) := rfl
@[simp] theorem wkV_etp : wkV (.p (.obj "" [] xs)) = .p (.tup xs) := rfl
@[simp] theorem wkV_tup : wkV (.p (.tup xs)) = .p (.tup xs) := rfl
@[simp] theorem wkV_int : wkV (.p (.int k)) = .p (.int k) := rfl
@[simp] theorem wkV_lst : wkV (.p (.lst xs)) = .p (.lst xs) := rfl
@[simp] theorem wkV_o : wkV (.o xs) = .o xs := rfl
@[simp] theorem wkV_non : wkV (.p .non) = .p .non := rfl
@[simp] theorem wkV_bl {q : Bool} : wkV (.p (.bl q)) = .p (.bl q) := rfl
@[simp] theorem wkV_str {q : Str} : wkV (.p (.str q)) = .p (.str q) := rfl
@[simp] theorem fTupX_eq : fTupX fa st = (fa st).bind kTupX := rfl
@[simp] theorem kTupX_eq {vs : List Vl} : kTupX (vs, st) = kTupX2 (fzVs vs st) := rfl
@[simp] theorem kTupX2_eq : kTupX2 (some (ds, st)) = .ok (.p (etp ds), st) := rfl
@[simp] theorem gTupleX_l : gTupleX [.lst xs] = some (.p (etp xs)) := rfl
theorem gAddX_e (h : xs ≠ []) (hl : xs.length + ys.length ≤ 100000) : gAddX (etp xs) (etp ys) = some (.p (etp (xs ++ ys))) := if_pos ⟨rfl, rfl, h, hl⟩
@[simp] theorem fMet_eq : fMet g a b st = (a st).bind (kMet g b) := rfl
@[simp] theorem kMet_eq : kMet g b (.p (.obj "" [] xs), st) = (b st).bind (kOp2 g (.p (.obj "" [] xs))) := rfl
@[simp] theorem gCountX_m : gCountX (etp (ns.map D.int)) (.int k) = some (.p (.int (ns.count k : Nat))) := by
  show (match intsD (ns.map D.int) with | some ns => some (Vl.p (.int (ns.count k : Nat))) | none => none) = _
  rw [intsD_map]
theorem gIdxX_m (h : k ∈ ns) : gIdxX (etp (ns.map D.int)) (.int k) = some (.p (.int (ns.idxOf k : Nat))) := by
  show (match intsD (ns.map D.int) with | some ns => if k ∈ ns then some (Vl.p (.int (ns.idxOf k : Nat))) else none | none => none) = _
  rw [intsD_map]
  exact if_pos h
end
end DK

set_option Elab.async false
set_option linter.all false
set_option maxRecDepth 100000
set_option maxHeartbeats 2000000
/-! enumerate(t), t a tuple -/
namespace DK
open PySem PySem.Spec PyProof.Rows L2 RZ
def IteT (K : PySem.W.Frag) (a : Addr) : It :=
  ⟨fun i H => ∃ (xs : List V) (x : V), SqT K H a xs ∧ xs[i]? = some x, fun i H v H' => ∃ T x, v = .ref T ∧ H T = none ∧ H' = upd H T (.tup [.int (i : Nat), x]) ∧ ∀ xs, SqT K H a xs → xs[i]? = some x, fun i H => ∃ xs : List V, SqT K H a xs ∧ xs.length = i⟩
/-- the two objects of enumerate(t) at turn i -/
structure EnT (a e it : Addr) (i : Nat) (h : Heap) : Prop where
  en : ∃ old, IsEnum h e it ((i : Nat) : Int) old
  tu : h.IsTupleIter it a i
  ei : e ≠ it
  ae : a ≠ e
  ai : a ≠ it
theorem two {P : Addr → Prop} {e it b : Addr} (h1 : P e) (h2 : P it) (hb : b ∈ [e, it]) : P b := by
  rcases List.mem_cons.mp hb with rfl | hb
  · exact h1
  · rw [List.mem_singleton.mp hb]; exact h2
theorem EnT.lt {a e it : Addr} {i : Nat} {h : Heap} (t : EnT a e it i h) {b : Addr} (hb : b ∈ [e, it]) : b < h.objs.size :=
  let ⟨_, he⟩ := t.en
  let ⟨_, hi, _⟩ := t.tu
  two (P := (· < h.objs.size)) (Heap.lt_size he) (Heap.lt_size hi) hb
theorem turn_enumT {P : Program} {w : World} {K : PySem.W.Frag} {elts : List Expr} {kk : Nat} {tpos : Pos} (a e it : Addr) : Turn P w K (.Tuple elts kk tpos) (IteT K a) [e, it] e (EnT a e it) where
  mem := List.mem_cons_self ..
  obj := fun i h t b hb => by
    obtain ⟨_, he⟩ := t.en
    obtain ⟨u, hu, _, hd⟩ := t.tu
    exact two (P := fun b => ∃ o, h.get? b = some o ∧ ∀ v : Option Value, o.data ≠ .cell v) ⟨_, he, fun _ z => nomatch z⟩ ⟨u, hu, fun _ z => by rw [hd] at z; cases z⟩ hb
  keep := fun i h h' t k => ⟨t.en.imp fun _ z => k e (by simp) _ z, t.tu.at fun o z => k it (by simp) o z, t.ei, t.ae, t.ai⟩
  item := by
    rintro X rfl rfl rfl calm i pins s σ H E I fp t ⟨xs, x, sq, ex⟩
    have lt := fun b => t.lt (b := b)
    obtain ⟨its, vals, tp, _⟩ := I.tuple sq
    obtain ⟨u, eu, ru⟩ := vals.get ex
    obtain ⟨old, en⟩ := t.en
    have size : i < its.toArray.size := by simpa using (List.getElem?_eq_some_iff.mp eu).1
    have Dr := Draws.tuple (prog := X.prog) (w := X.w) (show X.A.in1.handled = none from I.ok.hd calm) it a t.ai its.toArray
    refine wpAny_pyNext_enum_itemD Dr en ⟨t.tu, tp⟩ size t.ei (by simp [t.ei, Ne.symm t.ae]) fun y h1 tk ey out dr pair _ rest => ?_
    obtain rfl : u = y := Option.some.inj (eu.symm.trans (by simpa using ey))
    refine ⟨_, rfl, wpAny_letOwnedTupleGo_enum (s := { s with heap := h1, toks := tk + 1 }) out fun h2 en2 same => ?_⟩
    have pr : h2.get? s.heap.objs.size = some { cls := .type "tuple", data := .seq #[.int i tk, u] } := (same.2 _ (Nat.ne_of_gt (lt e (by simp)))).trans pair
    have two' : ∀ b, b ∉ [e, it] → b ≠ e ∧ b ≠ it := fun b n => ⟨fun z => n (z ▸ List.mem_cons_self ..), fun z => n (z ▸ by simp)⟩
    have I1 : Inv X pins σ (upd H s.heap.objs.size (.tup [.int (i : Nat), x])) { s with heap := h2, toks := tk + 1 } :=
      I.turnedNew (ch := [e, it]) (fun b o n z => (same.2 b (two' b n).1).trans (rest b o (two' b n).1 (two' b n).2 z)) fp (Nat.le_refl _) ⟨by show 2 ≤ sizeLine; decide, _, .cons ⟨_, rfl⟩ (.cons ru .nil), ⟨_, pr, rfl, _, rfl⟩⟩
    refine ⟨.ref s.heap.objs.size, _, I1, rfl, ⟨_, x, rfl, I.hok.fresh (Nat.le_refl _), rfl, fun ys z => I.tuple_inj z sq ▸ ex⟩, ⟨⟨u, ?_⟩, dr.1.at fun o z => (same.2 it (Ne.symm t.ei)).trans z, t.ei, t.ae, t.ai⟩, fun b hb => ?_⟩
    · rw [show ((i + 1 : Nat) : Int) = (i : Int) + 1 from rfl]
      exact en2
    · rw [upd_ne (Nat.ne_of_lt (lt b hb))]
      exact (fp b hb).1
  done := by
    rintro X rfl rfl rfl calm i pins s σ H E I fp t ⟨xs, sq, ex⟩
    obtain ⟨its, vals, tp, _⟩ := I.tuple sq
    obtain ⟨_, en⟩ := t.en
    have Dr := Draws.tuple (prog := X.prog) (w := X.w) (show X.A.in1.handled = none from I.ok.hd calm) it a t.ai its.toArray
    have q := t.tu
    have l := vals.length
    rw [show i = its.toArray.size by simp; omega] at q
    obtain ⟨p0, p1, _, p3, p4, p5⟩ := fp it (by simp)
    exact wpAny_pyNext_enum_endD Dr en ⟨q, tp⟩ fun h' z => ⟨rfl, I.turned (t' := s.toks) (fun b o n => z b o n) p0 p1 p3 p4 p5⟩
  self := fun _ _ _ _ _ t z => let ⟨_, en⟩ := t.en; wpAny_pyIter_enum en z
/-- the object that enumerate makes over the iterator at it -/
def enO (it : Addr) : Obj := ⟨.type "enumerate", none, .fields #[.none, .bool false, .ref it, rawInt 0, .none, .none], #[]⟩
theorem meets_en1 {v : Value} {o : Obj} {G : Heap → Prop} (B : Begins v o G) :
    Meets (Builtin.«enumerate.__new__» ⟨[.type "enumerate", v], []⟩) (fun _ R s => G s.heap ∧ R (.ok (.ret (.ref (s.heap.push o).objs.size))) { s with heap := (s.heap.push o).push (enO s.heap.objs.size) }) := by
  refine .of_wp fun P w A R s ⟨g, q⟩ => ?_
  obtain ⟨hp, a1, a2, a3, a4⟩ := s
  have sub := sub_enumerate
  have it : ∀ {A' : Around} {E Q : Value → Shared → Prop}, Q (.ref hp.objs.size) ⟨hp.push o, a1, a2, a3, a4⟩ → wpAny (model P w) A' (pyIter v) Q E ⟨hp, a1, a2, a3, a4⟩ := fun z => B.iter P w _ _ _ _ g z
  wp_walk using it
  refine wpAny_stack_any fun _ => wpAny_pure ?_
  split
  all_goals first
    | (rename_i c _ _ _ _ _; cases (c == Value.type "enumerate") <;> (wp_walk using it; exact ⟨_, rfl, q⟩))
    | (wp_walk using it; exact ⟨_, rfl, q⟩)
theorem call_en1 {P : Program} {w : World} {A : Around} {E Q : Value → Shared → Prop} {s : Shared} {v : Value} {o : Obj} {G : Heap → Prop} (B : Begins v o G) (g : G s.heap)
    (q : ∀ h', h'.get? s.heap.objs.size = some o → h'.get? (s.heap.objs.size + 1) = some (enO s.heap.objs.size) → (∀ b u, s.heap.get? b = some u → h'.get? b = some u) → Q (.ref (s.heap.objs.size + 1)) { s with heap := h' }) :
    wpAny (model P w) A (call (.type "enumerate") [v]) Q E s := by
  have z : (s.heap.push o).objs.size = s.heap.objs.size + 1 := Heap.size_push ..
  have top : ((s.heap.push o).push (enO s.heap.objs.size)).get? (s.heap.objs.size + 1) = some (enO s.heap.objs.size) := z ▸ Heap.get?_push_size _ rfl
  refine callType_new F.called_enumerate (by decide) (F.typeCall_enumerate_1 v) (F.newCall_enumerate_1 v) (fun x => F.args_object_init_2 x v) F.entry_enumerate_new (meets_en1 B) ⟨g, ?_⟩
  show _ ∧ _
  rw [z]
  exact ⟨⟨_, top, rfl⟩, q _ (Heap.get?_push_of_some _ (Heap.get?_push_size _ B.free)) top fun b u e => Heap.get?_push_of_some _ (Heap.get?_push_of_some _ e)⟩
def iEnumT (K : PySem.W.Frag) (ta : TA) : TI := fun σ H R => ta σ H fun vs H1 => ∃ a xs, vs = [.ref a] ∧ SqT K H1 a xs ∧ R (IteT K a) H1
theorem pi_enumT {X : Cx} {e : Expr} {ta : TA} {p pos tpos : Pos} {elts : List Expr} {kk : Nat} (hg : Gl X "enumerate") (hm : X.mg "enumerate" = none) (ha : PA X [e] ta) (hs : starEach [e] X.env = [(false, eval e X.env)] := by rfl) :
    PI X (.Tuple elts kk tpos) (.Call (.Name "enumerate" p) [e] [] pos) (iEnumT X.K ta) := ⟨fun pins s σ H R I h => by
  refine Call_ (ld_blt I hg hm boot_enumerate (PyProof.Rows.callWith_type1 (thn (ha.run pos pins s σ H _ I h) ?_) hs rfl))
  rintro us s1 ⟨_, H1, I1, r1, a, xs, rfl, hq, q⟩
  obtain ⟨u, rfl, r⟩ : ∃ u, us = [u] ∧ RelV (.ref a) u := by
    cases r1 with
    | cons r rr => cases rr; exact ⟨_, rfl, r⟩
  cases (show u = Value.ref a from r)
  obtain ⟨its, _, tp, _⟩ := I1.tuple hq
  have al : a < s1.heap.objs.size := let ⟨_, z, _⟩ := tp; Heap.lt_size z
  refine call_en1 (begins_tuple a its.toArray) tp fun h' hit he hk => wpAny_pyIter_enum (i := 0) (old := .none) he ⟨s1.heap.objs.size + 1, [s1.heap.objs.size + 1, s1.heap.objs.size], _, _, H1, rfl, I1.kept (t' := s1.toks) hk,
    turn_enumT a (s1.heap.objs.size + 1) s1.heap.objs.size, ⟨⟨.none, he⟩, ⟨_, hit, rfl, rfl⟩, Nat.succ_ne_self _, Nat.ne_of_lt (Nat.lt_succ_of_lt al), Nat.ne_of_lt al⟩, fun b hb => ?_, q⟩
  have up : s1.heap.objs.size ≤ b := by
    rcases List.mem_cons.mp hb with z | z
    · exact z ▸ Nat.le_succ _
    · exact Nat.le_of_eq (List.mem_singleton.mp z).symm
  exact I1.fpOk up (I1.hok.fresh up)⟩
section
variable [TabsC] {K : PySem.W.Frag} {mg : Str → Option Value} {ad : Nat → Option Addr} {Fz H : Hp} {σ : L2.St}
theorem serves_enumT {a : Addr} {us : List V} {xs : List D} (h : SqT K Fz a us) (r : RepL K mg Fz xs us) : Serves K mg Fz (IteT K a) (enumD 0 xs) := fun Fz1 H1 fm sub => by
  have k1 : SqT K H1 a us := sqT_mono sub (sqT_mono fm h)
  refine ⟨⟨us, k1, by rw [enumD_len, r.len]⟩, fun i d e => ?_⟩
  obtain ⟨x, e1, rfl⟩ := enumD_get e
  obtain ⟨u, g1, p1⟩ := r.get e1
  refine ⟨⟨us, u, k1, g1⟩, fun x H' yl => ?_⟩
  obtain ⟨T, x', rfl, hT, rfl, f1⟩ := yl
  have f1 := f1 us k1
  rw [g1] at f1
  cases f1
  simp only [Nat.zero_add]
  exact ⟨_, OEnd.new_tup sub hT (repL_cons (show Rep K mg Fz1 (.int ((i : Nat) : Int)) (.int ((i : Nat) : Int)) from rep_int) (repL_cons (p1.mono fm) repL_nil))⟩
def enumOfT : List D → Option (List D)
  | [.tup xs] => some (enumD 0 xs)
  | _ => none
def fEnT (a : FA) : FI := fun st => (a st).bind fun x => match fzVs x.1 x.2 with
  | some (ds, st2) => match enumOfT ds with
    | some zs => .ok (zs, st2)
    | none => .stuck
  | none => .stuck
theorem tI_enumT {fa : FA} {R : It → Hp → Prop} {E : XK} (h : tI K mg ad E (fEnT fa) σ H R) : iEnumT K (tA K mg ad E fa) σ H R := by
  obtain ⟨st, Fz, rs, h⟩ := h
  refine ⟨st, Fz, rs, h.bind.imp fun ⟨vs, st1⟩ h1 as Fz1 H1 e1 => ?_⟩
  dsimp only at h1 e1
  split at h1
  · rename_i ds st2 e2
    split at h1
    · rename_i zs e3
      unfold enumOfT at e3
      split at e3
      · cases e3
        obtain ⟨Fz2, rs2, fr2, r2, _⟩ := fzVs_ok e1.rs e1.fr e1.val e1.new e2
        obtain ⟨v1, as1, rfl, p1, r2⟩ := r2.cons_inv
        obtain rfl := r2.nil_inv
        rw [Rep] at p1
        obtain ⟨a, us, rfl, q1, q2⟩ := p1
        exact ⟨a, us, rfl, sqT_mono rs2.sub q1, h1 _ Fz2 H1 rs2 fr2 (serves_enumT q1 q2)⟩
      · cases e3
    · exact h1.elim
  · exact h1.elim
end
section
variable [TabsC] {X : Cx} {E : XK} {a : Expr} {fl : FA} {pos p : Pos}
theorem di_enumT {elts : List Expr} {kk : Nat} {tpos : Pos} (hm : X.mg "enumerate" = none) (ha : DA X E [a] fl) (hg : Gl X "enumerate" := by rfl) (hs : starEach [a] X.env = [(false, eval a X.env)] := by rfl) :
    DI X E (.Tuple elts kk tpos) (.Call (.Name "enumerate" p) [a] [] pos) (fEnT fl) := fun ad => PI_conseq (pi_enumT hg hm (ha ad) hs) fun σ H R q => tI_enumT q
end
section
variable {fl : FA} {st : List Sl}
theorem fEnT_eq : fEnT fl st = (fl st).bind fun x => match fzVs x.1 x.2 with
  | some (ds, st2) => match enumOfT ds with
    | some zs => .ok (zs, st2)
    | none => .stuck
  | none => .stuck := rfl
end
end DK

set_option Elab.async false
set_option linter.all false
set_option maxRecDepth 100000
set_option maxHeartbeats 2000000
/-! own signs of instances, by the defs of their class -/
namespace DK
open PySem PySem.Spec PyProof.Rows L2 RZ
def InsA (H : Hp) (x : V) (C : Addr) : Prop := ∃ a dx fs, x = .ref a ∧ H a = some (.ins C dx fs)
section
variable {X : Cx} {CX : CXT} {k : Nat} {C g : Addr} {sp : Sp} {E : XK} {pins : List (Addr × Obj)} {σ : L2.St} {H : Hp} {s : Shared} {a dx : Addr} {fs : List (Str × V)}
theorem ins_look (I : Inv X pins σ H s) (h : H a = some (.ins C dx fs)) : ∃ ox od, PySem.W.InstAt s.heap a ox C od ∧ ox.data = .plain := StX.insC_at I (.inr ⟨dx, fs, h⟩)
def rEqI (K : PySem.W.Frag) (C : Addr) (sp : Sp) (E : XK) : R2 := fun x y H Q => InsA H x C ∧ (InsA H y C ∨ ∃ t ys, y = .ref t ∧ SqT K H t ys) ∧ sp [x, y] H Q E
theorem op_eqI (nf : PySem.W.notFirst X.K C (.ref C) = true) (nt : PySem.W.notFirst X.K C (.type "tuple") = true) (hs : PySem.W.findIn X.K (.ref C) "__eq__" = some (some (.ref g))) (hf : PySem.W.isFn X.K (.ref g) = true)
    (F : FnR X.prog X.w X.K X.mg X.base CX k g sp) (hr : Room k X.A) (hx : Passes CX X E) : OpR X (compareOp .Eq) (rEqI X.K C sp E) := by
  intro pins s σ H x y v u Q I rx ry h
  obtain ⟨⟨a, dx, fs, rfl, ha⟩, hy, q⟩ := h
  cases (show v = Value.ref a from rx)
  obtain ⟨ox, od, J, _⟩ := ins_look I ha
  obtain ⟨m, hF⟩ := I.fr
  show wpAny _ _ (richCompare .Eq _ _) _ _ s
  have done : wpAny (model X.prog X.w) X.A (call (.ref g) [.ref a, u]) (PySem.W.CmpBack (EP X pins σ Q)) X.xe s := by
    refine wpAny_mono (wpAny_call (run_fnR (us := [.ref a, u]) (vs := [.ref a, y]) F hr hx I (.cons rfl (.cons ry .nil)) q)) (fun w s' z => ?_) fun _ _ x => x
    obtain ⟨z', H', I', rz, qz⟩ := z
    exact SlX.cmpback rz ⟨z', H', I', rz, qz⟩
  rcases hy with ⟨b, dy, fy, rfl, hb⟩ | ⟨t, ys, rfl, ht⟩
  · cases (show u = Value.ref b from ry)
    obtain ⟨oy, ody, J', _⟩ := ins_look I hb
    exact PySem.W.cmp_K (op := .Eq) (tb := .ref C) hr.units0 hF I.ok.mod.kin J J'.type nf hs hf done
  · cases (show u = Value.ref t from ry)
    obtain ⟨its, r, ⟨o, ho, hc, n, hd⟩, _⟩ := I.tuple ht
    exact PySem.W.cmp_K (op := .Eq) (tb := .type "tuple") hr.units0 hF I.ok.mod.kin J ((PySem.W.Looks.ld ho).andThen (by rw [hc]; exact .now)) nt hs hf done
def rAddI (C : Addr) (sp : Sp) (E : XK) : R2 := fun x y H Q => InsA H x C ∧ InsA H y C ∧ sp [x, y] H Q E
theorem op_addI (hc : PySem.W.selfFirst X.K C = true) (hs : PySem.W.findIn X.K (.ref C) "__add__" = some (some (.ref g))) (hf : PySem.W.isFn X.K (.ref g) = true)
    (F : FnR X.prog X.w X.K X.mg X.base CX k g sp) (hr : Room k X.A) (hx : Passes CX X E) : OpR X (binaryOp .Add) (rAddI C sp E) := by
  intro pins s σ H x y v u Q I rx ry h
  obtain ⟨⟨a, dx, fs, rfl, ha⟩, ⟨b, dy, fy, rfl, hb⟩, q⟩ := h
  cases (show v = Value.ref a from rx)
  cases (show u = Value.ref b from ry)
  obtain ⟨ox, od, J, _⟩ := ins_look I ha
  obtain ⟨oy, ody, J', _⟩ := ins_look I hb
  obtain ⟨m, hF⟩ := I.fr
  have hs' : PySem.W.findIn X.K (.ref C) (PySem.dunder Operator.Add.info.2) = some (some (.ref g)) := hs
  refine PySem.W.binop_K (op := .Add) hF I.ok.mod.kin J J'.type hc hs' hf ?_
  refine wpAny_mono (wpAny_call (run_fnR (us := [.ref a, .ref b]) (vs := [.ref a, .ref b]) F hr hx I (.cons rfl (.cons rfl .nil)) q)) (fun w s' z => ?_) fun _ _ x => x
  obtain ⟨z', H', I', rz, qz⟩ := z
  exact SlX.cmpback rz ⟨z', H', I', rz, qz⟩
theorem un_negI (hs : PySem.W.findIn X.K (.ref C) "__neg__" = some (some (.ref g))) (hf : PySem.W.isFn X.K (.ref g) = true)
    (F : FnR X.prog X.w X.K X.mg X.base CX k g sp) (hr : Room k X.A) (hx : Passes CX X E) : UnR X (unaryOp .USub) (fun x H Q => InsA H x C ∧ sp [x] H Q E) := by
  intro pins s σ H x v Q I rx h
  obtain ⟨⟨a, dx, fs, rfl, ha⟩, q⟩ := h
  cases (show v = Value.ref a from rx)
  obtain ⟨ox, od, J, _⟩ := ins_look I ha
  obtain ⟨m, hF⟩ := I.fr
  exact PySem.W.ksp_neg hF I.ok.mod.kin J hs hf (wpAny_call (run_fnR (us := [.ref a]) (vs := [.ref a]) F hr hx I (.cons rfl .nil) q))
def rLenI (C : Addr) (sp : Sp) (E : XK) : List V → Hp → VK → Prop := fun xs H Q => ∃ x, xs = [x] ∧ InsA H x C ∧ sp [x] H (fun v H2 => ∃ n : Int, v = .int n ∧ (0 ≤ n ∧ n < 2 ^ 63) ∧ Q v H2) E
theorem run_in1 {Q : VK} {us : List Value} {vs : List V} (F : FnR X.prog X.w X.K X.mg X.base CX k g sp) (hr : Room (k + 1) X.A) (hx : Passes CX X E) (I : Inv X pins σ H s) (r : Vals vs us) (h : sp vs H Q E) :
    wpAny (model X.prog X.w) X.A.in1 (call (.ref g) us) (EP X pins σ Q) X.xe s := by
  refine wpAny_call (codeAny_mono (F X.A.in1 X.stack s H us vs Q E hr.in1 I.env0.in1 r h) fun o s' z => ?_)
  cases o with
  | error e => exact hx pins σ H s e s' I z
  | ok fl => cases fl with
    | ret u => exact I.after z
    | _ => exact z.elim
theorem call_lenI (hs : PySem.W.findIn X.K (.ref C) "__len__" = some (some (.ref g))) (hf : PySem.W.isFn X.K (.ref g) = true)
    (F : FnR X.prog X.w X.K X.mg X.base CX k g sp) (hr : Room (k + 1) X.A) (hx : Passes CX X E) : CallR X (.builtin "len") (rLenI C sp E) := by
  intro pins s σ H xs us Q I r h
  obtain ⟨x, rfl, ⟨a, dx, fs, rfl, ha⟩, q⟩ := h
  obtain ⟨u, rfl, ru⟩ : ∃ u, us = [u] ∧ RelV (.ref a) u := by
    cases r with
    | cons r rr => cases rr; exact ⟨_, rfl, r⟩
  cases (show u = Value.ref a from ru)
  obtain ⟨ox, od, J, _⟩ := ins_look I ha
  obtain ⟨m, hF⟩ := I.fr
  refine PySem.W.len_K hF I.ok.mod.kin J hs hf (wpAny_mono (run_in1 (us := [.ref a]) (vs := [.ref a]) F hr hx I (.cons rfl .nil) q) (fun w s' z => ?_) fun _ _ x => x)
  obtain ⟨z', H', I', rz, n, rfl, hn, qz⟩ := z
  obtain ⟨t, rfl⟩ := (show ∃ t, w = Value.int n t from rz)
  exact ⟨hn, .int n, H', I'.tok _, ⟨_, rfl⟩, qz⟩
def tIxI (C : Addr) (sp : Sp) (E : XK) (ta tb : TE) : TE := tOp (fun x y H Q => InsA H x C ∧ sp [x, y] H Q E) ta tb
theorem pe_ixI {e i : Expr} {ta tb : TE} {pos : Pos} (hs : PySem.W.findIn X.K (.ref C) "__getitem__" = some (some (.ref g))) (hf : PySem.W.fnIn X.K g = true) (hn : PySem.W.isFn X.K (.ref g) = true)
    (F : FnR X.prog X.w X.K X.mg X.base CX k g sp) (hr : Room (k + 1) X.A) (hx : Passes CX X E) (he : PE X e ta) (hi : PE X i tb)
    (hsl : ∀ o v, subscripted i true o v = runValue (.builtin "lifetime.subscript" ⟨[o, v], []⟩)) : PE X (.Subscript e i pos) (tIxI C sp E ta tb) := by
  refine ⟨fun pins s σ H Q I h => ?_⟩
  refine Subscript_ (binT he hi I h fun v u s2 x y H2 I2 rx ry q => ?_)
  obtain ⟨⟨a, dx, fs, rfl, ha⟩, q⟩ := q
  cases (show v = Value.ref a from rx)
  obtain ⟨ox, od, J, _⟩ := ins_look I2 ha
  obtain ⟨m, hF⟩ := I2.fr
  exact PySem.W.sub_K hF I2.ok.mod.kin J hs hf hn (run_in1 (us := [.ref a, u]) (vs := [.ref a, y]) F hr hx I2 (.cons rfl (.cons ry .nil)) q) (hsl _ _)
end
end DK

set_option Elab.async false
set_option linter.all false
set_option maxRecDepth 100000
set_option maxHeartbeats 2000000
/-! an own class with one field, made by *args; its own signs -/
namespace DK
open PySem PySem.Spec PyProof.Rows L2 RZ
variable [TabsC]
structure ClsK (K : PySem.W.Frag) (mg : Str → Option Value) (c : Str) (C : Addr) : Prop where
  hm : mg c = some (.ref C)
  ne : c ≠ ""
  ic : C8.InsC K C
  kt : PySem.W.kitOne K (.type "tuple") (.ref C) = some false
  nf : PySem.W.notFirst K C (.ref C) = true
  nt : PySem.W.notFirst K C (.type "tuple") = true
  sf : PySem.W.selfFirst K C = true
  kp : PySem.W.keepIn K (.ref C) = true
section
variable {K : PySem.W.Frag} {mg : Str → Option Value} {ad : Nat → Option Addr} {Fz H : Hp} {st : Ds} {σ : L2.St} {E : XK} {c : Str} {C : Addr}
theorem rep_ins {ks : List Str} {xs : List D} {v : V} (h : ClsK K mg c C) (r : Rep K mg Fz (.obj c ks xs) v) : ∃ a vs dx, v = .ref a ∧ RepL K mg Fz xs vs ∧ Fz a = some (.ins C dx (ks.zip vs)) := by
  rw [Rep] at r
  obtain ⟨a, vs, e1, e2, ⟨z, _⟩ | ⟨_, C', dx, m, f⟩⟩ := r
  · exact (h.ne z).elim
  · rw [h.hm] at m
    cases m
    exact ⟨a, vs, dx, e1, e2, f⟩
theorem ntb_upd {o : HO} {a : Addr} (n : NT o) (h : NoTb Fz) : NoTb (upd Fz a o) := fun q u e => by
  by_cases z : q = a
  · rw [z, upd_same] at e
    cases e
    exact n
  · rw [upd_ne z] at e
    exact h q u e
theorem tbs_new {o : HO} {a : Addr} (n : H a = none) (h : Tbs H) : Tbs (upd H a o) := tbs_ext h fun b u e => by rw [upd_ne (fun z => by rw [z, n] at e; cases e)]; exact e
theorem nt_ins {C dx : Addr} {fs : List (Str × V)} : NT (.ins C dx fs) := fun ps z => by cases z
theorem nt_tup {vs : List V} : NT (.tup vs) := fun ps z => by cases z
/-- how an own class's __init__ ends: x is the new object -/
structure IEnd (K : PySem.W.Frag) (mg : Str → Option Value) (c : Str) (ks : List Str) (ds : List D) (x : Addr) (Fz H Fz' H' : Hp) : Prop where
  keep : ∀ q o, q ≠ x → H q = some o → NT o → H' q = some o
  dom : ∀ q, H' q = none → H q = none
  tab : (Tbs H → Tbs H') ∧ (NoTb Fz → NoTb Fz')
  sub : ∀ q o, Fz' q = some o → H' q = some o
  fmon : ∀ q o, Fz q = some o → Fz' q = some o
  fnew : ∀ q o, Fz' q = some o → (∃ u, Fz q = some u) ∨ H q = none ∨ q = x
  val : Rep K mg Fz' (.obj c ks ds) (.ref x)
/-- the promise of such an __init__ -/
def spI (K : PySem.W.Frag) (mg : Str → Option Value) (c : Str) (ks : List Str) (g : List D → R (List D)) : Sp := fun vs H Q E => ∃ x dx C Fz ds ws, vs = .ref x :: ws ∧ mg c = some (.ref C) ∧ H x = some (.ins C dx []) ∧ (∀ q o, Fz q = some o → H q = some o) ∧ Fz x = none ∧ RepL K mg Fz ds ws ∧ (Tbs H ∧ NoTb Fz) ∧ ws.length ≤ sizeLine ∧ match g ds with
  | .stuck => False
  | .err c l => ∀ H', XT H H' → EX mg E c l H'
  | .ok xs => ∀ Fz' H', IEnd K mg c ks xs x Fz H Fz' H' → Q .non H'
/-- need(args); self.f = red(args), a tuple of ints -/
def initF (f1 f2 : List D → R Vl) (ds : List D) : R (List D) := match f1 [.tup ds] with
  | .stuck => .stuck
  | .err c l => .err c l
  | .ok _ => match f2 [.tup ds] with
    | .ok (.p (.tup xs)) => match intsD xs with
      | some _ => .ok [.tup xs]
      | none => .stuck
    | _ => .stuck
theorem sqT_other {a x : Addr} {vs : List V} {dx : Addr} {fs : List (Str × V)} {o : HO} (hx : Fz x = some (.ins C dx fs)) (h : SqT K Fz a vs) : SqT K (upd Fz x o) a vs := by
  rcases h with (h | ⟨u, h⟩) | h
  · exact .inl (.inl (by rw [upd_ne (fun z => by rw [z, hx] at h; cases h)]; exact h))
  · exact .inl (.inr ⟨u, by rw [upd_ne (fun z => by rw [z, hx] at h; cases h)]; exact h⟩)
  · exact .inr h
theorem repL_of_ints {Fz : Hp} : ∀ {ns : List Int}, RepL K mg Fz (ns.map D.int) (ns.map V.int)
  | [] => repL_nil
  | n :: ns => repL_cons (by rw [Rep]) repL_of_ints
theorem rep_other {xs : List D} {ns : List Int} {x : Addr} {v : V} {dx : Addr} {fs : List (Str × V)} {o : HO} (hx : Fz x = some (.ins C dx fs)) (e : intsD xs = some ns) (h : Rep K mg Fz (.tup xs) v) : Rep K mg (upd Fz x o) (.tup xs) v := by
  rw [Rep] at h ⊢
  obtain ⟨a, vs, rfl, h1, h2⟩ := h
  rw [intsD_some e] at h2 ⊢
  obtain rfl := repL_ints h2
  exact ⟨a, _, rfl, sqT_other hx h1, repL_of_ints⟩
theorem tbs_upd_ins {x dx : Addr} {fs gs : List (Str × V)} (h : H x = some (.ins C dx fs)) (t : Tbs H) : Tbs (upd H x (.ins C dx gs)) := fun p hp => by
  obtain ⟨ps, h1, h2, h3⟩ := t p hp
  have ne : ∀ q, (∀ u, H q = some u → u ≠ .ins C dx fs) → q ≠ x := fun q n z => n _ (by rw [z]; exact h) rfl
  refine ⟨ps, ?_, h2, fun pos cv hc => ?_⟩
  · rw [upd_ne (fun z => by rw [z, h] at h1; cases h1)]; exact h1
  · obtain ⟨c, e1, e2⟩ := h3 pos cv hc
    refine ⟨c, e1, ?_⟩
    unfold LamX.CodeO at e2 ⊢
    rw [upd_ne (fun z => by rw [z, h] at e2; cases e2)]
    exact e2
theorem xt_of {H2 H' : Hp} (k : ∀ q o, H q = some o → H2 q = some o) (d : ∀ q, H2 q = none → H q = none) (t : Tbs H → Tbs H2) {P : Addr → Prop} (nP : ∀ q, ¬ P q) (e : EK P H2 H') : XT H H' :=
  ⟨fun q o z nt => e.1 q o (k q o z) (nP q) nt, fun q z => d q (e.2.1 q z), fun z => e.2.2 (t z)⟩
/-- the body of such an __init__ -/
def tInit (K : PySem.W.Frag) (mg : Str → Option Value) (ad : Nat → Option Addr) (E : XK) (f : Str) (f1 f2 : List D → R Vl) : TS := fun D σ H =>
  tDrop (tE K mg ad E (fCall f1 (fCons (fV 1) fNil))) { D with nx := fun σ' H' => sFld K (tVar 0) (tE K mg ad E (fCall f2 (fCons (fV 1) fNil))) f D σ' H' } σ H
theorem initC_ok (hC : ClsK K mg c C) {f : Str} {f1 f2 : List D → R Vl} {N : List Str} {x p dx : Addr} {ds : List D} {ws : List V} {Q : VK} {Dn : Ends} (na : NoAttr K C f) (hN : N.length = 2)
    (hx : H x = some (.ins C dx [])) (sub : ∀ q o, Fz q = some o → H q = some o) (fx : Fz x = none) (r : RepL K mg Fz ds ws) (tb : Tbs H ∧ NoTb Fz) (hp : H p = none) (hQ : ∀ σ' H', Dn.nx σ' H' = Q .non H')
    (h : match initF f1 f2 ds with
      | .stuck => False
      | .err c l => ∀ H', XT H H' → EX mg E c l H'
      | .ok xs => ∀ Fz' H', IEnd K mg c [f] xs x Fz H Fz' H' → Q .non H') :
    tInit K mg ad E f f1 f2 Dn (L2.start N [.ref x, .ref p]) (upd H p (.tup ws)) := by
  have px : p ≠ x := fun z => by rw [z, hx] at hp; cases hp
  have fp : Fz p = none := by
    cases e : Fz p with
    | none => rfl
    | some o => rw [sub p o e] at hp; cases hp
  obtain ⟨Fz1, hF⟩ : ∃ F, F = upd (upd Fz x (.ins C dx [])) p (.tup ws) := ⟨_, rfl⟩
  obtain ⟨H2, hH⟩ : ∃ F, F = upd H p (.tup ws) := ⟨_, rfl⟩
  have f1x : Fz1 x = some (.ins C dx []) := by rw [hF, upd_ne (Ne.symm px), upd_same]
  have f1p : Fz1 p = some (.tup ws) := by rw [hF, upd_same]
  have f1o : ∀ q, q ≠ p → q ≠ x → Fz1 q = Fz q := fun q a b => by rw [hF, upd_ne a, upd_ne b]
  have mon : ∀ q o, Fz q = some o → Fz1 q = some o := fun q o e => by
    rw [f1o q (fun z => by rw [z, fp] at e; cases e) (fun z => by rw [z, fx] at e; cases e)]
    exact e
  have kp : ∀ q o, H q = some o → H2 q = some o := fun q o e => by rw [hH, upd_ne (fun z => by rw [z, hp] at e; cases e)]; exact e
  have dm : ∀ q, H2 q = none → H q = none := fun q e => by
    by_cases z : q = p
    · rw [z]; exact hp
    · rw [hH, upd_ne z] at e; exact e
  have tbk : Tbs H → Tbs H2 := fun t => hH ▸ tbs_new hp t
  have ntk : NoTb Fz → NoTb Fz1 := fun t => hF ▸ ntb_upd nt_tup (ntb_upd nt_ins t)
  have sub1 : ∀ q o, Fz1 q = some o → H2 q = some o := fun q o e => by
    by_cases z : q = p
    · rw [z, f1p] at e; rw [z, hH, upd_same]; exact e
    · by_cases z2 : q = x
      · rw [z2, f1x] at e; rw [z2, hH, upd_ne (Ne.symm px), hx]; exact e
      · rw [f1o q z z2] at e; exact kp q o (sub q o e)
  have r1 : RepL K mg Fz1 [.obj c [] [], .tup ds] [.ref x, .ref p] := repL_cons (by rw [Rep]; exact ⟨x, [], rfl, repL_nil, .inr ⟨hC.ne, C, dx, hC.hm, f1x⟩⟩) (repL_cons (by rw [Rep]; exact ⟨p, ws, rfl, SqT.of f1p, r.mono mon⟩) repL_nil)
  have rs := rs_start (ad := ad) (N := N) sub1 r1 ⟨tbk tb.1, ntk tb.2⟩
  have no : ∀ q, ¬ Ows ([D.obj c [] [], D.tup ds].map Sl.p ++ List.replicate (N.length - 2) .un) (L2.start N [V.ref x, V.ref p]) q := fun q z => ows_start z
  have hn : N.length - 2 = 0 := by omega
  have est : ([D.obj c [] [], D.tup ds].map Sl.p ++ List.replicate (N.length - [D.obj c [] [], D.tup ds].length) .un) = [Sl.p (.obj c [] []), Sl.p (.tup ds)] := by
    show _ ++ List.replicate (N.length - 2) _ = _
    rw [hn]
    rfl
  have no : ∀ q, ¬ Ows [Sl.p (.obj c [] []), Sl.p (.tup ds)] (L2.start N [V.ref x, V.ref p]) q := fun q z => by
    have := ows_start (ds := [D.obj c [] [], D.tup ds]) (n := 0) (σ := L2.start N [V.ref x, V.ref p]) (q := q)
    exact this z
  rw [est] at rs
  generalize hσ : L2.start N [V.ref x, V.ref p] = σ at *
  have s0 : σ[0]? = some (some (V.ref x)) := hσ ▸ start_get rfl
  rw [← hH]
  unfold tInit tDrop
  refine ⟨[.p (.obj c [] []), .p (.tup ds)], Fz1, rs, ?_⟩
  show Out mg E _ H2 ((f1 [.tup ds]).bind fun v => .ok (v, [Sl.p (.obj c [] []), Sl.p (.tup ds)])) _
  unfold initF at h
  cases e1 : f1 [.tup ds] with
  | stuck => rw [e1] at h; exact h.elim
  | err c' l => rw [e1] at h; exact fun H' k => h H' (xt_of kp dm tbk no k)
  | ok v1 =>
    rw [e1] at h
    intro y3 Fz3 H3 z3
    refine ⟨[.p (.obj c [] []), .p (.tup ds)], Fz3, z3.rs, ?_⟩
    show Out mg E _ H3 ((f2 [.tup ds]).bind fun v => .ok (v, [Sl.p (.obj c [] []), Sl.p (.tup ds)])) _
    dsimp only at h
    obtain ⟨xs, ns, e2, e3, h⟩ : ∃ xs ns, f2 [.tup ds] = .ok (.p (.tup xs)) ∧ intsD xs = some ns ∧ ∀ Fz' H', IEnd K mg c [f] [.tup xs] x Fz H Fz' H' → Q .non H' := by
      cases e2 : f2 [.tup ds] with
      | stuck => rw [e2] at h; exact h.elim
      | err _ _ => rw [e2] at h; exact h.elim
      | ok v2 =>
        rw [e2] at h
        cases v2 with
        | p d =>
          cases d with
          | tup xs =>
            dsimp only at h
            cases e3 : intsD xs with
            | none => rw [e3] at h; exact h.elim
            | some ns => rw [e3] at h; exact ⟨xs, ns, rfl, e3, h⟩
          | _ => exact h.elim
        | _ => exact h.elim
    · · rw [e2]
        intro y Fz4 H4 z4
        have g4 : Fz4 x = some (.ins C dx []) := z4.fr.fmon _ _ (z3.fr.fmon _ _ f1x)
        have h4 : H4 x = some (.ins C dx []) := z4.rs.sub _ _ g4
        have ry : Rep K mg Fz4 (.tup xs) y := z4.val
        refine ⟨.ref x, s0, x, C, dx, [], rfl, h4, hC.ic.cl, na, by decide, ?_⟩
        rw [hQ]
        have k4 : ∀ q o, H q = some o → NT o → H4 q = some o := fun q o e nt => z4.fr.keep q o (z3.fr.keep q o (kp q o e) (no q) nt) (no q) nt
        have d4 : ∀ q, H4 q = none → H q = none := fun q e => dm q (z3.fr.dom q (z4.fr.dom q e))
        refine h (upd Fz4 x (.ins C dx [(f, y)])) (upd H4 x (.ins C dx [(f, y)])) ⟨fun q o ne e nt => by rw [upd_ne ne]; exact k4 q o e nt, fun q e => ?_, ⟨fun t => ?_, fun t => ntb_upd nt_ins (z4.fr.tab.2 (z3.fr.tab.2 (ntk t)))⟩, fun q o e => ?_, fun q o e => ?_, fun q o e => ?_, ?_⟩
        · by_cases z : q = x
          · rw [z, upd_same] at e; cases e
          · rw [upd_ne z] at e; exact d4 q e
        · exact tbs_upd_ins h4 (z4.fr.tab.1 (z3.fr.tab.1 (tbk t)))
        · by_cases z : q = x
          · rw [z, upd_same] at e ⊢; exact e
          · rw [upd_ne z] at e ⊢; exact z4.rs.sub q o e
        · have z : q ≠ x := fun z => by rw [z, fx] at e; cases e
          rw [upd_ne z]
          exact z4.fr.fmon _ _ (z3.fr.fmon _ _ (mon q o e))
        · by_cases z : q = x
          · exact .inr (.inr z)
          · rw [upd_ne z] at e
            have back : ∀ u, Fz1 q = some u → (∃ u, Fz q = some u) ∨ H q = none ∨ q = x := fun u e => by
              by_cases zp : q = p
              · exact .inr (.inl (zp ▸ hp))
              · rw [f1o q zp z] at e; exact .inl ⟨u, e⟩
            rcases z4.fr.fnew q o e with ⟨u, e⟩ | e | e
            · rcases z3.fr.fnew q u e with ⟨u, e⟩ | e | e
              · exact back u e
              · exact (no q e).elim
              · exact .inr (.inl (dm q e))
            · exact (no q e).elim
            · exact .inr (.inl (dm q (z3.fr.dom q e)))
        · rw [Rep]
          exact ⟨x, [y], rfl, repL_cons (rep_other g4 e3 ry) repL_nil, .inr ⟨hC.ne, C, dx, hC.hm, upd_same⟩⟩
end
end DK

set_option Elab.async false
set_option linter.all false
set_option maxRecDepth 100000
set_option maxHeartbeats 2000000
/-! making instances of an own class; calls of its signs, by data -/
namespace DK
open PySem PySem.Spec PyProof.Rows L2 RZ
variable [TabsC]
section
variable {X : Cx} {CX : CXT} {k : Nat} {f C : Addr} {sp : Sp} {E : XK} {x : Str} {e : Expr} {te : TE} {p pos sp_ : Pos}
/-- x(), x a class -/
theorem pe_makeR0 (M : Mk X.K C f) (F : FnR X.prog X.w X.K X.mg X.base CX k f sp) (hr : Room (k + 1) X.A) (hg : Gl X x) (hm : X.mg x = some (.ref C)) (hx : Passes CX X E) (hdb : (x == ("__debug__" : Str)) = false := by decide) :
    PE X (.Call (.Name x p) [] [] pos) (StX.tMakeR C sp E tNil) :=
  ⟨fun pins s σ H Q I h => wpAny_Call_Name_kw (ld_glob I hg hm (PySem.W.callWith_K0 I.kIn M.kp (StX.run_makeR (us := []) (vs := []) M F hr hx I .nil h)) hdb)⟩
/-- x(*e), x a class -/
def tMakeS (K : PySem.W.Frag) (C : Addr) (sp : Sp) (E : XK) (te : TE) : TE := fun σ H Q => te σ H fun y H1 => ∃ a xs, y = V.ref a ∧ (SqT K H1 a xs ∨ SqL K H1 a xs) ∧ StX.tMakeR C sp E (fun _ H2 R => R xs H2) σ H1 Q
theorem pe_makeRS (M : Mk X.K C f) (F : FnR X.prog X.w X.K X.mg X.base CX k f sp) (hr : Room (k + 1) X.A) (hg : Gl X x) (hm : X.mg x = some (.ref C)) (hx : Passes CX X E) (he : PE X e te) (hdb : (x == ("__debug__" : Str)) = false := by decide)
    (hst : starEach [.Starred e sp_] X.env = [(true, eval e X.env)] := by rfl) : PE X (.Call (.Name x p) [.Starred e sp_] [] pos) (tMakeS X.K C sp E te) := by
  refine ⟨fun pins s σ H Q I h => wpAny_Call_Name_kw (ld_glob I hg hm ?_ hdb)⟩
  refine PySem.W.callWith_S (h₀ := X.base) I.ok.mod.kin M.kp (thn (he.run pins s σ H _ I h) ?_) hst
  rintro v s1 ⟨y, H1, I1, ry, a, xs, rfl, sq, q⟩
  cases (show v = Value.ref a from ry)
  exact StX.star_any I1 sq fun us s2 I2 r => ⟨I2.kIn, StX.run_makeR M F hr hx I2 r q⟩
end
section
variable {P : Program} {w : World} {K : PySem.W.Frag} {mg : Str → Option Value} {base : Heap} {ad : Nat → Option Addr} {Fz H : Hp} {st : Ds} {σ : L2.St} {E : XK} {c : Str} {C : Addr} {k : Nat}
theorem fn_initC {x qual pv fl : Str} {st : Stmt} {f : Addr} {fd : FuncData} {f1 f2 : List D → R Vl} (F : Fun K x qual st f fd) (S : FnScope ["self", pv] ["self", pv] (defScope st)) (hC : ClsK K mg c C) (na : NoAttr K C fl)
    (hb : ∀ (kV doc pm : Value) (an : Option Addr) (cdv ct : Value) (us rest : List Value), us.length = 1 → bindArgs (PySem.W.fnOf x qual (defArgs st) (defBody st) (defScope st) .none kV doc pm an cdv ct) ⟨us ++ rest, []⟩ = (newTuple rest >>= fun t => pure ((["self"] : List Str).zip us ++ [(pv, t)])))
    (hbody : ∀ (cdv : Value) (A : Around) (outer : List Env) (s : Shared) (H : Hp) (E : XK), Room k (A.deeper (envOfC qual (defScope st) s.heap.objs.size f cdv)) → PSs (cxOf (L2.CX P w) P w K mg base ["self", pv] qual (defScope st) f cdv A outer s H E) (defBody st) (tInit K mg (fun _ => none) E fl f1 f2)) :
    FnR P w K mg base (L2.CX P w) (k + 1) f (spI K mg c [fl] (initF f1 f2)) := by
  obtain ⟨oc, od, kV, doc, pm, an, cdv, ct, osl, rfl, lk, hcd⟩ := F.ex
  have G := StX.fn_star (base := base) (P := P) (w := w) (mg := mg) (k := k) (CX := L2.CX P w) (ps := ["self"]) (sp := fun vs H2 Q E => ∃ x p dx Fz ds ws H, vs = [V.ref x, V.ref p] ∧ H2 = upd H p (.tup ws) ∧ H p = none ∧ H x = some (.ins C dx []) ∧ (∀ q o, Fz q = some o → H q = some o) ∧ Fz x = none ∧ RepL K mg Fz ds ws ∧ (Tbs H ∧ NoTb Fz) ∧ match initF f1 f2 ds with
      | .stuck => False
      | .err c l => ∀ H', XT H H' → EX mg E c l H'
      | .ok xs => ∀ Fz' H', IEnd K mg c [fl] xs x Fz H Fz' H' → Q .non H') lk hcd S StX.cxUp (hb kV doc pm an cdv ct) (fun A outer s H2 vs Q E hr h => ?_)
  · refine G.imp fun vs H Q E h => ?_
    obtain ⟨x, dx, C', Fz, ds, ws, rfl, m, hx, sub, fx, r, tb, hz, h⟩ := h
    rw [hC.hm] at m
    cases m
    exact ⟨[.ref x], ws, rfl, rfl, hz, fun p hp => ⟨x, p, dx, Fz, ds, ws, H, rfl, rfl, hp, hx, sub, fx, r, tb, h⟩⟩
  · obtain ⟨x, p, dx, Fz, ds, ws, H, rfl, rfl, hp, hx, sub, fx, r, tb, h⟩ := h
    exact ⟨_, hbody cdv A outer s _ E hr, initC_ok hC na rfl hx sub fx r tb hp (fun _ _ => rfl) h⟩
def fMkI (c : Str) (ks : List Str) (g : List D → R (List D)) (a : FA) : FE := fun st => (a st).bind fun x => match fzVs x.1 x.2 with
  | some (ds, st2) => if ds.length ≤ 1000 then (g ds).bind fun xs => .ok (.p (.obj c ks xs), st2) else .stuck
  | none => .stuck
theorem mk_run (hC : ClsK K mg c C) {ks : List Str} {g : List D → R (List D)} {Q : VK} {ds : List D} {xs : List V} {st2 : Ds} (sub : ∀ q o, Fz q = some o → H q = some o) (r : RepL K mg Fz ds xs) (tb : Tbs H ∧ NoTb Fz)
    (h : (if ds.length ≤ 1000 then (g ds).bind fun xs => R.ok (Vl.p (.obj c ks xs), st2) else .stuck) = .stuck → False)
    (he : ∀ c' l, ds.length ≤ 1000 → g ds = .err c' l → ∀ H', XT H H' → EX mg E c' l H') (ho : ∀ ys, ds.length ≤ 1000 → g ds = .ok ys → ∀ z Fz' H', OEnd K mg Fz H (.p (.obj c ks ys)) z Fz' H' → Q z H') :
    ∀ x dx, H x = none → H dx = none → dx ≠ x → spI K mg c ks g (V.ref x :: xs) (upd (upd H dx (.own x)) x (.ins C dx [])) (fun v H2 => v = .non ∧ Q (.ref x) H2) E := by
  intro x dx hx hd ne
  have k1 : ∀ q o, H q = some o → upd (upd H dx (.own x)) x (.ins C dx []) q = some o := fun q o e => by
    rw [upd_ne (fun z => by rw [z, hx] at e; cases e), upd_ne (fun z => by rw [z, hd] at e; cases e)]
    exact e
  have d1 : ∀ q, upd (upd H dx (.own x)) x (.ins C dx []) q = none → H q = none := fun q e => by
    by_cases z : q = x
    · rw [z]; exact hx
    · rw [upd_ne z] at e
      by_cases z2 : q = dx
      · rw [z2]; exact hd
      · rw [upd_ne z2] at e; exact e
  have t1 : Tbs H → Tbs (upd (upd H dx (.own x)) x (.ins C dx [])) := fun t => tbs_ext t k1
  have fx : Fz x = none := by
    cases e : Fz x with
    | none => rfl
    | some o => have := sub x o e; rw [hx] at this; cases this
  have dl : ds.length ≤ 1000 := by
    by_cases z : ds.length ≤ 1000
    · exact z
    · exact (h (if_neg z)).elim
  rw [if_pos dl] at h
  refine ⟨x, dx, C, Fz, ds, xs, rfl, hC.hm, upd_same, fun q o e => k1 q o (sub q o e), fx, r, ⟨t1 tb.1, tb.2⟩, ?_, ?_⟩
  · rw [← r.len]
    exact Nat.le_trans dl (by decide)
  · cases eg : g ds with
    | stuck => rw [eg] at h; exact h rfl
    | err c' l => exact fun H' z => he c' l dl eg H' ⟨fun q o e nt => z.1 q o (k1 q o e) nt, fun q e => d1 q (z.2.1 q e), fun t => z.2.2 (t1 t)⟩
    | ok ys =>
      intro Fz' H' z
      refine ⟨rfl, ho ys dl eg (.ref x) Fz' H' ⟨fun q o e nt => z.keep q o (fun w => by rw [w, hx] at e; cases e) (k1 q o e) nt, fun q e => d1 q (z.dom q e), ⟨fun t => z.tab.1 (t1 t), z.tab.2⟩, z.sub, z.fmon, fun q o e => ?_, z.val⟩⟩
      rcases z.fnew q o e with w | w | w
      · exact .inl w
      · exact .inr (d1 q w)
      · exact .inr (w ▸ hx)
theorem tE_mk (hC : ClsK K mg c C) {ks : List Str} {g : List D → R (List D)} {fa : FA} {Q : VK} (h : tE K mg ad E (fMkI c ks g fa) σ H Q) : StX.tMakeR C (spI K mg c ks g) E (tA K mg ad E fa) σ H Q := by
  obtain ⟨st, Fz, rs, h⟩ := h
  refine ⟨st, Fz, rs, h.bind.imp fun ⟨vs, st1⟩ h1 xs Fz1 H1 e1 => ?_⟩
  dsimp only at h1
  cases e : fzVs vs st1 with
  | none => rw [e] at h1; exact h1.elim
  | some q =>
    obtain ⟨ds, st2⟩ := q
    rw [e] at h1
    dsimp only at h1
    obtain ⟨Fz2, rs2, fr2, r2, fm2, ow2⟩ := fzVs_ok e1.rs e1.fr e1.val e1.new e
    refine mk_run hC (st2 := st2) rs2.sub r2 rs2.tab (fun z => by rw [z] at h1; exact h1.elim) (fun c' l dl eg => ?_) (fun ys dl eg => ?_)
    · rw [if_pos dl, eg] at h1
      exact fun H' k => h1 H' (fr2.ek (EK.of_ext k))
    · rw [if_pos dl, eg] at h1
      exact fun x Fz' H' oe => h1 x Fz' H' (oe.eend rs2 fr2)
theorem tE_mono {f : FE} {Q Q' : VK} (w : ∀ x H', Q x H' → Q' x H') (h : tE K mg ad E f σ H Q) : tE K mg ad E f σ H Q' :=
  let ⟨st, Fz, rs, h⟩ := h
  ⟨st, Fz, rs, h.imp fun _ k x Fz' H' e => w _ _ (k x Fz' H' e)⟩
theorem tA_one {fa : FE} {R : List V → Hp → Prop} (h : tA K mg ad E (fCons fa fNil) σ H R) : tE K mg ad E fa σ H fun x H1 => R [x] H1 := tE_mono (Q := fun x H1 => tA K mg ad E fNil σ H1 fun xs H2 => R (x :: xs) H2) (fun x H' z => tA_nil (Q := fun xs H2 => R (x :: xs) H2) z) (tA_cons h)
theorem tA_two {fa fb : FE} {R : List V → Hp → Prop} (h : tA K mg ad E (fCons fa (fCons fb fNil)) σ H R) : tE K mg ad E fa σ H fun x H1 => tE K mg ad E fb σ H1 fun y H2 => R [x, y] H2 :=
  tE_mono (Q := fun x H1 => tA K mg ad E (fCons fb fNil) σ H1 fun xs H2 => R (x :: xs) H2) (fun x H' z => tA_one (R := fun xs H2 => R (x :: xs) H2) z) (tA_cons h)
/-- C(*t) -/
def kMkS (c : Str) (ks : List Str) (g : List D → R (List D)) : Option (List D × Ds) → R (Vl × Ds)
  | some ([.tup ds], st2) => if ds.length ≤ 1000 then (g ds).bind fun xs => .ok (.p (.obj c ks xs), st2) else .stuck
  | _ => .stuck
def fMkS (c : Str) (ks : List Str) (g : List D → R (List D)) (a : FA) : FE := fun st => (a st).bind fun x => kMkS c ks g (fzVs x.1 x.2)
theorem tE_mkS (hC : ClsK K mg c C) {ks : List Str} {g : List D → R (List D)} {fe : FE} {Q : VK} (h : tE K mg ad E (fMkS c ks g (fCons fe fNil)) σ H Q) : tMakeS K C (spI K mg c ks g) E (tE K mg ad E fe) σ H Q := by
  refine tA_one (R := fun vs H1 => ∃ a xs, vs = [V.ref a] ∧ (SqT K H1 a xs ∨ SqL K H1 a xs) ∧ StX.tMakeR C (spI K mg c ks g) E (fun _ H2 R => R xs H2) σ H1 Q) ?_ |> tE_mono fun x H1 ⟨a, xs, e, z⟩ => ⟨a, xs, by injection e, z⟩
  obtain ⟨st, Fz, rs, h⟩ := h
  refine ⟨st, Fz, rs, h.bind.imp fun ⟨vs, st1⟩ h1 xs Fz1 H1 e1 => ?_⟩
  dsimp only at h1
  cases e : fzVs vs st1 with
  | none => rw [e] at h1; exact h1.elim
  | some q =>
    obtain ⟨dd, st2⟩ := q
    rw [e] at h1
    obtain ⟨ds, rfl⟩ : ∃ ds, dd = [.tup ds] := by
      match dd, h1 with
      | [.tup ds], _ => exact ⟨ds, rfl⟩
    obtain ⟨Fz2, rs2, fr2, r2, fm2, ow2⟩ := fzVs_ok e1.rs e1.fr e1.val e1.new e
    obtain ⟨v, vs', rfl, r3, r4⟩ := r2.cons_inv
    obtain rfl := r4.nil_inv
    rw [Rep] at r3
    obtain ⟨a, ws, rfl, sq, r3⟩ := r3
    refine ⟨a, ws, rfl, .inl (sqT_mono rs2.sub sq), ?_⟩
    unfold kMkS at h1
    dsimp only at h1
    refine mk_run hC (st2 := st2) rs2.sub r3 rs2.tab (fun z => by rw [z] at h1; exact h1.elim) (fun c' l dl eg => ?_) (fun ys dl eg => ?_)
    · rw [if_pos dl, eg] at h1
      exact fun H' k => h1 H' (fr2.ek (EK.of_ext k))
    · rw [if_pos dl, eg] at h1
      exact fun x Fz' H' oe => h1 x Fz' H' (oe.eend rs2 fr2)
/-! ### calls of own signs -/
def kCallI (ok : List D → Bool) (f : List D → R Vl) : Option (List D × Ds) → R (Vl × Ds)
  | some (ds, st2) => if ok ds then (f ds).bind fun v => .ok (v, st2) else .stuck
  | none => .stuck
def fCallI (ok : List D → Bool) (f : List D → R Vl) (a : FA) : FE := fun st => (a st).bind fun x => kCallI ok f (fzVs x.1 x.2)
theorem tE_callI {ok : List D → Bool} {f : List D → R Vl} {fa : FA} {Q : VK} (h : tE K mg ad E (fCallI ok f fa) σ H Q) : tA K mg ad E fa σ H fun xs H1 => ∃ Fz ds, (∀ q o, Fz q = some o → H1 q = some o) ∧ RepL K mg Fz ds xs ∧ ok ds = true ∧ spF K mg f xs H1 Q E := by
  obtain ⟨st, Fz, rs, h⟩ := h
  refine ⟨st, Fz, rs, h.bind.imp fun ⟨vs, st1⟩ h1 xs Fz1 H1 e1 => ?_⟩
  dsimp only at h1
  cases e : fzVs vs st1 with
  | none => rw [e] at h1; exact h1.elim
  | some q =>
    obtain ⟨ds, st2⟩ := q
    rw [e] at h1
    obtain ⟨Fz2, rs2, fr2, r2, fm2, ow2⟩ := fzVs_ok e1.rs e1.fr e1.val e1.new e
    unfold kCallI at h1
    dsimp only at h1
    by_cases z : ok ds = true
    · rw [if_pos z] at h1
      refine ⟨Fz2, ds, rs2.sub, r2, z, Fz2, ds, rs2.sub, r2, rs2.tab, ?_⟩
      cases ef : f ds with
      | stuck => rw [ef] at h1; exact h1.elim
      | err c l => rw [ef] at h1; exact fun H' k => h1 H' (fr2.ek (EK.of_ext k))
      | ok v => rw [ef] at h1; exact fun x Fz' H' oe => h1 x Fz' H' (oe.eend rs2 fr2)
    · rw [if_neg z] at h1
      exact h1.elim
def okEq (c : Str) : List D → Bool
  | [.obj c1 _ _, .obj c2 _ _] => decide (c1 = c) && decide (c2 = c)
  | [.obj c1 _ _, .tup _] => decide (c1 = c)
  | _ => false
def okTwo (c : Str) : List D → Bool
  | [.obj c1 _ _, .obj c2 _ _] => decide (c1 = c) && decide (c2 = c)
  | _ => false
def okHd (c : Str) : List D → Bool
  | .obj c1 _ _ :: _ => decide (c1 = c)
  | _ => false
theorem insA_of (hC : ClsK K mg c C) {ks : List Str} {xs : List D} {v : V} (sub : ∀ q o, Fz q = some o → H q = some o) (r : Rep K mg Fz (.obj c ks xs) v) : InsA H v C :=
  let ⟨a, vs, dx, e, _, f⟩ := rep_ins hC r
  ⟨a, dx, _, e, sub _ _ f⟩
theorem okHd_ins (hC : ClsK K mg c C) {ds : List D} {x : V} {xs : List V} (sub : ∀ q o, Fz q = some o → H q = some o) (r : RepL K mg Fz ds (x :: xs)) (ok : okHd c ds = true) : InsA H x C := by
  match ds, ok with
  | .obj c1 ks ys :: ds, ok =>
    obtain rfl := of_decide_eq_true ok
    obtain ⟨v, vs, e, p, _⟩ := r.cons_inv
    cases e
    exact insA_of hC sub p
theorem okTwo_ins (hC : ClsK K mg c C) {ds : List D} {x y : V} (sub : ∀ q o, Fz q = some o → H q = some o) (r : RepL K mg Fz ds [x, y]) (ok : okTwo c ds = true) : InsA H x C ∧ InsA H y C := by
  match ds, ok with
  | [.obj c1 ks ys, .obj c2 ks2 ys2], ok =>
    simp only [okTwo, Bool.and_eq_true, decide_eq_true_eq] at ok
    obtain ⟨rfl, rfl⟩ := ok
    obtain ⟨v, vs, e, p, r2⟩ := r.cons_inv
    cases e
    obtain ⟨v, vs, e, p2, _⟩ := r2.cons_inv
    cases e
    exact ⟨insA_of hC sub p, insA_of hC sub p2⟩
theorem okEq_ins (hC : ClsK K mg c C) {ds : List D} {x y : V} (sub : ∀ q o, Fz q = some o → H q = some o) (r : RepL K mg Fz ds [x, y]) (ok : okEq c ds = true) : InsA H x C ∧ (InsA H y C ∨ ∃ t ys, y = .ref t ∧ SqT K H t ys) := by
  match ds, ok with
  | [.obj c1 ks ys, .obj c2 ks2 ys2], ok =>
    have z := okTwo_ins hC sub r (by simpa [okTwo, okEq] using ok)
    exact ⟨z.1, .inl z.2⟩
  | [.obj c1 ks ys, .tup zs], ok =>
    obtain rfl := of_decide_eq_true ok
    obtain ⟨v, vs, e, p, r2⟩ := r.cons_inv
    cases e
    obtain ⟨v, vs, e, p2, _⟩ := r2.cons_inv
    cases e
    rw [Rep] at p2
    obtain ⟨a, ws, rfl, sq, _⟩ := p2
    exact ⟨insA_of hC sub p, .inr ⟨a, ws, rfl, sqT_mono sub sq⟩⟩
end
end DK

set_option Elab.async false
set_option linter.all false
set_option maxRecDepth 100000
set_option maxHeartbeats 2000000
/-! own signs of an own class, as expressions -/
namespace DK
open PySem PySem.Spec PyProof.Rows L2 RZ
variable [TabsC]
structure MeK (K : PySem.W.Frag) (C : Addr) (n : Str) (g : Addr) : Prop where
  at_ : PySem.W.findIn K (.ref C) n = some (some (.ref g))
  fn : PySem.W.isFn K (.ref g) = true
  fi : PySem.W.fnIn K g = true
section
variable {K : PySem.W.Frag} {mg : Str → Option Value} {ad : Nat → Option Addr} {Fz H : Hp} {st : Ds} {σ : L2.St} {E : XK} {c : Str} {C : Addr}
/-- x(..), x an instance -/
def kCallO (c : Str) (f : List D → R Vl) (fl : FA) : Vl × Ds → R (Vl × Ds)
  | (.p (.obj c1 ks ys), st) => if c1 = c then (fl st).bind fun y => kCallI (fun _ => true) f (fzVs (.p (.obj c1 ks ys) :: y.1) y.2) else .stuck
  | _ => .stuck
def fCallO (c : Str) (f : List D → R Vl) (fe : FE) (fl : FA) : FE := fun st => (fe st).bind (kCallO c f fl)
theorem tE_callO (hC : ClsK K mg c C) {X : Cx} {f : List D → R Vl} {fe : FE} {fl : FA} {Q : VK} (h : tE K mg ad E (fCallO c f fe fl) σ H Q) : StX.tCallO X C (spF K mg f) E (tE K mg ad E fe) (tA K mg ad E fl) σ H Q := by
  obtain ⟨st, Fz, rs, h⟩ := h
  refine ⟨st, Fz, rs, h.bind.imp fun ⟨vx, st1⟩ h1 x Fz1 H1 e1 => ?_⟩
  obtain ⟨c1, ks, ys, rfl⟩ : ∃ c1 ks ys, vx = .p (.obj c1 ks ys) := by
    cases vx with
    | p d =>
      cases d with
      | obj c1 ks ys => exact ⟨c1, ks, ys, rfl⟩
      | _ => exact h1.elim
    | _ => exact h1.elim
  · by_cases z : c1 = c
    · subst z
      unfold kCallO at h1
      dsimp only at h1
      rw [if_pos rfl] at h1
      obtain ⟨a, us, dx, rfl, _, fa⟩ := rep_ins hC (show Rep K mg Fz1 (.obj c1 ks ys) x from e1.val)
      refine ⟨a, rfl, st1, Fz1, e1.rs, Out.shift (Out.bind h1) e1.fr fun ⟨vs, st2⟩ h2 xs Fz2 H2 e2 => ?_⟩
      dsimp only at h2
      refine ⟨.inr ⟨dx, _, e2.rs.sub _ _ (e2.fr.fmon _ _ fa)⟩, ?_⟩
      cases e : fzVs (.p (.obj c1 ks ys) :: vs) st2 with
      | none => rw [e] at h2; exact h2.elim
      | some q =>
        obtain ⟨ds, st3⟩ := q
        rw [e] at h2
        obtain ⟨Fz3, rs3, fr3, r3, _, _⟩ := fzVs_ok (vs := .p (.obj c1 ks ys) :: vs) (xs := V.ref a :: xs) e2.rs (e1.fr.trans e2.fr) ⟨e1.val.stay e2.fr, e2.val, fun _ z => z.elim⟩ (fun b z => by
          rcases z with z | z
          · exact z.elim
          · exact (e2.new b z).elim (fun z => e1.fr.onew b z) fun z => .inr (e1.fr.dom b z)) e
        unfold kCallI at h2
        dsimp only at h2
        rw [if_pos rfl] at h2
        refine ⟨Fz3, ds, rs3.sub, r3, rs3.tab, ?_⟩
        cases ef : f ds with
        | stuck => rw [ef] at h2; exact h2.elim
        | err c l => rw [ef] at h2; exact fun H' k => h2 H' (fr3.ek (EK.of_ext k))
        | ok v => rw [ef] at h2; exact fun x Fz' H' oe => h2 x Fz' H' (oe.eend rs3 fr3)
    · unfold kCallO at h1
      dsimp only at h1
      rw [if_neg z] at h1
      exact h1.elim
/-- len(x) -/
def kLenI : Vl × Ds → R (Vl × Ds)
  | (.p (.int n), st) => if 0 ≤ n ∧ n < 100000 then .ok (.p (.int n), st) else .stuck
  | _ => .stuck
def fLenI (c : Str) (f : List D → R Vl) (a : FA) : FE := fun st => (fCallI (okHd c) f a st).bind kLenI
theorem tE_lenI {f : List D → R Vl} {fa : FA} {Q : VK} (h : tE K mg ad E (fLenI c f fa) σ H Q) : tE K mg ad E (fCallI (okHd c) f fa) σ H fun v H2 => ∃ n : Int, v = .int n ∧ (0 ≤ n ∧ n < 2 ^ 63) ∧ Q v H2 := by
  obtain ⟨st, Fz, rs, h⟩ := h
  refine ⟨st, Fz, rs, h.bind.imp fun ⟨vx, st1⟩ h1 x Fz1 H1 e1 => ?_⟩
  obtain ⟨n, rfl⟩ : ∃ n, vx = .p (.int n) := by
    cases vx with
    | p d =>
      cases d with
      | int n => exact ⟨n, rfl⟩
      | _ => exact h1.elim
    | _ => exact h1.elim
  · unfold kLenI at h1
    dsimp only at h1
    by_cases z : 0 ≤ n ∧ n < 100000
    · rw [if_pos z] at h1
      have r : Rep K mg Fz1 (.int n) x := e1.val
      rw [Rep] at r
      subst r
      exact ⟨n, rfl, ⟨z.1, Int.lt_trans z.2 (by decide)⟩, h1 _ Fz1 H1 e1⟩
    · rw [if_neg z] at h1
      exact h1.elim
/-- x.f -/
def gFld (c : Str) (f : Str) : D → Option Vl
  | .obj c1 ks xs => if c1 = c then (match (ks.zip xs).lookup f with
    | some d => some (.p d)
    | none => none) else none
  | _ => none
theorem zip_lookup {f : Str} : ∀ {ks : List Str} {xs : List D} {vs : List V} {d : D}, RepL K mg Fz xs vs → (ks.zip xs).lookup f = some d → ∃ v, (ks.zip vs).lookup f = some v ∧ Rep K mg Fz d v
  | [], xs, vs, d, r, h => by cases h
  | k :: ks, [], vs, d, r, h => by cases h
  | k :: ks, x :: xs, vs, d, r, h => by
    obtain ⟨v, vs', rfl, p, r2⟩ := r.cons_inv
    simp only [List.zip_cons_cons, List.lookup_cons] at h ⊢
    cases e : f == k with
    | true =>
      rw [e] at h
      cases h
      exact ⟨v, rfl, p⟩
    | false =>
      rw [e] at h
      exact zip_lookup r2 h
theorem fld_ok (hC : ClsK K mg c C) {f : Str} {x : V} {dx : D} {v : Vl} (r : Rep K mg Fz dx x) (hg : gFld c f dx = some v) : ∃ a d fs u e, x = .ref a ∧ Fz a = some (.ins C d fs) ∧ fs.lookup f = some u ∧ v = .p e ∧ Rep K mg Fz e u := by
  unfold gFld at hg
  split at hg
  · split at hg
    · rename_i z
      subst z
      split at hg
      · rename_i e2
        cases hg
        obtain ⟨a, vs, d, rfl, r2, fa⟩ := rep_ins hC r
        obtain ⟨u, l, p⟩ := zip_lookup r2 e2
        exact ⟨a, d, _, u, _, rfl, fa, l, rfl, p⟩
      · cases hg
    · cases hg
  · cases hg
theorem br_rep {dx : D} {x : V} (n : ∀ xs, dx ≠ .lst xs) (h : BR K mg Fz H dx x) : Rep K mg Fz dx x := by
  cases dx <;> first | exact h | exact (n _ rfl).elim
theorem gFld_nl {f : Str} {dx : D} {v : Vl} (hg : gFld c f dx = some v) : ∀ xs, dx ≠ .lst xs := fun xs z => by rw [z] at hg; cases hg
theorem o1_fld (hC : ClsK K mg c C) {f : Str} (na : NoAttr K C f) : Op1 K mg (fun x H Q => ∃ a C dx fs v, x = .ref a ∧ H a = some (.ins C dx fs) ∧ L2.Cls K C ∧ NoAttr K C f ∧ fs.lookup f = some v ∧ Q v H) (gFld c f) := by
  intro Fz H x dx v sub hx hg Q q
  obtain ⟨a, d, fs, u, e, rfl, fa, l, rfl, p⟩ := fld_ok hC (br_rep (gFld_nl hg) hx) hg
  exact ⟨a, C, d, fs, u, rfl, sub _ _ fa, hC.ic.cl, na, l, q _ _ _ (OEnd.val_p sub p)⟩
theorem o1_prop (hC : ClsK K mg c C) {f : Str} : Op1 K mg (fun x H Q => ∃ a dx fs, x = .ref a ∧ H a = some (.ins C dx fs) ∧ getSp C f [.ref a] H Q E0) (gFld c f) := by
  intro Fz H x dx v sub hx hg Q q
  obtain ⟨a, d, fs, u, e, rfl, fa, l, rfl, p⟩ := fld_ok hC (br_rep (gFld_nl hg) hx) hg
  exact ⟨a, d, fs, rfl, sub _ _ fa, a, d, fs, u, rfl, sub _ _ fa, l, q _ _ _ (OEnd.val_p sub p)⟩
/-- isinstance(x, C) -/
def gIsC (c : Str) : D → Option Vl
  | .obj c1 _ _ => if c1 = c then some (.p (.bl true)) else none
  | .tup _ => some (.p (.bl false))
  | _ => none
theorem o1_isC (hC : ClsK K mg c C) : Op1 K mg (fun x H Q => rIsi K [x, .ref C] H Q) (gIsC c) := by
  intro Fz H x dx v sub hx hg Q q
  cases dx with
  | obj c1 ks xs =>
    unfold gIsC at hg
    dsimp only at hg
    split at hg
    · rename_i z
      subst z
      cases hg
      obtain ⟨a, vs, d, rfl, r2, fa⟩ := rep_ins hC (br_rep (fun xs z => by cases z) hx)
      exact ⟨_, .ref C, .ref C, .ref C, true, rfl, .own C, .base (TyOf.ins (sub _ _ fa) hC.ic.cl hC.ic.ha hC.ic.hn hC.ic.htk hC.ic.hm), hC.ic.me, q _ _ _ (OEnd.val_p sub (by rw [Rep]))⟩
    · cases hg
  | tup xs =>
    cases hg
    exact ⟨_, .ref C, .type "tuple", .ref C, false, rfl, .own C, tyx_of sub hx rfl, hC.kt, q _ _ _ (OEnd.val_p sub (by rw [Rep]))⟩
  | _ => cases hg
end
section
variable {X : Cx} {E : XK} {e a b : Expr} {es : List Expr} {fa fb : FE} {fl : FA} {fn : List D → R Vl} {c : Str} {C g : Addr} {k j : Nat} {pos p apos : Pos} {x : Str}
theorem de_eqI (hC : ClsK X.K X.mg c C) (m : MeK X.K C "__eq__" g) (F : FnR X.prog X.w X.K X.mg X.base (L2.CX X.prog X.w) k g (spF X.K X.mg fn)) (hr : Room j X.A) (hx : Passes (L2.CX X.prog X.w) X E) (ha : DE X E a fa) (hb : DE X E b fb) (hk : k ≤ j := by decide) (hm : behindInMarks .Eq b = false := by first | exact nomark _ | rfl) :
    DE X E (.Compare a [.Eq] [b] pos) (fCallI (okEq c) fn (fCons fa (fCons fb fNil))) := fun ad =>
  PE_conseq (pe_cmpR (op_eqI hC.nf hC.nt m.at_ m.fn F (hr.mono hk) hx) (ha ad) (hb ad) hm) fun σ H Q h =>
    tE_mono (fun x H1 h => tE_mono (fun y H2 ⟨Fz, ds, sub, r, ok, q⟩ => let ⟨z1, z2⟩ := okEq_ins hC sub r ok; ⟨z1, z2, q⟩) h) (tA_two (tE_callI h))
theorem de_addI (hC : ClsK X.K X.mg c C) (m : MeK X.K C "__add__" g) (F : FnR X.prog X.w X.K X.mg X.base (L2.CX X.prog X.w) k g (spF X.K X.mg fn)) (hr : Room j X.A) (hx : Passes (L2.CX X.prog X.w) X E) (ha : DE X E a fa) (hb : DE X E b fb) (hk : k ≤ j := by decide) :
    DE X E (.BinOp a .Add b pos) (fCallI (okTwo c) fn (fCons fa (fCons fb fNil))) := fun ad =>
  PE_conseq (pe_op (op_addI hC.sf m.at_ m.fn F (hr.mono hk) hx) (ha ad) (hb ad)) fun σ H Q h =>
    tE_mono (fun x H1 h => tE_mono (fun y H2 ⟨Fz, ds, sub, r, ok, q⟩ => let ⟨z1, z2⟩ := okTwo_ins hC sub r ok; ⟨z1, z2, q⟩) h) (tA_two (tE_callI h))
theorem de_negI (hC : ClsK X.K X.mg c C) (m : MeK X.K C "__neg__" g) (F : FnR X.prog X.w X.K X.mg X.base (L2.CX X.prog X.w) k g (spF X.K X.mg fn)) (hr : Room j X.A) (hx : Passes (L2.CX X.prog X.w) X E) (ha : DE X E a fa) (hk : k ≤ j := by decide) :
    DE X E (.UnaryOp .USub a pos) (fCallI (okHd c) fn (fCons fa fNil)) := fun ad =>
  PE_conseq (pe_un (un_negI m.at_ m.fn F (hr.mono hk) hx) (ha ad)) fun σ H Q h =>
    tE_mono (fun x H1 ⟨Fz, ds, sub, r, ok, q⟩ => ⟨okHd_ins hC sub r ok, q⟩) (tA_one (tE_callI h))
theorem de_ixI (hC : ClsK X.K X.mg c C) (m : MeK X.K C "__getitem__" g) (F : FnR X.prog X.w X.K X.mg X.base (L2.CX X.prog X.w) k g (spF X.K X.mg fn)) (hr : Room j X.A) (hx : Passes (L2.CX X.prog X.w) X E) (ha : DE X E a fa) (hb : DE X E b fb) (hk : k + 1 ≤ j := by decide)
    (hsl : ∀ o v, subscripted b true o v = runValue (.builtin "lifetime.subscript" ⟨[o, v], []⟩) := by intro _ _; with_unfolding_all rfl) :
    DE X E (.Subscript a b pos) (fCallI (okHd c) fn (fCons fa (fCons fb fNil))) := fun ad =>
  PE_conseq (pe_ixI m.at_ m.fi m.fn F (hr.mono hk) hx (ha ad) (hb ad) hsl) fun σ H Q h =>
    tE_mono (fun x H1 h => tE_mono (fun y H2 ⟨Fz, ds, sub, r, ok, q⟩ => ⟨okHd_ins hC sub r ok, q⟩) h) (tA_two (tE_callI h))
theorem de_lenI (hC : ClsK X.K X.mg c C) (m : MeK X.K C "__len__" g) (F : FnR X.prog X.w X.K X.mg X.base (L2.CX X.prog X.w) k g (spF X.K X.mg fn)) (hr : Room j X.A) (hx : Passes (L2.CX X.prog X.w) X E) (hm : X.mg "len" = none) (ha : DE X E a fa) (hg : Gl X "len" := by rfl) (hk : k + 1 ≤ j := by decide)
    (hs : starEach [a] X.env = (false, eval a X.env) :: starEach [] X.env := by rfl) : DE X E (.Call (.Name "len" p) [a] [] pos) (fLenI c fn (fCons fa fNil)) := fun ad =>
  PE_conseq (pe_callB (id := "len") (call_lenI (C := C) m.at_ m.fn F (hr.mono hk) hx) hg hm (by rfl) (pa_cons (ha ad) pa_nil hs) (by decide) (by decide) hs rfl) fun σ H Q h =>
    tE_mono (fun x H1 ⟨Fz, ds, sub, r, ok, q⟩ => ⟨x, rfl, okHd_ins hC sub r ok, q⟩) (tA_one (tE_callI (tE_lenI h)))
theorem de_callO (hC : ClsK X.K X.mg c C) (m : MeK X.K C "__call__" g) (F : FnR X.prog X.w X.K X.mg X.base (L2.CX X.prog X.w) k g (spF X.K X.mg fn)) (hr : Room j X.A) (hx : Passes (L2.CX X.prog X.w) X E) (he : DE X E e fa) (ha : DA X E (a :: es) fl) (hk : k ≤ j := by decide)
    (ht : eval (.Call e (a :: es) [] pos) X.env = (do callWith pos (← eval e X.env) [] (backTo pos (starEach (a :: es) X.env)) (backToKw pos (keywordEach [] X.env))) := by rfl)
    (hs : starEach (a :: es) X.env = (false, eval a X.env) :: starEach es X.env := by rfl) (hpl : (backTo pos (starEach es X.env)).any (·.1) = false := by rfl) : DE X E (.Call e (a :: es) [] pos) (fCallO c fn fa fl) := fun ad =>
  PE_conseq (StX.pe_callO (he ad) ⟨m.at_, m.fn, m.fi⟩ F (hr.mono hk) hx (ha ad) ht hs hpl) fun σ H Q h => tE_callO hC h
theorem de_fld (hC : ClsK X.K X.mg c C) {f : Str} (na : NoAttr X.K C f) (he : DE X E e fa) (hb : attributeBase e f X.env (eval e X.env) = eval e X.env := by rfl) : DE X E (.Attribute e f pos) (fOp1 (gFld c f) fa) := fun ad =>
  PE_conseq (pe_fld (he ad) hb) fun σ H Q h => tE_op1 (o1_fld hC na) h
theorem de_prop (hC : ClsK X.K X.mg c C) {f fl : Str} {pa : Addr} {fd : FuncData} (hp : PropOf X.K C f pa g) (F : FnOk X.prog X.w X.K X.mg X.base L2.CX0 k g fd ["self"] (getSp C fl)) (hbd : Binds X.K fd ["self"] []) (hr : Room j X.A) (he : DE X E e fa) (hk : k + 1 ≤ j := by decide) (hb : attributeBase e f X.env (eval e X.env) = eval e X.env := by rfl) :
    DE X E (.Attribute e f pos) (fOp1 (gFld c fl) fa) := fun ad =>
  PE_conseq (pe_prop (he ad) hC.ic.cl hp F (hr.mono hk) hbd .nil L2.pass0 hb) fun σ H Q h => tE_op1 (o1_prop hC) h
theorem de_isC (hC : ClsK X.K X.mg c C) (hm : X.mg "isinstance" = none) (ha : DE X E a fa) (hg : Gl X "isinstance" := by rfl) (hg2 : Gl X c := by rfl) (hdb : (c == ("__debug__" : Str)) = false := by decide)
    (h1 : starEach [a, .Name c p] X.env = (false, eval a X.env) :: starEach [.Name c p] X.env := by rfl) (h2 : starEach [.Name c p] X.env = (false, eval (.Name c p) X.env) :: starEach [] X.env := by rfl) (hpl : (backTo pos (starEach [.Name c p] X.env)).any (·.1) = false := by rfl) :
    DE X E (.Call (.Name "isinstance" apos) [a, .Name c p] [] pos) (fOp1 (gIsC c) fa) := fun ad =>
  PE_conseq (pe_callB (id := "isinstance") call_isi hg hm (by rfl) (pa_cons (ha ad) (pa_cons (pe_glob (v := .ref C) hg2 hC.hm rfl hdb) pa_nil h2) h1) (by decide) (by decide) h1 hpl) fun σ H Q h => tE_op1 (o1_isC hC) h
theorem de_mk (hC : ClsK X.K X.mg c C) {ks : List Str} {gi : List D → R (List D)} (M : Mk X.K C g) (F : FnR X.prog X.w X.K X.mg X.base (L2.CX X.prog X.w) k g (spI X.K X.mg c ks gi)) (hr : Room j X.A) (hx : Passes (L2.CX X.prog X.w) X E) (ha : DA X E (a :: es) fl) (hk : k + 1 ≤ j := by decide) (hg : Gl X c := by rfl) (hdb : (c == ("__debug__" : Str)) = false := by decide)
    (hs : starEach (a :: es) X.env = (false, eval a X.env) :: starEach es X.env := by rfl) (hpl : (backTo pos (starEach es X.env)).any (·.1) = false := by rfl) : DE X E (.Call (.Name c p) (a :: es) [] pos) (fMkI c ks gi fl) := fun ad =>
  PE_conseq (StX.pe_makeR M F (hr.mono hk) hg hC.hm hx (ha ad) hdb hs hpl) fun σ H Q h => tE_mk hC h
theorem de_mk0 (hC : ClsK X.K X.mg c C) {ks : List Str} {gi : List D → R (List D)} (M : Mk X.K C g) (F : FnR X.prog X.w X.K X.mg X.base (L2.CX X.prog X.w) k g (spI X.K X.mg c ks gi)) (hr : Room j X.A) (hx : Passes (L2.CX X.prog X.w) X E) (hk : k + 1 ≤ j := by decide) (hg : Gl X c := by rfl) (hdb : (c == ("__debug__" : Str)) = false := by decide) :
    DE X E (.Call (.Name c p) [] [] pos) (fMkI c ks gi fNil) := fun ad =>
  PE_conseq (pe_makeR0 M F (hr.mono hk) hg hC.hm hx hdb) fun σ H Q h => tA_nil (tE_mk hC h)
theorem de_mkS (hC : ClsK X.K X.mg c C) {ks : List Str} {gi : List D → R (List D)} {p2 : Pos} (M : Mk X.K C g) (F : FnR X.prog X.w X.K X.mg X.base (L2.CX X.prog X.w) k g (spI X.K X.mg c ks gi)) (hr : Room j X.A) (hx : Passes (L2.CX X.prog X.w) X E) (ha : DE X E a fa) (hk : k + 1 ≤ j := by decide) (hg : Gl X c := by rfl) (hdb : (c == ("__debug__" : Str)) = false := by decide)
    (hs : starEach [.Starred a p2] X.env = [(true, eval a X.env)] := by rfl) : DE X E (.Call (.Name c p) [.Starred a p2] [] pos) (fMkS c ks gi (fCons fa fNil)) := fun ad =>
  PE_conseq (pe_makeRS M F (hr.mono hk) hg hC.hm hx (ha ad) hdb hs) fun σ H Q h => tE_mkS hC h
end
end DK

set_option Elab.async false
set_option linter.all false
set_option maxRecDepth 100000
set_option maxHeartbeats 2000000
/-! own classes as the printing program names them; range downward; what is never reached -/
namespace DK
open PySem PySem.Spec PyProof.Rows L2 RZ
variable [TabsC]
def HasI (K : PySem.W.Frag) (mg : Str → Option Value) (c n qual : Str) (st : Stmt) (ps : List Str) : Prop := ∃ C g fd, ClsK K mg c C ∧ MeK K C n g ∧ Fun K n qual st g fd ∧ Binds K fd ps []
def HasN (K : PySem.W.Frag) (mg : Str → Option Value) (c qual fl : Str) (st : Stmt) : Prop := ∃ C g fd, ClsK K mg c C ∧ Mk K C g ∧ Fun K "__init__" qual st g fd ∧ NoAttr K C fl
def HasP (K : PySem.W.Frag) (mg : Str → Option Value) (c f qual fl : Str) (st : Stmt) : Prop := ∃ C p g fd, ClsK K mg c C ∧ PropOf K C f p g ∧ Fun K f qual st g fd ∧ NoAttr K C fl ∧ Binds K fd ["self"] []
def HasK (K : PySem.W.Frag) (mg : Str → Option Value) (c fl : Str) : Prop := ∃ C, ClsK K mg c C ∧ NoAttr K C fl
def KeepsM (P : Program) (w : World) (K : PySem.W.Frag) (mg : Str → Option Value) (base : Heap) (k : Nat) (n qual : Str) (st : Stmt) (ps : List Str) (sp : Sp) : Prop := ∀ f fd, Fun K n qual st f fd → FnOk P w K mg base (L2.CX P w) k f fd ps sp
def KeepsN (P : Program) (w : World) (K : PySem.W.Frag) (mg : Str → Option Value) (base : Heap) (k : Nat) (c qual fl : Str) (st : Stmt) (gi : List D → R (List D)) : Prop := ∀ C f fd, ClsK K mg c C → NoAttr K C fl → Fun K "__init__" qual st f fd → FnR P w K mg base (L2.CX P w) k f (spI K mg c [fl] gi)
theorem fnr {P : Program} {w : World} {K : PySem.W.Frag} {mg : Str → Option Value} {base : Heap} {CX : CXT} {k : Nat} {f : Addr} {fd : FuncData} {ps : List Str} {sp : Sp} (F : FnOk P w K mg base CX k f fd ps sp) (b : Binds K fd ps []) : FnR P w K mg base CX k f sp :=
  (F.raw b .nil).imp fun vs H Q E h => by rw [List.append_nil]; exact h
section
variable {X : Cx} {E : XK} {e a b : Expr} {es : List Expr} {fa fb : FE} {fl : FA} {fn : List D → R Vl} {c q : Str} {st : Stmt} {ps : List Str} {k j : Nat} {pos p apos : Pos}
theorem dm_eq (h : HasI X.K X.mg c "__eq__" q st ps) (ok : KeepsM X.prog X.w X.K X.mg X.base k "__eq__" q st ps (spF X.K X.mg fn)) (hr : Room j X.A) (hx : Passes (L2.CX X.prog X.w) X E) (ha : DE X E a fa) (hb : DE X E b fb) (hk : k ≤ j := by decide) (hm : behindInMarks .Eq b = false := by first | exact nomark _ | rfl) :
    DE X E (.Compare a [.Eq] [b] pos) (fCallI (okEq c) fn (fCons fa (fCons fb fNil))) := by
  obtain ⟨C, g, fd, hC, m, F, bd⟩ := h
  exact de_eqI hC m (fnr (ok g fd F) bd) hr hx ha hb hk hm
theorem dm_eqT (h : HasI X.K X.mg c "__eq__" q st ps) (ok : KeepsM X.prog X.w X.K X.mg X.base k "__eq__" q st ps (spF X.K X.mg fn)) (hr : Room j X.A) (hx : Passes (L2.CX X.prog X.w) X E) (ha : DE X E a fa) (hb : DE X E b fb) (hk : k ≤ j := by decide) (hm : behindInMarks .Eq b = false := by first | exact nomark _ | rfl) :
    DT X E (.Compare a [.Eq] [b] pos) (fCallI (okEq c) fn (fCons fa (fCons fb fNil))) := by
  obtain ⟨C, g, fd, hC, m, F, bd⟩ := h
  exact fun ad => PT_conseq (pt_cmpR (op_eqI hC.nf hC.nt m.at_ m.fn (fnr (ok g fd F) bd) (hr.mono hk) hx) (ha ad) (hb ad) hm) fun σ H Q h =>
    tE_mono (fun x H1 h => tE_mono (fun y H2 ⟨Fz, ds, sub, r, ok, q⟩ => let ⟨z1, z2⟩ := okEq_ins hC sub r ok; ⟨z1, z2, q⟩) h) (tA_two (tE_callI (tT_of_tE h)))
theorem dm_add (h : HasI X.K X.mg c "__add__" q st ps) (ok : KeepsM X.prog X.w X.K X.mg X.base k "__add__" q st ps (spF X.K X.mg fn)) (hr : Room j X.A) (hx : Passes (L2.CX X.prog X.w) X E) (ha : DE X E a fa) (hb : DE X E b fb) (hk : k ≤ j := by decide) :
    DE X E (.BinOp a .Add b pos) (fCallI (okTwo c) fn (fCons fa (fCons fb fNil))) := by
  obtain ⟨C, g, fd, hC, m, F, bd⟩ := h
  exact de_addI hC m (fnr (ok g fd F) bd) hr hx ha hb hk
theorem dm_neg (h : HasI X.K X.mg c "__neg__" q st ps) (ok : KeepsM X.prog X.w X.K X.mg X.base k "__neg__" q st ps (spF X.K X.mg fn)) (hr : Room j X.A) (hx : Passes (L2.CX X.prog X.w) X E) (ha : DE X E a fa) (hk : k ≤ j := by decide) :
    DE X E (.UnaryOp .USub a pos) (fCallI (okHd c) fn (fCons fa fNil)) := by
  obtain ⟨C, g, fd, hC, m, F, bd⟩ := h
  exact de_negI hC m (fnr (ok g fd F) bd) hr hx ha hk
theorem dm_ix (h : HasI X.K X.mg c "__getitem__" q st ps) (ok : KeepsM X.prog X.w X.K X.mg X.base k "__getitem__" q st ps (spF X.K X.mg fn)) (hr : Room j X.A) (hx : Passes (L2.CX X.prog X.w) X E) (ha : DE X E a fa) (hb : DE X E b fb) (hk : k + 1 ≤ j := by decide)
    (hsl : ∀ o v, subscripted b true o v = runValue (.builtin "lifetime.subscript" ⟨[o, v], []⟩) := by intro _ _; with_unfolding_all rfl) :
    DE X E (.Subscript a b pos) (fCallI (okHd c) fn (fCons fa (fCons fb fNil))) := by
  obtain ⟨C, g, fd, hC, m, F, bd⟩ := h
  exact de_ixI hC m (fnr (ok g fd F) bd) hr hx ha hb hk hsl
theorem dm_len (h : HasI X.K X.mg c "__len__" q st ps) (ok : KeepsM X.prog X.w X.K X.mg X.base k "__len__" q st ps (spF X.K X.mg fn)) (hr : Room j X.A) (hx : Passes (L2.CX X.prog X.w) X E) (hm : X.mg "len" = none) (ha : DE X E a fa) (hg : Gl X "len" := by rfl) (hk : k + 1 ≤ j := by decide)
    (hs : starEach [a] X.env = (false, eval a X.env) :: starEach [] X.env := by rfl) : DE X E (.Call (.Name "len" p) [a] [] pos) (fLenI c fn (fCons fa fNil)) := by
  obtain ⟨C, g, fd, hC, m, F, bd⟩ := h
  exact de_lenI hC m (fnr (ok g fd F) bd) hr hx hm ha hg hk hs
theorem dm_call (h : HasI X.K X.mg c "__call__" q st ps) (ok : KeepsM X.prog X.w X.K X.mg X.base k "__call__" q st ps (spF X.K X.mg fn)) (hr : Room j X.A) (hx : Passes (L2.CX X.prog X.w) X E) (he : DE X E e fa) (ha : DA X E (a :: es) fl) (hk : k ≤ j := by decide)
    (ht : eval (.Call e (a :: es) [] pos) X.env = (do callWith pos (← eval e X.env) [] (backTo pos (starEach (a :: es) X.env)) (backToKw pos (keywordEach [] X.env))) := by rfl)
    (hs : starEach (a :: es) X.env = (false, eval a X.env) :: starEach es X.env := by rfl) (hpl : (backTo pos (starEach es X.env)).any (·.1) = false := by rfl) : DE X E (.Call e (a :: es) [] pos) (fCallO c fn fa fl) := by
  obtain ⟨C, g, fd, hC, m, F, bd⟩ := h
  exact de_callO hC m (fnr (ok g fd F) bd) hr hx he ha hk ht hs hpl
theorem dm_fld {f : Str} (h : HasK X.K X.mg c f) (he : DE X E e fa) (hb : attributeBase e f X.env (eval e X.env) = eval e X.env := by rfl) : DE X E (.Attribute e f pos) (fOp1 (gFld c f) fa) := by
  obtain ⟨C, hC, na⟩ := h
  exact de_fld hC na he hb
theorem dm_isC {f : Str} (h : HasK X.K X.mg c f) (hm : X.mg "isinstance" = none) (ha : DE X E a fa) (hg : Gl X "isinstance" := by rfl) (hg2 : Gl X c := by rfl) (hdb : (c == ("__debug__" : Str)) = false := by decide)
    (h1 : starEach [a, .Name c p] X.env = (false, eval a X.env) :: starEach [.Name c p] X.env := by rfl) (h2 : starEach [.Name c p] X.env = (false, eval (.Name c p) X.env) :: starEach [] X.env := by rfl) (hpl : (backTo pos (starEach [.Name c p] X.env)).any (·.1) = false := by rfl) :
    DE X E (.Call (.Name "isinstance" apos) [a, .Name c p] [] pos) (fOp1 (gIsC c) fa) := by
  obtain ⟨C, hC, na⟩ := h
  exact de_isC hC hm ha hg hg2 hdb h1 h2 hpl
theorem dm_prop {f fld : Str} (h : HasP X.K X.mg c f q fld st) (S : FnScope ["self"] ["self"] (defScope st)) (hbd : ∃ p1 p2 p3, defBody st = [.Return (some (.Attribute (.Name "self" p1) fld p2)) p3]) (hr : Room j X.A) (he : DE X E e fa) (hk : 2 ≤ j := by decide) (hb : attributeBase e f X.env (eval e X.env) = eval e X.env := by rfl) :
    DE X E (.Attribute e f pos) (fOp1 (gFld c fld) fa) := by
  obtain ⟨C, pa, g, fd, hC, hp, F, na, bd⟩ := h
  obtain ⟨oc, od, kV, doc, pm, an, cdv, ct, osl, rfl, lk, hcd⟩ := F.ex
  obtain ⟨p1, p2, p3, hbody⟩ := hbd
  exact de_prop (k := 1) hC hp (fn_getter (k := 0) lk hcd S rfl hbody hC.ic.cl na) bd hr he hk hb
theorem dm_mk {fld : Str} {gi : List D → R (List D)} (h : HasN X.K X.mg c q fld st) (ok : KeepsN X.prog X.w X.K X.mg X.base k c q fld st gi) (hr : Room j X.A) (hx : Passes (L2.CX X.prog X.w) X E) (ha : DA X E (a :: es) fl) (hk : k + 1 ≤ j := by decide) (hg : Gl X c := by rfl) (hdb : (c == ("__debug__" : Str)) = false := by decide)
    (hs : starEach (a :: es) X.env = (false, eval a X.env) :: starEach es X.env := by rfl) (hpl : (backTo pos (starEach es X.env)).any (·.1) = false := by rfl) : DE X E (.Call (.Name c p) (a :: es) [] pos) (fMkI c [fld] gi fl) := by
  obtain ⟨C, g, fd, hC, M, F, na⟩ := h
  exact de_mk hC M (ok C g fd hC na F) hr hx ha hk hg hdb hs hpl
theorem dm_mk0 {fld : Str} {gi : List D → R (List D)} (h : HasN X.K X.mg c q fld st) (ok : KeepsN X.prog X.w X.K X.mg X.base k c q fld st gi) (hr : Room j X.A) (hx : Passes (L2.CX X.prog X.w) X E) (hk : k + 1 ≤ j := by decide) (hg : Gl X c := by rfl) (hdb : (c == ("__debug__" : Str)) = false := by decide) :
    DE X E (.Call (.Name c p) [] [] pos) (fMkI c [fld] gi fNil) := by
  obtain ⟨C, g, fd, hC, M, F, na⟩ := h
  exact de_mk0 hC M (ok C g fd hC na F) hr hx hk hg hdb
theorem dm_mkS {fld : Str} {gi : List D → R (List D)} {p2 : Pos} (h : HasN X.K X.mg c q fld st) (ok : KeepsN X.prog X.w X.K X.mg X.base k c q fld st gi) (hr : Room j X.A) (hx : Passes (L2.CX X.prog X.w) X E) (ha : DE X E a fa) (hk : k + 1 ≤ j := by decide) (hg : Gl X c := by rfl) (hdb : (c == ("__debug__" : Str)) = false := by decide)
    (hs : starEach [.Starred a p2] X.env = [(true, eval a X.env)] := by rfl) : DE X E (.Call (.Name c p) [.Starred a p2] [] pos) (fMkS c [fld] gi (fCons fa fNil)) := by
  obtain ⟨C, g, fd, hC, M, F, na⟩ := h
  exact de_mkS hC M (ok C g fd hC na F) hr hx ha hk hg hdb hs
/-- what is never reached -/
def fNo : FE := fun _ => .stuck
theorem de_no : DE X E e fNo := fun ad => ⟨fun pins s σ H Q I h => let ⟨_, _, _, z⟩ := h; z.elim⟩
end
section
variable {K : PySem.W.Frag} {mg : Str → Option Value} {ad : Nat → Option Addr} {Fz H : Hp} {σ : L2.St}
def rngM (hi : Int) (n : Nat) : List D := (List.range n).map fun i : Nat => D.int (hi - i)
/-- range(a, b, -1) -/
def fRngM (a : FA) : FI := fun st => (a st).bind fun x => match x.1 with
  | [.p (.int i), .p (.int j), .p (.int c)] => if rOk i && rOk j && decide (c = -1) then .ok (rngM i (i - j).toNat, x.2) else .stuck
  | _ => .stuck
theorem serves_rngM {lo : Int} {n : Nat} : Serves K mg Fz (Itc lo (-1) n) (rngM lo n) := fun Fz1 H1 fm sub => by
  have hl : (rngM lo n).length = n := by simp [rngM]
  refine ⟨by rw [hl]; exact Nat.le_refl _, fun i d e => ?_⟩
  have hi : i < n := hl ▸ (List.getElem?_eq_some_iff.mp e).1
  refine ⟨hi, fun x H' y => ?_⟩
  obtain ⟨rfl, rfl⟩ := y
  have ed : d = .int (lo + (i : Nat) * (-1)) := by
    unfold rngM at e
    rw [List.getElem?_map, List.getElem?_range hi] at e
    rw [← Option.some.inj e, show lo + (i : Int) * (-1) = lo - i by rw [Int.mul_neg, Int.mul_one]; omega]
  subst ed
  exact ⟨Fz1, OEnd.val_p sub (by rw [Rep])⟩
theorem tI_rngM {fa : FA} {R : It → Hp → Prop} {E : XK} (hl : FALen fa 3) (h : tI K mg ad E (fRngM fa) σ H R) : iRng3 (tA K mg ad E fa) σ H R := by
  obtain ⟨st, Fz, rs, h⟩ := h
  refine ⟨st, Fz, rs, ?_⟩
  cases e : fa st with
  | stuck => unfold fRngM at h; rw [e] at h; exact h.elim
  | err c l => unfold fRngM at h; rw [e] at h; exact h
  | ok y =>
    unfold fRngM at h
    rw [e, DK.R.bind_ok] at h
    obtain ⟨vs, st1⟩ := y
    intro xs Fz1 H1 e1
    dsimp only at h e1
    split at h
    · rename_i i j c
      have k := e1.val
      match xs, k with
      | [x, y, z], k =>
        obtain rfl := k.1.int
        obtain rfl := k.2.1.1.int
        obtain rfl := k.2.1.2.1.1.int
        split at h
        · rename_i hj
          simp only [Bool.and_eq_true, decide_eq_true_eq] at hj
          obtain ⟨⟨h1, h2⟩, rfl⟩ := hj
          obtain ⟨b1, b2⟩ := rOk_bd h1
          obtain ⟨b3, b4⟩ := rOk_bd h2
          exact ⟨i, j, -1, (i - j).toNat, rfl, RgC.neg b1 b2 b3 b4, h _ Fz1 H1 e1.rs e1.fr serves_rngM⟩
        · exact h.elim
    · exact h.elim
end
section
variable {X : Cx} {E : XK} {tg a b c : Expr} {fl : FA} {p pos : Pos}
theorem di_rngM (hm : X.mg "range" = none) (ha : DA X E [a, b, c] fl) (hg : Gl X "range" := by rfl) (hl : FALen fl 3 := by repeat (first | exact falen_nil | refine falen_cons ?_)) (hs : starEach [a, b, c] X.env = (false, eval a X.env) :: starEach [b, c] X.env := by rfl) (hpl : (backTo pos (starEach [b, c] X.env)).any (·.1) = false := by rfl) :
    DI X E tg (.Call (.Name "range" p) [a, b, c] [] pos) (fRngM fl) := fun ad => PI_conseq (pi_range3 hg hm (ha ad) hs hpl) fun σ H R q => tI_rngM hl q
end
end DK

set_option Elab.async false
set_option linter.all false
set_option maxRecDepth 100000
set_option maxHeartbeats 4000000
namespace K13
open PySem PySem.Spec PyProof.Rows L2 RZ DK
def topS (i : Nat) : Stmt := PySem.Challenge.pw_markpanels_k13_signs_of_panels.main.body.getD i (.Pass ⟨0, 0, 0, 0⟩)
abbrev s_law_source : Stmt := topS 28
abbrev s_law_draw : Stmt := topS 29
abbrev s_law_marks : Stmt := topS 32
abbrev s_is_between : Stmt := topS 10
abbrev s_are_integers : Stmt := topS 11
abbrev s_is_weights : Stmt := topS 12
abbrev s_need_weights : Stmt := topS 13
abbrev s_need_pair : Stmt := topS 20
abbrev s_need_both : Stmt := topS 21
abbrev s_divisor : Stmt := topS 16
abbrev s_reduced : Stmt := topS 22
abbrev s_mixed_of : Stmt := topS 23
abbrev s_mixed : Stmt := topS 24
abbrev s_law_name : Stmt := topS 38
abbrev s_law_choice : Stmt := topS 30
abbrev s_law_weights : Stmt := topS 31
abbrev s_law_panel : Stmt := topS 36
abbrev s_law_reduced : Stmt := topS 37
abbrev s_law_lowest : Stmt := topS 33
abbrev s_law_total : Stmt := topS 34
abbrev s_law_score : Stmt := topS 35
abbrev s_are_marks : Stmt := topS 14
abbrev s_need_marks : Stmt := topS 15
abbrev s_lowest : Stmt := topS 17
abbrev s_score_of : Stmt := topS 18
abbrev s_law_refuses : Stmt := topS 39
abbrev s_law : Stmt := topS 40
def clsS : Stmt → Nat → Stmt
  | .ClassDef _ _ _ b _ _ _ _ _ _ _, j => b.getD j (.Pass ⟨0, 0, 0, 0⟩)
  | s, _ => s
abbrev s_Panel___init__ : Stmt := clsS (topS 26) 0
abbrev s_Panel___len__ : Stmt := clsS (topS 26) 6
abbrev s_Panel___add__ : Stmt := clsS (topS 26) 4
abbrev s_Panel___call__ : Stmt := clsS (topS 26) 2
abbrev s_Panel___getitem__ : Stmt := clsS (topS 26) 7
abbrev s_Panel___eq__ : Stmt := clsS (topS 26) 3
abbrev s_Panel___neg__ : Stmt := clsS (topS 26) 5
abbrev s_Panel_weights : Stmt := clsS (topS 26) 1
theorem sc_Panel_weights : FnScope ["self"] ["self"] (defScope s_Panel_weights) := ⟨rfl, rfl, rfl, by decide +kernel, rfl, by decide +kernel, by decide +kernel⟩
structure Top (K : PySem.W.Frag) (mg : Str → Option Value) : Prop where
  h_law_source : Has K mg "_law_source" s_law_source ["script", "index"]
  h_law_draw : Has K mg "_law_draw" s_law_draw ["source", "size"]
  h_law_marks : Has K mg "_law_marks" s_law_marks ["source", "count", "most"]
  h_is_between : Has K mg "is_between" s_is_between ["value", "low", "high"]
  h_are_integers : Has K mg "are_integers" s_are_integers ["value", "least", "most", "high"]
  h_is_weights : Has K mg "is_weights" s_is_weights ["value"]
  h_need_weights : Has K mg "need_weights" s_need_weights ["weights"]
  h_need_pair : Has K mg "need_pair" s_need_pair ["weights", "other"]
  h_need_both : Has K mg "need_both" s_need_both ["weights", "other"]
  h_divisor : Has K mg "divisor" s_divisor ["one", "other"]
  h_reduced : Has K mg "reduced" s_reduced ["weights"]
  h_mixed_of : Has K mg "mixed_of" s_mixed_of ["weights", "other"]
  h_mixed : Has K mg "mixed" s_mixed ["weights", "other"]
  h_law_name : Has K mg "_law_name" s_law_name ["call"]
  h_law_choice : Has K mg "_law_choice" s_law_choice ["source", "items"]
  h_law_weights : Has K mg "_law_weights" s_law_weights ["source", "count"]
  h_Panel___init__ : HasN K mg "Panel" "Panel.__init__" "parts" s_Panel___init__
  h_law_panel : Has K mg "_law_panel" s_law_panel ["weights"]
  h_law_reduced : Has K mg "_law_reduced" s_law_reduced ["weights"]
  h_law_lowest : Has K mg "_law_lowest" s_law_lowest ["top", "bottom"]
  h_law_total : Has K mg "_law_total" s_law_total ["weights", "marks"]
  h_law_score : Has K mg "_law_score" s_law_score ["weights", "marks"]
  h_Panel___len__ : HasI K mg "Panel" "__len__" "Panel.__len__" s_Panel___len__ ["self"]
  h_Panel___add__ : HasI K mg "Panel" "__add__" "Panel.__add__" s_Panel___add__ ["self", "other"]
  h_are_marks : Has K mg "are_marks" s_are_marks ["weights", "value"]
  h_need_marks : Has K mg "need_marks" s_need_marks ["weights", "marks"]
  h_lowest : Has K mg "lowest" s_lowest ["top", "bottom"]
  h_score_of : Has K mg "score_of" s_score_of ["weights", "marks"]
  h_Panel___call__ : HasI K mg "Panel" "__call__" "Panel.__call__" s_Panel___call__ ["self", "marks"]
  h_Panel___getitem__ : HasI K mg "Panel" "__getitem__" "Panel.__getitem__" s_Panel___getitem__ ["self", "place"]
  h_Panel___eq__ : HasI K mg "Panel" "__eq__" "Panel.__eq__" s_Panel___eq__ ["self", "other"]
  h_Panel___neg__ : HasI K mg "Panel" "__neg__" "Panel.__neg__" s_Panel___neg__ ["self"]
  k_Panel : HasK K mg "Panel" "parts"
  p_Panel_weights : HasP K mg "Panel" "weights" "Panel.weights" "parts" s_Panel_weights
  z_abs : mg "abs" = none
  z_all : mg "all" = none
  z_bool : mg "bool" = none
  z_int : mg "int" = none
  z_isinstance : mg "isinstance" = none
  z_len : mg "len" = none
  z_list : mg "list" = none
  z_max : mg "max" = none
  z_min : mg "min" = none
  z_range : mg "range" = none
  z_sorted : mg "sorted" = none
  z_sum : mg "sum" = none
  z_tuple : mg "tuple" = none
  z_zip : mg "zip" = none
  c_MOST_JUDGES : ∃ t, mg "MOST_JUDGES" = some (.int 8 t)
  c_MOST_MARK : ∃ t, mg "MOST_MARK" = some (.int 1000 t)
  c_MOST_WEIGHT : ∃ t, mg "MOST_WEIGHT" = some (.int 1000 t)
  x_InvalidMarks : ExcK K mg "InvalidMarks"
  x_InvalidPair : ExcK K mg "InvalidPair"
  x_InvalidPlace : ExcK K mg "InvalidPlace"
  x_InvalidWeights : ExcK K mg "InvalidWeights"
  g_InvalidMarks : ∃ C, mg "InvalidMarks" = some (.ref C)
  g_InvalidPair : ∃ C, mg "InvalidPair" = some (.ref C)
  g_InvalidPlace : ∃ C, mg "InvalidPlace" = some (.ref C)
  g_InvalidWeights : ∃ C, mg "InvalidWeights" = some (.ref C)
  n_law_name : ExcAll K mg ["InvalidWeights", "InvalidMarks", "InvalidPlace", "InvalidPair"]
section
variable [TabsC]
variable {P : Program} {w : World} {K : PySem.W.Frag} {mg : Str → Option Value} {base : Heap}
theorem sc_law_source : FnScope ["script", "index", "cell"] ["script", "index"] (defScope s_law_source) := ⟨rfl, rfl, rfl, by decide +kernel, rfl, by decide +kernel, by decide +kernel⟩
def b_law_source : FS := (fSeq (fSet 2 (fC (.int 0)))
  (fSeq (fIfS (fOp2 gLt (fV 1) (fCB gLen (fCons (fV 0) fNil))) (fSet 2 (fCB gAbs (fCons (fOp2 gIx (fV 0) (fV 1)) fNil))) fNext)
  (fSeq (fIfS (fOp2 gLt (fV 2) (fOp2 gPow (fC (.int 10)) (fC (.int 18)))) (fRet (fLst (fCons (fC (.int 0)) (fCons (fOp2 gAdd (fC (.int 1)) (fOp2 gMod (fOp2 gAdd (fOp2 gMu (fV 2) (fC (.int 7919))) (fOp2 gMu (fC (.int 104729)) (fV 1))) (fC (.int 2147483646)))) fNil)))) fNext)
  (fRet (fLst (fCons (fV 2) (fCons (fOp2 gAdd (fC (.int 1)) (fOp2 gMod (fOp2 gAdd (fV 2) (fV 1)) (fC (.int 2147483646)))) fNil)))))))
def f_law_source : List D → R Vl := runF 2 3 b_law_source
theorem ok_law_source (T : Top K mg) : Keeps P w K mg base 1 "_law_source" s_law_source ["script", "index"] (spF K mg f_law_source) := fun f fd F =>
  have SC := sc_law_source
  fn_ok (N := ["script", "index", "cell"]) (ps := ["script", "index"]) (k := 0) (body := b_law_source) F sc_law_source fun cdv A outer s H E hr => (by exact dss_cons (by exact ds_set 2 (by exact SC.nd) de_int) (by exact dss_cons (by exact ds_if (by exact t_lt (by exact de_var 1) (by exact b_len (by exact T.z_len) (by exact da_cons (by exact de_var 0) da_nil))) (by exact dss_one (by exact ds_set 2 (by exact SC.nd) (by exact b_abs (by exact T.z_abs) (by exact da_cons (by exact o_ix (by exact de_var 0) (by exact de_var 1)) da_nil)))) dss_nil) (by exact dss_cons (by exact ds_if (by exact t_lt (by exact de_var 2) (by exact o_pow de_int de_int)) (by exact dss_one (by exact ds_ret (by exact de_lst (n := 2) (by exact da_cons de_int (by exact da_cons (by exact o_add de_int (by exact o_mod (by exact o_add (by exact o_mul (by exact de_var 2) de_int) (by exact o_mul de_int (by exact de_var 1))) de_int)) da_nil))))) dss_nil) (by exact dss_one (by exact ds_ret (by exact de_lst (n := 2) (by exact da_cons (by exact de_var 2) (by exact da_cons (by exact o_add de_int (by exact o_mod (by exact o_add (by exact de_var 2) (by exact de_var 1)) de_int)) da_nil))))))))
theorem sc_law_draw : FnScope ["source", "size", "drawn"] ["source", "size"] (defScope s_law_draw) := ⟨rfl, rfl, rfl, by decide +kernel, rfl, by decide +kernel, by decide +kernel⟩
def b_law_draw : FS := (fSeq (fIfS (fOp2 gGt (fOp2 gIx (fV 0) (fC (.int 0))) (fC (.int 0))) (fSeq (fSet 2 (fOp2 gMod (fOp2 gIx (fV 0) (fC (.int 0))) (fV 1)))
  (fSeq (fSetS 0 (fOp2 gFdiv (fOp2 gIx (fV 0) (fC (.int 0))) (fV 1)) (fC (.int 0)))
  (fRet (fV 2)))) fNext)
  (fSeq (fSetS 0 (fOp2 gMod (fOp2 gMu (fOp2 gIx (fV 0) (fC (.int 1))) (fC (.int 48271))) (fC (.int 2147483647))) (fC (.int 1)))
  (fRet (fOp2 gMod (fOp2 gFdiv (fOp2 gMod (fOp2 gMu (fOp2 gIx (fV 0) (fC (.int 1))) (fOp2 gIx (fV 0) (fC (.int 1)))) (fC (.int 2147483629))) (fC (.int 64))) (fV 1)))))
def g_law_draw : List D → List D → R (Vl × List D) := runG 2 3 b_law_draw
theorem ok_law_draw (T : Top K mg) : Keeps P w K mg base 1 "_law_draw" s_law_draw ["source", "size"] (spG K mg g_law_draw) := fun f fd F =>
  have SC := sc_law_draw
  fn_okG (N := ["source", "size", "drawn"]) (ps := ["source", "size"]) (k := 0) (body := b_law_draw) F sc_law_draw (by decide) fun cdv A outer s H E hr => (by exact dss_cons (by exact ds_if (by exact t_gt (by exact o_ix (by exact de_var 0) de_int) de_int) (by exact dss_cons (by exact ds_set 2 (by exact SC.nd) (by exact o_mod (by exact o_ix (by exact de_var 0) de_int) (by exact de_var 1))) (by exact dss_cons (by exact ds_setIx 0 (by exact o_fdiv (by exact o_ix (by exact de_var 0) de_int) (by exact de_var 1)) de_int) (by exact dss_one (by exact ds_ret (by exact de_var 2))))) dss_nil) (by exact dss_cons (by exact ds_setIx 0 (by exact o_mod (by exact o_mul (by exact o_ix (by exact de_var 0) de_int) de_int) de_int) de_int) (by exact dss_one (by exact ds_ret (by exact o_mod (by exact o_fdiv (by exact o_mod (by exact o_mul (by exact o_ix (by exact de_var 0) de_int) (by exact o_ix (by exact de_var 0) de_int)) de_int) de_int) (by exact de_var 1))))))
theorem sc_law_marks : FnScope ["source", "count", "most", "turn"] ["source", "count", "most"] (defScope s_law_marks) := ⟨rfl, rfl, rfl, by decide +kernel, rfl, by decide +kernel, by decide +kernel⟩
def b_law_marks : FS := (fRet (fCB gTuple (fCons (fLc (fRng (fCons (fV 1) fNil)) (tgName 3) (nE fYes) (nE (fCallS g_law_draw (fCons (fV 0) (fCons (fOp2 gAdd (fV 2) (fC (.int 1))) fNil)))) [3]) fNil)))
def g_law_marks : List D → List D → R (Vl × List D) := runG 3 4 b_law_marks
theorem ok_law_marks (T : Top K mg) : Keeps P w K mg base 2 "_law_marks" s_law_marks ["source", "count", "most"] (spG K mg g_law_marks) := fun f fd F =>
  have SC := sc_law_marks
  fn_okG (N := ["source", "count", "most", "turn"]) (ps := ["source", "count", "most"]) (k := 1) (body := b_law_marks) F sc_law_marks (by decide) fun cdv A outer s H E hr => (by exact dss_one (by exact ds_ret (by exact b_tuple (by exact T.z_tuple) (by exact da_cons (by exact de_lc (is := [3]) (g := gName 3) [("turn", 3)] (by exact SC.nd) (by exact blkOk_by (N := ["source", "count", "most", "turn"]) (sc := defScope s_law_marks) (by decide +kernel)) (by exact di_rng1 (by exact T.z_range) (by exact da_cons (by exact de_var 1) da_nil)) (fun _ _ _ _ _ => (by exact dg_name 3 (by exact SC.nd))) (fun _ _ _ _ _ => (by exact dclS (by exact T.h_law_draw) (by exact (ok_law_draw T)) (by exact hr) (by exact passL) (by exact da_cons (by exact de_var 0) (by exact da_cons (by exact o_add (by exact de_var 2) de_int) da_nil))))) da_nil))))
theorem sc_is_between : FnScope ["value", "low", "high"] ["value", "low", "high"] (defScope s_is_between) := ⟨rfl, rfl, rfl, by decide +kernel, rfl, by decide +kernel, by decide +kernel⟩
def b_is_between : FS := (fRet (fAnd (fOp1 (gIsi "int") (fV 0)) (fAnd (fNot (fOp1 (gIsi "bool") (fV 0))) (fChain gLe gLe (fV 1) (fV 0) (fV 2)))))
def f_is_between : List D → R Vl := runF 3 3 b_is_between
theorem ok_is_between (T : Top K mg) : Keeps P w K mg base 1 "is_between" s_is_between ["value", "low", "high"] (spF K mg f_is_between) := fun f fd F =>
  have SC := sc_is_between
  fn_ok (N := ["value", "low", "high"]) (ps := ["value", "low", "high"]) (k := 0) (body := b_is_between) F sc_is_between fun cdv A outer s H E hr => (by exact dss_one (by exact ds_ret (by exact by exact de_and (by exact de_isi (T := "int") (by exact T.z_isinstance) (by exact T.z_int) (by rfl) (by exact de_var 0)) (by exact de_and (by exact de_not (by exact de_isi (T := "bool") (by exact T.z_isinstance) (by exact T.z_bool) (by rfl) (by exact de_var 0))) (by exact de_one (by exact de_chain (by exact op_le) (by exact o2_le) (by exact op_le) (by exact o2_le) (by exact de_var 1) (by exact de_var 0) (by exact de_var 2)))))))
theorem sc_are_integers : FnScope ["value", "least", "most", "high", "number"] ["value", "least", "most", "high"] (defScope s_are_integers) := ⟨rfl, rfl, rfl, by decide +kernel, rfl, by decide +kernel, by decide +kernel⟩
def b_are_integers : FS := (fSeq (fIfS (fOr (fNot (fOp1 (gIsi "tuple") (fV 0))) (fNot (fChain gLe gLe (fV 1) (fCB gLen (fCons (fV 0) fNil)) (fV 2)))) (fRet (fC (.bl false))) fNext)
  (fRet (fCB gAll (fCons (fLc (fIt (fV 0)) (tgName 4) (nE fYes) (nE (fCall f_is_between (fCons (fV 4) (fCons (fC (.int 0)) (fCons (fV 3) fNil))))) [4]) fNil))))
def f_are_integers : List D → R Vl := runF 4 5 b_are_integers
theorem ok_are_integers (T : Top K mg) : Keeps P w K mg base 2 "are_integers" s_are_integers ["value", "least", "most", "high"] (spF K mg f_are_integers) := fun f fd F =>
  have SC := sc_are_integers
  fn_ok (N := ["value", "least", "most", "high", "number"]) (ps := ["value", "least", "most", "high"]) (k := 1) (body := b_are_integers) F sc_are_integers fun cdv A outer s H E hr => (by exact dss_cons (by exact ds_if (by exact dt_w (by exact dw_or (by exact dt_not (by exact dt_val (by exact de_isi (T := "tuple") (by exact T.z_isinstance) (by exact T.z_tuple) (by rfl) (by exact de_var 0)))) (by exact dw_or1 (by exact dt_not (by exact dt_chain (by exact op_le) (by exact o2_le) (by exact op_le) (by exact o2_le) (by exact de_var 1) (by exact b_len (by exact T.z_len) (by exact da_cons (by exact de_var 0) da_nil)) (by exact de_var 2)))))) (by exact dss_one (by exact ds_ret de_bl)) dss_nil) (by exact dss_one (by exact ds_ret (by exact b_all (by exact T.z_all) (by exact da_cons (by exact de_lc (is := [4]) (g := gName 4) [("number", 4)] (by exact SC.nd) (by exact blkOk_by (N := ["value", "least", "most", "high", "number"]) (sc := defScope s_are_integers) (by decide +kernel)) (by exact di_it (by exact de_var 0)) (fun _ _ _ _ _ => (by exact dg_name 4 (by exact SC.nd))) (fun _ _ _ _ _ => (by exact dcl (by exact T.h_is_between) (by exact (ok_is_between T)) (by exact hr) (by exact passL) (by exact da_cons (by exact de_var 4) (by exact da_cons de_int (by exact da_cons (by exact de_var 3) da_nil)))))) da_nil)))))
theorem sc_is_weights : FnScope ["value"] ["value"] (defScope s_is_weights) := ⟨rfl, rfl, rfl, by decide +kernel, rfl, by decide +kernel, by decide +kernel⟩
def b_is_weights : FS := (fRet (fAnd (fCall f_are_integers (fCons (fV 0) (fCons (fC (.int 1)) (fCons (fC (.int 8)) (fCons (fC (.int 1000)) fNil))))) (fOp2 gGt (fCB gSum (fCons (fV 0) fNil)) (fC (.int 0)))))
def f_is_weights : List D → R Vl := runF 1 1 b_is_weights
theorem ok_is_weights (T : Top K mg) : Keeps P w K mg base 3 "is_weights" s_is_weights ["value"] (spF K mg f_is_weights) := fun f fd F =>
  have SC := sc_is_weights
  fn_ok (N := ["value"]) (ps := ["value"]) (k := 2) (body := b_is_weights) F sc_is_weights fun cdv A outer s H E hr => (by exact dss_one (by exact ds_ret (by exact by exact de_and (by exact dcl (by exact T.h_are_integers) (by exact (ok_are_integers T)) (by exact hr) (by exact passes_call (takes_of rfl rfl rfl rfl) (fun _ _ _ _ h => h)) (by exact da_cons (by exact de_var 0) (by exact da_cons de_int (by exact da_cons (by exact dgl (by exact T.c_MOST_JUDGES)) (by exact da_cons (by exact dgl (by exact T.c_MOST_WEIGHT)) da_nil))))) (by exact de_one (by exact e_gt (by exact b_sum (by exact T.z_sum) (by exact da_cons (by exact de_var 0) da_nil)) de_int)))))
theorem sc_need_weights : FnScope ["weights"] ["weights"] (defScope s_need_weights) := ⟨rfl, rfl, rfl, by decide +kernel, rfl, by decide +kernel, by decide +kernel⟩
def b_need_weights : FS := (fIfS (fNot (fCall f_is_weights (fCons (fV 0) fNil))) (fErr "InvalidWeights") fNext)
def f_need_weights : List D → R Vl := runF 1 1 b_need_weights
theorem ok_need_weights (T : Top K mg) : Keeps P w K mg base 4 "need_weights" s_need_weights ["weights"] (spF K mg f_need_weights) := fun f fd F =>
  have SC := sc_need_weights
  fn_ok (N := ["weights"]) (ps := ["weights"]) (k := 3) (body := b_need_weights) F sc_need_weights fun cdv A outer s H E hr => (by exact dss_one (by exact ds_if (by exact dt_not (by exact dt_val (by exact dcl (by exact T.h_is_weights) (by exact (ok_is_weights T)) (by exact hr) (by exact passes_call (takes_of rfl rfl rfl rfl) (fun _ _ _ _ h => h)) (by exact da_cons (by exact de_var 0) da_nil)))) (by exact dss_one (by exact ds_raise T.x_InvalidWeights (by exact takes_of rfl rfl rfl rfl))) dss_nil))
theorem sc_need_pair : FnScope ["weights", "other"] ["weights", "other"] (defScope s_need_pair) := ⟨rfl, rfl, rfl, by decide +kernel, rfl, by decide +kernel, by decide +kernel⟩
def b_need_pair : FS := (fIfS (fOp2 gNe (fCB gLen (fCons (fV 0) fNil)) (fCB gLen (fCons (fV 1) fNil))) (fErr "InvalidPair") fNext)
def f_need_pair : List D → R Vl := runF 2 2 b_need_pair
theorem ok_need_pair (T : Top K mg) : Keeps P w K mg base 1 "need_pair" s_need_pair ["weights", "other"] (spF K mg f_need_pair) := fun f fd F =>
  have SC := sc_need_pair
  fn_ok (N := ["weights", "other"]) (ps := ["weights", "other"]) (k := 0) (body := b_need_pair) F sc_need_pair fun cdv A outer s H E hr => (by exact dss_one (by exact ds_if (by exact t_ne (by exact hr) (by exact b_len (by exact T.z_len) (by exact da_cons (by exact de_var 0) da_nil)) (by exact b_len (by exact T.z_len) (by exact da_cons (by exact de_var 1) da_nil))) (by exact dss_one (by exact ds_raise T.x_InvalidPair (by exact takes_of rfl rfl rfl rfl))) dss_nil))
theorem sc_need_both : FnScope ["weights", "other"] ["weights", "other"] (defScope s_need_both) := ⟨rfl, rfl, rfl, by decide +kernel, rfl, by decide +kernel, by decide +kernel⟩
def b_need_both : FS := (fSeq (fExpr (fCall f_need_weights (fCons (fV 0) fNil)))
  (fSeq (fExpr (fCall f_need_weights (fCons (fV 1) fNil)))
  (fExpr (fCall f_need_pair (fCons (fV 0) (fCons (fV 1) fNil))))))
def f_need_both : List D → R Vl := runF 2 2 b_need_both
theorem ok_need_both (T : Top K mg) : Keeps P w K mg base 5 "need_both" s_need_both ["weights", "other"] (spF K mg f_need_both) := fun f fd F =>
  have SC := sc_need_both
  fn_ok (N := ["weights", "other"]) (ps := ["weights", "other"]) (k := 4) (body := b_need_both) F sc_need_both fun cdv A outer s H E hr => (by exact dss_cons (by exact ds_expr (by exact dcl (by exact T.h_need_weights) (by exact (ok_need_weights T)) (by exact hr) (by exact passes_call (takes_of rfl rfl rfl rfl) (fun _ _ _ _ h => h)) (by exact da_cons (by exact de_var 0) da_nil))) (by exact dss_cons (by exact ds_expr (by exact dcl (by exact T.h_need_weights) (by exact (ok_need_weights T)) (by exact hr) (by exact passes_call (takes_of rfl rfl rfl rfl) (fun _ _ _ _ h => h)) (by exact da_cons (by exact de_var 1) da_nil))) (by exact dss_one (by exact ds_expr (by exact dcl (by exact T.h_need_pair) (by exact (ok_need_pair T)) (by exact hr) (by exact passes_call (takes_of rfl rfl rfl rfl) (fun _ _ _ _ h => h)) (by exact da_cons (by exact de_var 0) (by exact da_cons (by exact de_var 1) da_nil)))))))
theorem sc_divisor : FnScope ["one", "other", "first", "second"] ["one", "other"] (defScope s_divisor) := ⟨rfl, rfl, rfl, by decide +kernel, rfl, by decide +kernel, by decide +kernel⟩
def b_divisor : FS := (fSeq (fPar [2, 3] (fCons (fV 0) (fCons (fV 1) fNil)))
  (fSeq (fWhile (fuelI 3) (fOp2 gGt (fV 3) (fC (.int 0))) (fPar [2, 3] (fCons (fV 3) (fCons (fOp2 gMod (fV 2) (fV 3)) fNil))))
  (fRet (fV 2))))
def f_divisor : List D → R Vl := runF 2 4 b_divisor
theorem ok_divisor (T : Top K mg) : Keeps P w K mg base 1 "divisor" s_divisor ["one", "other"] (spF K mg f_divisor) := fun f fd F =>
  have SC := sc_divisor
  fn_ok (N := ["one", "other", "first", "second"]) (ps := ["one", "other"]) (k := 0) (body := b_divisor) F sc_divisor fun cdv A outer s H E hr => (by exact dss_cons (by exact ds_par 2 3 (by exact SC.nd) (by exact da_cons (by exact de_var 0) (by exact da_cons (by exact de_var 1) da_nil))) (by exact dss_cons (by exact ds_while (fuelI 3) (by exact (passes_of rfl)) (by exact t_gt (by exact de_var 3) de_int) (by exact dss_one (by exact ds_par 2 3 (by exact SC.nd) (by exact da_cons (by exact de_var 3) (by exact da_cons (by exact o_mod (by exact de_var 2) (by exact de_var 3)) da_nil))))) (by exact dss_one (by exact ds_ret (by exact de_var 2)))))
theorem sc_reduced : FnScope ["weights", "common", "weight"] ["weights"] (defScope s_reduced) := ⟨rfl, rfl, rfl, by decide +kernel, rfl, by decide +kernel, by decide +kernel⟩
def l1_reduced : FS := (fSet 1 (fCall f_divisor (fCons (fV 2) (fCons (fV 1) fNil))))
def b_reduced : FS := (fSeq (fSet 1 (fC (.int 0)))
  (fSeq (fFor (fIt (fV 0)) (tgName 2) l1_reduced)
  (fRet (fCB gTuple (fCons (fLc (fIt (fV 0)) (tgName 2) (nE fYes) (nE (fOp2 gFdiv (fV 2) (fV 1))) [2]) fNil)))))
def f_reduced : List D → R Vl := runF 1 3 b_reduced
theorem ok_reduced (T : Top K mg) : Keeps P w K mg base 2 "reduced" s_reduced ["weights"] (spF K mg f_reduced) := fun f fd F =>
  have SC := sc_reduced
  fn_ok (N := ["weights", "common", "weight"]) (ps := ["weights"]) (k := 1) (body := b_reduced) F sc_reduced fun cdv A outer s H E hr => (by exact dss_cons (by exact ds_set 1 (by exact SC.nd) de_int) (by exact dss_cons (by exact ds_for (f := l1_reduced) (by exact (passes_of rfl)) (by exact di_it (by exact de_var 0)) (by exact dg_name 2 (by exact SC.nd)) (by exact dss_one (by exact ds_set 1 (by exact SC.nd) (by exact dcl (by exact T.h_divisor) (by exact (ok_divisor T)) (by exact hr) (by exact passes_call (takes_of rfl rfl rfl rfl) (fun _ _ _ _ h => h)) (by exact da_cons (by exact de_var 2) (by exact da_cons (by exact de_var 1) da_nil)))))) (by exact dss_one (by exact ds_ret (by exact b_tuple (by exact T.z_tuple) (by exact da_cons (by exact de_lc (is := [2]) (g := gName 2) [("weight", 2)] (by exact SC.nd) (by exact blkOk_by (N := ["weights", "common", "weight"]) (sc := defScope s_reduced) (by decide +kernel)) (by exact di_it (by exact de_var 0)) (fun _ _ _ _ _ => (by exact dg_name 2 (by exact SC.nd))) (fun _ _ _ _ _ => (by exact o_fdiv (by exact de_var 2) (by exact de_var 1)))) da_nil))))))
theorem sc_mixed_of : FnScope ["weights", "other", "one", "two", "first", "second"] ["weights", "other"] (defScope s_mixed_of) := ⟨rfl, rfl, rfl, by decide +kernel, rfl, by decide +kernel, by decide +kernel⟩
def b_mixed_of : FS := (fSeq (fPar [2, 3] (fCons (fCB gSum (fCons (fV 0) fNil)) (fCons (fCB gSum (fCons (fV 1) fNil)) fNil)))
  (fRet (fCall f_reduced (fCons (fLc (fZp (fCons (fV 0) (fCons (fV 1) fNil))) (tgTup [4, 5]) (nE fYes) (nE (fOp2 gAdd (fOp2 gMu (fV 4) (fV 3)) (fOp2 gMu (fV 5) (fV 2)))) [4, 5]) fNil))))
def f_mixed_of : List D → R Vl := runF 2 6 b_mixed_of
theorem ok_mixed_of (T : Top K mg) : Keeps P w K mg base 3 "mixed_of" s_mixed_of ["weights", "other"] (spF K mg f_mixed_of) := fun f fd F =>
  have SC := sc_mixed_of
  fn_ok (N := ["weights", "other", "one", "two", "first", "second"]) (ps := ["weights", "other"]) (k := 2) (body := b_mixed_of) F sc_mixed_of fun cdv A outer s H E hr => (by exact dss_cons (by exact ds_parT [2, 3] (by exact da_cons (by exact b_sum (by exact T.z_sum) (by exact da_cons (by exact de_var 0) da_nil)) (by exact da_cons (by exact b_sum (by exact T.z_sum) (by exact da_cons (by exact de_var 1) da_nil)) da_nil)) (by exact (DG.pg (dg_tup [2, 3] (by exact pgts_cons 2 (by exact SC.nd) (by exact pgts_cons 3 (by exact SC.nd) pgts_nil)))))) (by exact dss_one (by exact ds_ret (by exact dcl (by exact T.h_reduced) (by exact (ok_reduced T)) (by exact hr) (by exact passes_call (takes_of rfl rfl rfl rfl) (fun _ _ _ _ h => h)) (by exact da_cons (by exact de_lc (is := [4, 5]) (g := gTup K 2 (gTs [4, 5])) [("first", 4), ("second", 5)] (by exact SC.nd) (by exact blkOk_by (N := ["weights", "other", "one", "two", "first", "second"]) (sc := defScope s_mixed_of) (by decide +kernel)) (by exact di_zip (by exact T.z_zip) (by exact da_cons (by exact de_var 0) (by exact da_cons (by exact de_var 1) da_nil))) (fun _ _ _ _ _ => (by exact dg_tup [4, 5] (by exact pgts_cons 4 (by exact SC.nd) (by exact pgts_cons 5 (by exact SC.nd) pgts_nil)))) (fun _ _ _ _ _ => (by exact o_add (by exact o_mul (by exact de_var 4) (by exact de_var 3)) (by exact o_mul (by exact de_var 5) (by exact de_var 2))))) da_nil)))))
theorem sc_mixed : FnScope ["weights", "other"] ["weights", "other"] (defScope s_mixed) := ⟨rfl, rfl, rfl, by decide +kernel, rfl, by decide +kernel, by decide +kernel⟩
def b_mixed : FS := (fSeq (fExpr (fCall f_need_both (fCons (fV 0) (fCons (fV 1) fNil))))
  (fRet (fCall f_mixed_of (fCons (fV 0) (fCons (fV 1) fNil)))))
def f_mixed : List D → R Vl := runF 2 2 b_mixed
theorem ok_mixed (T : Top K mg) : Keeps P w K mg base 6 "mixed" s_mixed ["weights", "other"] (spF K mg f_mixed) := fun f fd F =>
  have SC := sc_mixed
  fn_ok (N := ["weights", "other"]) (ps := ["weights", "other"]) (k := 5) (body := b_mixed) F sc_mixed fun cdv A outer s H E hr => (by exact dss_cons (by exact ds_expr (by exact dcl (by exact T.h_need_both) (by exact (ok_need_both T)) (by exact hr) (by exact passes_call (takes_of rfl rfl rfl rfl) (fun _ _ _ _ h => h)) (by exact da_cons (by exact de_var 0) (by exact da_cons (by exact de_var 1) da_nil)))) (by exact dss_one (by exact ds_ret (by exact dcl (by exact T.h_mixed_of) (by exact (ok_mixed_of T)) (by exact hr) (by exact passes_call (takes_of rfl rfl rfl rfl) (fun _ _ _ _ h => h)) (by exact da_cons (by exact de_var 0) (by exact da_cons (by exact de_var 1) da_nil))))))
theorem sc_law_name : FnScope ["call", "name"] ["call"] (defScope s_law_name) := ⟨rfl, rfl, rfl, by decide +kernel, rfl, by decide +kernel, by decide +kernel⟩
theorem sc_law_choice : FnScope ["source", "items"] ["source", "items"] (defScope s_law_choice) := ⟨rfl, rfl, rfl, by decide +kernel, rfl, by decide +kernel, by decide +kernel⟩
def b_law_choice : FS := (fRet (fOp2 gIx (fV 1) (fCallS g_law_draw (fCons (fV 0) (fCons (fCB gLen (fCons (fV 1) fNil)) fNil)))))
def g_law_choice : List D → List D → R (Vl × List D) := runG 2 2 b_law_choice
theorem ok_law_choice (T : Top K mg) : Keeps P w K mg base 2 "_law_choice" s_law_choice ["source", "items"] (spG K mg g_law_choice) := fun f fd F =>
  have SC := sc_law_choice
  fn_okG (N := ["source", "items"]) (ps := ["source", "items"]) (k := 1) (body := b_law_choice) F sc_law_choice (by decide) fun cdv A outer s H E hr => (by exact dss_one (by exact ds_ret (by exact o_ix (by exact de_var 1) (by exact dclS (by exact T.h_law_draw) (by exact (ok_law_draw T)) (by exact hr) (by exact passes_call (takes_of rfl rfl rfl rfl) (fun _ _ _ _ h => h)) (by exact da_cons (by exact de_var 0) (by exact da_cons (by exact b_len (by exact T.z_len) (by exact da_cons (by exact de_var 1) da_nil)) da_nil))))))
theorem sc_law_weights : FnScope ["source", "count", "high", "found", "way", "turn"] ["source", "count"] (defScope s_law_weights) := ⟨rfl, rfl, rfl, by decide +kernel, rfl, by decide +kernel, by decide +kernel⟩
def b_law_weights : FS := (fSeq (fSet 2 (fCallS g_law_choice (fCons (fV 0) (fCons (fLst (fCons (fC (.int 1)) (fCons (fC (.int 2)) (fCons (fC (.int 5)) (fCons (fC (.int 1000)) fNil))))) fNil))))
  (fSeq (fSet 3 (fLc (fRng (fCons (fV 1) fNil)) (tgName 5) (nE fYes) (nE (fCallS g_law_draw (fCons (fV 0) (fCons (fOp2 gAdd (fV 2) (fC (.int 1))) fNil)))) [5]))
  (fSeq (fSet 4 (fCallS g_law_draw (fCons (fV 0) (fCons (fC (.int 5)) fNil))))
  (fSeq (fIfS (fOp2 gEq (fV 4) (fC (.int 0))) (fSet 3 (fCB gSorted (fCons (fV 3) fNil))) (fIfS (fOp2 gEq (fV 4) (fC (.int 1))) (fSet 3 (fOp1 gRev (fCB gSorted (fCons (fV 3) fNil)))) fNext))
  (fSeq (fIfS (fOp2 gEq (fCB gSum (fCons (fV 3) fNil)) (fC (.int 0))) (fSetS 3 (fOp2 gAdd (fC (.int 1)) (fCallS g_law_draw (fCons (fV 0) (fCons (fV 2) fNil)))) (fCallS g_law_draw (fCons (fV 0) (fCons (fV 1) fNil)))) fNext)
  (fRet (fCB gTuple (fCons (fV 3) fNil))))))))
def g_law_weights : List D → List D → R (Vl × List D) := runG 2 6 b_law_weights
theorem ok_law_weights (T : Top K mg) : Keeps P w K mg base 3 "_law_weights" s_law_weights ["source", "count"] (spG K mg g_law_weights) := fun f fd F =>
  have SC := sc_law_weights
  fn_okG (N := ["source", "count", "high", "found", "way", "turn"]) (ps := ["source", "count"]) (k := 2) (body := b_law_weights) F sc_law_weights (by decide) fun cdv A outer s H E hr => (by exact dss_cons (by exact ds_set 2 (by exact SC.nd) (by exact dclS (by exact T.h_law_choice) (by exact (ok_law_choice T)) (by exact hr) (by exact passes_call (takes_of rfl rfl rfl rfl) (fun _ _ _ _ h => h)) (by exact da_cons (by exact de_var 0) (by exact da_cons (by exact de_lst (n := 4) (by exact da_cons de_int (by exact da_cons de_int (by exact da_cons de_int (by exact da_cons de_int da_nil))))) da_nil)))) (by exact dss_cons (by exact ds_setLc (i' := 3) (is := [5]) (g := gName 5) [("turn", 5)] (by exact SC.nd) (by exact blkOk_by (N := ["source", "count", "high", "found", "way", "turn"]) (sc := defScope s_law_weights) (by decide +kernel)) (by exact di_rng1 (by exact T.z_range) (by exact da_cons (by exact de_var 1) da_nil)) (fun _ _ _ _ _ => (by exact dg_name 5 (by exact SC.nd))) (fun _ _ _ _ _ => (by exact dclS (by exact T.h_law_draw) (by exact (ok_law_draw T)) (by exact hr) (by exact passL) (by exact da_cons (by exact de_var 0) (by exact da_cons (by exact o_add (by exact de_var 2) de_int) da_nil))))) (by exact dss_cons (by exact ds_set 4 (by exact SC.nd) (by exact dclS (by exact T.h_law_draw) (by exact (ok_law_draw T)) (by exact hr) (by exact passes_call (takes_of rfl rfl rfl rfl) (fun _ _ _ _ h => h)) (by exact da_cons (by exact de_var 0) (by exact da_cons de_int da_nil)))) (by exact dss_cons (by exact ds_if (by exact t_eq (by exact hr) (by exact de_var 4) de_int) (by exact dss_one (by exact ds_set 3 (by exact SC.nd) (by exact b_sorted (by exact T.z_sorted) (by exact da_cons (by exact de_var 3) da_nil)))) (by exact dss_one (by exact ds_if (by exact t_eq (by exact hr) (by exact de_var 4) de_int) (by exact dss_one (by exact ds_set 3 (by exact SC.nd) (by exact de_rev (by exact b_sorted (by exact T.z_sorted) (by exact da_cons (by exact de_var 3) da_nil))))) dss_nil))) (by exact dss_cons (by exact ds_if (by exact t_eq (by exact hr) (by exact b_sum (by exact T.z_sum) (by exact da_cons (by exact de_var 3) da_nil)) de_int) (by exact dss_one (by exact ds_setIx 3 (by exact o_add de_int (by exact dclS (by exact T.h_law_draw) (by exact (ok_law_draw T)) (by exact hr) (by exact passes_call (takes_of rfl rfl rfl rfl) (fun _ _ _ _ h => h)) (by exact da_cons (by exact de_var 0) (by exact da_cons (by exact de_var 2) da_nil)))) (by exact dclS (by exact T.h_law_draw) (by exact (ok_law_draw T)) (by exact hr) (by exact passes_call (takes_of rfl rfl rfl rfl) (fun _ _ _ _ h => h)) (by exact da_cons (by exact de_var 0) (by exact da_cons (by exact de_var 1) da_nil))))) dss_nil) (by exact dss_one (by exact ds_ret (by exact b_tuple (by exact T.z_tuple) (by exact da_cons (by exact de_var 3) da_nil)))))))))
theorem sc_Panel___init__ : FnScope ["self", "weights"] ["self", "weights"] (defScope s_Panel___init__) := ⟨rfl, rfl, rfl, by decide +kernel, rfl, by decide +kernel, by decide +kernel⟩
def i_Panel : List D → R (List D) := initF f_need_weights f_reduced
theorem ok_Panel___init__ (T : Top K mg) : KeepsN P w K mg base 5 "Panel" "Panel.__init__" "parts" s_Panel___init__ i_Panel := fun C f fd hC na F =>
  have SC := sc_Panel___init__
  fn_initC (pv := "weights") (k := 4) F SC hC na (fun kV doc pm an cdv ct us rest hl => StX.bind_star1 (B := fun l => bindArgs (PySem.W.fnOf "__init__" "Panel.__init__" (defArgs s_Panel___init__) (defBody s_Panel___init__) (defScope s_Panel___init__) .none kV doc pm an cdv ct) ⟨l, []⟩) (fun a => rfl) (fun a r rs => rfl) us rest hl) fun cdv A outer s H E hr => by
    unfold tInit
    exact pss_cons (ps_expr ((dcl T.h_need_weights (ok_need_weights T) hr (by exact passes_call (takes_of rfl rfl rfl rfl) (fun _ _ _ _ h => h)) (da_cons (de_var 1) da_nil)) (fun _ => none)) rfl) (pss_one (ps_fld (pe_var (i := 0) rfl (.inl rfl)) ((dcl T.h_reduced (ok_reduced T) hr (by exact passes_call (takes_of rfl rfl rfl rfl) (fun _ _ _ _ h => h)) (da_cons (de_var 1) da_nil)) (fun _ => none)) rfl))
theorem sc_law_panel : FnScope ["weights", "w"] ["weights"] (defScope s_law_panel) := ⟨rfl, rfl, rfl, by decide +kernel, rfl, by decide +kernel, by decide +kernel⟩
def b_law_panel : FS := (fSeq (fSet 1 (fOp2 gAdd (fCB gTuple (fCons (fV 0) fNil)) (fOp2 gMu (fTup (fCons (fC (.int 0)) fNil)) (fC (.int 8)))))
  (fSeq (fIfS (fOp2 gEq (fCB gLen (fCons (fV 0) fNil)) (fC (.int 1))) (fRet (fMkI "Panel" ["parts"] i_Panel (fCons (fOp2 gIx (fV 1) (fC (.int 0))) fNil))) fNext)
  (fSeq (fIfS (fOp2 gEq (fCB gLen (fCons (fV 0) fNil)) (fC (.int 2))) (fRet (fMkI "Panel" ["parts"] i_Panel (fCons (fOp2 gIx (fV 1) (fC (.int 0))) (fCons (fOp2 gIx (fV 1) (fC (.int 1))) fNil)))) fNext)
  (fSeq (fIfS (fOp2 gEq (fCB gLen (fCons (fV 0) fNil)) (fC (.int 3))) (fRet (fMkI "Panel" ["parts"] i_Panel (fCons (fOp2 gIx (fV 1) (fC (.int 0))) (fCons (fOp2 gIx (fV 1) (fC (.int 1))) (fCons (fOp2 gIx (fV 1) (fC (.int 2))) fNil))))) fNext)
  (fSeq (fIfS (fOp2 gEq (fCB gLen (fCons (fV 0) fNil)) (fC (.int 4))) (fRet (fMkI "Panel" ["parts"] i_Panel (fCons (fOp2 gIx (fV 1) (fC (.int 0))) (fCons (fOp2 gIx (fV 1) (fC (.int 1))) (fCons (fOp2 gIx (fV 1) (fC (.int 2))) (fCons (fOp2 gIx (fV 1) (fC (.int 3))) fNil)))))) fNext)
  (fSeq (fIfS (fOp2 gEq (fCB gLen (fCons (fV 0) fNil)) (fC (.int 5))) (fRet (fMkI "Panel" ["parts"] i_Panel (fCons (fOp2 gIx (fV 1) (fC (.int 0))) (fCons (fOp2 gIx (fV 1) (fC (.int 1))) (fCons (fOp2 gIx (fV 1) (fC (.int 2))) (fCons (fOp2 gIx (fV 1) (fC (.int 3))) (fCons (fOp2 gIx (fV 1) (fC (.int 4))) fNil))))))) fNext)
  (fSeq (fIfS (fOp2 gEq (fCB gLen (fCons (fV 0) fNil)) (fC (.int 6))) (fRet (fMkI "Panel" ["parts"] i_Panel (fCons (fOp2 gIx (fV 1) (fC (.int 0))) (fCons (fOp2 gIx (fV 1) (fC (.int 1))) (fCons (fOp2 gIx (fV 1) (fC (.int 2))) (fCons (fOp2 gIx (fV 1) (fC (.int 3))) (fCons (fOp2 gIx (fV 1) (fC (.int 4))) (fCons (fOp2 gIx (fV 1) (fC (.int 5))) fNil)))))))) fNext)
  (fSeq (fIfS (fOp2 gEq (fCB gLen (fCons (fV 0) fNil)) (fC (.int 7))) (fRet (fMkI "Panel" ["parts"] i_Panel (fCons (fOp2 gIx (fV 1) (fC (.int 0))) (fCons (fOp2 gIx (fV 1) (fC (.int 1))) (fCons (fOp2 gIx (fV 1) (fC (.int 2))) (fCons (fOp2 gIx (fV 1) (fC (.int 3))) (fCons (fOp2 gIx (fV 1) (fC (.int 4))) (fCons (fOp2 gIx (fV 1) (fC (.int 5))) (fCons (fOp2 gIx (fV 1) (fC (.int 6))) fNil))))))))) fNext)
  (fRet (fMkI "Panel" ["parts"] i_Panel (fCons (fOp2 gIx (fV 1) (fC (.int 0))) (fCons (fOp2 gIx (fV 1) (fC (.int 1))) (fCons (fOp2 gIx (fV 1) (fC (.int 2))) (fCons (fOp2 gIx (fV 1) (fC (.int 3))) (fCons (fOp2 gIx (fV 1) (fC (.int 4))) (fCons (fOp2 gIx (fV 1) (fC (.int 5))) (fCons (fOp2 gIx (fV 1) (fC (.int 6))) (fCons (fOp2 gIx (fV 1) (fC (.int 7))) fNil))))))))))))))))))
def f_law_panel : List D → R Vl := runF 1 2 b_law_panel
theorem ok_law_panel (T : Top K mg) : Keeps P w K mg base 7 "_law_panel" s_law_panel ["weights"] (spF K mg f_law_panel) := fun f fd F =>
  have SC := sc_law_panel
  fn_ok (N := ["weights", "w"]) (ps := ["weights"]) (k := 6) (body := b_law_panel) F sc_law_panel fun cdv A outer s H E hr => (by exact dss_cons (by exact ds_set 1 (by exact SC.nd) (by exact o_add (by exact b_tuple (by exact T.z_tuple) (by exact da_cons (by exact de_var 0) da_nil)) (by exact o_mul (by exact de_tup (n := 1) (by exact da_cons de_int da_nil)) de_int))) (by exact dss_cons (by exact ds_if (by exact t_eq (by exact hr) (by exact b_len (by exact T.z_len) (by exact da_cons (by exact de_var 0) da_nil)) de_int) (by exact dss_one (by exact ds_ret (by exact dm_mk (by exact T.h_Panel___init__) (by exact (ok_Panel___init__ T)) (by exact hr) (by exact passes_call (takes_of rfl rfl rfl rfl) (fun _ _ _ _ h => h)) (by exact da_cons (by exact o_ix (by exact de_var 1) de_int) da_nil)))) dss_nil) (by exact dss_cons (by exact ds_if (by exact t_eq (by exact hr) (by exact b_len (by exact T.z_len) (by exact da_cons (by exact de_var 0) da_nil)) de_int) (by exact dss_one (by exact ds_ret (by exact dm_mk (by exact T.h_Panel___init__) (by exact (ok_Panel___init__ T)) (by exact hr) (by exact passes_call (takes_of rfl rfl rfl rfl) (fun _ _ _ _ h => h)) (by exact da_cons (by exact o_ix (by exact de_var 1) de_int) (by exact da_cons (by exact o_ix (by exact de_var 1) de_int) da_nil))))) dss_nil) (by exact dss_cons (by exact ds_if (by exact t_eq (by exact hr) (by exact b_len (by exact T.z_len) (by exact da_cons (by exact de_var 0) da_nil)) de_int) (by exact dss_one (by exact ds_ret (by exact dm_mk (by exact T.h_Panel___init__) (by exact (ok_Panel___init__ T)) (by exact hr) (by exact passes_call (takes_of rfl rfl rfl rfl) (fun _ _ _ _ h => h)) (by exact da_cons (by exact o_ix (by exact de_var 1) de_int) (by exact da_cons (by exact o_ix (by exact de_var 1) de_int) (by exact da_cons (by exact o_ix (by exact de_var 1) de_int) da_nil)))))) dss_nil) (by exact dss_cons (by exact ds_if (by exact t_eq (by exact hr) (by exact b_len (by exact T.z_len) (by exact da_cons (by exact de_var 0) da_nil)) de_int) (by exact dss_one (by exact ds_ret (by exact dm_mk (by exact T.h_Panel___init__) (by exact (ok_Panel___init__ T)) (by exact hr) (by exact passes_call (takes_of rfl rfl rfl rfl) (fun _ _ _ _ h => h)) (by exact da_cons (by exact o_ix (by exact de_var 1) de_int) (by exact da_cons (by exact o_ix (by exact de_var 1) de_int) (by exact da_cons (by exact o_ix (by exact de_var 1) de_int) (by exact da_cons (by exact o_ix (by exact de_var 1) de_int) da_nil))))))) dss_nil) (by exact dss_cons (by exact ds_if (by exact t_eq (by exact hr) (by exact b_len (by exact T.z_len) (by exact da_cons (by exact de_var 0) da_nil)) de_int) (by exact dss_one (by exact ds_ret (by exact dm_mk (by exact T.h_Panel___init__) (by exact (ok_Panel___init__ T)) (by exact hr) (by exact passes_call (takes_of rfl rfl rfl rfl) (fun _ _ _ _ h => h)) (by exact da_cons (by exact o_ix (by exact de_var 1) de_int) (by exact da_cons (by exact o_ix (by exact de_var 1) de_int) (by exact da_cons (by exact o_ix (by exact de_var 1) de_int) (by exact da_cons (by exact o_ix (by exact de_var 1) de_int) (by exact da_cons (by exact o_ix (by exact de_var 1) de_int) da_nil)))))))) dss_nil) (by exact dss_cons (by exact ds_if (by exact t_eq (by exact hr) (by exact b_len (by exact T.z_len) (by exact da_cons (by exact de_var 0) da_nil)) de_int) (by exact dss_one (by exact ds_ret (by exact dm_mk (by exact T.h_Panel___init__) (by exact (ok_Panel___init__ T)) (by exact hr) (by exact passes_call (takes_of rfl rfl rfl rfl) (fun _ _ _ _ h => h)) (by exact da_cons (by exact o_ix (by exact de_var 1) de_int) (by exact da_cons (by exact o_ix (by exact de_var 1) de_int) (by exact da_cons (by exact o_ix (by exact de_var 1) de_int) (by exact da_cons (by exact o_ix (by exact de_var 1) de_int) (by exact da_cons (by exact o_ix (by exact de_var 1) de_int) (by exact da_cons (by exact o_ix (by exact de_var 1) de_int) da_nil))))))))) dss_nil) (by exact dss_cons (by exact ds_if (by exact t_eq (by exact hr) (by exact b_len (by exact T.z_len) (by exact da_cons (by exact de_var 0) da_nil)) de_int) (by exact dss_one (by exact ds_ret (by exact dm_mk (by exact T.h_Panel___init__) (by exact (ok_Panel___init__ T)) (by exact hr) (by exact passes_call (takes_of rfl rfl rfl rfl) (fun _ _ _ _ h => h)) (by exact da_cons (by exact o_ix (by exact de_var 1) de_int) (by exact da_cons (by exact o_ix (by exact de_var 1) de_int) (by exact da_cons (by exact o_ix (by exact de_var 1) de_int) (by exact da_cons (by exact o_ix (by exact de_var 1) de_int) (by exact da_cons (by exact o_ix (by exact de_var 1) de_int) (by exact da_cons (by exact o_ix (by exact de_var 1) de_int) (by exact da_cons (by exact o_ix (by exact de_var 1) de_int) da_nil)))))))))) dss_nil) (by exact dss_one (by exact ds_ret (by exact dm_mk (by exact T.h_Panel___init__) (by exact (ok_Panel___init__ T)) (by exact hr) (by exact passes_call (takes_of rfl rfl rfl rfl) (fun _ _ _ _ h => h)) (by exact da_cons (by exact o_ix (by exact de_var 1) de_int) (by exact da_cons (by exact o_ix (by exact de_var 1) de_int) (by exact da_cons (by exact o_ix (by exact de_var 1) de_int) (by exact da_cons (by exact o_ix (by exact de_var 1) de_int) (by exact da_cons (by exact o_ix (by exact de_var 1) de_int) (by exact da_cons (by exact o_ix (by exact de_var 1) de_int) (by exact da_cons (by exact o_ix (by exact de_var 1) de_int) (by exact da_cons (by exact o_ix (by exact de_var 1) de_int) da_nil)))))))))))))))))))
theorem sc_law_reduced : FnScope ["weights", "part", "weight"] ["weights"] (defScope s_law_reduced) := ⟨rfl, rfl, rfl, by decide +kernel, rfl, by decide +kernel, by decide +kernel⟩
def l1_law_reduced : FS := (fIfS (fOp2 gEq (fLc (fIt (fV 0)) (tgName 2) (nE (fOp2 gNe (fOp2 gMod (fV 2) (fV 1)) (fC (.int 0)))) (nE (fV 2)) [2]) (fLst fNil)) (fRet (fCB gTuple (fCons (fLc (fIt (fV 0)) (tgName 2) (nE fYes) (nE (fOp2 gFdiv (fV 2) (fV 1))) [2]) fNil))) fNext)
def b_law_reduced : FS := (fSeq (fFor (fRngM (fCons (fCB gMax (fCons (fV 0) fNil)) (fCons (fC (.int 1)) (fCons (fOp1 gNeg (fC (.int 1))) fNil)))) (tgName 1) l1_law_reduced)
  (fRet (fCB gTuple (fCons (fV 0) fNil))))
def f_law_reduced : List D → R Vl := runF 1 3 b_law_reduced
theorem ok_law_reduced (T : Top K mg) : Keeps P w K mg base 1 "_law_reduced" s_law_reduced ["weights"] (spF K mg f_law_reduced) := fun f fd F =>
  have SC := sc_law_reduced
  fn_ok (N := ["weights", "part", "weight"]) (ps := ["weights"]) (k := 0) (body := b_law_reduced) F sc_law_reduced fun cdv A outer s H E hr => (by exact dss_cons (by exact ds_for (f := l1_law_reduced) (by exact (passes_of rfl)) (by exact di_rngM (by exact T.z_range) (by exact da_cons (by exact b_max (by exact hr) (by exact T.z_max) (by exact da_cons (by exact de_var 0) da_nil)) (by exact da_cons de_int (by exact da_cons (by exact o_neg de_int) da_nil)))) (by exact dg_name 1 (by exact SC.nd)) (by exact dss_one (by exact ds_if (by exact t_eq (by exact hr) (by exact de_lcIf (is := [2]) (g := gName 2) [("weight", 2)] (by exact SC.nd) (by exact blkOk_by (N := ["weights", "part", "weight"]) (sc := defScope s_law_reduced) (by decide +kernel)) (by exact di_it (by exact de_var 0)) (fun _ _ _ _ _ => (by exact dg_name 2 (by exact SC.nd))) (fun _ _ _ _ _ => (by exact t_ne (by exact hr) (by exact o_mod (by exact de_var 2) (by exact de_var 1)) de_int)) (fun _ _ _ _ _ => (by exact de_var 2))) (by exact de_lst (n := 0) da_nil)) (by exact dss_one (by exact ds_ret (by exact b_tuple (by exact T.z_tuple) (by exact da_cons (by exact de_lc (is := [2]) (g := gName 2) [("weight", 2)] (by exact SC.nd) (by exact blkOk_by (N := ["weights", "part", "weight"]) (sc := defScope s_law_reduced) (by decide +kernel)) (by exact di_it (by exact de_var 0)) (fun _ _ _ _ _ => (by exact dg_name 2 (by exact SC.nd))) (fun _ _ _ _ _ => (by exact o_fdiv (by exact de_var 2) (by exact de_var 1)))) da_nil)))) dss_nil))) (by exact dss_one (by exact ds_ret (by exact b_tuple (by exact T.z_tuple) (by exact da_cons (by exact de_var 0) da_nil)))))
theorem sc_law_lowest : FnScope ["top", "bottom", "first", "second"] ["top", "bottom"] (defScope s_law_lowest) := ⟨rfl, rfl, rfl, by decide +kernel, rfl, by decide +kernel, by decide +kernel⟩
def b_law_lowest : FS := (fSeq (fPar [2, 3] (fCons (fV 0) (fCons (fV 1) fNil)))
  (fSeq (fWhile (fuelI 3) (fOp2 gGt (fV 3) (fC (.int 0))) (fPar [2, 3] (fCons (fV 3) (fCons (fOp2 gMod (fV 2) (fV 3)) fNil))))
  (fRet (fTup (fCons (fOp2 gFdiv (fV 0) (fV 2)) (fCons (fOp2 gFdiv (fV 1) (fV 2)) fNil))))))
def f_law_lowest : List D → R Vl := runF 2 4 b_law_lowest
theorem ok_law_lowest (T : Top K mg) : Keeps P w K mg base 1 "_law_lowest" s_law_lowest ["top", "bottom"] (spF K mg f_law_lowest) := fun f fd F =>
  have SC := sc_law_lowest
  fn_ok (N := ["top", "bottom", "first", "second"]) (ps := ["top", "bottom"]) (k := 0) (body := b_law_lowest) F sc_law_lowest fun cdv A outer s H E hr => (by exact dss_cons (by exact ds_par 2 3 (by exact SC.nd) (by exact da_cons (by exact de_var 0) (by exact da_cons (by exact de_var 1) da_nil))) (by exact dss_cons (by exact ds_while (fuelI 3) (by exact (passes_of rfl)) (by exact t_gt (by exact de_var 3) de_int) (by exact dss_one (by exact ds_par 2 3 (by exact SC.nd) (by exact da_cons (by exact de_var 3) (by exact da_cons (by exact o_mod (by exact de_var 2) (by exact de_var 3)) da_nil))))) (by exact dss_one (by exact ds_ret (by exact de_tup (n := 2) (by exact da_cons (by exact o_fdiv (by exact de_var 0) (by exact de_var 2)) (by exact da_cons (by exact o_fdiv (by exact de_var 1) (by exact de_var 2)) da_nil)))))))
theorem sc_law_total : FnScope ["weights", "marks", "left", "total", "weight", "high"] ["weights", "marks"] (defScope s_law_total) := ⟨rfl, rfl, rfl, by decide +kernel, rfl, by decide +kernel, by decide +kernel⟩
def l1_law_total : FS := (fSeq (fSet 5 (fCB gMax (fCons (fV 2) fNil)))
  (fSeq (fRem 2 (fV 5))
  (fSet 3 (fOp2 gAdd (fV 3) (fOp2 gMu (fV 4) (fV 5))))))
def b_law_total : FS := (fSeq (fPar [2, 3] (fCons (fCB gList (fCons (fV 1) fNil)) (fCons (fC (.int 0)) fNil)))
  (fSeq (fFor (fIt (fV 0)) (tgName 4) l1_law_total)
  (fRet (fV 3))))
def f_law_total : List D → R Vl := runF 2 6 b_law_total
theorem ok_law_total (T : Top K mg) : Keeps P w K mg base 3 "_law_total" s_law_total ["weights", "marks"] (spF K mg f_law_total) := fun f fd F =>
  have SC := sc_law_total
  fn_ok (N := ["weights", "marks", "left", "total", "weight", "high"]) (ps := ["weights", "marks"]) (k := 2) (body := b_law_total) F sc_law_total fun cdv A outer s H E hr => (by exact dss_cons (by exact ds_par 2 3 (by exact SC.nd) (by exact da_cons (by exact b_list (by exact T.z_list) (by exact da_cons (by exact de_var 1) da_nil)) (by exact da_cons de_int da_nil))) (by exact dss_cons (by exact ds_for (f := l1_law_total) (by exact (passes_of rfl)) (by exact di_it (by exact de_var 0)) (by exact dg_name 4 (by exact SC.nd)) (by exact dss_cons (by exact ds_set 5 (by exact SC.nd) (by exact b_max (by exact hr) (by exact T.z_max) (by exact da_cons (by exact de_var 2) da_nil))) (by exact dss_cons (by exact ds_rem 2 (by exact de_var 5)) (by exact dss_one (by exact ds_set 3 (by exact SC.nd) (by exact o_add (by exact de_var 3) (by exact o_mul (by exact de_var 4) (by exact de_var 5)))))))) (by exact dss_one (by exact ds_ret (by exact de_var 3)))))
theorem sc_law_score : FnScope ["weights", "marks"] ["weights", "marks"] (defScope s_law_score) := ⟨rfl, rfl, rfl, by decide +kernel, rfl, by decide +kernel, by decide +kernel⟩
def b_law_score : FS := (fRet (fCall f_law_lowest (fCons (fCall f_law_total (fCons (fV 0) (fCons (fV 1) fNil))) (fCons (fCB gSum (fCons (fV 0) fNil)) fNil))))
def f_law_score : List D → R Vl := runF 2 2 b_law_score
theorem ok_law_score (T : Top K mg) : Keeps P w K mg base 4 "_law_score" s_law_score ["weights", "marks"] (spF K mg f_law_score) := fun f fd F =>
  have SC := sc_law_score
  fn_ok (N := ["weights", "marks"]) (ps := ["weights", "marks"]) (k := 3) (body := b_law_score) F sc_law_score fun cdv A outer s H E hr => (by exact dss_one (by exact ds_ret (by exact dcl (by exact T.h_law_lowest) (by exact (ok_law_lowest T)) (by exact hr) (by exact passes_call (takes_of rfl rfl rfl rfl) (fun _ _ _ _ h => h)) (by exact da_cons (by exact dcl (by exact T.h_law_total) (by exact (ok_law_total T)) (by exact hr) (by exact passes_call (takes_of rfl rfl rfl rfl) (fun _ _ _ _ h => h)) (by exact da_cons (by exact de_var 0) (by exact da_cons (by exact de_var 1) da_nil))) (by exact da_cons (by exact b_sum (by exact T.z_sum) (by exact da_cons (by exact de_var 0) da_nil)) da_nil)))))
theorem sc_Panel___len__ : FnScope ["self"] ["self"] (defScope s_Panel___len__) := ⟨rfl, rfl, rfl, by decide +kernel, rfl, by decide +kernel, by decide +kernel⟩
def b_Panel___len__ : FS := (fRet (fCB gLen (fCons (fOp1 (gFld "Panel" "parts") (fV 0)) fNil)))
def f_Panel___len__ : List D → R Vl := runF 1 1 b_Panel___len__
theorem ok_Panel___len__ (T : Top K mg) : KeepsM P w K mg base 1 "__len__" "Panel.__len__" s_Panel___len__ ["self"] (spF K mg f_Panel___len__) := fun f fd F =>
  have SC := sc_Panel___len__
  fn_ok (N := ["self"]) (ps := ["self"]) (k := 0) (body := b_Panel___len__) F sc_Panel___len__ fun cdv A outer s H E hr => (by exact dss_one (by exact ds_ret (by exact b_len (by exact T.z_len) (by exact da_cons (by exact dm_fld T.k_Panel (by exact de_var 0)) da_nil))))
theorem sc_Panel___add__ : FnScope ["self", "other", "weights"] ["self", "other"] (defScope s_Panel___add__) := ⟨rfl, rfl, rfl, by decide +kernel, rfl, by decide +kernel, by decide +kernel⟩
def b_Panel___add__ : FS := (fSeq (fIfS (fNot (fOp1 (gIsC "Panel") (fV 1))) (fRet fNo) fNext)
  (fSeq (fExpr (fCall f_need_pair (fCons (fOp1 (gFld "Panel" "parts") (fV 0)) (fCons (fOp1 (gFld "Panel" "parts") (fV 1)) fNil))))
  (fSeq (fSet 2 (fCall f_mixed_of (fCons (fOp1 (gFld "Panel" "parts") (fV 0)) (fCons (fOp1 (gFld "Panel" "parts") (fV 1)) fNil))))
  (fRet (fMkS "Panel" ["parts"] i_Panel (fCons (fV 2) fNil))))))
def f_Panel___add__ : List D → R Vl := runF 2 3 b_Panel___add__
theorem ok_Panel___add__ (T : Top K mg) : KeepsM P w K mg base 7 "__add__" "Panel.__add__" s_Panel___add__ ["self", "other"] (spF K mg f_Panel___add__) := fun f fd F =>
  have SC := sc_Panel___add__
  fn_ok (N := ["self", "other", "weights"]) (ps := ["self", "other"]) (k := 6) (body := b_Panel___add__) F sc_Panel___add__ fun cdv A outer s H E hr => (by exact dss_cons (by exact ds_if (by exact dt_not (by exact dt_val (by exact dm_isC T.k_Panel (by exact T.z_isinstance) (by exact de_var 1)))) (by exact dss_one (by exact ds_ret de_no)) dss_nil) (by exact dss_cons (by exact ds_expr (by exact dcl (by exact T.h_need_pair) (by exact (ok_need_pair T)) (by exact hr) (by exact passes_call (takes_of rfl rfl rfl rfl) (fun _ _ _ _ h => h)) (by exact da_cons (by exact dm_fld T.k_Panel (by exact de_var 0)) (by exact da_cons (by exact dm_fld T.k_Panel (by exact de_var 1)) da_nil)))) (by exact dss_cons (by exact ds_set 2 (by exact SC.nd) (by exact dcl (by exact T.h_mixed_of) (by exact (ok_mixed_of T)) (by exact hr) (by exact passes_call (takes_of rfl rfl rfl rfl) (fun _ _ _ _ h => h)) (by exact da_cons (by exact dm_fld T.k_Panel (by exact de_var 0)) (by exact da_cons (by exact dm_fld T.k_Panel (by exact de_var 1)) da_nil)))) (by exact dss_one (by exact ds_ret (by exact dm_mkS (by exact T.h_Panel___init__) (by exact (ok_Panel___init__ T)) (by exact hr) (by exact passes_call (takes_of rfl rfl rfl rfl) (fun _ _ _ _ h => h)) (by exact de_var 2)))))))
theorem sc_are_marks : FnScope ["weights", "value"] ["weights", "value"] (defScope s_are_marks) := ⟨rfl, rfl, rfl, by decide +kernel, rfl, by decide +kernel, by decide +kernel⟩
def b_are_marks : FS := (fRet (fCall f_are_integers (fCons (fV 1) (fCons (fCB gLen (fCons (fV 0) fNil)) (fCons (fCB gLen (fCons (fV 0) fNil)) (fCons (fC (.int 1000)) fNil))))))
def f_are_marks : List D → R Vl := runF 2 2 b_are_marks
theorem ok_are_marks (T : Top K mg) : Keeps P w K mg base 3 "are_marks" s_are_marks ["weights", "value"] (spF K mg f_are_marks) := fun f fd F =>
  have SC := sc_are_marks
  fn_ok (N := ["weights", "value"]) (ps := ["weights", "value"]) (k := 2) (body := b_are_marks) F sc_are_marks fun cdv A outer s H E hr => (by exact dss_one (by exact ds_ret (by exact dcl (by exact T.h_are_integers) (by exact (ok_are_integers T)) (by exact hr) (by exact passes_call (takes_of rfl rfl rfl rfl) (fun _ _ _ _ h => h)) (by exact da_cons (by exact de_var 1) (by exact da_cons (by exact b_len (by exact T.z_len) (by exact da_cons (by exact de_var 0) da_nil)) (by exact da_cons (by exact b_len (by exact T.z_len) (by exact da_cons (by exact de_var 0) da_nil)) (by exact da_cons (by exact dgl (by exact T.c_MOST_MARK)) da_nil)))))))
theorem sc_need_marks : FnScope ["weights", "marks"] ["weights", "marks"] (defScope s_need_marks) := ⟨rfl, rfl, rfl, by decide +kernel, rfl, by decide +kernel, by decide +kernel⟩
def b_need_marks : FS := (fIfS (fNot (fCall f_are_marks (fCons (fV 0) (fCons (fV 1) fNil)))) (fErr "InvalidMarks") fNext)
def f_need_marks : List D → R Vl := runF 2 2 b_need_marks
theorem ok_need_marks (T : Top K mg) : Keeps P w K mg base 4 "need_marks" s_need_marks ["weights", "marks"] (spF K mg f_need_marks) := fun f fd F =>
  have SC := sc_need_marks
  fn_ok (N := ["weights", "marks"]) (ps := ["weights", "marks"]) (k := 3) (body := b_need_marks) F sc_need_marks fun cdv A outer s H E hr => (by exact dss_one (by exact ds_if (by exact dt_not (by exact dt_val (by exact dcl (by exact T.h_are_marks) (by exact (ok_are_marks T)) (by exact hr) (by exact passes_call (takes_of rfl rfl rfl rfl) (fun _ _ _ _ h => h)) (by exact da_cons (by exact de_var 0) (by exact da_cons (by exact de_var 1) da_nil))))) (by exact dss_one (by exact ds_raise T.x_InvalidMarks (by exact takes_of rfl rfl rfl rfl))) dss_nil))
theorem sc_lowest : FnScope ["top", "bottom", "common"] ["top", "bottom"] (defScope s_lowest) := ⟨rfl, rfl, rfl, by decide +kernel, rfl, by decide +kernel, by decide +kernel⟩
def b_lowest : FS := (fSeq (fSet 2 (fCall f_divisor (fCons (fV 0) (fCons (fV 1) fNil))))
  (fRet (fTup (fCons (fOp2 gFdiv (fV 0) (fV 2)) (fCons (fOp2 gFdiv (fV 1) (fV 2)) fNil)))))
def f_lowest : List D → R Vl := runF 2 3 b_lowest
theorem ok_lowest (T : Top K mg) : Keeps P w K mg base 2 "lowest" s_lowest ["top", "bottom"] (spF K mg f_lowest) := fun f fd F =>
  have SC := sc_lowest
  fn_ok (N := ["top", "bottom", "common"]) (ps := ["top", "bottom"]) (k := 1) (body := b_lowest) F sc_lowest fun cdv A outer s H E hr => (by exact dss_cons (by exact ds_set 2 (by exact SC.nd) (by exact dcl (by exact T.h_divisor) (by exact (ok_divisor T)) (by exact hr) (by exact passes_call (takes_of rfl rfl rfl rfl) (fun _ _ _ _ h => h)) (by exact da_cons (by exact de_var 0) (by exact da_cons (by exact de_var 1) da_nil)))) (by exact dss_one (by exact ds_ret (by exact de_tup (n := 2) (by exact da_cons (by exact o_fdiv (by exact de_var 0) (by exact de_var 2)) (by exact da_cons (by exact o_fdiv (by exact de_var 1) (by exact de_var 2)) da_nil))))))
theorem sc_score_of : FnScope ["weights", "marks", "total", "weight", "mark"] ["weights", "marks"] (defScope s_score_of) := ⟨rfl, rfl, rfl, by decide +kernel, rfl, by decide +kernel, by decide +kernel⟩
def b_score_of : FS := (fSeq (fSet 2 (fCB gSum (fCons (fLc (fZp (fCons (fV 0) (fCons (fOp1 gRev (fCB gSorted (fCons (fV 1) fNil))) fNil))) (tgTup [3, 4]) (nE fYes) (nE (fOp2 gMu (fV 3) (fV 4))) [3, 4]) fNil)))
  (fRet (fCall f_lowest (fCons (fV 2) (fCons (fCB gSum (fCons (fV 0) fNil)) fNil)))))
def f_score_of : List D → R Vl := runF 2 5 b_score_of
theorem ok_score_of (T : Top K mg) : Keeps P w K mg base 3 "score_of" s_score_of ["weights", "marks"] (spF K mg f_score_of) := fun f fd F =>
  have SC := sc_score_of
  fn_ok (N := ["weights", "marks", "total", "weight", "mark"]) (ps := ["weights", "marks"]) (k := 2) (body := b_score_of) F sc_score_of fun cdv A outer s H E hr => (by exact dss_cons (by exact ds_set 2 (by exact SC.nd) (by exact b_sum (by exact T.z_sum) (by exact da_cons (by exact de_lc (is := [3, 4]) (g := gTup K 2 (gTs [3, 4])) [("weight", 3), ("mark", 4)] (by exact SC.nd) (by exact blkOk_by (N := ["weights", "marks", "total", "weight", "mark"]) (sc := defScope s_score_of) (by decide +kernel)) (by exact di_zip (by exact T.z_zip) (by exact da_cons (by exact de_var 0) (by exact da_cons (by exact de_rev (by exact b_sorted (by exact T.z_sorted) (by exact da_cons (by exact de_var 1) da_nil))) da_nil))) (fun _ _ _ _ _ => (by exact dg_tup [3, 4] (by exact pgts_cons 3 (by exact SC.nd) (by exact pgts_cons 4 (by exact SC.nd) pgts_nil)))) (fun _ _ _ _ _ => (by exact o_mul (by exact de_var 3) (by exact de_var 4)))) da_nil))) (by exact dss_one (by exact ds_ret (by exact dcl (by exact T.h_lowest) (by exact (ok_lowest T)) (by exact hr) (by exact passes_call (takes_of rfl rfl rfl rfl) (fun _ _ _ _ h => h)) (by exact da_cons (by exact de_var 2) (by exact da_cons (by exact b_sum (by exact T.z_sum) (by exact da_cons (by exact de_var 0) da_nil)) da_nil))))))
theorem sc_Panel___call__ : FnScope ["self", "marks"] ["self", "marks"] (defScope s_Panel___call__) := ⟨rfl, rfl, rfl, by decide +kernel, rfl, by decide +kernel, by decide +kernel⟩
def b_Panel___call__ : FS := (fSeq (fExpr (fCall f_need_marks (fCons (fOp1 (gFld "Panel" "parts") (fV 0)) (fCons (fV 1) fNil))))
  (fRet (fCall f_score_of (fCons (fOp1 (gFld "Panel" "parts") (fV 0)) (fCons (fV 1) fNil)))))
def f_Panel___call__ : List D → R Vl := runF 2 2 b_Panel___call__
theorem ok_Panel___call__ (T : Top K mg) : KeepsM P w K mg base 5 "__call__" "Panel.__call__" s_Panel___call__ ["self", "marks"] (spF K mg f_Panel___call__) := fun f fd F =>
  have SC := sc_Panel___call__
  fn_ok (N := ["self", "marks"]) (ps := ["self", "marks"]) (k := 4) (body := b_Panel___call__) F sc_Panel___call__ fun cdv A outer s H E hr => (by exact dss_cons (by exact ds_expr (by exact dcl (by exact T.h_need_marks) (by exact (ok_need_marks T)) (by exact hr) (by exact passes_call (takes_of rfl rfl rfl rfl) (fun _ _ _ _ h => h)) (by exact da_cons (by exact dm_fld T.k_Panel (by exact de_var 0)) (by exact da_cons (by exact de_var 1) da_nil)))) (by exact dss_one (by exact ds_ret (by exact dcl (by exact T.h_score_of) (by exact (ok_score_of T)) (by exact hr) (by exact passes_call (takes_of rfl rfl rfl rfl) (fun _ _ _ _ h => h)) (by exact da_cons (by exact dm_fld T.k_Panel (by exact de_var 0)) (by exact da_cons (by exact de_var 1) da_nil))))))
theorem sc_Panel___getitem__ : FnScope ["self", "place"] ["self", "place"] (defScope s_Panel___getitem__) := ⟨rfl, rfl, rfl, by decide +kernel, rfl, by decide +kernel, by decide +kernel⟩
def b_Panel___getitem__ : FS := (fSeq (fIfS (fNot (fCall f_is_between (fCons (fV 1) (fCons (fC (.int 0)) (fCons (fOp2 DK.gSub (fCB gLen (fCons (fOp1 (gFld "Panel" "parts") (fV 0)) fNil)) (fC (.int 1))) fNil))))) (fErr "InvalidPlace") fNext)
  (fRet (fOp2 gIx (fOp1 (gFld "Panel" "parts") (fV 0)) (fV 1))))
def f_Panel___getitem__ : List D → R Vl := runF 2 2 b_Panel___getitem__
theorem ok_Panel___getitem__ (T : Top K mg) : KeepsM P w K mg base 2 "__getitem__" "Panel.__getitem__" s_Panel___getitem__ ["self", "place"] (spF K mg f_Panel___getitem__) := fun f fd F =>
  have SC := sc_Panel___getitem__
  fn_ok (N := ["self", "place"]) (ps := ["self", "place"]) (k := 1) (body := b_Panel___getitem__) F sc_Panel___getitem__ fun cdv A outer s H E hr => (by exact dss_cons (by exact ds_if (by exact dt_not (by exact dt_val (by exact dcl (by exact T.h_is_between) (by exact (ok_is_between T)) (by exact hr) (by exact passes_call (takes_of rfl rfl rfl rfl) (fun _ _ _ _ h => h)) (by exact da_cons (by exact de_var 1) (by exact da_cons de_int (by exact da_cons (by exact o_sub (by exact b_len (by exact T.z_len) (by exact da_cons (by exact dm_fld T.k_Panel (by exact de_var 0)) da_nil)) de_int) da_nil)))))) (by exact dss_one (by exact ds_raise T.x_InvalidPlace (by exact takes_of rfl rfl rfl rfl))) dss_nil) (by exact dss_one (by exact ds_ret (by exact o_ix (by exact dm_fld T.k_Panel (by exact de_var 0)) (by exact de_var 1)))))
theorem sc_law_refuses : FnScope ["panel", "size", "odd", "longer"] ["panel"] (defScope s_law_refuses) := ⟨rfl, rfl, rfl, by decide +kernel, rfl, by decide +kernel, by decide +kernel⟩
def l1_law_refuses : FS := (fIfS (fOp2 gNe (fName ([("InvalidWeights", .str "weights"), ("InvalidMarks", .str "marks"), ("InvalidPlace", .str "place"), ("InvalidPair", .str "pair")] : List (Str × Ncl)) (fCallO "Panel" f_Panel___call__ (fV 0) (fCons (fV 2) fNil))) (fC (.str "marks"))) (fRet (fC (.bl false))) fNext)
def l2_law_refuses : FS := (fIfS (fOp2 gNe (fName ([("InvalidWeights", .str "weights"), ("InvalidMarks", .str "marks"), ("InvalidPlace", .str "place"), ("InvalidPair", .str "pair")] : List (Str × Ncl)) (fCallI (okHd "Panel") f_Panel___getitem__ (fCons (fV 0) (fCons (fV 2) fNil)))) (fC (.str "place"))) (fRet (fC (.bl false))) fNext)
def b_law_refuses : FS := (fSeq (fSet 1 (fLenI "Panel" f_Panel___len__ (fCons (fV 0) fNil)))
  (fSeq (fFor (fIt (fLst (fCons (fC .non) (fCons (fTup fNil) (fCons (fOp2 gMu (fTup (fCons (fC (.int 1)) fNil)) (fOp2 gAdd (fV 1) (fC (.int 1)))) (fCons (fOp2 gMu (fLst (fCons (fC (.int 1)) fNil)) (fV 1)) (fCons (fOp2 gMu (fTup (fCons (fC (.int 1001)) fNil)) (fV 1)) (fCons (fOp2 gMu (fTup (fCons (fC (.bl true)) fNil)) (fV 1)) (fCons (fC (.int 5)) fNil))))))))) (tgName 2) l1_law_refuses)
  (fSeq (fFor (fIt (fLst (fCons (fV 1) (fCons (fOp1 gNeg (fC (.int 1))) (fCons (fC .non) (fCons (fC (.bl true)) (fCons (fC (.str "0")) fNil))))))) (tgName 2) l2_law_refuses)
  (fSeq (fSet 3 (fCall f_law_panel (fCons (fIf (fOp2 gLt (fV 1) (fC (.int 8))) (fOp2 gAdd (fOp1 (gFld "Panel" "parts") (fV 0)) (fTup (fCons (fC (.int 0)) fNil))) (fTup (fCons (fC (.int 1)) fNil))) fNil)))
  (fRet (fOp2 gEq (fName ([("InvalidWeights", .str "weights"), ("InvalidMarks", .str "marks"), ("InvalidPlace", .str "place"), ("InvalidPair", .str "pair")] : List (Str × Ncl)) (fCallI (okTwo "Panel") f_Panel___add__ (fCons (fV 0) (fCons (fV 3) fNil)))) (fC (.str "pair"))))))))
def f_law_refuses : List D → R Vl := runF 1 4 b_law_refuses
theorem ok_law_refuses (T : Top K mg) {cL_law_refuses PL_law_refuses : Addr} (TB_law_refuses : LamX.TabB base mg cL_law_refuses PL_law_refuses) (hT_law_refuses : InT TabsC.T PL_law_refuses ((("_law_refuses" : Str) ++ (".<locals>." : Str)) ++ ("<lambda>" : Str))) : KeepsC P w K mg base 10 "_law_refuses" s_law_refuses ["panel"] cL_law_refuses (spF K mg f_law_refuses) := fun f fd F hcode =>
  have SC := sc_law_refuses
  fn_okC (N := ["panel", "size", "odd", "longer"]) (ps := ["panel"]) (k := 9) (body := b_law_refuses) F hcode sc_law_refuses fun A outer s H E hr => (by exact dss_cons (by exact ds_set 1 (by exact SC.nd) (by exact dm_len (by exact T.h_Panel___len__) (by exact (ok_Panel___len__ T)) (by exact hr) (by exact passes_call (takes_of rfl rfl rfl rfl) (fun _ _ _ _ h => h)) (by exact T.z_len) (by exact de_var 0))) (by exact dss_cons (by exact ds_for (f := l1_law_refuses) (by exact (passes_of rfl)) (by exact di_it (by exact de_lst (n := 7) (by exact da_cons de_non (by exact da_cons (by exact de_tup (n := 0) da_nil) (by exact da_cons (by exact o_mul (by exact de_tup (n := 1) (by exact da_cons de_int da_nil)) (by exact o_add (by exact de_var 1) de_int)) (by exact da_cons (by exact o_mul (by exact de_lst (n := 1) (by exact da_cons de_int da_nil)) (by exact de_var 1)) (by exact da_cons (by exact o_mul (by exact de_tup (n := 1) (by exact da_cons de_int da_nil)) (by exact de_var 1)) (by exact da_cons (by exact o_mul (by exact de_tup (n := 1) (by exact da_cons de_bl da_nil)) (by exact de_var 1)) (by exact da_cons de_int da_nil))))))))) (by exact dg_name 2 (by exact SC.nd)) (by exact dss_one (by exact ds_if (by exact t_ne (by exact hr) (by exact de_name (e := "e") (k := 5) (by exact T.h_law_name) rfl sc_law_name (by exact (.str T.g_InvalidWeights (.str T.g_InvalidMarks (.str T.g_InvalidPlace (.str T.g_InvalidPair .nil))))) (by simp) (.inr (by simp)) (by exact T.n_law_name) TB_law_refuses hT_law_refuses (by exact hr) (fun E' A outer s H f c' (hr : _) => (by exact dm_call (by exact T.h_Panel___call__) (by exact (ok_Panel___call__ T)) (by exact hr) (by exact passes_call (takes_of rfl rfl rfl rfl) (fun _ _ _ _ h => h)) (by exact de_var 0) (by exact da_cons (by exact de_var 2) da_nil))) (LamX.lamS_by (sc := defScope s_law_refuses) (by decide +kernel))) de_str) (by exact dss_one (by exact ds_ret de_bl)) dss_nil))) (by exact dss_cons (by exact ds_for (f := l2_law_refuses) (by exact (passes_of rfl)) (by exact di_it (by exact de_lst (n := 5) (by exact da_cons (by exact de_var 1) (by exact da_cons (by exact o_neg de_int) (by exact da_cons de_non (by exact da_cons de_bl (by exact da_cons de_str da_nil))))))) (by exact dg_name 2 (by exact SC.nd)) (by exact dss_one (by exact ds_if (by exact t_ne (by exact hr) (by exact de_name (e := "e") (k := 3) (by exact T.h_law_name) rfl sc_law_name (by exact (.str T.g_InvalidWeights (.str T.g_InvalidMarks (.str T.g_InvalidPlace (.str T.g_InvalidPair .nil))))) (by simp) (.inr (by simp)) (by exact T.n_law_name) TB_law_refuses hT_law_refuses (by exact hr) (fun E' A outer s H f c' (hr : _) => (by exact dm_ix (by exact T.h_Panel___getitem__) (by exact (ok_Panel___getitem__ T)) (by exact hr) (by exact passes_call (takes_of rfl rfl rfl rfl) (fun _ _ _ _ h => h)) (by exact de_var 0) (by exact de_var 2))) (LamX.lamS_by (sc := defScope s_law_refuses) (by decide +kernel))) de_str) (by exact dss_one (by exact ds_ret de_bl)) dss_nil))) (by exact dss_cons (by exact ds_set 3 (by exact SC.nd) (by exact dcl (by exact T.h_law_panel) (by exact (ok_law_panel T)) (by exact hr) (by exact passes_call (takes_of rfl rfl rfl rfl) (fun _ _ _ _ h => h)) (by exact da_cons (by exact de_if (by exact t_lt (by exact de_var 1) de_int) (by exact o_add (by exact dm_prop T.p_Panel_weights (by exact sc_Panel_weights) ⟨_, _, _, rfl⟩ (by exact hr) (by exact de_var 0)) (by exact de_tup (n := 1) (by exact da_cons de_int da_nil))) (by exact de_tup (n := 1) (by exact da_cons de_int da_nil))) da_nil))) (by exact dss_one (by exact ds_ret (by exact e_eq (by exact hr) (by exact de_name (e := "e") (k := 7) (by exact T.h_law_name) rfl sc_law_name (by exact (.str T.g_InvalidWeights (.str T.g_InvalidMarks (.str T.g_InvalidPlace (.str T.g_InvalidPair .nil))))) (by simp) (.inr (by simp)) (by exact T.n_law_name) TB_law_refuses hT_law_refuses (by exact hr) (fun E' A outer s H f c' (hr : _) => (by exact dm_add (by exact T.h_Panel___add__) (by exact (ok_Panel___add__ T)) (by exact hr) (by exact passes_call (takes_of rfl rfl rfl rfl) (fun _ _ _ _ h => h)) (by exact de_var 0) (by exact de_var 3))) (LamX.lamS_by (sc := defScope s_law_refuses) (by decide +kernel))) de_str)))))))
theorem sc_Panel___eq__ : FnScope ["self", "other"] ["self", "other"] (defScope s_Panel___eq__) := ⟨rfl, rfl, rfl, by decide +kernel, rfl, by decide +kernel, by decide +kernel⟩
def b_Panel___eq__ : FS := (fSeq (fIfS (fNot (fOp1 (gIsC "Panel") (fV 1))) (fRet (fC (.bl false))) fNext)
  (fRet (fOp2 gEq (fOp1 (gFld "Panel" "parts") (fV 0)) (fOp1 (gFld "Panel" "parts") (fV 1)))))
def f_Panel___eq__ : List D → R Vl := runF 2 2 b_Panel___eq__
theorem ok_Panel___eq__ (T : Top K mg) : KeepsM P w K mg base 1 "__eq__" "Panel.__eq__" s_Panel___eq__ ["self", "other"] (spF K mg f_Panel___eq__) := fun f fd F =>
  have SC := sc_Panel___eq__
  fn_ok (N := ["self", "other"]) (ps := ["self", "other"]) (k := 0) (body := b_Panel___eq__) F sc_Panel___eq__ fun cdv A outer s H E hr => (by exact dss_cons (by exact ds_if (by exact dt_not (by exact dt_val (by exact dm_isC T.k_Panel (by exact T.z_isinstance) (by exact de_var 1)))) (by exact dss_one (by exact ds_ret de_bl)) dss_nil) (by exact dss_one (by exact ds_ret (by exact e_eq (by exact hr) (by exact dm_fld T.k_Panel (by exact de_var 0)) (by exact dm_fld T.k_Panel (by exact de_var 1))))))
theorem sc_Panel___neg__ : FnScope ["self", "weights"] ["self"] (defScope s_Panel___neg__) := ⟨rfl, rfl, rfl, by decide +kernel, rfl, by decide +kernel, by decide +kernel⟩
def b_Panel___neg__ : FS := (fSeq (fSet 1 (fOp1 gRev (fOp1 (gFld "Panel" "parts") (fV 0))))
  (fRet (fMkS "Panel" ["parts"] i_Panel (fCons (fV 1) fNil))))
def f_Panel___neg__ : List D → R Vl := runF 1 2 b_Panel___neg__
theorem ok_Panel___neg__ (T : Top K mg) : KeepsM P w K mg base 7 "__neg__" "Panel.__neg__" s_Panel___neg__ ["self"] (spF K mg f_Panel___neg__) := fun f fd F =>
  have SC := sc_Panel___neg__
  fn_ok (N := ["self", "weights"]) (ps := ["self"]) (k := 6) (body := b_Panel___neg__) F sc_Panel___neg__ fun cdv A outer s H E hr => (by exact dss_cons (by exact ds_set 1 (by exact SC.nd) (by exact de_rev (by exact dm_fld T.k_Panel (by exact de_var 0)))) (by exact dss_one (by exact ds_ret (by exact dm_mkS (by exact T.h_Panel___init__) (by exact (ok_Panel___init__ T)) (by exact hr) (by exact passes_call (takes_of rfl rfl rfl rfl) (fun _ _ _ _ h => h)) (by exact de_var 1)))))
theorem sc_law : FnScope ["script", "k", "source", "count", "weights", "other", "panel", "more", "due", "marks", "times", "joint", "place", "weight"] ["script"] (defScope s_law) := ⟨rfl, rfl, rfl, by decide +kernel, rfl, by decide +kernel, by decide +kernel⟩
def l1_law : FS := (fSeq (fSet 2 (fCall f_law_source (fCons (fV 0) (fCons (fV 1) fNil))))
  (fSeq (fSet 3 (fOp2 gAdd (fC (.int 1)) (fCallS g_law_draw (fCons (fV 2) (fCons (fC (.int 8)) fNil)))))
  (fSeq (fPar [4, 5] (fCons (fCallS g_law_weights (fCons (fV 2) (fCons (fV 3) fNil))) (fCons (fCallS g_law_weights (fCons (fV 2) (fCons (fV 3) fNil))) fNil)))
  (fSeq (fPar [6, 7, 8] (fCons (fCall f_law_panel (fCons (fV 4) fNil)) (fCons (fCall f_law_panel (fCons (fV 5) fNil)) (fCons (fCall f_law_reduced (fCons (fV 4) fNil)) fNil))))
  (fSeq (fIfS (fOr (fOp2 gNe (fOp1 (gFld "Panel" "parts") (fV 6)) (fV 8)) (fOr (fOp2 gNe (fLenI "Panel" f_Panel___len__ (fCons (fV 6) fNil)) (fV 3)) (fOp2 gNe (fLc (fRng (fCons (fV 3) fNil)) (tgName 12) (nE fYes) (nE (fCallI (okHd "Panel") f_Panel___getitem__ (fCons (fV 6) (fCons (fV 12) fNil)))) [12]) (fCB gList (fCons (fV 8) fNil))))) (fRet (fC (.bl false))) fNext)
  (fSeq (fSet 9 (fCallS g_law_marks (fCons (fV 2) (fCons (fV 3) (fCons (fC (.int 1000)) fNil)))))
  (fSeq (fIfS (fOr (fOp2 gNe (fCallO "Panel" f_Panel___call__ (fV 6) (fCons (fV 9) fNil)) (fCall f_law_score (fCons (fV 4) (fCons (fV 9) fNil)))) (fOp2 gNe (fCallI (okEq "Panel") f_Panel___eq__ (fCons (fV 6) (fCons (fV 7) fNil))) (fOp2 gEq (fV 8) (fCall f_law_reduced (fCons (fV 5) fNil))))) (fRet (fC (.bl false))) fNext)
  (fSeq (fSet 10 (fOp2 gAdd (fC (.int 1)) (fCallS g_law_draw (fCons (fV 2) (fCons (fOp2 gFdiv (fC (.int 1000)) (fCB gMax (fCons (fV 8) fNil))) fNil)))))
  (fSeq (fIfS (fOr (fNot (fCallI (okEq "Panel") f_Panel___eq__ (fCons (fV 6) (fCons (fCall f_law_panel (fCons (fLc (fIt (fV 8)) (tgName 13) (nE fYes) (nE (fOp2 gMu (fV 10) (fV 13))) [13]) fNil)) fNil)))) (fCallI (okEq "Panel") f_Panel___eq__ (fCons (fV 6) (fCons (fV 8) fNil)))) (fRet (fC (.bl false))) fNext)
  (fSeq (fIfS (fOr (fOp2 gNe (fOp1 (gFld "Panel" "parts") (fCallI (okHd "Panel") f_Panel___neg__ (fCons (fV 6) fNil))) (fOp1 gRev (fV 8))) (fNot (fCallI (okEq "Panel") f_Panel___eq__ (fCons (fCallI (okHd "Panel") f_Panel___neg__ (fCons (fCallI (okHd "Panel") f_Panel___neg__ (fCons (fV 6) fNil)) fNil)) (fCons (fV 6) fNil))))) (fRet (fC (.bl false))) fNext)
  (fSeq (fSet 11 (fCall f_mixed (fCons (fV 8) (fCons (fCall f_law_reduced (fCons (fV 5) fNil)) fNil))))
  (fSeq (fIfS (fOp2 gLe (fCB gMax (fCons (fV 11) fNil)) (fC (.int 1000))) (fIfS (fOr (fOp2 gNe (fOp1 (gFld "Panel" "parts") (fCallI (okTwo "Panel") f_Panel___add__ (fCons (fV 6) (fCons (fV 7) fNil)))) (fV 11)) (fNot (fCallI (okEq "Panel") f_Panel___eq__ (fCons (fCallI (okTwo "Panel") f_Panel___add__ (fCons (fV 6) (fCons (fV 7) fNil))) (fCons (fCallI (okTwo "Panel") f_Panel___add__ (fCons (fV 7) (fCons (fV 6) fNil))) fNil))))) (fRet (fC (.bl false))) fNext) (fIfS (fOp2 gNe (fName ([("InvalidWeights", .str "weights"), ("InvalidMarks", .str "marks"), ("InvalidPlace", .str "place"), ("InvalidPair", .str "pair")] : List (Str × Ncl)) (fCallI (okTwo "Panel") f_Panel___add__ (fCons (fV 6) (fCons (fV 7) fNil)))) (fC (.str "weights"))) (fRet (fC (.bl false))) fNext))
  (fIfS (fOr (fOp2 gNe (fOp1 (gFld "Panel" "parts") (fV 6)) (fV 8)) (fNot (fCall f_law_refuses (fCons (fV 6) fNil)))) (fRet (fC (.bl false))) fNext)))))))))))))
def b_law : FS := (fSeq (fFor (fRng (fCons (fOp2 gAdd (fC (.int 1)) (fCB gMin (fCons (fCB gLen (fCons (fV 0) fNil)) (fCons (fC (.int 12)) fNil)))) fNil)) (tgName 1) l1_law)
  (fSeq (fIfS (fOp2 gNe (fName ([("InvalidWeights", .str "weights"), ("InvalidMarks", .str "marks"), ("InvalidPlace", .str "place"), ("InvalidPair", .str "pair")] : List (Str × Ncl)) (fMkI "Panel" ["parts"] i_Panel fNil)) (fC (.str "weights"))) (fRet (fC (.bl false))) fNext)
  (fSeq (fIfS (fOp2 gNe (fName ([("InvalidWeights", .str "weights"), ("InvalidMarks", .str "marks"), ("InvalidPlace", .str "place"), ("InvalidPair", .str "pair")] : List (Str × Ncl)) (fMkI "Panel" ["parts"] i_Panel (fCons (fC (.int 0)) (fCons (fC (.int 0)) fNil)))) (fC (.str "weights"))) (fRet (fC (.bl false))) fNext)
  (fSeq (fIfS (fOp2 gNe (fName ([("InvalidWeights", .str "weights"), ("InvalidMarks", .str "marks"), ("InvalidPlace", .str "place"), ("InvalidPair", .str "pair")] : List (Str × Ncl)) (fMkI "Panel" ["parts"] i_Panel (fCons (fC (.int 1)) (fCons (fC (.int 1001)) fNil)))) (fC (.str "weights"))) (fRet (fC (.bl false))) fNext)
  (fRet (fOp2 gEq (fName ([("InvalidWeights", .str "weights"), ("InvalidMarks", .str "marks"), ("InvalidPlace", .str "place"), ("InvalidPair", .str "pair")] : List (Str × Ncl)) (fMkI "Panel" ["parts"] i_Panel (fCons (fTup (fCons (fC (.int 1)) (fCons (fC (.int 1)) fNil))) fNil))) (fC (.str "weights"))))))))
theorem ok_law (T : Top K mg) (law_true : ∀ ns : List Int, ns.length ≤ 63 → runF 1 14 b_law [.scr ns] = .ok (.p (.bl true))) {f : Addr} {cL_law PL_law : Addr} (TB_law : LamX.TabB base mg cL_law PL_law) (hT_law : InT TabsC.T PL_law ((("law" : Str) ++ (".<locals>." : Str)) ++ ("<lambda>" : Str))) {cL_law_refuses PL_law_refuses : Addr} (TB_law_refuses : LamX.TabB base mg cL_law_refuses PL_law_refuses) (hT_law_refuses : InT TabsC.T PL_law_refuses ((("_law_refuses" : Str) ++ (".<locals>." : Str)) ++ ("<lambda>" : Str))) (h_law_refuses : HasC K mg "_law_refuses" s_law_refuses ["panel"] cL_law_refuses) {oc : Value} {od an : Option Addr} {osl : Array (Option Value)} {kV doc pm ct : Value}
    (lk : K.lookup f = some ⟨oc, od, .func (PySem.W.fnOf "law" "law" (defArgs s_law) (defBody s_law) (defScope s_law) .none kV doc pm an (.ref cL_law) ct), osl⟩) (hcd : PySem.W.codeIn K (.ref cL_law) "law" = true) : FnOk P w K mg base L2.CX0 11 f (PySem.W.fnOf "law" "law" (defArgs s_law) (defBody s_law) (defScope s_law) .none kV doc pm an (.ref cL_law) ct) ["script"] (spLaw K) :=
  have SC := sc_law
  fn_lawT (N := ["script", "k", "source", "count", "weights", "other", "panel", "more", "due", "marks", "times", "joint", "place", "weight"]) (k := 10) (body := b_law) lk hcd sc_law (fun A outer s H E hr => (by exact dss_cons (by exact ds_for (f := l1_law) (by exact PassesOwn.never) (by exact di_rng1 (by exact T.z_range) (by exact da_cons (by exact o_add de_int (by exact b_min (by exact hr) (by exact T.z_min) (by exact da_cons (by exact b_len (by exact T.z_len) (by exact da_cons (by exact de_var 0) da_nil)) (by exact da_cons de_int da_nil)))) da_nil)) (by exact dg_name 1 (by exact SC.nd)) (by exact dss_cons (by exact ds_set 2 (by exact SC.nd) (by exact dcl (by exact T.h_law_source) (by exact (ok_law_source T)) (by exact hr) (by exact passL) (by exact da_cons (by exact de_var 0) (by exact da_cons (by exact de_var 1) da_nil)))) (by exact dss_cons (by exact ds_set 3 (by exact SC.nd) (by exact o_add de_int (by exact dclS (by exact T.h_law_draw) (by exact (ok_law_draw T)) (by exact hr) (by exact passL) (by exact da_cons (by exact de_var 2) (by exact da_cons de_int da_nil))))) (by exact dss_cons (by exact ds_par 4 5 (by exact SC.nd) (by exact da_cons (by exact dclS (by exact T.h_law_weights) (by exact (ok_law_weights T)) (by exact hr) (by exact passL) (by exact da_cons (by exact de_var 2) (by exact da_cons (by exact de_var 3) da_nil))) (by exact da_cons (by exact dclS (by exact T.h_law_weights) (by exact (ok_law_weights T)) (by exact hr) (by exact passL) (by exact da_cons (by exact de_var 2) (by exact da_cons (by exact de_var 3) da_nil))) da_nil))) (by exact dss_cons (by exact ds_parT [6, 7, 8] (by exact da_cons (by exact dcl (by exact T.h_law_panel) (by exact (ok_law_panel T)) (by exact hr) (by exact passL) (by exact da_cons (by exact de_var 4) da_nil)) (by exact da_cons (by exact dcl (by exact T.h_law_panel) (by exact (ok_law_panel T)) (by exact hr) (by exact passL) (by exact da_cons (by exact de_var 5) da_nil)) (by exact da_cons (by exact dcl (by exact T.h_law_reduced) (by exact (ok_law_reduced T)) (by exact hr) (by exact passL) (by exact da_cons (by exact de_var 4) da_nil)) da_nil))) (by exact (DG.pg (dg_tup [6, 7, 8] (by exact pgts_cons 6 (by exact SC.nd) (by exact pgts_cons 7 (by exact SC.nd) (by exact pgts_cons 8 (by exact SC.nd) pgts_nil))))))) (by exact dss_cons (by exact ds_if (by exact dt_w (by exact dw_or (by exact t_ne (by exact hr) (by exact dm_prop T.p_Panel_weights (by exact sc_Panel_weights) ⟨_, _, _, rfl⟩ (by exact hr) (by exact de_var 6)) (by exact de_var 8)) (by exact dw_or (by exact t_ne (by exact hr) (by exact dm_len (by exact T.h_Panel___len__) (by exact (ok_Panel___len__ T)) (by exact hr) (by exact passL) (by exact T.z_len) (by exact de_var 6)) (by exact de_var 3)) (by exact dw_or1 (by exact t_ne (by exact hr) (by exact de_lc (is := [12]) (g := gName 12) [("place", 12)] (by exact SC.nd) (by exact blkOk_by (N := ["script", "k", "source", "count", "weights", "other", "panel", "more", "due", "marks", "times", "joint", "place", "weight"]) (sc := defScope s_law) (by decide +kernel)) (by exact di_rng1 (by exact T.z_range) (by exact da_cons (by exact de_var 3) da_nil)) (fun _ _ _ _ _ => (by exact dg_name 12 (by exact SC.nd))) (fun _ _ _ _ _ => (by exact dm_ix (by exact T.h_Panel___getitem__) (by exact (ok_Panel___getitem__ T)) (by exact hr) (by exact passL) (by exact de_var 6) (by exact de_var 12)))) (by exact b_list (by exact T.z_list) (by exact da_cons (by exact de_var 8) da_nil))))))) (by exact dss_one (by exact ds_ret de_bl)) dss_nil) (by exact dss_cons (by exact ds_set 9 (by exact SC.nd) (by exact dclS (by exact T.h_law_marks) (by exact (ok_law_marks T)) (by exact hr) (by exact passL) (by exact da_cons (by exact de_var 2) (by exact da_cons (by exact de_var 3) (by exact da_cons de_int da_nil))))) (by exact dss_cons (by exact ds_if (by exact dt_w (by exact dw_or (by exact t_ne (by exact hr) (by exact dm_call (by exact T.h_Panel___call__) (by exact (ok_Panel___call__ T)) (by exact hr) (by exact passL) (by exact de_var 6) (by exact da_cons (by exact de_var 9) da_nil)) (by exact dcl (by exact T.h_law_score) (by exact (ok_law_score T)) (by exact hr) (by exact passL) (by exact da_cons (by exact de_var 4) (by exact da_cons (by exact de_var 9) da_nil)))) (by exact dw_or1 (by exact t_ne (by exact hr) (by exact dm_eq (by exact T.h_Panel___eq__) (by exact (ok_Panel___eq__ T)) (by exact hr) (by exact passL) (by exact de_var 6) (by exact de_var 7)) (by exact e_eq (by exact hr) (by exact de_var 8) (by exact dcl (by exact T.h_law_reduced) (by exact (ok_law_reduced T)) (by exact hr) (by exact passL) (by exact da_cons (by exact de_var 5) da_nil))))))) (by exact dss_one (by exact ds_ret de_bl)) dss_nil) (by exact dss_cons (by exact ds_set 10 (by exact SC.nd) (by exact o_add de_int (by exact dclS (by exact T.h_law_draw) (by exact (ok_law_draw T)) (by exact hr) (by exact passL) (by exact da_cons (by exact de_var 2) (by exact da_cons (by exact o_fdiv de_int (by exact b_max (by exact hr) (by exact T.z_max) (by exact da_cons (by exact de_var 8) da_nil))) da_nil))))) (by exact dss_cons (by exact ds_if (by exact dt_w (by exact dw_or (by exact dt_not (by exact dm_eqT (by exact T.h_Panel___eq__) (by exact (ok_Panel___eq__ T)) (by exact hr) (by exact passL) (by exact de_var 6) (by exact dcl (by exact T.h_law_panel) (by exact (ok_law_panel T)) (by exact hr) (by exact passL) (by exact da_cons (by exact de_lc (is := [13]) (g := gName 13) [("weight", 13)] (by exact SC.nd) (by exact blkOk_by (N := ["script", "k", "source", "count", "weights", "other", "panel", "more", "due", "marks", "times", "joint", "place", "weight"]) (sc := defScope s_law) (by decide +kernel)) (by exact di_it (by exact de_var 8)) (fun _ _ _ _ _ => (by exact dg_name 13 (by exact SC.nd))) (fun _ _ _ _ _ => (by exact o_mul (by exact de_var 10) (by exact de_var 13)))) da_nil)))) (by exact dw_or1 (by exact dm_eqT (by exact T.h_Panel___eq__) (by exact (ok_Panel___eq__ T)) (by exact hr) (by exact passL) (by exact de_var 6) (by exact de_var 8))))) (by exact dss_one (by exact ds_ret de_bl)) dss_nil) (by exact dss_cons (by exact ds_if (by exact dt_w (by exact dw_or (by exact t_ne (by exact hr) (by exact dm_prop T.p_Panel_weights (by exact sc_Panel_weights) ⟨_, _, _, rfl⟩ (by exact hr) (by exact dm_neg (by exact T.h_Panel___neg__) (by exact (ok_Panel___neg__ T)) (by exact hr) (by exact passL) (by exact de_var 6))) (by exact de_rev (by exact de_var 8))) (by exact dw_or1 (by exact dt_not (by exact dm_eqT (by exact T.h_Panel___eq__) (by exact (ok_Panel___eq__ T)) (by exact hr) (by exact passL) (by exact dm_neg (by exact T.h_Panel___neg__) (by exact (ok_Panel___neg__ T)) (by exact hr) (by exact passL) (by exact dm_neg (by exact T.h_Panel___neg__) (by exact (ok_Panel___neg__ T)) (by exact hr) (by exact passL) (by exact de_var 6))) (by exact de_var 6)))))) (by exact dss_one (by exact ds_ret de_bl)) dss_nil) (by exact dss_cons (by exact ds_set 11 (by exact SC.nd) (by exact dcl (by exact T.h_mixed) (by exact (ok_mixed T)) (by exact hr) (by exact passL) (by exact da_cons (by exact de_var 8) (by exact da_cons (by exact dcl (by exact T.h_law_reduced) (by exact (ok_law_reduced T)) (by exact hr) (by exact passL) (by exact da_cons (by exact de_var 5) da_nil)) da_nil)))) (by exact dss_cons (by exact ds_if (by exact t_le (by exact b_max (by exact hr) (by exact T.z_max) (by exact da_cons (by exact de_var 11) da_nil)) de_int) (by exact dss_one (by exact ds_if (by exact dt_w (by exact dw_or (by exact t_ne (by exact hr) (by exact dm_prop T.p_Panel_weights (by exact sc_Panel_weights) ⟨_, _, _, rfl⟩ (by exact hr) (by exact dm_add (by exact T.h_Panel___add__) (by exact (ok_Panel___add__ T)) (by exact hr) (by exact passL) (by exact de_var 6) (by exact de_var 7))) (by exact de_var 11)) (by exact dw_or1 (by exact dt_not (by exact dm_eqT (by exact T.h_Panel___eq__) (by exact (ok_Panel___eq__ T)) (by exact hr) (by exact passL) (by exact dm_add (by exact T.h_Panel___add__) (by exact (ok_Panel___add__ T)) (by exact hr) (by exact passL) (by exact de_var 6) (by exact de_var 7)) (by exact dm_add (by exact T.h_Panel___add__) (by exact (ok_Panel___add__ T)) (by exact hr) (by exact passL) (by exact de_var 7) (by exact de_var 6))))))) (by exact dss_one (by exact ds_ret de_bl)) dss_nil)) (by exact dss_one (by exact ds_if (by exact t_ne (by exact hr) (by exact de_name (e := "e") (k := 7) (by exact T.h_law_name) rfl sc_law_name (by exact (.str T.g_InvalidWeights (.str T.g_InvalidMarks (.str T.g_InvalidPlace (.str T.g_InvalidPair .nil))))) (by simp) (.inr (by simp)) (by exact T.n_law_name) TB_law hT_law (by exact hr) (fun E' A outer s H f c' (hr : _) => (by exact dm_add (by exact T.h_Panel___add__) (by exact (ok_Panel___add__ T)) (by exact hr) (by exact passes_call (takes_of rfl rfl rfl rfl) (fun _ _ _ _ h => h)) (by exact de_var 6) (by exact de_var 7))) (LamX.lamS_by (sc := defScope s_law) (by decide +kernel))) de_str) (by exact dss_one (by exact ds_ret de_bl)) dss_nil))) (by exact dss_one (by exact ds_if (by exact dt_w (by exact dw_or (by exact t_ne (by exact hr) (by exact dm_prop T.p_Panel_weights (by exact sc_Panel_weights) ⟨_, _, _, rfl⟩ (by exact hr) (by exact de_var 6)) (by exact de_var 8)) (by exact dw_or1 (by exact dt_not (by exact dt_val (by exact dclC (by exact h_law_refuses) (by exact ok_law_refuses T TB_law_refuses hT_law_refuses) (by exact hr) (by exact passL) (by exact da_cons (by exact de_var 6) da_nil))))))) (by exact dss_one (by exact ds_ret de_bl)) dss_nil))))))))))))))) (by exact dss_cons (by exact ds_if (by exact t_ne (by exact hr) (by exact de_name (e := "e") (k := 6) (by exact T.h_law_name) rfl sc_law_name (by exact (.str T.g_InvalidWeights (.str T.g_InvalidMarks (.str T.g_InvalidPlace (.str T.g_InvalidPair .nil))))) (by simp) (.inr (by simp)) (by exact T.n_law_name) TB_law hT_law (by exact hr) (fun E' A outer s H f c' (hr : _) => (by exact dm_mk0 (by exact T.h_Panel___init__) (by exact (ok_Panel___init__ T)) (by exact hr) (by exact passes_call (takes_of rfl rfl rfl rfl) (fun _ _ _ _ h => h)))) (LamX.lamS_by (sc := defScope s_law) (by decide +kernel))) de_str) (by exact dss_one (by exact ds_ret de_bl)) dss_nil) (by exact dss_cons (by exact ds_if (by exact t_ne (by exact hr) (by exact de_name (e := "e") (k := 6) (by exact T.h_law_name) rfl sc_law_name (by exact (.str T.g_InvalidWeights (.str T.g_InvalidMarks (.str T.g_InvalidPlace (.str T.g_InvalidPair .nil))))) (by simp) (.inr (by simp)) (by exact T.n_law_name) TB_law hT_law (by exact hr) (fun E' A outer s H f c' (hr : _) => (by exact dm_mk (by exact T.h_Panel___init__) (by exact (ok_Panel___init__ T)) (by exact hr) (by exact passes_call (takes_of rfl rfl rfl rfl) (fun _ _ _ _ h => h)) (by exact da_cons de_int (by exact da_cons de_int da_nil)))) (LamX.lamS_by (sc := defScope s_law) (by decide +kernel))) de_str) (by exact dss_one (by exact ds_ret de_bl)) dss_nil) (by exact dss_cons (by exact ds_if (by exact t_ne (by exact hr) (by exact de_name (e := "e") (k := 6) (by exact T.h_law_name) rfl sc_law_name (by exact (.str T.g_InvalidWeights (.str T.g_InvalidMarks (.str T.g_InvalidPlace (.str T.g_InvalidPair .nil))))) (by simp) (.inr (by simp)) (by exact T.n_law_name) TB_law hT_law (by exact hr) (fun E' A outer s H f c' (hr : _) => (by exact dm_mk (by exact T.h_Panel___init__) (by exact (ok_Panel___init__ T)) (by exact hr) (by exact passes_call (takes_of rfl rfl rfl rfl) (fun _ _ _ _ h => h)) (by exact da_cons de_int (by exact da_cons de_int da_nil)))) (LamX.lamS_by (sc := defScope s_law) (by decide +kernel))) de_str) (by exact dss_one (by exact ds_ret de_bl)) dss_nil) (by exact dss_one (by exact ds_ret (by exact e_eq (by exact hr) (by exact de_name (e := "e") (k := 6) (by exact T.h_law_name) rfl sc_law_name (by exact (.str T.g_InvalidWeights (.str T.g_InvalidMarks (.str T.g_InvalidPlace (.str T.g_InvalidPair .nil))))) (by simp) (.inr (by simp)) (by exact T.n_law_name) TB_law hT_law (by exact hr) (fun E' A outer s H f c' (hr : _) => (by exact dm_mk (by exact T.h_Panel___init__) (by exact (ok_Panel___init__ T)) (by exact hr) (by exact passes_call (takes_of rfl rfl rfl rfl) (fun _ _ _ _ h => h)) (by exact da_cons (by exact de_tup (n := 2) (by exact da_cons de_int (by exact da_cons de_int da_nil))) da_nil))) (LamX.lamS_by (sc := defScope s_law) (by decide +kernel))) de_str)))))))) law_true
end
end K13

set_option Elab.async false
set_option linter.all false
set_option maxRecDepth 100000
set_option maxHeartbeats 2000000
/-! weights without a common divisor -/
namespace K13
open DK
def red (ws : List Int) : List Int := ws.map (· / foldG 0 ws)
theorem Wts.g {ws : List Int} (W : Wts ws) : 0 < foldG 0 ws ∧ foldG 0 ws ≤ 1000 := by
  obtain ⟨x, hx, x0⟩ := pos_mem W.lo W.sum
  obtain ⟨g0, g1⟩ := foldG_pos hx x0
  exact ⟨g0, Int.le_trans g1 (W.hi x hx)⟩
theorem snn : ∀ {l : List Int}, (∀ x ∈ l, 0 ≤ x) → 0 ≤ l.sum
  | [], _ => by simp
  | x :: l, h => by
    have := snn (l := l) fun z hz => h z (by simp [hz])
    have := h x (by simp)
    rw [List.sum_cons]
    omega
theorem sum_pos {l : List Int} (h : ∀ x ∈ l, 0 ≤ x) {x : Int} (hx : x ∈ l) (x0 : 0 < x) : 0 < l.sum := by
  induction l with
  | nil => cases hx
  | cons y l ih =>
    have hy := h y (by simp)
    rw [List.sum_cons]
    have hl : 0 ≤ l.sum := snn fun z hz => h z (by simp [hz])
    rcases List.mem_cons.mp hx with rfl | hx
    · omega
    · have := ih (fun z hz => h z (by simp [hz])) hx
      omega
theorem red_len (ws : List Int) : (red ws).length = ws.length := by simp [red]
theorem red_W {ws : List Int} (W : Wts ws) : Wts (red ws) := by
  obtain ⟨g0, g1⟩ := Wts.g W
  have dv := (foldG_dvd (l := ws) (g := 0)).2
  have lo : ∀ w ∈ red ws, 0 ≤ w := fun w hw => by
    obtain ⟨u, hu, rfl⟩ := List.mem_map.mp hw
    exact Int.ediv_nonneg (W.lo u hu) (by omega)
  obtain ⟨x, hx, x0⟩ := pos_mem W.lo W.sum
  refine ⟨fun z => W.ne (List.map_eq_nil_iff.mp z), by rw [red_len]; exact W.len, lo, fun w hw => ?_, sum_pos lo (List.mem_map_of_mem hx) ?_⟩
  · obtain ⟨u, hu, rfl⟩ := List.mem_map.mp hw
    have h1 := W.hi u hu
    have h0 := W.lo u hu
    exact Int.le_trans (Int.ediv_le_self _ h0) h1
  · obtain ⟨k, hk⟩ := dv x hx
    rw [hk, Int.mul_ediv_cancel_left _ (by omega)]
    rcases Int.lt_or_le 0 k with z | z
    · exact z
    · have := Int.mul_nonpos_of_nonneg_of_nonpos (Int.le_of_lt g0) z
      omega
theorem red_one {ws : List Int} (W : Wts ws) : foldG 0 (red ws) = 1 := foldG_one (Wts.g W).1
theorem red_of_one {ws : List Int} (h : foldG 0 ws = 1) : red ws = ws := by
  unfold red
  rw [h]
  simp
theorem foldG_mem {a b : List Int} (h : ∀ x, x ∈ a ↔ x ∈ b) : foldG 0 a = foldG 0 b := by
  refine Int.dvd_antisymm (foldG_nn (by omega)) (foldG_nn (by omega)) ?_ ?_
  · exact foldG_great (Int.dvd_zero _) fun w hw => (foldG_dvd (l := a) (g := 0)).2 w ((h w).mpr hw)
  · exact foldG_great (Int.dvd_zero _) fun w hw => (foldG_dvd (l := b) (g := 0)).2 w ((h w).mp hw)
theorem foldG_rev (ws : List Int) : foldG 0 ws.reverse = foldG 0 ws := foldG_mem fun x => List.mem_reverse
theorem red_rev (ws : List Int) : red ws.reverse = (red ws).reverse := by
  unfold red
  rw [foldG_rev, List.map_reverse]
theorem rev_W {ws : List Int} (W : Wts ws) : Wts ws.reverse :=
  ⟨fun z => W.ne (List.reverse_eq_nil_iff.mp z), by rw [List.length_reverse]; exact W.len, fun w hw => W.lo w (List.mem_reverse.mp hw), fun w hw => W.hi w (List.mem_reverse.mp hw), by rw [List.sum_reverse]; exact W.sum⟩
/-- a multiple of weights without a common divisor -/
theorem red_times {due : List Int} (h : foldG 0 due = 1) {t : Int} (ht : 0 < t) : red (due.map (t * ·)) = due := by
  have g : foldG 0 (due.map (t * ·)) = t := by
    have n0 : 0 ≤ foldG 0 (due.map (t * ·)) := foldG_nn (by omega)
    have d1 : t ∣ foldG 0 (due.map (t * ·)) := foldG_great (Int.dvd_zero _) fun w hw => by
      obtain ⟨u, _, rfl⟩ := List.mem_map.mp hw
      exact Int.dvd_mul_right _ _
    obtain ⟨k, hk⟩ := d1
    have dk : k ∣ foldG 0 due := foldG_great (Int.dvd_zero _) fun w hw => by
      have := (foldG_dvd (l := due.map (t * ·)) (g := 0)).2 (t * w) (List.mem_map_of_mem hw)
      rw [hk] at this
      exact Int.dvd_of_mul_dvd_mul_left (by omega) this
    rw [h] at dk
    have k0 : 0 ≤ k := by
      rcases Int.lt_or_le k 0 with z | z
      · have := Int.mul_neg_of_pos_of_neg ht z
        omega
      · exact z
    have k1 : k = 1 := Int.eq_one_of_dvd_one k0 dk
    rw [hk, k1, Int.mul_one]
  unfold red
  rw [g, List.map_map]
  have : ((· / t) ∘ fun x => t * x) = fun x : Int => x := by
    funext x
    show t * x / t = x
    exact Int.mul_ediv_cancel_left _ (by omega)
  rw [this]
  simp
theorem vmix_comm : ∀ (a b : List Int), vmix a b = vmix b a := fun a b => by
  unfold vmix
  generalize a.sum = s
  generalize b.sum = t
  induction a generalizing b with
  | nil => cases b <;> rfl
  | cons x a ih =>
    cases b with
    | nil => rfl
    | cons y b => rw [List.zipWith_cons_cons, List.zipWith_cons_cons, ih, Int.add_comm]
theorem mix_comm (a b : List Int) : mix a b = mix b a := by
  unfold mix
  rw [vmix_comm a b]
/-- the greatest divisor that divides all -/
theorem divides_all {ws : List Int} {p : Int} : (∀ w ∈ ws, w % p = 0) ↔ p ∣ foldG 0 ws :=
  ⟨fun h => foldG_great (Int.dvd_zero _) fun w hw => Int.dvd_of_emod_eq_zero (h w hw), fun h w hw => Int.emod_eq_zero_of_dvd (Int.dvd_trans h ((foldG_dvd (l := ws) (g := 0)).2 w hw))⟩
end K13

set_option Elab.async false
set_option linter.all false
set_option maxRecDepth 100000
set_option maxHeartbeats 2000000
namespace K13
open PySem PySem.Spec PyProof.Rows L2 RZ DK
theorem draw_ok {a b n : Int} (h : Sr a b) (hn : 0 < n) (hn2 : n < 1073741824) : ∃ r a' b', g_law_draw [.int a, .int b] [.int n] = .ok (.p (.int r), [.int a', .int b']) ∧ Sr a' b' ∧ 0 ≤ r ∧ r < n := by
  obtain ⟨h1, h2, h3⟩ := h
  by_cases ha : 0 < a
  · refine ⟨a % n, a / n, b, ?_, ⟨Int.ediv_nonneg h1 (by omega), h2, h3⟩, Int.emod_nonneg _ (by omega), Int.emod_lt_of_pos _ hn⟩
    simp [g_law_draw, b_law_draw, ha, hn, hn2]
  · have m1 : mulOk b 48271 = true := mul_ok2 (by omega)
    have q1 : 0 ≤ b * 48271 % 2147483647 := Int.emod_nonneg _ (by omega)
    have q2 : b * 48271 % 2147483647 < 2147483647 := Int.emod_lt_of_pos _ (by omega)
    have m2 : mulOk (b * 48271 % 2147483647) (b * 48271 % 2147483647) = true := mul_ok (by omega)
    refine ⟨(b * 48271 % 2147483647) * (b * 48271 % 2147483647) % 2147483629 / 64 % n, a, b * 48271 % 2147483647, ?_, ⟨h1, q1, q2⟩, Int.emod_nonneg _ (by omega), Int.emod_lt_of_pos _ hn⟩
    simp [g_law_draw, b_law_draw, ha, hn, m1, m2]
theorem choice_ok {a b : Int} {xs : List Int} (h : Sr a b) (hx : xs ≠ []) (hl : xs.length < 1000) : ∃ x a' b', g_law_choice [.int a, .int b] [.lst (xs.map D.int)] = .ok (.p (.int x), [.int a', .int b']) ∧ Sr a' b' ∧ x ∈ xs := by
  have hp : 0 < xs.length := List.length_pos_iff.mpr hx
  obtain ⟨r, a', b', e, h', r0, r1⟩ := draw_ok (n := (xs.length : Int)) h (by omega) (by omega)
  have hr : r.toNat < xs.length := by omega
  refine ⟨xs[r.toNat], a', b', ?_, h', List.getElem_mem _⟩
  have q : atI (xs.map D.int) r = some (.int xs[r.toNat]) := by
    rw [atI_map, atI_at r0 (by omega), List.getElem?_eq_getElem hr]
    rfl
  simp [g_law_choice, b_law_choice, e, q]
theorem source_ok {ns : List Int} {k : Int} (hk : 0 ≤ k) (hk2 : k < 1000) : ∃ a b, f_law_source [.scr ns, .int k] = .ok (.o [.int a, .int b]) ∧ Sr a b := by
  have core : ∀ c : Int, 0 ≤ c → ∃ a b, (fSeq (fIfS (fOp2 gLt (fV 2) (fOp2 gPow (fC (.int 10)) (fC (.int 18)))) (fRet (fLst (fCons (fC (.int 0)) (fCons (fOp2 gAdd (fC (.int 1)) (fOp2 gMod (fOp2 gAdd (fOp2 gMu (fV 2) (fC (.int 7919))) (fOp2 gMu (fC (.int 104729)) (fV 1))) (fC (.int 2147483646)))) fNil)))) fNext)
      (fRet (fLst (fCons (fV 2) (fCons (fOp2 gAdd (fC (.int 1)) (fOp2 gMod (fOp2 gAdd (fV 2) (fV 1)) (fC (.int 2147483646)))) fNil))))) [.p (.scr ns), .p (.int k), .p (.int c)] = .ok (.rt (.o [.int a, .int b]) [.p (.scr ns), .p (.int k), .p (.int c)]) ∧ Sr a b := fun c hc => by
    have hc1 := Int.emod_nonneg (c * 7919 + 104729 * k) (show (2147483646 : Int) ≠ 0 by omega)
    have hc2 := Int.emod_lt_of_pos (c * 7919 + 104729 * k) (show (0 : Int) < 2147483646 by omega)
    have hd1 := Int.emod_nonneg (c + k) (show (2147483646 : Int) ≠ 0 by omega)
    have hd2 := Int.emod_lt_of_pos (c + k) (show (0 : Int) < 2147483646 by omega)
    have m1 : mulOk c 7919 = true := mul_ok2 (by omega)
    have m2 : mulOk 104729 k = true := mul_ok (by omega)
    by_cases h : c < 1000000000000000000
    · refine ⟨0, 1 + (c * 7919 + 104729 * k) % 2147483646, ?_, ⟨by omega, by omega, by omega⟩⟩
      simp [h, m1, m2]
    · refine ⟨c, 1 + (c + k) % 2147483646, ?_, ⟨hc, by omega, by omega⟩⟩
      simp [h]
  by_cases h : k < ns.length
  · have hn : k.toNat < ns.length := by omega
    have q : atI ns k = some ns[k.toNat] := by
      rw [atI_at hk h, List.getElem?_eq_getElem hn]
    obtain ⟨a, b, e, hs⟩ := core (if ns[k.toNat] < 0 then -ns[k.toNat] else ns[k.toNat]) (by split <;> omega)
    refine ⟨a, b, ?_, hs⟩
    have e' : f_law_source [.scr ns, .int k] = ((fSeq (fIfS (fOp2 gLt (fV 2) (fOp2 gPow (fC (.int 10)) (fC (.int 18)))) (fRet (fLst (fCons (fC (.int 0)) (fCons (fOp2 gAdd (fC (.int 1)) (fOp2 gMod (fOp2 gAdd (fOp2 gMu (fV 2) (fC (.int 7919))) (fOp2 gMu (fC (.int 104729)) (fV 1))) (fC (.int 2147483646)))) fNil)))) fNext)
      (fRet (fLst (fCons (fV 2) (fCons (fOp2 gAdd (fC (.int 1)) (fOp2 gMod (fOp2 gAdd (fV 2) (fV 1)) (fC (.int 2147483646)))) fNil))))) [.p (.scr ns), .p (.int k), .p (.int (if ns[k.toNat] < 0 then -ns[k.toNat] else ns[k.toNat]))]).bind kRun := by
      unfold f_law_source b_law_source
      rw [runF_eq, if_pos (show [D.scr ns, D.int k].length = 2 from rfl), fSeq_eq, fSet_eq, fC_eq]
      simp only [fSeq_eq (f1 := fIfS (fOp2 gLt (fV 1) _) _ _), R.bind_ok, kSet_eq, fzR_p, kSet2_eq, put_p, sK_nx]
      simp [h, q, -fSeq_eq]
    rw [e', e]
    rfl
  · obtain ⟨a, b, e, hs⟩ := core 0 (by omega)
    refine ⟨a, b, ?_, hs⟩
    have e' : f_law_source [.scr ns, .int k] = ((fSeq (fIfS (fOp2 gLt (fV 2) (fOp2 gPow (fC (.int 10)) (fC (.int 18)))) (fRet (fLst (fCons (fC (.int 0)) (fCons (fOp2 gAdd (fC (.int 1)) (fOp2 gMod (fOp2 gAdd (fOp2 gMu (fV 2) (fC (.int 7919))) (fOp2 gMu (fC (.int 104729)) (fV 1))) (fC (.int 2147483646)))) fNil)))) fNext)
      (fRet (fLst (fCons (fV 2) (fCons (fOp2 gAdd (fC (.int 1)) (fOp2 gMod (fOp2 gAdd (fV 2) (fV 1)) (fC (.int 2147483646)))) fNil))))) [.p (.scr ns), .p (.int k), .p (.int 0)]).bind kRun := by
      unfold f_law_source b_law_source
      rw [runF_eq, if_pos (show [D.scr ns, D.int k].length = 2 from rfl), fSeq_eq, fSet_eq, fC_eq]
      simp only [fSeq_eq (f1 := fIfS (fOp2 gLt (fV 1) _) _ _), R.bind_ok, kSet_eq, fzR_p, kSet2_eq, put_p, sK_nx]
      simp [h, -fSeq_eq]
    rw [e', e]
    rfl
theorem divisor_ok {a b : Int} (ha : 0 ≤ a) (hb : 0 ≤ b) : f_divisor [.int a, .int b] = .ok (.p (.int (gg a b))) := by
  have h := gcd_loopI (s0 := .p (.int a)) (s1 := .p (.int b)) ha hb
  simp [f_divisor, b_divisor, fuelI, h]
theorem lowest_ok {a b : Int} (ha : 0 ≤ a) (hb : 0 < b) (hb2 : b < 1073741824) : f_lowest [.int a, .int b] = .ok (.p (fr a b)) := by
  have h := divisor_ok (a := a) (b := b) ha (by omega)
  have g0 := gg_pos (a := a) hb
  have g1 := gg_le (a := a) hb
  have g2 : gg a b < 1073741824 := by omega
  simp [f_lowest, b_lowest, h, g0, g2, fr]
theorem is_between_ok (v lo hi : Int) : f_is_between [.int v, .int lo, .int hi] = .ok (.p (.bl (decide (lo ≤ v) && decide (v ≤ hi)))) := by
  simp [f_is_between, b_is_between]
  by_cases h : lo ≤ v <;> simp [h]
theorem are_integers_ok {ns : List Int} {least most high : Int} (hl : ns.length ≤ 1000) (h : ∀ n ∈ ns, 0 ≤ n ∧ n ≤ high) (h1 : least ≤ ns.length) (h2 : (ns.length : Int) ≤ most) : f_are_integers [iT ns, .int least, .int most, .int high] = .ok (.p (.bl true)) := by
  have q := lc_map (tg := tgName 4) (fe := fCall f_is_between (fCons (fV 4) (fCons (fC (.int 0)) (fCons (fV 3) fNil)))) (vs := [4]) (st := [.p (iT ns), .p (.int least), .p (.int most), .p (.int high), .un]) (fun _ => .bl true) (ds := ns.map D.int) (acc := []) (by simp; omega) fun d hd => by
    obtain ⟨n, hn, rfl⟩ := List.mem_map.mp hd
    obtain ⟨p1, p2⟩ := h n hn
    exact ⟨_, _, .p (.bl true), rfl, by simp [is_between_ok, p1, p2], rfl, by simp⟩
  have e : (ns.map D.int).map (fun _ => D.bl true) = (ns.map fun _ => true).map D.bl := by simp
  rw [e] at q
  simp only [List.nil_append] at q
  simp [f_are_integers, b_are_integers, h1, h2, q, -List.map_map, -List.map_const']
theorem is_weights_ok {ws : List Int} (h : Wts ws) : f_is_weights [iT ws] = .ok (.p (.bl true)) := by
  have p := h.pos
  have l := h.len
  have s := h.sum
  have q := are_integers_ok (ns := ws) (least := 1) (most := 8) (high := 1000) (by omega) (fun n hn => ⟨h.lo n hn, h.hi n hn⟩) (by omega) (by omega)
  simp [f_is_weights, b_is_weights, q, s]
theorem need_weights_ok {ws : List Int} (h : Wts ws) : f_need_weights [iT ws] = .ok (.p .non) := by
  simp [f_need_weights, b_need_weights, is_weights_ok h]
theorem are_marks_ok {ws ms : List Int} (h : Wts ws) (k : Mks ws.length ms) : f_are_marks [iT ws, iT ms] = .ok (.p (.bl true)) := by
  have l := h.len
  have l2 := k.len
  have q := are_integers_ok (ns := ms) (least := ws.length) (most := ws.length) (high := 1000) (by omega) (fun n hn => ⟨k.lo n hn, k.hi n hn⟩) (by omega) (by omega)
  simp [f_are_marks, b_are_marks, q]
theorem need_marks_ok {ws ms : List Int} (h : Wts ws) (k : Mks ws.length ms) : f_need_marks [iT ws, iT ms] = .ok (.p .non) := by
  simp [f_need_marks, b_need_marks, are_marks_ok h k]
theorem score_of_ok {ws ms : List Int} (h : Wts ws) (k : Mks ws.length ms) : f_score_of [iT ws, iT ms] = .ok (.p (fr (dot ws (desc ms)) ws.sum)) := by
  have l := h.len
  have l2 := k.len
  have q := lc_map (tg := tgTup [3, 4]) (fe := fOp2 gMu (fV 3) (fV 4)) (vs := [3, 4]) (st := [.p (iT ws), .p (iT ms), .un, .un, .un]) mulD (ds := zipD (ws.map D.int) ((desc ms).map D.int)) (acc := []) (by rw [zipD_len]; simp; omega) fun d hd => by
    obtain ⟨w, m, hw, hm, rfl⟩ := mem_zipD hd
    have b1 := h.lo w hw
    have b2 := h.hi w hw
    have mo : mulOk w m = true := mul_ok (by omega)
    exact ⟨_, _, .p (.int (w * m)), rfl, by simp [mo], rfl, by simp⟩
  rw [mulD_zip] at q
  simp only [List.nil_append] at q
  have hs := h.sum_le
  have lo := lowest_ok (a := dot ws (desc ms)) (b := ws.sum) (dot_nonneg h.lo (by rw [desc_len, l2]) fun m hm => k.lo m (desc_mem.mp hm)) h.sum (by omega)
  have e : ((srt ms).map D.int).reverse = (desc ms).map D.int := by unfold desc; rw [List.map_reverse]
  have e2 : (List.zipWith (fun x1 x2 => x1 * x2) ws (desc ms)).sum = dot ws (desc ms) := rfl
  simp [f_score_of, b_score_of, e, q, e2, lo, -List.map_reverse, -List.map_zipWith]
theorem law_lowest_ok {a b : Int} (ha : 0 ≤ a) (hb : 0 < b) (hb2 : b < 1073741824) : f_law_lowest [.int a, .int b] = .ok (.p (fr a b)) := by
  have h := gcd_loopI (s0 := .p (.int a)) (s1 := .p (.int b)) ha (show 0 ≤ b by omega)
  have g0 := gg_pos (a := a) hb
  have g1 := gg_le (a := a) hb
  have g2 : gg a b < 1073741824 := by omega
  simp [f_law_lowest, b_law_lowest, fuelI, h, g0, g2, fr]
theorem total_loop {s0 s1 : Sl} : ∀ (ws l : List Int) (t : Int) (s4 s5 : Sl), ws.length = l.length → (∀ w ∈ ws, 0 ≤ w ∧ w ≤ 1000) → ∃ s4' s5', forL (tgName 4) (fSeq (fSet 5 (fCB gMax (fCons (fV 2) fNil)))
      (fSeq (fRem 2 (fV 5)) (fSet 3 (fOp2 gAdd (fV 3) (fOp2 gMu (fV 4) (fV 5)))))) (ws.map D.int) [s0, s1, .o (l.map D.int), .p (.int t), s4, s5] = .ok (.nx [s0, s1, .o [], .p (.int (t + dot ws (desc l))), s4', s5'])
  | [], [], t, s4, s5, _, _ => ⟨s4, s5, by simp [forL]⟩
  | [], _ :: _, t, s4, s5, h, _ => by simp at h
  | w :: ws, [], t, s4, s5, h, _ => by simp at h
  | w :: ws, x :: r, t, s4, s5, h, hw => by
    obtain ⟨w0, w1⟩ := hw w (by simp)
    have hm := (maxI_spec (ns := x :: r) (by simp)).1
    have mo : mulOk w (maxI (x :: r)) = true := mul_ok (by omega)
    obtain ⟨s4', s5', ih⟩ := total_loop (s0 := s0) (s1 := s1) ws ((x :: r).erase (maxI (x :: r))) (t + w * maxI (x :: r)) (.p (.int w)) (.p (.int (maxI (x :: r)))) (by
      rw [List.length_erase_of_mem hm]
      simpa using h) fun w h => hw w (by simp [h])
    refine ⟨s4', s5', ?_⟩
    rw [max_cons (l := x :: r) (by simp), dot_cons, ← Int.add_assoc]
    have gm := gMax_l (ns := x :: r) (by simp)
    have re := rem1_erase hm
    generalize maxI (x :: r) = M at *
    generalize x :: r = L at *
    have bd : (fSeq (fSet 5 (fCB gMax (fCons (fV 2) fNil))) (fSeq (fRem 2 (fV 5)) (fSet 3 (fOp2 gAdd (fV 3) (fOp2 gMu (fV 4) (fV 5)))))) [s0, s1, .o (L.map D.int), .p (.int t), .p (.int w), s5] = .ok (.nx [s0, s1, .o ((L.erase M).map D.int), .p (.int (t + w * M)), .p (.int w), .p (.int M)]) := by
      simp [gm, re, mo]
    rw [List.map_cons, forL_step (st1 := [s0, s1, .o (L.map D.int), .p (.int t), .p (.int w), s5]) rfl bd]
    exact ih
theorem law_total_ok {ws ms : List Int} (h : Wts ws) (k : Mks ws.length ms) : f_law_total [iT ws, iT ms] = .ok (.p (.int (dot ws (desc ms)))) := by
  obtain ⟨s4, s5, q⟩ := total_loop (s0 := .p (iT ws)) (s1 := .p (iT ms)) ws ms 0 .un .un k.len.symm fun w hw => ⟨h.lo w hw, h.hi w hw⟩
  simp only [Int.zero_add] at q
  simp [f_law_total, b_law_total, l1_law_total, q]
theorem law_score_ok {ws ms : List Int} (h : Wts ws) (k : Mks ws.length ms) : f_law_score [iT ws, iT ms] = .ok (.p (fr (dot ws (desc ms)) ws.sum)) := by
  have hs := h.sum_le
  have lo := law_lowest_ok (a := dot ws (desc ms)) (b := ws.sum) (dot_nonneg h.lo (by rw [desc_len, k.len]) fun m hm => k.lo m (desc_mem.mp hm)) h.sum (by omega)
  simp [f_law_score, b_law_score, law_total_ok h k, lo]
theorem ints_of {p : Int → Prop} : ∀ {out : List D}, (∀ x ∈ out, ∃ n, x = .int n ∧ p n) → ∃ ns : List Int, out = ns.map D.int ∧ ∀ n ∈ ns, p n
  | [], _ => ⟨[], rfl, by simp⟩
  | x :: out, h => by
    obtain ⟨n, rfl, pn⟩ := h x (by simp)
    obtain ⟨ns, rfl, hp⟩ := ints_of (out := out) fun y hy => h y (by simp [hy])
    exact ⟨n :: ns, rfl, fun m hm => by
      rcases List.mem_cons.mp hm with rfl | hm
      · exact pn
      · exact hp m hm⟩
theorem sum_set_pos : ∀ {l : List Int} {i : Nat} {v : Int}, (∀ m ∈ l, 0 ≤ m) → i < l.length → 0 < v → 0 < (l.set i v).sum
  | [], i, v, _, h, _ => by simp at h
  | x :: l, 0, v, h, _, hv => by
    rw [List.set_cons_zero, List.sum_cons]
    have := sum_nonneg (l := l) fun m hm => h m (by simp [hm])
    omega
  | x :: l, i + 1, v, h, hi, hv => by
    rw [List.set_cons_succ, List.sum_cons]
    have := sum_set_pos (l := l) (i := i) (fun m hm => h m (by simp [hm])) (by simpa using hi) hv
    have := h x (by simp)
    omega
theorem wts_of {ws : List Int} {count : Int} (h1 : 1 ≤ count) (h2 : count ≤ 8) (hl : (ws.length : Int) = count) (hb : ∀ n ∈ ws, 0 ≤ n ∧ n ≤ 1000) (hs : ¬ ws.sum = 0) : Wts ws := by
  have h0 := sum_nonneg (l := ws) fun m hm => (hb m hm).1
  exact ⟨fun e => by rw [e] at hl; simp at hl; omega, by omega, fun w hw => (hb w hw).1, fun w hw => (hb w hw).2, by omega⟩
theorem weights_ok {a b count : Int} (h : Sr a b) (h1 : 1 ≤ count) (h2 : count ≤ 8) : ∃ ws a' b', g_law_weights [.int a, .int b] [.int count] = .ok (.p (iT ws), [.int a', .int b']) ∧ Sr a' b' ∧ Wts ws ∧ (ws.length : Int) = count := by
  obtain ⟨high, a1, b1, e1, s1, hm⟩ := choice_ok (xs := [1, 2, 5, 1000]) h (by simp) (by simp)
  have hh : 1 ≤ high ∧ high ≤ 1000 := by
    simp at hm
    omega
  have rc : rOk count = true := by unfold rOk; simp; omega
  obtain ⟨out, st', q, ⟨a2, b2, rfl, s2⟩, ol, op⟩ := lc_inv (tg := tgName 5) (fe := fCallS g_law_draw (fCons (fV 0) (fCons (fOp2 gAdd (fV 2) (fC (.int 1))) fNil))) (vs := [5])
    (fun st => ∃ a b, st = [.s [.int a, .int b], .p (.int count), .p (.int high), .un, .un, .un] ∧ Sr a b) (fun x => ∃ n, x = .int n ∧ (0 ≤ n ∧ n ≤ high))
    (ds := rng 0 count.toNat) (acc := []) (st := [.s [.int a1, .int b1], .p (.int count), .p (.int high), .un, .un, .un]) (by simp; omega) ⟨a1, b1, rfl, s1⟩ (by simp) fun d hd st ⟨x, y, e, hs⟩ => by
      subst e
      obtain ⟨r, a', b', er, hs', r0, r1⟩ := draw_ok (n := high + 1) hs (by omega) (by omega)
      exact ⟨_, _, _, _, _, rfl, by simp [er]; exact ⟨rfl, rfl⟩, rfl, ⟨a', b', by simp, hs'⟩, r, rfl, r0, by omega⟩
  obtain ⟨fs, rfl, fb⟩ := ints_of op
  have fl : (fs.length : Int) = count := by
    simp at ol
    omega
  obtain ⟨way, a3, b3, e3, s3, _, _⟩ := draw_ok (n := 5) s2 (by omega) (by omega)
  obtain ⟨v, a4, b4, e4, s4, v0, v1⟩ := draw_ok (n := high) s3 (by omega) (by omega)
  obtain ⟨i, a5, b5, e5, s5, i0, i1⟩ := draw_ok (n := count) s4 (by omega) (by omega)
  have e1' : g_law_choice [.int a, .int b] [.lst [.int 1, .int 2, .int 5, .int 1000]] = .ok (.p (.int high), [.int a1, .int b1]) := e1
  have fin : ∀ ns : List Int, (ns.length : Int) = count → (∀ n ∈ ns, 0 ≤ n ∧ n ≤ high) → (ixN ns.length i = some i.toNat → g_law_weights [.int a, .int b] [.int count] = if ns.sum = 0 then .ok (.p (iT (ns.set i.toNat (1 + v))), [.int a5, .int b5]) else .ok (.p (iT ns), [.int a3, .int b3])) → ∃ ws a' b', g_law_weights [.int a, .int b] [.int count] = .ok (.p (iT ws), [.int a', .int b']) ∧ Sr a' b' ∧ Wts ws ∧ (ws.length : Int) = count := fun ns nl nb e => by
    have e := e (ixN_at i0 (by omega))
    by_cases hs : ns.sum = 0
    · have hi : i.toNat < ns.length := by omega
      rw [if_pos hs] at e
      refine ⟨ns.set i.toNat (1 + v), a5, b5, e, s5, ?_, by simpa using nl⟩
      refine wts_of h1 h2 (by simpa using nl) (fun n hn => ?_) (by have := sum_set_pos (l := ns) (i := i.toNat) (v := 1 + v) (fun m hm => (nb m hm).1) hi (by omega); omega)
      rcases List.mem_or_eq_of_mem_set hn with hn | rfl
      · have := nb n hn; omega
      · omega
    · rw [if_neg hs] at e
      exact ⟨ns, a3, b3, e, s3, wts_of h1 h2 nl (fun n hn => by have := nb n hn; omega) hs, nl⟩
  by_cases w0 : way = 0
  · refine fin (srt fs) (by rw [srt_len]; exact fl) (fun n hn => fb n ((srt_perm fs).mem_iff.mp hn)) fun x1 => ?_
    subst w0
    by_cases hs : (srt fs).sum = 0 <;> simp [g_law_weights, b_law_weights, e1', rc, q, e3, e4, e5, hs, x1, List.map_set]
  by_cases w1 : way = 1
  · refine fin (desc fs) (by rw [desc_len]; exact fl) (fun n hn => fb n (desc_mem.mp hn)) fun x1 => ?_
    subst w1
    have e : ((srt fs).map D.int).reverse = (desc fs).map D.int := by unfold desc; rw [List.map_reverse]
    by_cases hs : (desc fs).sum = 0 <;> simp [g_law_weights, b_law_weights, e1', rc, q, e3, e4, e5, hs, x1, e, -List.map_reverse, List.map_set]
  · refine fin fs fl fb fun x1 => ?_
    by_cases hs : fs.sum = 0 <;> simp [g_law_weights, b_law_weights, e1', rc, q, e3, e4, e5, hs, x1, w0, w1, List.map_set]
theorem marks_ok {a b count most : Int} (h : Sr a b) (h1 : 1 ≤ count) (h2 : count ≤ 8) (m0 : 0 ≤ most) (m1 : most ≤ 1000) : ∃ ms a' b', g_law_marks [.int a, .int b] [.int count, .int most] = .ok (.p (iT ms), [.int a', .int b']) ∧ Sr a' b' ∧ (ms.length : Int) = count ∧ ∀ m ∈ ms, 0 ≤ m ∧ m ≤ most := by
  have rc : rOk count = true := by unfold rOk; simp; omega
  obtain ⟨out, st', q, ⟨a2, b2, rfl, s2⟩, ol, op⟩ := lc_inv (tg := tgName 3) (fe := fCallS g_law_draw (fCons (fV 0) (fCons (fOp2 gAdd (fV 2) (fC (.int 1))) fNil))) (vs := [3])
    (fun st => ∃ a b, st = [.s [.int a, .int b], .p (.int count), .p (.int most), .un] ∧ Sr a b) (fun x => ∃ n, x = .int n ∧ (0 ≤ n ∧ n ≤ most))
    (ds := rng 0 count.toNat) (acc := []) (st := [.s [.int a, .int b], .p (.int count), .p (.int most), .un]) (by simp; omega) ⟨a, b, rfl, h⟩ (by simp) fun d hd st ⟨x, y, e, hs⟩ => by
      subst e
      obtain ⟨r, a', b', er, hs', r0, r1⟩ := draw_ok (n := most + 1) hs (by omega) (by omega)
      exact ⟨_, _, _, _, _, rfl, by simp [er]; exact ⟨rfl, rfl⟩, rfl, ⟨a', b', by simp, hs'⟩, r, rfl, r0, by omega⟩
  obtain ⟨fs, rfl, fb⟩ := ints_of op
  refine ⟨fs, a2, b2, ?_, s2, by simp at ol; omega, fb⟩
  simp [g_law_marks, b_law_marks, rc, q]
theorem need_pair_ok {ws os : List Int} (h : ws.length = os.length) : f_need_pair [iT ws, iT os] = .ok (.p .non) := by
  simp [f_need_pair, b_need_pair, h]
theorem need_both_ok {ws os : List Int} (W : Wts ws) (O : Wts os) (h : ws.length = os.length) : f_need_both [iT ws, iT os] = .ok (.p .non) := by
  simp [f_need_both, b_need_both, need_weights_ok W, need_weights_ok O, need_pair_ok h]
theorem red_loop {s0 : Sl} : ∀ (v : List Int) (g : Int) (s2 : Sl), 0 ≤ g → (∀ w ∈ v, 0 ≤ w) → ∃ s2', forL (tgName 2) l1_reduced (v.map D.int) [s0, .p (.int g), s2] = .ok (.nx [s0, .p (.int (foldG g v)), s2'])
  | [], g, s2, _, _ => ⟨s2, rfl⟩
  | w :: v, g, s2, hg, hv => by
    obtain ⟨s2', e⟩ := red_loop (s0 := s0) v (gg w g) (.p (.int w)) (by unfold gg; omega) fun w h => hv w (by simp [h])
    refine ⟨s2', ?_⟩
    have d := divisor_ok (hv w (by simp)) hg
    rw [List.map_cons, forL_step (st1 := [s0, .p (.int g), .p (.int w)]) (st2 := [s0, .p (.int (gg w g)), .p (.int w)]) rfl (by simp [l1_reduced, d])]
    exact e
theorem reduced_ok {v : List Int} (hv : ∀ x ∈ v, 0 ≤ x ∧ x ≤ 16000000) (hp : 0 < v.sum) (hl : v.length ≤ 1000) : f_reduced [.lst (v.map D.int)] = .ok (.p (iT (v.map (· / foldG 0 v)))) := by
  obtain ⟨s2, q⟩ := red_loop (s0 := .p (.lst (v.map D.int))) v 0 .un (by omega) fun w h => (hv w h).1
  obtain ⟨x, hx, x0⟩ := pos_mem (fun w h => (hv w h).1) hp
  obtain ⟨g0, g1⟩ := foldG_pos hx x0
  have g2 : foldG 0 v < 1073741824 := by have := hv x hx; omega
  have lc := lc_map (tg := tgName 2) (fe := fOp2 gFdiv (fV 2) (fV 1)) (vs := [2]) (st := [.p (.lst (v.map D.int)), .p (.int (foldG 0 v)), .un]) (fun x => match x with | .int n => .int (n / foldG 0 v) | x => x) (ds := v.map D.int) (acc := []) (by simp; omega) fun d hd => by
    obtain ⟨n, hn, rfl⟩ := List.mem_map.mp hd
    exact ⟨_, _, .p (.int (n / foldG 0 v)), rfl, by simp [g0, g2], rfl, by simp⟩
  have lce : (v.map D.int).map (fun x => match x with | .int n => .int (n / foldG 0 v) | x => x) = (v.map (· / foldG 0 v)).map D.int := by
    rw [List.map_map, List.map_map]
    rfl
  rw [lce] at lc
  simp only [List.nil_append] at lc
  simp [f_reduced, b_reduced, q, lc, -List.map_map]
def mixD (s t : Int) : D → D
  | .tup [.int a, .int b] => .int (a * s + b * t)
  | d => d
theorem mixD_zip (s t : Int) : ∀ (ws os : List Int), (zipD (ws.map D.int) (os.map D.int)).map (mixD s t) = (List.zipWith (fun a b => a * s + b * t) ws os).map D.int
  | [], os => by simp [zipD]
  | w :: ws, [] => by simp [zipD]
  | w :: ws, o :: os => by simp [zipD, mixD, mixD_zip s t ws os]
theorem mixed_of_ok {ws os : List Int} (W : Wts ws) (O : Wts os) (h : ws.length = os.length) : f_mixed_of [iT ws, iT os] = .ok (.p (iT (mix ws os))) := by
  have s1 := W.sum_le
  have s2 := O.sum_le
  have p1 := W.sum
  have p2 := O.sum
  have wl := W.len
  have q := lc_map (tg := tgTup [4, 5]) (fe := fOp2 gAdd (fOp2 gMu (fV 4) (fV 3)) (fOp2 gMu (fV 5) (fV 2))) (vs := [4, 5]) (st := [.p (iT ws), .p (iT os), .p (.int ws.sum), .p (.int os.sum), .un, .un]) (mixD os.sum ws.sum) (ds := zipD (ws.map D.int) (os.map D.int)) (acc := []) (by rw [zipD_len]; simp; omega) fun d hd => by
    obtain ⟨w, o, hw, ho, rfl⟩ := mem_zipD hd
    have m1 : mulOk w os.sum = true := mul_ok2 (by omega)
    have m2 : mulOk o ws.sum = true := mul_ok2 (by omega)
    exact ⟨_, _, .p (.int (w * os.sum + o * ws.sum)), rfl, by simp [m1, m2], rfl, by simp⟩
  rw [mixD_zip] at q
  simp only [List.nil_append] at q
  have vs : 0 < (vmix ws os).sum := by
    rw [vmix_sum h]
    have := Int.mul_pos p1 p2
    omega
  have r := reduced_ok (v := vmix ws os) (fun x hx => vmix_bd W O hx) vs (by rw [vmix_len h]; omega)
  have e : List.zipWith (fun a b => a * os.sum + b * ws.sum) ws os = vmix ws os := rfl
  rw [e] at q
  have e2 : (vmix ws os).map (· / foldG 0 (vmix ws os)) = mix ws os := rfl
  rw [e2] at r
  simp [f_mixed_of, b_mixed_of, q, r, -List.map_zipWith, -List.map_map]
theorem mixed_ok {ws os : List Int} (W : Wts ws) (O : Wts os) (h : ws.length = os.length) : f_mixed [iT ws, iT os] = .ok (.p (iT (mix ws os))) := by
  simp [f_mixed, b_mixed, need_both_ok W O h, mixed_of_ok W O h]
theorem reduced_okT {v : List Int} (hv : ∀ x ∈ v, 0 ≤ x ∧ x ≤ 16000000) (hp : 0 < v.sum) (hl : v.length ≤ 1000) : f_reduced [.tup (v.map D.int)] = .ok (.p (iT (v.map (· / foldG 0 v)))) := by
  obtain ⟨s2, q⟩ := red_loop (s0 := .p (.tup (v.map D.int))) v 0 .un (by omega) fun w h => (hv w h).1
  obtain ⟨x, hx, x0⟩ := pos_mem (fun w h => (hv w h).1) hp
  obtain ⟨g0, g1⟩ := foldG_pos hx x0
  have g2 : foldG 0 v < 1073741824 := by have := hv x hx; omega
  have lc := lc_map (tg := tgName 2) (fe := fOp2 gFdiv (fV 2) (fV 1)) (vs := [2]) (st := [.p (.tup (v.map D.int)), .p (.int (foldG 0 v)), .un]) (fun x => match x with | .int n => .int (n / foldG 0 v) | x => x) (ds := v.map D.int) (acc := []) (by simp; omega) fun d hd => by
    obtain ⟨n, hn, rfl⟩ := List.mem_map.mp hd
    exact ⟨_, _, .p (.int (n / foldG 0 v)), rfl, by simp [g0, g2], rfl, by simp⟩
  have lce : (v.map D.int).map (fun x => match x with | .int n => .int (n / foldG 0 v) | x => x) = (v.map (· / foldG 0 v)).map D.int := by
    rw [List.map_map, List.map_map]
    rfl
  rw [lce] at lc
  simp only [List.nil_append] at lc
  simp [f_reduced, b_reduced, q, lc, -List.map_map]
end K13

set_option Elab.async false
set_option linter.all false
set_option maxRecDepth 100000
set_option maxHeartbeats 2000000
namespace K13
open PySem PySem.Spec PyProof.Rows L2 RZ DK
abbrev Pn (ws : List Int) : D := .obj "Panel" ["parts"] [iT ws]
@[simp] theorem gFld_p {ws : List Int} : gFld "Panel" "parts" (Pn ws) = some (.p (iT ws)) := by rfl
@[simp] theorem gIsC_p {ws : List Int} : gIsC "Panel" (Pn ws) = some (.p (.bl true)) := by rfl
@[simp] theorem gIsC_t {xs : List D} : gIsC "Panel" (.tup xs) = some (.p (.bl false)) := by rfl
theorem i_ok {ws : List Int} (W : Wts ws) : i_Panel (ws.map D.int) = .ok [iT (red ws)] := by
  have n := need_weights_ok W
  have r := reduced_okT (v := ws) (fun x hx => ⟨W.lo x hx, by have := W.hi x hx; omega⟩) W.sum (by have := W.len; omega)
  unfold i_Panel initF
  rw [show (D.tup (ws.map D.int)) = iT ws from rfl, n]
  dsimp only
  rw [show f_reduced [iT ws] = _ from r]
  dsimp only
  rw [intsD_map]
  rfl
theorem gEq_iT (a b : List Int) : gEq (iT a) (iT b) = some (.p (.bl (decide (a = b)))) := by
  have h : ∀ l : List Int, okDs 11 (l.map D.int) = true := fun l => by
    induction l with
    | nil => simp
    | cons x l ih => rw [List.map_cons, okDs_cons, ih]; simp
  rw [gEq_eq]
  simp [h]
theorem len_ok (ws : List Int) : f_Panel___len__ [Pn ws] = .ok (.p (.int ws.length)) := by
  have g := gFld_p (ws := ws)
  have l : gLen [iT ws] = some (.p (.int ws.length)) := by simp
  generalize iT ws = wT at *
  generalize hp : Pn ws = P at *
  simp [f_Panel___len__, b_Panel___len__, g, l, -gFld_p]
theorem eq_ok (a b : List Int) : f_Panel___eq__ [Pn a, Pn b] = .ok (.p (.bl (decide (a = b)))) := by
  have g1 := gFld_p (ws := a)
  have g2 := gFld_p (ws := b)
  have i := gIsC_p (ws := b)
  have e := gEq_iT a b
  generalize Pn a = A at *
  generalize Pn b = B at *
  generalize iT a = a' at *
  generalize iT b = b' at *
  simp [f_Panel___eq__, b_Panel___eq__, g1, g2, i, e, -gFld_p, -gIsC_p, -gEq_eq]
theorem eq_tup (a : List Int) (xs : List D) : f_Panel___eq__ [Pn a, .tup xs] = .ok (.p (.bl false)) := by
  have i := gIsC_t (xs := xs)
  generalize Pn a = A at *
  generalize D.tup xs = B at *
  simp [f_Panel___eq__, b_Panel___eq__, i, -gIsC_t]
theorem rngM_succ {M : Int} {n : Nat} : rngM M (n + 1) = D.int M :: rngM (M - 1) n := by
  unfold rngM
  rw [List.range_succ_eq_map, List.map_cons, List.map_map]
  congr 1
  · simp
  · refine List.map_congr_left fun i _ => ?_
    show D.int (M - ((i + 1 : Nat) : Int)) = D.int (M - 1 - i)
    congr 1
    omega
def qD (g : Int) : D → Bool
  | .int p => decide (g % p = 0)
  | _ => false
theorem find_g {g : Int} (hg : 0 < g) : ∀ (n : Nat) (M : Int), M = n + 1 → g ≤ M → (rngM M n).find? (qD g) = if g = 1 then none else some (.int g)
  | 0, M, h, hM => by
    have : g = 1 := by omega
    rw [if_pos this]
    rfl
  | n + 1, M, h, hM => by
    rw [rngM_succ]
    by_cases z : g = M
    · have q : qD g (.int M) = true := by
        subst z
        simp [qD]
      rw [List.find?_cons, q, if_neg (by omega), z]
    · have q : qD g (.int M) = false := by
        have : g % M = g := Int.emod_eq_of_lt (by omega) (by omega)
        simp [qD, this]
        omega
      rw [List.find?_cons, q]
      exact find_g hg n (M - 1) (by omega) (by omega)
theorem law_reduced_ok {ws : List Int} (W : Wts ws) : f_law_reduced [iT ws] = .ok (.p (iT (red ws))) := by
  obtain ⟨g0, g1⟩ := Wts.g W
  have wl := W.len
  obtain ⟨x, hx, x0⟩ := pos_mem W.lo W.sum
  obtain ⟨m1, m2⟩ := maxI_spec W.ne
  have gM : foldG 0 ws ≤ maxI ws := Int.le_trans (foldG_pos hx x0).2 (m2 x hx)
  have Mh := W.hi _ m1
  have gm : gMax [iT ws] = some (.p (.int (maxI ws))) := gMax_t W.ne
  have G : ∀ (p : Int), 0 < p → p ≤ 1000 → fOp2 gEq (fLc (fIt (fV 0)) (tgName 2) (nE (fOp2 gNe (fOp2 gMod (fV 2) (fV 1)) (fC (.int 0)))) (nE (fV 2)) [2]) (fLst fNil) [.p (iT ws), .p (.int p), .un] = .ok (.p (.bl (decide (foldG 0 ws % p = 0))), [.p (iT ws), .p (.int p), .un]) := fun p p0 p1 => by
    have q := lc_filter (tg := tgName 2) (ft := fOp2 gNe (fOp2 gMod (fV 2) (fV 1)) (fC (.int 0))) (fe := fV 2) (vs := [2]) (st := [.p (iT ws), .p (.int p), .un]) (fun d => match d with | .int w => !decide (w % p = 0) | _ => false) (fun d => d) (ds := ws.map D.int) (acc := []) (by simp; omega) fun d hd => by
      obtain ⟨w, _, rfl⟩ := List.mem_map.mp hd
      exact ⟨[.p (iT ws), .p (.int p), .p (.int w)], rfl, by
        have h1 : p < 1073741824 := by omega
        simp [p0, h1], by simp, fun _ => ⟨[.p (iT ws), .p (.int p), .p (.int w)], .p (.int w), rfl, rfl, by simp⟩⟩
    have e1 : ((ws.map D.int).filter (fun d => match d with | .int w => !decide (w % p = 0) | _ => false)) = (ws.filter fun w => !decide (w % p = 0)).map D.int := by
      rw [List.filter_map]
      rfl
    rw [List.map_id', e1] at q
    simp only [List.nil_append] at q
    have A : fLc (fIt (fV 0)) (tgName 2) (nE (fOp2 gNe (fOp2 gMod (fV 2) (fV 1)) (fC (.int 0)))) (nE (fV 2)) [2] [.p (iT ws), .p (.int p), .un] = .ok (.o ((ws.filter fun w => !decide (w % p = 0)).map D.int), [.p (iT ws), .p (.int p), .un]) := by
      have it : fIt (fV 0) [.p (iT ws), .p (.int p), .un] = .ok (ws.map D.int, [.p (iT ws), .p (.int p), .un]) := rfl
      rw [fLc_eq, it, R.bind_ok, kLc_eq]
      show ((lcL _ _ _ _ _ [] [Sl.p (iT ws), .p (.int p), .un]).bind _) = _
      rw [q, R.bind_ok, kLc2_eq]
      rfl
    have ge : gEq (.lst ((ws.filter fun w => !decide (w % p = 0)).map D.int)) (.lst []) = some (.p (.bl (decide (foldG 0 ws % p = 0)))) := by
      have h : ∀ l : List Int, okDs 11 (l.map D.int) = true := fun l => by
        induction l with
        | nil => simp
        | cons x l ih => rw [List.map_cons, okDs_cons, ih]; simp
      have e2 : decide ((ws.filter fun w => !decide (w % p = 0)) = []) = decide (foldG 0 ws % p = 0) := by
        rw [decide_eq_decide, List.filter_eq_nil_iff]
        constructor
        · intro z
          exact Int.emod_eq_zero_of_dvd (divides_all.mp fun w hw => by simpa using z w hw)
        · intro z w hw
          have := divides_all.mpr (Int.dvd_of_emod_eq_zero z) w hw
          simpa using this
      rw [← e2, gEq_eq]
      have := deqs_m (ws.filter fun w => !decide (w % p = 0)) []
      rw [List.map_nil] at this
      simp [h, this]
    generalize fLc (fIt (fV 0)) (tgName 2) (nE (fOp2 gNe (fOp2 gMod (fV 2) (fV 1)) (fC (.int 0)))) (nE (fV 2)) [2] = LC at *
    generalize (ws.filter fun w => !decide (w % p = 0)).map D.int = FD at *
    generalize iT ws = wT at *
    simp [A, ge, -gEq_eq]
  have R1 : ∀ (p : Int), 0 < p → p ≤ 1000 → fCB gTuple (fCons (fLc (fIt (fV 0)) (tgName 2) (nE fYes) (nE (fOp2 gFdiv (fV 2) (fV 1))) [2]) fNil) [.p (iT ws), .p (.int p), .un] = .ok (.p (iT (ws.map (· / p))), [.p (iT ws), .p (.int p), .un]) := fun p p0 p1 => by
    have q := lc_map (tg := tgName 2) (fe := fOp2 gFdiv (fV 2) (fV 1)) (vs := [2]) (st := [.p (iT ws), .p (.int p), .un]) (fun d => match d with | .int w => .int (w / p) | d => d) (ds := ws.map D.int) (acc := []) (by simp; omega) fun d hd => by
      obtain ⟨w, _, rfl⟩ := List.mem_map.mp hd
      have h1 : p < 1073741824 := by omega
      exact ⟨[.p (iT ws), .p (.int p), .p (.int w)], [.p (iT ws), .p (.int p), .p (.int w)], .p (.int (w / p)), rfl, by simp [p0, h1], rfl, by simp⟩
    have e1 : (ws.map D.int).map (fun d => match d with | .int w => .int (w / p) | d => d) = (ws.map (· / p)).map D.int := by
      rw [List.map_map, List.map_map]
      rfl
    rw [e1] at q
    simp only [List.nil_append] at q
    have A : fLc (fIt (fV 0)) (tgName 2) (nE fYes) (nE (fOp2 gFdiv (fV 2) (fV 1))) [2] [.p (iT ws), .p (.int p), .un] = .ok (.o ((ws.map (· / p)).map D.int), [.p (iT ws), .p (.int p), .un]) := by
      have it : fIt (fV 0) [.p (iT ws), .p (.int p), .un] = .ok (ws.map D.int, [.p (iT ws), .p (.int p), .un]) := rfl
      rw [fLc_eq, it, R.bind_ok, kLc_eq]
      show ((lcL _ _ _ _ _ [] [Sl.p (iT ws), .p (.int p), .un]).bind _) = _
      rw [q, R.bind_ok, kLc2_eq]
      rfl
    generalize fLc (fIt (fV 0)) (tgName 2) (nE fYes) (nE (fOp2 gFdiv (fV 2) (fV 1))) [2] = LC at *
    simp [A]
  obtain ⟨st', ⟨s1, e'⟩, f⟩ := for_find (tg := tgName 1) (body := l1_law_reduced) (fun st => ∃ s1, st = [.p (iT ws), s1, .un]) (qD (foldG 0 ws)) (fun d => match d with | .int p => .p (iT (ws.map (· / p))) | _ => .p .non) (ds := rngM (maxI ws) (maxI ws - 1).toNat) (st := [.p (iT ws), .un, .un]) ⟨_, rfl⟩ fun d hd st ⟨s1, e⟩ => by
    subst e
    obtain ⟨i, hi, rfl⟩ := List.mem_map.mp hd
    have hi := List.mem_range.mp hi
    have g := G (maxI ws - i) (by omega) (by omega)
    have r := R1 (maxI ws - i) (by omega) (by omega)
    refine ⟨[.p (iT ws), .p (.int (maxI ws - i)), .un], [.p (iT ws), .p (.int (maxI ws - i)), .un], rfl, ⟨_, rfl⟩, fun z => ?_, fun z => ?_⟩
    · have z : foldG 0 ws % (maxI ws - i) = 0 := by simpa [qD] using z
      show l1_law_reduced _ = R.ok (Fl.rt (.p (iT (ws.map (· / (maxI ws - i))))) _)
      unfold l1_law_reduced
      generalize fOp2 gEq (fLc (fIt (fV 0)) (tgName 2) (nE (fOp2 gNe (fOp2 gMod (fV 2) (fV 1)) (fC (.int 0)))) (nE (fV 2)) [2]) (fLst fNil) = GE at *
      generalize fCB gTuple (fCons (fLc (fIt (fV 0)) (tgName 2) (nE fYes) (nE (fOp2 gFdiv (fV 2) (fV 1))) [2]) fNil) = TU at *
      generalize iT (ws.map (· / (maxI ws - ↑i))) = RT at *
      generalize iT ws = wT at *
      simp [g, r, z]
    · have z : ¬ foldG 0 ws % (maxI ws - i) = 0 := by simpa [qD] using z
      unfold l1_law_reduced
      generalize fOp2 gEq (fLc (fIt (fV 0)) (tgName 2) (nE (fOp2 gNe (fOp2 gMod (fV 2) (fV 1)) (fC (.int 0)))) (nE (fV 2)) [2]) (fLst fNil) = GE at *
      generalize fCB gTuple (fCons (fLc (fIt (fV 0)) (tgName 2) (nE fYes) (nE (fOp2 gFdiv (fV 2) (fV 1))) [2]) fNil) = TU at *
      generalize iT ws = wT at *
      simp [g, z]
  subst e'
  rw [find_g g0 _ (maxI ws) (by omega) gM] at f
  have it : fRngM (fCons (fCB gMax (fCons (fV 0) fNil)) (fCons (fC (.int 1)) (fCons (fOp1 gNeg (fC (.int 1))) fNil))) [.p (iT ws), .un, .un] = .ok (rngM (maxI ws) (maxI ws - 1).toNat, [.p (iT ws), .un, .un]) := by
    have rc : rOk (maxI ws) = true := by unfold rOk; simp; omega
    have r1 : rOk 1 = true := by decide
    have e : fCons (fCB gMax (fCons (fV 0) fNil)) (fCons (fC (.int 1)) (fCons (fOp1 gNeg (fC (.int 1))) fNil)) [.p (iT ws), .un, .un] = .ok ([.p (.int (maxI ws)), .p (.int 1), .p (.int (-1))], [.p (iT ws), .un, .un]) := by
      generalize iT ws = wT at *
      simp [gm]
    unfold fRngM
    rw [e, R.bind_ok]
    simp [rc, r1]
  have A : fFor (fRngM (fCons (fCB gMax (fCons (fV 0) fNil)) (fCons (fC (.int 1)) (fCons (fOp1 gNeg (fC (.int 1))) fNil)))) (tgName 1) l1_law_reduced [.p (iT ws), .un, .un] = forL (tgName 1) l1_law_reduced (rngM (maxI ws) (maxI ws - 1).toNat) [.p (iT ws), .un, .un] := by
    rw [fFor_eq, it, R.bind_ok, kFor_eq]
  rw [f] at A
  unfold f_law_reduced b_law_reduced
  generalize fFor (fRngM (fCons (fCB gMax (fCons (fV 0) fNil)) (fCons (fC (.int 1)) (fCons (fOp1 gNeg (fC (.int 1))) fNil)))) (tgName 1) l1_law_reduced = LF at *
  by_cases z : foldG 0 ws = 1
  · rw [if_pos z] at A
    rw [red_of_one z]
    simp [A]
  · rw [if_neg z] at A
    have e : ws.map (· / foldG 0 ws) = red ws := rfl
    dsimp only at A
    rw [e] at A
    generalize iT (red ws) = RT at *
    simp [A]
end K13

set_option Elab.async false
set_option linter.all false
set_option maxRecDepth 100000
set_option maxHeartbeats 1000000
namespace K13
open PySem PySem.Spec PyProof.Rows L2 RZ DK
def kMkI (c : Str) (ks : List Str) (g : List D → R (List D)) : Option (List D × Ds) → R (Vl × Ds)
  | some (ds, st2) => if ds.length ≤ 1000 then (g ds).bind fun xs => .ok (.p (.obj c ks xs), st2) else .stuck
  | none => .stuck
section
variable {c : Str} {ks : List Str} {g : List D → R (List D)} {a : FA} {st : Ds} {ds : List D} {xs : List D} {ok : List D → Bool} {f : List D → R Vl} {e : FE} {v : Vl} {l : Option Int}
@[simp] theorem fMkI_eq : fMkI c ks g a st = (a st).bind fun x => kMkI c ks g (fzVs x.1 x.2) := by
  first | rfl | (unfold fMkI; congr 1; funext x; cases fzVs x.1 x.2 <;> rfl)
@[simp] theorem kMkI_s : kMkI c ks g (some (ds, st)) = if ds.length ≤ 1000 then (g ds).bind fun xs => .ok (.p (.obj c ks xs), st) else .stuck := rfl
@[simp] theorem fMkS_eq : fMkS c ks g a st = (a st).bind fun x => kMkS c ks g (fzVs x.1 x.2) := rfl
@[simp] theorem kMkS_s : kMkS c ks g (some ([.tup ds], st)) = if ds.length ≤ 1000 then (g ds).bind fun xs => .ok (.p (.obj c ks xs), st) else .stuck := rfl
@[simp] theorem fCallI_eq : fCallI ok f a st = (a st).bind fun x => kCallI ok f (fzVs x.1 x.2) := rfl
@[simp] theorem kCallI_s : kCallI ok f (some (ds, st)) = if ok ds = true then (f ds).bind fun v => .ok (v, st) else .stuck := rfl
@[simp] theorem fLenI_eq : fLenI c f a st = (fCallI (okHd c) f a st).bind kLenI := rfl
@[simp] theorem kLenI_i {n : Int} : kLenI (.p (.int n), st) = if 0 ≤ n ∧ n < 100000 then .ok (.p (.int n), st) else .stuck := rfl
@[simp] theorem fCallO_eq : fCallO c f e a st = (e st).bind (kCallO c f a) := rfl
@[simp] theorem kCallO_o : kCallO c f a (.p (.obj c ks xs), st) = (a st).bind fun y => kCallI (fun _ => true) f (fzVs (.p (.obj c ks xs) :: y.1) y.2) := if_pos rfl
@[simp] theorem bind_err {α β : Type} {k : α → R β} : (R.err c l : R α).bind k = .err c l := rfl
end
@[simp] theorem okHd_p {ws : List Int} {r : List D} : okHd "Panel" (Pn ws :: r) = true := rfl
@[simp] theorem okTwo_p {a b : List Int} : okTwo "Panel" [Pn a, Pn b] = true := rfl
@[simp] theorem okEq_p {a b : List Int} : okEq "Panel" [Pn a, Pn b] = true := rfl
@[simp] theorem okEq_t {a : List Int} {xs : List D} : okEq "Panel" [Pn a, .tup xs] = true := rfl
end K13

set_option Elab.async false
set_option linter.all false
set_option maxRecDepth 100000
set_option maxHeartbeats 1000000
namespace K13
open PySem PySem.Spec PyProof.Rows L2 RZ DK
theorem lp1 {a : Int} {dd : D} (W : Wts [a]) (hd : dd = .tup [D.int a] ∨ dd = .lst [D.int a]) : f_law_panel [dd] = .ok (.p (Pn (red [a]))) := by
  have gm : gMu (.tup [.int 0]) (.int 8) = some (.p (.tup [.int 0, .int 0, .int 0, .int 0, .int 0, .int 0, .int 0, .int 0])) := by rfl
  have i := i_ok (ws := [a]) W
  simp only [List.map_cons, List.map_nil] at i
  have ga : gAdd (.tup [D.int a]) (.tup [.int 0, .int 0, .int 0, .int 0, .int 0, .int 0, .int 0, .int 0]) = some (.p (.tup [.int a, .int 0, .int 0, .int 0, .int 0, .int 0, .int 0, .int 0, .int 0])) := by rfl
  have g0 : gIx (.tup [.int a, .int 0, .int 0, .int 0, .int 0, .int 0, .int 0, .int 0, .int 0]) (.int 0) = some (.p (.int a)) := by rfl
  generalize red [a] = r at *
  clear W
  rcases hd with rfl | rfl <;> simp [f_law_panel, b_law_panel, i, ga, gm, g0, -gIx_t, -gMu_t]
theorem lp2 {a b : Int} {dd : D} (W : Wts [a, b]) (hd : dd = .tup [D.int a, D.int b] ∨ dd = .lst [D.int a, D.int b]) : f_law_panel [dd] = .ok (.p (Pn (red [a, b]))) := by
  have gm : gMu (.tup [.int 0]) (.int 8) = some (.p (.tup [.int 0, .int 0, .int 0, .int 0, .int 0, .int 0, .int 0, .int 0])) := by rfl
  have i := i_ok (ws := [a, b]) W
  simp only [List.map_cons, List.map_nil] at i
  have ga : gAdd (.tup [D.int a, D.int b]) (.tup [.int 0, .int 0, .int 0, .int 0, .int 0, .int 0, .int 0, .int 0]) = some (.p (.tup [.int a, .int b, .int 0, .int 0, .int 0, .int 0, .int 0, .int 0, .int 0, .int 0])) := by rfl
  have g0 : gIx (.tup [.int a, .int b, .int 0, .int 0, .int 0, .int 0, .int 0, .int 0, .int 0, .int 0]) (.int 0) = some (.p (.int a)) := by rfl
  have g1 : gIx (.tup [.int a, .int b, .int 0, .int 0, .int 0, .int 0, .int 0, .int 0, .int 0, .int 0]) (.int 1) = some (.p (.int b)) := by rfl
  generalize red [a, b] = r at *
  clear W
  rcases hd with rfl | rfl <;> simp [f_law_panel, b_law_panel, i, ga, gm, g0, g1, -gIx_t, -gMu_t]
theorem lp3 {a b c : Int} {dd : D} (W : Wts [a, b, c]) (hd : dd = .tup [D.int a, D.int b, D.int c] ∨ dd = .lst [D.int a, D.int b, D.int c]) : f_law_panel [dd] = .ok (.p (Pn (red [a, b, c]))) := by
  have gm : gMu (.tup [.int 0]) (.int 8) = some (.p (.tup [.int 0, .int 0, .int 0, .int 0, .int 0, .int 0, .int 0, .int 0])) := by rfl
  have i := i_ok (ws := [a, b, c]) W
  simp only [List.map_cons, List.map_nil] at i
  have ga : gAdd (.tup [D.int a, D.int b, D.int c]) (.tup [.int 0, .int 0, .int 0, .int 0, .int 0, .int 0, .int 0, .int 0]) = some (.p (.tup [.int a, .int b, .int c, .int 0, .int 0, .int 0, .int 0, .int 0, .int 0, .int 0, .int 0])) := by rfl
  have g0 : gIx (.tup [.int a, .int b, .int c, .int 0, .int 0, .int 0, .int 0, .int 0, .int 0, .int 0, .int 0]) (.int 0) = some (.p (.int a)) := by rfl
  have g1 : gIx (.tup [.int a, .int b, .int c, .int 0, .int 0, .int 0, .int 0, .int 0, .int 0, .int 0, .int 0]) (.int 1) = some (.p (.int b)) := by rfl
  have g2 : gIx (.tup [.int a, .int b, .int c, .int 0, .int 0, .int 0, .int 0, .int 0, .int 0, .int 0, .int 0]) (.int 2) = some (.p (.int c)) := by rfl
  generalize red [a, b, c] = r at *
  clear W
  rcases hd with rfl | rfl <;> simp [f_law_panel, b_law_panel, i, ga, gm, g0, g1, g2, -gIx_t, -gMu_t]
theorem lp4 {a b c d : Int} {dd : D} (W : Wts [a, b, c, d]) (hd : dd = .tup [D.int a, D.int b, D.int c, D.int d] ∨ dd = .lst [D.int a, D.int b, D.int c, D.int d]) : f_law_panel [dd] = .ok (.p (Pn (red [a, b, c, d]))) := by
  have gm : gMu (.tup [.int 0]) (.int 8) = some (.p (.tup [.int 0, .int 0, .int 0, .int 0, .int 0, .int 0, .int 0, .int 0])) := by rfl
  have i := i_ok (ws := [a, b, c, d]) W
  simp only [List.map_cons, List.map_nil] at i
  have ga : gAdd (.tup [D.int a, D.int b, D.int c, D.int d]) (.tup [.int 0, .int 0, .int 0, .int 0, .int 0, .int 0, .int 0, .int 0]) = some (.p (.tup [.int a, .int b, .int c, .int d, .int 0, .int 0, .int 0, .int 0, .int 0, .int 0, .int 0, .int 0])) := by rfl
  have g0 : gIx (.tup [.int a, .int b, .int c, .int d, .int 0, .int 0, .int 0, .int 0, .int 0, .int 0, .int 0, .int 0]) (.int 0) = some (.p (.int a)) := by rfl
  have g1 : gIx (.tup [.int a, .int b, .int c, .int d, .int 0, .int 0, .int 0, .int 0, .int 0, .int 0, .int 0, .int 0]) (.int 1) = some (.p (.int b)) := by rfl
  have g2 : gIx (.tup [.int a, .int b, .int c, .int d, .int 0, .int 0, .int 0, .int 0, .int 0, .int 0, .int 0, .int 0]) (.int 2) = some (.p (.int c)) := by rfl
  have g3 : gIx (.tup [.int a, .int b, .int c, .int d, .int 0, .int 0, .int 0, .int 0, .int 0, .int 0, .int 0, .int 0]) (.int 3) = some (.p (.int d)) := by rfl
  generalize red [a, b, c, d] = r at *
  clear W
  rcases hd with rfl | rfl <;> simp [f_law_panel, b_law_panel, i, ga, gm, g0, g1, g2, g3, -gIx_t, -gMu_t]
theorem lp5 {a b c d e : Int} {dd : D} (W : Wts [a, b, c, d, e]) (hd : dd = .tup [D.int a, D.int b, D.int c, D.int d, D.int e] ∨ dd = .lst [D.int a, D.int b, D.int c, D.int d, D.int e]) : f_law_panel [dd] = .ok (.p (Pn (red [a, b, c, d, e]))) := by
  have gm : gMu (.tup [.int 0]) (.int 8) = some (.p (.tup [.int 0, .int 0, .int 0, .int 0, .int 0, .int 0, .int 0, .int 0])) := by rfl
  have i := i_ok (ws := [a, b, c, d, e]) W
  simp only [List.map_cons, List.map_nil] at i
  have ga : gAdd (.tup [D.int a, D.int b, D.int c, D.int d, D.int e]) (.tup [.int 0, .int 0, .int 0, .int 0, .int 0, .int 0, .int 0, .int 0]) = some (.p (.tup [.int a, .int b, .int c, .int d, .int e, .int 0, .int 0, .int 0, .int 0, .int 0, .int 0, .int 0, .int 0])) := by rfl
  have g0 : gIx (.tup [.int a, .int b, .int c, .int d, .int e, .int 0, .int 0, .int 0, .int 0, .int 0, .int 0, .int 0, .int 0]) (.int 0) = some (.p (.int a)) := by rfl
  have g1 : gIx (.tup [.int a, .int b, .int c, .int d, .int e, .int 0, .int 0, .int 0, .int 0, .int 0, .int 0, .int 0, .int 0]) (.int 1) = some (.p (.int b)) := by rfl
  have g2 : gIx (.tup [.int a, .int b, .int c, .int d, .int e, .int 0, .int 0, .int 0, .int 0, .int 0, .int 0, .int 0, .int 0]) (.int 2) = some (.p (.int c)) := by rfl
  have g3 : gIx (.tup [.int a, .int b, .int c, .int d, .int e, .int 0, .int 0, .int 0, .int 0, .int 0, .int 0, .int 0, .int 0]) (.int 3) = some (.p (.int d)) := by rfl
  have g4 : gIx (.tup [.int a, .int b, .int c, .int d, .int e, .int 0, .int 0, .int 0, .int 0, .int 0, .int 0, .int 0, .int 0]) (.int 4) = some (.p (.int e)) := by rfl
  generalize red [a, b, c, d, e] = r at *
  clear W
  rcases hd with rfl | rfl <;> simp [f_law_panel, b_law_panel, i, ga, gm, g0, g1, g2, g3, g4, -gIx_t, -gMu_t]
theorem lp6 {a b c d e f : Int} {dd : D} (W : Wts [a, b, c, d, e, f]) (hd : dd = .tup [D.int a, D.int b, D.int c, D.int d, D.int e, D.int f] ∨ dd = .lst [D.int a, D.int b, D.int c, D.int d, D.int e, D.int f]) : f_law_panel [dd] = .ok (.p (Pn (red [a, b, c, d, e, f]))) := by
  have gm : gMu (.tup [.int 0]) (.int 8) = some (.p (.tup [.int 0, .int 0, .int 0, .int 0, .int 0, .int 0, .int 0, .int 0])) := by rfl
  have i := i_ok (ws := [a, b, c, d, e, f]) W
  simp only [List.map_cons, List.map_nil] at i
  have ga : gAdd (.tup [D.int a, D.int b, D.int c, D.int d, D.int e, D.int f]) (.tup [.int 0, .int 0, .int 0, .int 0, .int 0, .int 0, .int 0, .int 0]) = some (.p (.tup [.int a, .int b, .int c, .int d, .int e, .int f, .int 0, .int 0, .int 0, .int 0, .int 0, .int 0, .int 0, .int 0])) := by rfl
  have g0 : gIx (.tup [.int a, .int b, .int c, .int d, .int e, .int f, .int 0, .int 0, .int 0, .int 0, .int 0, .int 0, .int 0, .int 0]) (.int 0) = some (.p (.int a)) := by rfl
  have g1 : gIx (.tup [.int a, .int b, .int c, .int d, .int e, .int f, .int 0, .int 0, .int 0, .int 0, .int 0, .int 0, .int 0, .int 0]) (.int 1) = some (.p (.int b)) := by rfl
  have g2 : gIx (.tup [.int a, .int b, .int c, .int d, .int e, .int f, .int 0, .int 0, .int 0, .int 0, .int 0, .int 0, .int 0, .int 0]) (.int 2) = some (.p (.int c)) := by rfl
  have g3 : gIx (.tup [.int a, .int b, .int c, .int d, .int e, .int f, .int 0, .int 0, .int 0, .int 0, .int 0, .int 0, .int 0, .int 0]) (.int 3) = some (.p (.int d)) := by rfl
  have g4 : gIx (.tup [.int a, .int b, .int c, .int d, .int e, .int f, .int 0, .int 0, .int 0, .int 0, .int 0, .int 0, .int 0, .int 0]) (.int 4) = some (.p (.int e)) := by rfl
  have g5 : gIx (.tup [.int a, .int b, .int c, .int d, .int e, .int f, .int 0, .int 0, .int 0, .int 0, .int 0, .int 0, .int 0, .int 0]) (.int 5) = some (.p (.int f)) := by rfl
  generalize red [a, b, c, d, e, f] = r at *
  clear W
  rcases hd with rfl | rfl <;> simp [f_law_panel, b_law_panel, i, ga, gm, g0, g1, g2, g3, g4, g5, -gIx_t, -gMu_t]
theorem lp7 {a b c d e f g : Int} {dd : D} (W : Wts [a, b, c, d, e, f, g]) (hd : dd = .tup [D.int a, D.int b, D.int c, D.int d, D.int e, D.int f, D.int g] ∨ dd = .lst [D.int a, D.int b, D.int c, D.int d, D.int e, D.int f, D.int g]) : f_law_panel [dd] = .ok (.p (Pn (red [a, b, c, d, e, f, g]))) := by
  have gm : gMu (.tup [.int 0]) (.int 8) = some (.p (.tup [.int 0, .int 0, .int 0, .int 0, .int 0, .int 0, .int 0, .int 0])) := by rfl
  have i := i_ok (ws := [a, b, c, d, e, f, g]) W
  simp only [List.map_cons, List.map_nil] at i
  have ga : gAdd (.tup [D.int a, D.int b, D.int c, D.int d, D.int e, D.int f, D.int g]) (.tup [.int 0, .int 0, .int 0, .int 0, .int 0, .int 0, .int 0, .int 0]) = some (.p (.tup [.int a, .int b, .int c, .int d, .int e, .int f, .int g, .int 0, .int 0, .int 0, .int 0, .int 0, .int 0, .int 0, .int 0])) := by rfl
  have g0 : gIx (.tup [.int a, .int b, .int c, .int d, .int e, .int f, .int g, .int 0, .int 0, .int 0, .int 0, .int 0, .int 0, .int 0, .int 0]) (.int 0) = some (.p (.int a)) := by rfl
  have g1 : gIx (.tup [.int a, .int b, .int c, .int d, .int e, .int f, .int g, .int 0, .int 0, .int 0, .int 0, .int 0, .int 0, .int 0, .int 0]) (.int 1) = some (.p (.int b)) := by rfl
  have g2 : gIx (.tup [.int a, .int b, .int c, .int d, .int e, .int f, .int g, .int 0, .int 0, .int 0, .int 0, .int 0, .int 0, .int 0, .int 0]) (.int 2) = some (.p (.int c)) := by rfl
  have g3 : gIx (.tup [.int a, .int b, .int c, .int d, .int e, .int f, .int g, .int 0, .int 0, .int 0, .int 0, .int 0, .int 0, .int 0, .int 0]) (.int 3) = some (.p (.int d)) := by rfl
  have g4 : gIx (.tup [.int a, .int b, .int c, .int d, .int e, .int f, .int g, .int 0, .int 0, .int 0, .int 0, .int 0, .int 0, .int 0, .int 0]) (.int 4) = some (.p (.int e)) := by rfl
  have g5 : gIx (.tup [.int a, .int b, .int c, .int d, .int e, .int f, .int g, .int 0, .int 0, .int 0, .int 0, .int 0, .int 0, .int 0, .int 0]) (.int 5) = some (.p (.int f)) := by rfl
  have g6 : gIx (.tup [.int a, .int b, .int c, .int d, .int e, .int f, .int g, .int 0, .int 0, .int 0, .int 0, .int 0, .int 0, .int 0, .int 0]) (.int 6) = some (.p (.int g)) := by rfl
  generalize red [a, b, c, d, e, f, g] = r at *
  clear W
  rcases hd with rfl | rfl <;> simp [f_law_panel, b_law_panel, i, ga, gm, g0, g1, g2, g3, g4, g5, g6, -gIx_t, -gMu_t]
theorem lp8 {a b c d e f g h : Int} {dd : D} (W : Wts [a, b, c, d, e, f, g, h]) (hd : dd = .tup [D.int a, D.int b, D.int c, D.int d, D.int e, D.int f, D.int g, D.int h] ∨ dd = .lst [D.int a, D.int b, D.int c, D.int d, D.int e, D.int f, D.int g, D.int h]) : f_law_panel [dd] = .ok (.p (Pn (red [a, b, c, d, e, f, g, h]))) := by
  have gm : gMu (.tup [.int 0]) (.int 8) = some (.p (.tup [.int 0, .int 0, .int 0, .int 0, .int 0, .int 0, .int 0, .int 0])) := by rfl
  have i := i_ok (ws := [a, b, c, d, e, f, g, h]) W
  simp only [List.map_cons, List.map_nil] at i
  have ga : gAdd (.tup [D.int a, D.int b, D.int c, D.int d, D.int e, D.int f, D.int g, D.int h]) (.tup [.int 0, .int 0, .int 0, .int 0, .int 0, .int 0, .int 0, .int 0]) = some (.p (.tup [.int a, .int b, .int c, .int d, .int e, .int f, .int g, .int h, .int 0, .int 0, .int 0, .int 0, .int 0, .int 0, .int 0, .int 0])) := by rfl
  have g0 : gIx (.tup [.int a, .int b, .int c, .int d, .int e, .int f, .int g, .int h, .int 0, .int 0, .int 0, .int 0, .int 0, .int 0, .int 0, .int 0]) (.int 0) = some (.p (.int a)) := by rfl
  have g1 : gIx (.tup [.int a, .int b, .int c, .int d, .int e, .int f, .int g, .int h, .int 0, .int 0, .int 0, .int 0, .int 0, .int 0, .int 0, .int 0]) (.int 1) = some (.p (.int b)) := by rfl
  have g2 : gIx (.tup [.int a, .int b, .int c, .int d, .int e, .int f, .int g, .int h, .int 0, .int 0, .int 0, .int 0, .int 0, .int 0, .int 0, .int 0]) (.int 2) = some (.p (.int c)) := by rfl
  have g3 : gIx (.tup [.int a, .int b, .int c, .int d, .int e, .int f, .int g, .int h, .int 0, .int 0, .int 0, .int 0, .int 0, .int 0, .int 0, .int 0]) (.int 3) = some (.p (.int d)) := by rfl
  have g4 : gIx (.tup [.int a, .int b, .int c, .int d, .int e, .int f, .int g, .int h, .int 0, .int 0, .int 0, .int 0, .int 0, .int 0, .int 0, .int 0]) (.int 4) = some (.p (.int e)) := by rfl
  have g5 : gIx (.tup [.int a, .int b, .int c, .int d, .int e, .int f, .int g, .int h, .int 0, .int 0, .int 0, .int 0, .int 0, .int 0, .int 0, .int 0]) (.int 5) = some (.p (.int f)) := by rfl
  have g6 : gIx (.tup [.int a, .int b, .int c, .int d, .int e, .int f, .int g, .int h, .int 0, .int 0, .int 0, .int 0, .int 0, .int 0, .int 0, .int 0]) (.int 6) = some (.p (.int g)) := by rfl
  have g7 : gIx (.tup [.int a, .int b, .int c, .int d, .int e, .int f, .int g, .int h, .int 0, .int 0, .int 0, .int 0, .int 0, .int 0, .int 0, .int 0]) (.int 7) = some (.p (.int h)) := by rfl
  generalize red [a, b, c, d, e, f, g, h] = r at *
  clear W
  rcases hd with rfl | rfl <;> simp [f_law_panel, b_law_panel, i, ga, gm, g0, g1, g2, g3, g4, g5, g6, g7, -gIx_t, -gMu_t]
theorem law_panel_ok {d : D} {ws : List Int} (W : Wts ws) (hd : d = iT ws ∨ d = .lst (ws.map D.int)) : f_law_panel [d] = .ok (.p (Pn (red ws))) := by
  have hl := W.len
  rcases ws with _ | ⟨a, _ | ⟨b, _ | ⟨c, _ | ⟨d, _ | ⟨e, _ | ⟨f, _ | ⟨g, _ | ⟨h, r⟩⟩⟩⟩⟩⟩⟩⟩
  · exact (W.ne rfl).elim
  · exact lp1 W hd
  · exact lp2 W hd
  · exact lp3 W hd
  · exact lp4 W hd
  · exact lp5 W hd
  · exact lp6 W hd
  · exact lp7 W hd
  · cases r with
    | nil => exact lp8 W hd
    | cons x r => exact (by simp at hl : False).elim
end K13

set_option Elab.async false
set_option linter.all false
set_option maxRecDepth 100000
set_option maxHeartbeats 1000000
namespace K13
open PySem PySem.Spec PyProof.Rows L2 RZ DK
theorem ints_ok {ws : List Int} (W : Wts ws) : ∃ ds, ds = ws.map D.int ∧ ds.length ≤ 1000 ∧ i_Panel ds = .ok [iT (red ws)] :=
  ⟨_, rfl, by have := W.len; rw [List.length_map]; omega, i_ok W⟩
theorem neg_ok {ws : List Int} (W : Wts ws) : f_Panel___neg__ [Pn ws] = .ok (.p (Pn (red ws.reverse))) := by
  have g := gFld_p (ws := ws)
  have r : gRev (iT ws) = some (.p (iT ws.reverse)) := by
    show some (Vl.p (.tup (ws.map D.int).reverse)) = _
    rw [← List.map_reverse]
  obtain ⟨ds, e, hl, i⟩ := ints_ok (rev_W W)
  have e' : iT ws.reverse = .tup ds := by rw [e]
  rw [e'] at r
  generalize red ws.reverse = R at *
  generalize iT ws = wT at *
  generalize Pn ws = P at *
  simp [f_Panel___neg__, b_Panel___neg__, g, r, i, hl, -gFld_p]
theorem add_ok {a b : List Int} (A : Wts a) (B : Wts b) (h : a.length = b.length) (M : Wts (mix a b)) : f_Panel___add__ [Pn a, Pn b] = .ok (.p (Pn (red (mix a b)))) := by
  have g1 := gFld_p (ws := a)
  have g2 := gFld_p (ws := b)
  have c := gIsC_p (ws := b)
  have n := need_pair_ok h
  have m := mixed_of_ok A B h
  obtain ⟨ds, e, hl, i⟩ := ints_ok M
  have e' : iT (mix a b) = .tup ds := by rw [e]
  rw [e'] at m
  generalize red (mix a b) = R at *
  generalize iT a = a' at *
  generalize iT b = b' at *
  generalize Pn a = PA at *
  generalize Pn b = PB at *
  simp [f_Panel___add__, b_Panel___add__, g1, g2, c, n, m, i, hl, -gFld_p, -gIsC_p]
theorem call_ok {ws ms : List Int} (W : Wts ws) (M : Mks ws.length ms) : f_Panel___call__ [Pn ws, iT ms] = .ok (.p (fr (dot ws (desc ms)) ws.sum)) := by
  have g := gFld_p (ws := ws)
  have n := need_marks_ok W M
  have s := score_of_ok W M
  generalize fr (dot ws (desc ms)) ws.sum = F at *
  generalize iT ws = wT at *
  generalize iT ms = mT at *
  generalize Pn ws = P at *
  simp [f_Panel___call__, b_Panel___call__, g, n, s, -gFld_p]
theorem ix_ok {ws : List Int} {p : Int} (h0 : 0 ≤ p) (h1 : p < ws.length) : ∃ w, ws[p.toNat]? = some w ∧ f_Panel___getitem__ [Pn ws, .int p] = .ok (.p (.int w)) := by
  have hp : p.toNat < ws.length := by omega
  refine ⟨ws[p.toNat], List.getElem?_eq_getElem hp, ?_⟩
  have g := gFld_p (ws := ws)
  have l : gLen [iT ws] = some (.p (.int ws.length)) := by simp
  have b := is_between_ok p 0 ((ws.length : Int) - 1)
  have hb : (decide (0 ≤ p) && decide (p ≤ (ws.length : Int) - 1)) = true := by
    simp only [Bool.and_eq_true, decide_eq_true_eq]
    omega
  rw [hb] at b
  have x : gIx (iT ws) (.int p) = some (.p (.int ws[p.toNat])) := by
    have e : atI (ws.map D.int) p = some (.int ws[p.toNat]) := by
      rw [atI_at h0 (by rw [List.length_map]; exact h1), List.getElem?_map, List.getElem?_eq_getElem hp]
      rfl
    rw [gIx_t, e]
  generalize ws[p.toNat] = w at *
  generalize iT ws = wT at *
  generalize Pn ws = P at *
  simp [f_Panel___getitem__, b_Panel___getitem__, g, l, b, x, -gFld_p, -gIx_t]
/-! ### what is refused -/
theorem add_pair {a b : List Int} (h : a.length ≠ b.length) : f_Panel___add__ [Pn a, Pn b] = .err "InvalidPair" none := by
  have g1 := gFld_p (ws := a)
  have g2 := gFld_p (ws := b)
  have c := gIsC_p (ws := b)
  have n : f_need_pair [iT a, iT b] = .err "InvalidPair" none := by
    have l1 : gLen [iT a] = some (.p (.int a.length)) := by simp
    have l2 : gLen [iT b] = some (.p (.int b.length)) := by simp
    have ne : ¬ (a.length : Int) = b.length := by omega
    generalize iT a = a' at *
    generalize iT b = b' at *
    simp [f_need_pair, b_need_pair, l1, l2, ne]
  generalize iT a = a' at *
  generalize iT b = b' at *
  generalize Pn a = PA at *
  generalize Pn b = PB at *
  simp [f_Panel___add__, b_Panel___add__, g1, g2, c, n, -gFld_p, -gIsC_p]
theorem ix_bad {ws : List Int} {d : D} (h : f_is_between [d, .int 0, .int ((ws.length : Int) - 1)] = .ok (.p (.bl false))) : f_Panel___getitem__ [Pn ws, d] = .err "InvalidPlace" none := by
  have g := gFld_p (ws := ws)
  have l : gLen [iT ws] = some (.p (.int ws.length)) := by simp
  generalize iT ws = wT at *
  generalize Pn ws = P at *
  simp [f_Panel___getitem__, b_Panel___getitem__, g, l, h, -gFld_p]
theorem call_bad {ws : List Int} {d : D} (h : f_are_integers [d, .int ws.length, .int ws.length, .int 1000] = .ok (.p (.bl false))) : f_Panel___call__ [Pn ws, d] = .err "InvalidMarks" none := by
  have g := gFld_p (ws := ws)
  have l : gLen [iT ws] = some (.p (.int ws.length)) := by simp
  have n : f_need_marks [iT ws, d] = .err "InvalidMarks" none := by
    generalize iT ws = wT at *
    simp [f_need_marks, b_need_marks, f_are_marks, b_are_marks, l, h]
  generalize iT ws = wT at *
  generalize Pn ws = P at *
  simp [f_Panel___call__, b_Panel___call__, g, n, -gFld_p]
end K13

set_option Elab.async false
set_option linter.all false
set_option maxRecDepth 100000
set_option maxHeartbeats 1000000
namespace K13
open PySem PySem.Spec PyProof.Rows L2 RZ DK
/-- data of at most n levels -/
inductive Gd (L : Nat) : Nat → D → Prop
  | non {n : Nat} : Gd L n .non
  | bl {n : Nat} {b : Bool} : Gd L n (.bl b)
  | int {n : Nat} {i : Int} : Gd L n (.int i)
  | str {n : Nat} {s : Str} : s.cps.all (· < 0x110000) = true → Gd L n (.str s)
  | tup {n : Nat} {xs : List D} : xs.length ≤ L → (∀ x ∈ xs, Gd L n x) → Gd L (n + 1) (.tup xs)
  | lst {n : Nat} {xs : List D} : xs.length ≤ L → (∀ x ∈ xs, Gd L n x) → Gd L (n + 1) (.lst xs)
def btw : D → Bool
  | .int i => decide (0 ≤ i) && decide (i ≤ 1000)
  | _ => false
@[simp] theorem gi1 : gIsi "int" .non = some (.p (.bl false)) := by rfl
@[simp] theorem gi2 {b : Bool} : gIsi "int" (.bl b) = some (.p (.bl true)) := by rfl
@[simp] theorem gi3 {b : Str} : gIsi "int" (.str b) = some (.p (.bl false)) := by rfl
@[simp] theorem gi4 {b : List D} : gIsi "int" (.tup b) = some (.p (.bl false)) := by rfl
@[simp] theorem gi5 {b : List D} : gIsi "int" (.lst b) = some (.p (.bl false)) := by rfl
@[simp] theorem gi6 {b : Bool} : gIsi "bool" (.bl b) = some (.p (.bl true)) := by rfl
@[simp] theorem gt1 : gIsi "tuple" .non = some (.p (.bl false)) := by rfl
@[simp] theorem gt2 {b : Bool} : gIsi "tuple" (.bl b) = some (.p (.bl false)) := by rfl
@[simp] theorem gt3 {b : Str} : gIsi "tuple" (.str b) = some (.p (.bl false)) := by rfl
@[simp] theorem gt4 {b : Int} : gIsi "tuple" (.int b) = some (.p (.bl false)) := by rfl
@[simp] theorem gt5 {b : List D} : gIsi "tuple" (.lst b) = some (.p (.bl false)) := by rfl
theorem isb {L n : Nat} {d : D} (h : Gd L n d) : f_is_between [d, .int 0, .int 1000] = .ok (.p (.bl (btw d))) := by
  cases h with
  | int => rename_i i; by_cases z : 0 ≤ i <;> simp [f_is_between, b_is_between, btw, z]
  | _ => simp [f_is_between, b_is_between, btw]
def AI (l m : Int) : D → Bool
  | .tup xs => (decide (l ≤ xs.length) && decide ((xs.length : Int) ≤ m)) && xs.all btw
  | _ => false
theorem are_ok {L n : Nat} {d : D} {l m : Int} (h : Gd L n d) (hL : L ≤ 1000) : f_are_integers [d, .int l, .int m, .int 1000] = .ok (.p (.bl (AI l m d))) := by
  cases h with
  | tup hl hx =>
    rename_i n xs
    have q := lc_map (tg := tgName 4) (fe := fCall f_is_between (fCons (fV 4) (fCons (fC (.int 0)) (fCons (fV 3) fNil)))) (vs := [4]) (st := [.p (.tup xs), .p (.int l), .p (.int m), .p (.int 1000), .un]) (fun d => .bl (btw d)) (ds := xs) (acc := []) (by simp; omega) fun d hd =>
      ⟨_, _, .p (.bl (btw d)), rfl, by simp [isb (hx d hd)], rfl, by simp⟩
    have e : xs.map (fun d => D.bl (btw d)) = (xs.map btw).map D.bl := by rw [List.map_map]; rfl
    rw [e] at q
    simp only [List.nil_append] at q
    have e2 : (xs.map btw).all id = xs.all btw := by rw [List.all_map]; rfl
    have ga := gAll_l (bs := xs.map btw)
    rw [e2] at ga
    generalize (xs.map btw).map D.bl = BD at *
    by_cases h1 : l ≤ xs.length
    · by_cases h2 : (xs.length : Int) ≤ m
      · simp [f_are_integers, b_are_integers, h1, h2, q, ga, AI, -gAll_l]
      · simp [f_are_integers, b_are_integers, h1, h2, AI]
    · simp [f_are_integers, b_are_integers, h1, AI]
  | _ => simp [f_are_integers, b_are_integers, AI]
theorem i_bad {ds : List D} (h : f_is_weights [.tup ds] = .ok (.p (.bl false))) : i_Panel ds = .err "InvalidWeights" none := by
  have n : f_need_weights [.tup ds] = .err "InvalidWeights" none := by simp [f_need_weights, b_need_weights, h]
  unfold i_Panel initF
  rw [n]
theorem isw_no {L n : Nat} {ds : List D} (h : Gd L n (.tup ds)) (hL : L ≤ 1000) (z : AI 1 8 (.tup ds) = false) : f_is_weights [.tup ds] = .ok (.p (.bl false)) := by
  have a := are_ok (l := 1) (m := 8) h hL
  rw [z] at a
  simp [f_is_weights, b_is_weights, a]
theorem gd_ints (ns : List Int) : Gd ns.length 1 (.tup (ns.map D.int)) := .tup (by simp) fun x hx => by
  obtain ⟨n, _, rfl⟩ := List.mem_map.mp hx
  exact .int
theorem add_big {a b : List Int} (A : Wts a) (B : Wts b) (h : a.length = b.length) (hb : ∃ x ∈ mix a b, ¬ x ≤ 1000) : f_Panel___add__ [Pn a, Pn b] = .err "InvalidWeights" none := by
  have g1 := gFld_p (ws := a)
  have g2 := gFld_p (ws := b)
  have c := gIsC_p (ws := b)
  have n := need_pair_ok h
  have m := mixed_of_ok A B h
  have M := mix_ok A B h
  have al := A.len
  have ml := M.len
  have i : i_Panel ((mix a b).map D.int) = .err "InvalidWeights" none := by
    refine i_bad (isw_no (gd_ints _) (by omega) ?_)
    obtain ⟨x, hx, hb⟩ := hb
    unfold AI
    have : ((mix a b).map D.int).all btw = false := by
      rw [List.all_eq_false]
      refine ⟨.int x, List.mem_map_of_mem hx, ?_⟩
      simp [btw]
      omega
    dsimp only
    rw [this, Bool.and_false]
  obtain ⟨ds, e, hl⟩ : ∃ ds, ds = (mix a b).map D.int ∧ ds.length ≤ 1000 := ⟨_, rfl, by rw [List.length_map]; omega⟩
  have e' : iT (mix a b) = .tup ds := by rw [e]
  rw [← e] at i
  rw [e'] at m
  generalize iT a = a' at *
  generalize iT b = b' at *
  generalize Pn a = PA at *
  generalize Pn b = PB at *
  simp [f_Panel___add__, b_Panel___add__, g1, g2, c, n, m, i, hl, -gFld_p, -gIsC_p]
/-- what is no marks for a panel of that size -/
theorem marks_bad {d : D} {s : Nat} (hs : 1 ≤ s) (h8 : s ≤ 8) (h : d ∈ [D.non, .tup [], .tup (repD ((s : Int) + 1) [.int 1]), .lst (repD s [.int 1]), .tup (repD s [.int 1001]), .tup (repD s [.bl true]), .int 5]) :
    f_are_integers [d, .int s, .int s, .int 1000] = .ok (.p (.bl false)) := by
  have key : ∀ {d : D}, Gd 100 1 d → AI s s d = false → f_are_integers [d, .int s, .int s, .int 1000] = .ok (.p (.bl false)) := fun g z => by rw [are_ok g (by omega), z]
  simp only [List.mem_cons, List.not_mem_nil, or_false] at h
  rcases h with rfl | rfl | rfl | rfl | rfl | rfl | rfl
  · exact key .non rfl
  · refine key (.tup (by simp) (by simp)) ?_
    unfold AI
    simp
    omega
  · refine key (.tup (by simp; omega) fun x hx => ?_) ?_
    · rw [repD_one] at hx; rw [(List.mem_replicate.mp hx).2]; exact .int
    · unfold AI
      simp
      omega
  · exact key (.lst (by simp; omega) fun x hx => by rw [repD_one] at hx; rw [(List.mem_replicate.mp hx).2]; exact .int) rfl
  · refine key (.tup (by simp; omega) fun x hx => ?_) ?_
    · rw [repD_one] at hx; rw [(List.mem_replicate.mp hx).2]; exact .int
    · unfold AI
      simp [btw]
      omega
  · refine key (.tup (by simp; omega) fun x hx => ?_) ?_
    · rw [repD_one] at hx; rw [(List.mem_replicate.mp hx).2]; exact .bl
    · unfold AI
      simp [btw]
      omega
  · exact key .int rfl
theorem place_bad {d : D} {s : Nat} (h : d ∈ [D.int s, .int (-1), .non, .bl true, .str "0"]) : f_is_between [d, .int 0, .int ((s : Int) - 1)] = .ok (.p (.bl false)) := by
  simp only [List.mem_cons, List.not_mem_nil, or_false] at h
  rcases h with rfl | rfl | rfl | rfl | rfl
  · rw [is_between_ok]
    have : (decide ((0 : Int) ≤ (s : Int)) && decide ((s : Int) ≤ (s : Int) - 1)) = false := by
      simp only [Bool.and_eq_false_iff, decide_eq_false_iff_not]
      omega
    rw [this]
  · rw [is_between_ok]
    rfl
  · simp [f_is_between, b_is_between]
  · simp [f_is_between, b_is_between]
  · simp [f_is_between, b_is_between]
end K13

set_option Elab.async false
set_option linter.all false
set_option maxRecDepth 100000
set_option maxHeartbeats 1000000
namespace K13
open PySem PySem.Spec PyProof.Rows L2 RZ DK
abbrev nT : List (Str × Ncl) := [("InvalidWeights", .str "weights"), ("InvalidMarks", .str "marks"), ("InvalidPlace", .str "place"), ("InvalidPair", .str "pair")]
theorem kn_w {st : Ds} : kName nT st (.err "InvalidWeights" none) = .ok (.p (.str "weights"), st) := by rfl
theorem kn_m {st : Ds} : kName nT st (.err "InvalidMarks" none) = .ok (.p (.str "marks"), st) := by rfl
theorem kn_l {st : Ds} : kName nT st (.err "InvalidPlace" none) = .ok (.p (.str "place"), st) := by rfl
theorem kn_p {st : Ds} : kName nT st (.err "InvalidPair" none) = .ok (.p (.str "pair"), st) := by rfl
theorem gNe_str {s : Str} (h : s.cps.all (· < 0x110000) = true := by decide +kernel) : gNe (.str s) (.str s) = some (.p (.bl false)) := by
  rw [gNe_eq, okD_str, h, deq_str, decide_eq_true rfl]
  rfl
theorem gEq_str' {s : Str} (h : s.cps.all (· < 0x110000) = true := by decide +kernel) : gEq (.str s) (.str s) = some (.p (.bl true)) := by
  rw [gEq_eq, okD_str, h, deq_str, decide_eq_true rfl]
  rfl
def odd1 (s : Nat) : List D := [D.non, .tup [], .tup (repD ((s : Int) + 1) [.int 1]), .lst (repD s [.int 1]), .tup (repD s [.int 1001]), .tup (repD s [.bl true]), .int 5]
def odd2 (s : Nat) : List D := [D.int s, .int (-1), .non, .bl true, .str "0"]
theorem ref1 {ws : List Int} {d : D} {s : Nat} (hs : s = ws.length) (h1 : 1 ≤ s) (h8 : s ≤ 8) (hd : d ∈ odd1 s) : l1_law_refuses [.p (Pn ws), .p (.int s), .p d, .un] = .ok (.nx [.p (Pn ws), .p (.int s), .p d, .un]) := by
  have b := marks_bad h1 h8 hd
  rw [hs] at b
  have c := call_bad (ws := ws) b
  have g := gNe_str (s := "marks")
  have A : fName nT (fCallO "Panel" f_Panel___call__ (fV 0) (fCons (fV 2) fNil)) [.p (Pn ws), .p (.int s), .p d, .un] = .ok (.p (.str "marks"), [.p (Pn ws), .p (.int s), .p d, .un]) := by
    rw [fName_eq]
    have w : wipeO [Sl.p (Pn ws), .p (.int s), .p d, .un] = [Sl.p (Pn ws), .p (.int s), .p d, .un] := rfl
    have : fCallO "Panel" f_Panel___call__ (fV 0) (fCons (fV 2) fNil) (wipeO [.p (Pn ws), .p (.int s), .p d, .un]) = .err "InvalidMarks" none := by
      rw [w]
      generalize iT ws = wT at *
      simp [c]
    rw [this, kn_m]
  unfold l1_law_refuses
  generalize fName _ (fCallO "Panel" f_Panel___call__ (fV 0) (fCons (fV 2) fNil)) = FN at *
  generalize Pn ws = P at *
  simp [A, g, -gNe_eq]
theorem ref2 {ws : List Int} {d : D} {s : Nat} (hs : s = ws.length) (hd : d ∈ odd2 s) : l2_law_refuses [.p (Pn ws), .p (.int s), .p d, .un] = .ok (.nx [.p (Pn ws), .p (.int s), .p d, .un]) := by
  have b := place_bad hd
  rw [hs] at b
  have c := ix_bad (ws := ws) b
  have g := gNe_str (s := "place")
  have A : fName nT (fCallI (okHd "Panel") f_Panel___getitem__ (fCons (fV 0) (fCons (fV 2) fNil))) [.p (Pn ws), .p (.int s), .p d, .un] = .ok (.p (.str "place"), [.p (Pn ws), .p (.int s), .p d, .un]) := by
    rw [fName_eq]
    have w : wipeO [Sl.p (Pn ws), .p (.int s), .p d, .un] = [Sl.p (Pn ws), .p (.int s), .p d, .un] := rfl
    have : fCallI (okHd "Panel") f_Panel___getitem__ (fCons (fV 0) (fCons (fV 2) fNil)) (wipeO [.p (Pn ws), .p (.int s), .p d, .un]) = .err "InvalidPlace" none := by
      rw [w]
      have o := okHd_p (ws := ws) (r := [d])
      generalize Pn ws = P at *
      simp [c, o, -okHd_p]
    rw [this, kn_l]
  unfold l2_law_refuses
  generalize fName _ (fCallI (okHd "Panel") f_Panel___getitem__ (fCons (fV 0) (fCons (fV 2) fNil))) = FN at *
  generalize Pn ws = P at *
  simp [A, g, -gNe_eq]
theorem one_W : Wts [1] := ⟨by simp, by simp, by simp, by simp, by simp⟩
theorem app_W {ws : List Int} (W : Wts ws) (h : ws.length < 8) : Wts (ws ++ [0]) := by
  refine ⟨by simp, by simp; omega, fun w hw => ?_, fun w hw => ?_, by rw [List.sum_append]; simp; exact W.sum⟩
  · rcases List.mem_append.mp hw with h | h
    · exact W.lo w h
    · simp at h; omega
  · rcases List.mem_append.mp hw with h | h
    · exact W.hi w h
    · simp at h; omega
theorem refuses_ok {ws : List Int} (W : Wts ws) : f_law_refuses [Pn ws] = .ok (.p (.bl true)) := by
  have h8 := W.len
  have h1 : 1 ≤ ws.length := List.length_pos_iff.mpr W.ne
  obtain ⟨s, hs⟩ : ∃ s, s = ws.length := ⟨_, rfl⟩
  rw [← hs] at h1 h8
  have L : fLenI "Panel" f_Panel___len__ (fCons (fV 0) fNil) [.p (Pn ws), .un, .un, .un] = .ok (.p (.int s), [.p (Pn ws), .un, .un, .un]) := by
    have l := len_ok ws
    rw [← hs] at l
    have o := okHd_p (ws := ws) (r := [])
    have b : (0 : Int) ≤ (s : Int) ∧ (s : Int) < 100000 := by omega
    generalize Pn ws = P at *
    simp [l, o, b, -okHd_p]
  have m1 : gMu (.tup [.int 1]) (.int ((s : Int) + 1)) = some (.p (.tup (repD ((s : Int) + 1) [.int 1]))) := by
    show gMulT _ _ = _
    unfold gMulT
    rw [if_pos ⟨by simp, by omega, by simp⟩]
  have m2 : gMu (.lst [.int 1]) (.int s) = some (.o (repD s [.int 1])) := by
    show gMulL _ _ = _
    unfold gMulL
    rw [if_pos ⟨by omega, by simp⟩]
  have m3 : gMu (.tup [.int 1001]) (.int s) = some (.p (.tup (repD s [.int 1001]))) := by
    show gMulT _ _ = _
    unfold gMulT
    rw [if_pos ⟨by simp, by omega, by simp⟩]
  have m4 : gMu (.tup [.bl true]) (.int s) = some (.p (.tup (repD s [.bl true]))) := by
    show gMulT _ _ = _
    unfold gMulT
    rw [if_pos ⟨by simp, by omega, by simp⟩]
  have I1 : fIt (fLst (fCons (fC .non) (fCons (fTup fNil) (fCons (fOp2 gMu (fTup (fCons (fC (.int 1)) fNil)) (fOp2 gAdd (fV 1) (fC (.int 1)))) (fCons (fOp2 gMu (fLst (fCons (fC (.int 1)) fNil)) (fV 1)) (fCons (fOp2 gMu (fTup (fCons (fC (.int 1001)) fNil)) (fV 1)) (fCons (fOp2 gMu (fTup (fCons (fC (.bl true)) fNil)) (fV 1)) (fCons (fC (.int 5)) fNil)))))))) [.p (Pn ws), .p (.int s), .un, .un] = .ok (odd1 s, [.p (Pn ws), .p (.int s), .un, .un]) := by
    unfold odd1
    generalize repD ((s : Int) + 1) [.int 1] = T1 at *
    generalize repD s [.int 1] = T2 at *
    generalize repD s [.int 1001] = T3 at *
    generalize repD s [.bl true] = T4 at *
    generalize Pn ws = P at *
    simp [m1, m2, m3, m4, -gMu_t, -gMu_l]
  obtain ⟨st1, f1, v1, e1⟩ := for_inv (tg := tgName 2) (body := l1_law_refuses) (fun st => ∃ v, st = [.p (Pn ws), .p (.int s), v, .un]) (ds := odd1 s) (st := [.p (Pn ws), .p (.int s), .un, .un]) ⟨_, rfl⟩ fun d hd st ⟨v, e⟩ => by
    subst e
    exact ⟨[.p (Pn ws), .p (.int s), .p d, .un], _, rfl, ref1 hs h1 h8 hd, _, rfl⟩
  subst e1
  have I2 : fIt (fLst (fCons (fV 1) (fCons (fOp1 gNeg (fC (.int 1))) (fCons (fC .non) (fCons (fC (.bl true)) (fCons (fC (.str "0")) fNil)))))) [.p (Pn ws), .p (.int s), v1, .un] = .ok (odd2 s, [.p (Pn ws), .p (.int s), v1, .un]) := by
    unfold odd2
    generalize Pn ws = P at *
    simp
  obtain ⟨st2, f2, v2, e2⟩ := for_inv (tg := tgName 2) (body := l2_law_refuses) (fun st => ∃ v, st = [.p (Pn ws), .p (.int s), v, .un]) (ds := odd2 s) (st := [.p (Pn ws), .p (.int s), v1, .un]) ⟨_, rfl⟩ fun d hd st ⟨v, e⟩ => by
    subst e
    exact ⟨[.p (Pn ws), .p (.int s), .p d, .un], _, rfl, ref2 hs hd, _, rfl⟩
  subst e2
  have F1 : fFor (fIt (fLst (fCons (fC .non) (fCons (fTup fNil) (fCons (fOp2 gMu (fTup (fCons (fC (.int 1)) fNil)) (fOp2 gAdd (fV 1) (fC (.int 1)))) (fCons (fOp2 gMu (fLst (fCons (fC (.int 1)) fNil)) (fV 1)) (fCons (fOp2 gMu (fTup (fCons (fC (.int 1001)) fNil)) (fV 1)) (fCons (fOp2 gMu (fTup (fCons (fC (.bl true)) fNil)) (fV 1)) (fCons (fC (.int 5)) fNil))))))))) (tgName 2) l1_law_refuses [.p (Pn ws), .p (.int s), .un, .un] = .ok (.nx [.p (Pn ws), .p (.int s), v1, .un]) := by
    rw [fFor_eq, I1, R.bind_ok, kFor_eq]
    exact f1
  have F2 : fFor (fIt (fLst (fCons (fV 1) (fCons (fOp1 gNeg (fC (.int 1))) (fCons (fC .non) (fCons (fC (.bl true)) (fCons (fC (.str "0")) fNil))))))) (tgName 2) l2_law_refuses [.p (Pn ws), .p (.int s), v1, .un] = .ok (.nx [.p (Pn ws), .p (.int s), v2, .un]) := by
    rw [fFor_eq, I2, R.bind_ok, kFor_eq]
    exact f2
  obtain ⟨lo, hl, P3⟩ : ∃ lo : List Int, lo.length ≠ ws.length ∧ fCall f_law_panel (fCons (fIf (fOp2 gLt (fV 1) (fC (.int 8))) (fOp2 gAdd (fOp1 (gFld "Panel" "parts") (fV 0)) (fTup (fCons (fC (.int 0)) fNil))) (fTup (fCons (fC (.int 1)) fNil))) fNil) [.p (Pn ws), .p (.int s), v2, .un] = .ok (.p (Pn lo), [.p (Pn ws), .p (.int s), v2, .un]) := by
    have g := gFld_p (ws := ws)
    by_cases z : s < 8
    · have W2 := app_W W (by omega)
      refine ⟨red (ws ++ [0]), by rw [red_len]; simp, ?_⟩
      have lp := law_panel_ok W2 (.inl rfl)
      have ga : gAdd (iT ws) (.tup [.int 0]) = some (.p (iT (ws ++ [0]))) := by
        show gAdd (.tup (ws.map D.int)) (.tup [.int 0]) = _
        rw [gAdd_t (by simp; omega)]
        simp
      have z' : (s : Int) < 8 := by omega
      generalize Pn (red (ws ++ [0])) = P2 at *
      generalize iT (ws ++ [0]) = w2 at *
      generalize hw : iT ws = wT at *
      generalize hP : Pn ws = P at *
      simp [g, lp, ga, z', -gFld_p]
    · refine ⟨red [1], by rw [red_len]; simp; omega, ?_⟩
      have lp := law_panel_ok one_W (.inl rfl)
      have lp : f_law_panel [.tup [.int 1]] = .ok (.p (Pn (red [1]))) := lp
      have z' : ¬ (s : Int) < 8 := by omega
      generalize Pn (red [1]) = P2 at *
      generalize hP : Pn ws = P at *
      simp [lp, z']
  have A : fName nT (fCallI (okTwo "Panel") f_Panel___add__ (fCons (fV 0) (fCons (fV 3) fNil))) [.p (Pn ws), .p (.int s), v2, .p (Pn lo)] = .ok (.p (.str "pair"), [.p (Pn ws), .p (.int s), v2, .p (Pn lo)]) := by
    rw [fName_eq]
    have c := add_pair (a := ws) (b := lo) (fun e => hl e.symm)
    have o := okTwo_p (a := ws) (b := lo)
    have : fCallI (okTwo "Panel") f_Panel___add__ (fCons (fV 0) (fCons (fV 3) fNil)) (wipeO [.p (Pn ws), .p (.int s), v2, .p (Pn lo)]) = .err "InvalidPair" none := by
      have w : wipeO [Sl.p (Pn ws), .p (.int s), v2, .p (Pn lo)] = [Sl.p (Pn ws), .p (.int s), wipeS v2, .p (Pn lo)] := rfl
      rw [w]
      generalize Pn ws = P at *
      generalize Pn lo = P2 at *
      simp [c, o, -okTwo_p]
    rw [this, kn_p]
  have g := gEq_str' (s := "pair")
  unfold f_law_refuses b_law_refuses
  generalize fFor (fIt (fLst (fCons (fC .non) (fCons (fTup fNil) (fCons (fOp2 gMu (fTup (fCons (fC (.int 1)) fNil)) (fOp2 gAdd (fV 1) (fC (.int 1)))) (fCons (fOp2 gMu (fLst (fCons (fC (.int 1)) fNil)) (fV 1)) (fCons (fOp2 gMu (fTup (fCons (fC (.int 1001)) fNil)) (fV 1)) (fCons (fOp2 gMu (fTup (fCons (fC (.bl true)) fNil)) (fV 1)) (fCons (fC (.int 5)) fNil))))))))) (tgName 2) l1_law_refuses = L1 at *
  generalize fFor (fIt (fLst (fCons (fV 1) (fCons (fOp1 gNeg (fC (.int 1))) (fCons (fC .non) (fCons (fC (.bl true)) (fCons (fC (.str "0")) fNil))))))) (tgName 2) l2_law_refuses = L2 at *
  generalize fName _ (fCallI (okTwo "Panel") f_Panel___add__ (fCons (fV 0) (fCons (fV 3) fNil))) = FN at *
  generalize fLenI "Panel" f_Panel___len__ (fCons (fV 0) fNil) = LN at *
  generalize fCall f_law_panel (fCons (fIf (fOp2 gLt (fV 1) (fC (.int 8))) (fOp2 gAdd (fOp1 (gFld "Panel" "parts") (fV 0)) (fTup (fCons (fC (.int 0)) fNil))) (fTup (fCons (fC (.int 1)) fNil))) fNil) = CP at *
  generalize Pn ws = P at *
  generalize Pn lo = P2 at *
  simp [L, F1, F2, P3, A, g, -gEq_eq]
end K13

set_option Elab.async false
set_option linter.all false
set_option maxRecDepth 100000
set_option maxHeartbeats 1000000
namespace K13
open PySem PySem.Spec PyProof.Rows L2 RZ DK
theorem okI : ∀ l : List Int, okDs 11 (l.map D.int) = true := fun l => by
  induction l with
  | nil => simp
  | cons x l ih => rw [List.map_cons, okDs_cons, ih]; simp
theorem gNe_iT (a : List Int) : gNe (iT a) (iT a) = some (.p (.bl false)) := by
  rw [gNe_eq]
  simp [okI]
theorem gNe_lI (a : List Int) : gNe (.lst (a.map D.int)) (.lst (a.map D.int)) = some (.p (.bl false)) := by
  rw [gNe_eq]
  simp [okI]
theorem gNe_fr (a b : Int) : gNe (fr a b) (fr a b) = some (.p (.bl false)) := by
  unfold fr
  rw [gNe_eq]
  simp
theorem gNe_bl (b : Bool) : gNe (.bl b) (.bl b) = some (.p (.bl false)) := by
  rw [gNe_eq]
  simp
theorem gNe_in (b : Int) : gNe (.int b) (.int b) = some (.p (.bl false)) := by
  rw [gNe_eq]
  simp
theorem dot_scale {g : Int} : ∀ (ws ms : List Int), dot (ws.map (g * ·)) ms = g * dot ws ms
  | [], ms => by simp [dot]
  | w :: ws, [] => by simp [dot]
  | w :: ws, m :: ms => by
    have ih := dot_scale (g := g) ws ms
    unfold dot at ih ⊢
    rw [List.map_cons, List.zipWith_cons_cons, List.zipWith_cons_cons, List.sum_cons, List.sum_cons, ih, Int.mul_add, Int.mul_assoc]
theorem sum_scale {g : Int} : ∀ (ws : List Int), (ws.map (g * ·)).sum = g * ws.sum
  | [] => by simp
  | w :: ws => by rw [List.map_cons, List.sum_cons, List.sum_cons, sum_scale ws, Int.mul_add]
theorem red_back {ws : List Int} (W : Wts ws) : ws = (red ws).map (foldG 0 ws * ·) := by
  obtain ⟨g0, _⟩ := Wts.g W
  have dv := (foldG_dvd (l := ws) (g := 0)).2
  unfold red
  rw [List.map_map]
  have : ∀ w ∈ ws, ((foldG 0 ws * ·) ∘ (· / foldG 0 ws)) w = w := fun w hw => Int.mul_ediv_cancel' (dv w hw)
  rw [List.map_congr_left this, List.map_id']
theorem score_same {ws ms : List Int} (W : Wts ws) : fr (dot (red ws) (desc ms)) (red ws).sum = fr (dot ws (desc ms)) ws.sum := by
  have b := red_back W
  obtain ⟨g0, _⟩ := Wts.g W
  generalize foldG 0 ws = g at *
  generalize red ws = r at *
  subst b
  rw [dot_scale, sum_scale, fr_scale g0]
theorem mix_W {a b : List Int} (A : Wts a) (B : Wts b) (h : a.length = b.length) (hm : maxI (mix a b) ≤ 1000) : Wts (mix a b) := by
  have M := mix_ok A B h
  have al := A.len
  have ne : mix a b ≠ [] := fun z => by
    have := M.len
    rw [z] at this
    exact A.ne (List.eq_nil_of_length_eq_zero this.symm)
  refine ⟨ne, by rw [M.len]; exact al, M.lo, fun w hw => Int.le_trans ((maxI_spec ne).2 w hw) hm, ?_⟩
  have s := M.sum
  have p := Int.mul_pos A.sum B.sum
  rcases Int.lt_or_le 0 (mix a b).sum with z | z
  · exact z
  · have := Int.mul_nonpos_of_nonpos_of_nonneg z (Int.le_of_lt M.g0)
    omega
theorem times_W {due : List Int} (W : Wts due) {t : Int} (h1 : 1 ≤ t) (h2 : t * maxI due ≤ 1000) : Wts (due.map (t * ·)) := by
  have ms := maxI_spec W.ne
  refine ⟨fun z => W.ne (List.map_eq_nil_iff.mp z), by rw [List.length_map]; exact W.len, fun w hw => ?_, fun w hw => ?_, by rw [sum_scale]; exact Int.mul_pos (by omega) W.sum⟩
  · obtain ⟨u, hu, rfl⟩ := List.mem_map.mp hw
    exact Int.mul_nonneg (by omega) (W.lo u hu)
  · obtain ⟨u, hu, rfl⟩ := List.mem_map.mp hw
    exact Int.le_trans (Int.mul_le_mul_of_nonneg_left (ms.2 u hu) (by omega)) h2
end K13

set_option Elab.async false
set_option linter.all false
set_option maxRecDepth 100000
set_option maxHeartbeats 1000000
namespace K13
open PySem PySem.Spec PyProof.Rows L2 RZ DK
def Out (ns : List Int) (st : Ds) : Prop := ∃ s1 s2 s3 s4 s5 s6 s7 s8 s9 s10 s11, st = [.p (.scr ns), s1, s2, s3, s4, s5, s6, s7, s8, s9, s10, s11, .un, .un]
theorem ix_list {due : List Int} {n : Int} {s0 s1 s2 s4 s5 s7 s8 s9 s10 s11 : Sl} (hn : n = due.length) (h8 : due.length ≤ 8) :
    fLc (fRng (fCons (fV 3) fNil)) (tgName 12) (nE fYes) (nE (fCallI (okHd "Panel") f_Panel___getitem__ (fCons (fV 6) (fCons (fV 12) fNil)))) [12] [s0, s1, s2, .p (.int n), s4, s5, .p (Pn due), s7, s8, s9, s10, s11, .un, .un] =
      .ok (.o (due.map D.int), [s0, s1, s2, .p (.int n), s4, s5, .p (Pn due), s7, s8, s9, s10, s11, .un, .un]) := by
  have rc : rOk n = true := by unfold rOk; simp; omega
  have q := lc_map (tg := tgName 12) (fe := fCallI (okHd "Panel") f_Panel___getitem__ (fCons (fV 6) (fCons (fV 12) fNil))) (vs := [12]) (st := [s0, s1, s2, .p (.int n), s4, s5, .p (Pn due), s7, s8, s9, s10, s11, .un, .un]) (fun d => match d with | .int p => .int (due.getD p.toNat 0) | d => d) (ds := rng 0 n.toNat) (acc := []) (by simp [rng]; omega) fun d hd => by
    obtain ⟨p, hp, rfl⟩ := mem_rng hd
    obtain ⟨w, hw, e⟩ := ix_ok (ws := due) (p := 0 + (p : Int)) (by omega) (by omega)
    have s : fCallI (okHd "Panel") f_Panel___getitem__ (fCons (fV 6) (fCons (fV 12) fNil)) [s0, s1, s2, .p (.int n), s4, s5, .p (Pn due), s7, s8, s9, s10, s11, .p (.int (0 + (p : Int))), .un] = .ok (.p (.int w), [s0, s1, s2, .p (.int n), s4, s5, .p (Pn due), s7, s8, s9, s10, s11, .p (.int (0 + (p : Int))), .un]) := by
      have o := okHd_p (ws := due) (r := [.int (0 + (p : Int))])
      generalize (0 : Int) + p = pp at *
      generalize Pn due = P at *
      simp [e, o, -okHd_p]
    refine ⟨_, [s0, s1, s2, .p (.int n), s4, s5, .p (Pn due), s7, s8, s9, s10, s11, .p (.int (0 + (p : Int))), .un], .p (.int w), rfl, s, ?_, rfl⟩
    show some (D.int w, _) = some (D.int (due.getD (0 + (p : Int)).toNat 0), _)
    rw [List.getD_eq_getElem?_getD, hw]
    rfl
  have em : (rng 0 n.toNat).map (fun d => match d with | .int p => .int (due.getD p.toNat 0) | d => d) = due.map D.int := by
    unfold rng
    rw [List.map_map]
    refine List.ext_getElem (by simp; omega) fun i h1 h2 => ?_
    simp only [List.getElem_map, List.getElem_range, Function.comp]
    have hi : i < due.length := by simpa using h2
    rw [show (0 + (i : Int)).toNat = i by omega, List.getD_eq_getElem?_getD, List.getElem?_eq_getElem hi]
    rfl
  rw [em] at q
  simp only [List.nil_append] at q
  have it : fRng (fCons (fV 3) fNil) [s0, s1, s2, .p (.int n), s4, s5, .p (Pn due), s7, s8, s9, s10, s11, .un, .un] = .ok (rng 0 n.toNat, [s0, s1, s2, .p (.int n), s4, s5, .p (Pn due), s7, s8, s9, s10, s11, .un, .un]) := by
    generalize Pn due = P at *
    simp [rc]
  rw [fLc_eq, it, R.bind_ok, kLc_eq]
  show ((lcL _ _ _ _ _ [] [s0, s1, s2, Sl.p (.int n), s4, s5, .p (Pn due), s7, s8, s9, s10, s11, .un, .un]).bind _) = _
  rw [q, R.bind_ok, kLc2_eq]
  rfl
theorem times_list {due : List Int} {t : Int} {s0 s1 s2 s3 s4 s5 s6 s7 s9 s11 : Sl} (W : Wts due) (h1 : 1 ≤ t) (h2 : t ≤ 1000) :
    fLc (fIt (fV 8)) (tgName 13) (nE fYes) (nE (fOp2 gMu (fV 10) (fV 13))) [13] [s0, s1, s2, s3, s4, s5, s6, s7, .p (iT due), s9, .p (.int t), s11, .un, .un] =
      .ok (.o ((due.map (t * ·)).map D.int), [s0, s1, s2, s3, s4, s5, s6, s7, .p (iT due), s9, .p (.int t), s11, .un, .un]) := by
  have hl := W.len
  have q := lc_map (tg := tgName 13) (fe := fOp2 gMu (fV 10) (fV 13)) (vs := [13]) (st := [s0, s1, s2, s3, s4, s5, s6, s7, .p (iT due), s9, .p (.int t), s11, .un, .un]) (fun d => match d with | .int w => .int (t * w) | d => d) (ds := due.map D.int) (acc := []) (by simp; omega) fun d hd => by
    obtain ⟨w, _, rfl⟩ := List.mem_map.mp hd
    have m : mulOk t w = true := mul_ok (by omega)
    have s : fOp2 gMu (fV 10) (fV 13) [s0, s1, s2, s3, s4, s5, s6, s7, .p (iT due), s9, .p (.int t), s11, .un, .p (.int w)] = .ok (.p (.int (t * w)), [s0, s1, s2, s3, s4, s5, s6, s7, .p (iT due), s9, .p (.int t), s11, .un, .p (.int w)]) := by
      generalize iT due = dT at *
      simp [m]
    exact ⟨_, [s0, s1, s2, s3, s4, s5, s6, s7, .p (iT due), s9, .p (.int t), s11, .un, .p (.int w)], .p (.int (t * w)), rfl, s, rfl, rfl⟩
  have em : (due.map D.int).map (fun d => match d with | .int w => .int (t * w) | d => d) = (due.map (t * ·)).map D.int := by
    rw [List.map_map, List.map_map]
    rfl
  rw [em] at q
  simp only [List.nil_append] at q
  have it : fIt (fV 8) [s0, s1, s2, s3, s4, s5, s6, s7, .p (iT due), s9, .p (.int t), s11, .un, .un] = .ok (due.map D.int, [s0, s1, s2, s3, s4, s5, s6, s7, .p (iT due), s9, .p (.int t), s11, .un, .un]) := rfl
  rw [fLc_eq, it, R.bind_ok, kLc_eq]
  show ((lcL _ _ _ _ _ [] [s0, s1, s2, s3, s4, s5, s6, s7, Sl.p (iT due), s9, .p (.int t), s11, .un, .un]).bind _) = _
  rw [q, R.bind_ok, kLc2_eq]
  rfl
end K13

set_option Elab.async false
set_option linter.all false
set_option maxRecDepth 100000
set_option maxHeartbeats 1000000
namespace K13
open PySem PySem.Spec PyProof.Rows L2 RZ DK
section
variable {ws os due oth ms : List Int} {s0 s1 s2 s3 s4 s5 s6 s7 s8 s9 s10 s11 : Sl} {n t : Int}
theorem c1_ok (W : Wts due) (hn : n = due.length) : fIfS (fOr (fOp2 gNe (fOp1 (gFld "Panel" "parts") (fV 6)) (fV 8)) (fOr (fOp2 gNe (fLenI "Panel" f_Panel___len__ (fCons (fV 6) fNil)) (fV 3)) (fOp2 gNe (fLc (fRng (fCons (fV 3) fNil)) (tgName 12) (nE fYes) (nE (fCallI (okHd "Panel") f_Panel___getitem__ (fCons (fV 6) (fCons (fV 12) fNil)))) [12]) (fCB gList (fCons (fV 8) fNil))))) (fRet (fC (.bl false))) fNext
    [s0, s1, s2, .p (.int n), s4, s5, .p (Pn due), s7, .p (iT due), s9, s10, s11, .un, .un] = .ok (.nx [s0, s1, s2, .p (.int n), s4, s5, .p (Pn due), s7, .p (iT due), s9, s10, s11, .un, .un]) := by
  have g := gFld_p (ws := due)
  have e1 := gNe_iT due
  have e2 := gNe_in n
  have e3 := gNe_lI due
  have il := ix_list (s0 := s0) (s1 := s1) (s2 := s2) (s4 := s4) (s5 := s5) (s7 := s7) (s8 := .p (iT due)) (s9 := s9) (s10 := s10) (s11 := s11) hn W.len
  have l := len_ok due
  rw [← hn] at l
  have o := okHd_p (ws := due) (r := [])
  have b : (0 : Int) ≤ n ∧ n < 100000 := by have := W.len; omega
  have gl : gList [iT due] = some (.o (due.map D.int)) := by simp
  generalize fLc (fRng (fCons (fV 3) fNil)) (tgName 12) (nE fYes) (nE (fCallI (okHd "Panel") f_Panel___getitem__ (fCons (fV 6) (fCons (fV 12) fNil)))) [12] = LC at *
  generalize hdd : due.map D.int = DD at *
  have hdT : iT due = .tup DD := by rw [← hdd]
  generalize iT due = dT at *
  generalize Pn due = P at *
  simp [g, e1, e2, e3, il, l, o, b, gl, -gFld_p, -okHd_p, -gNe_eq]
theorem c2_ok (W : Wts ws) (O : Wts os) (M : Mks ws.length ms) (hd : due = red ws) (ho : oth = red os) : fIfS (fOr (fOp2 gNe (fCallO "Panel" f_Panel___call__ (fV 6) (fCons (fV 9) fNil)) (fCall f_law_score (fCons (fV 4) (fCons (fV 9) fNil)))) (fOp2 gNe (fCallI (okEq "Panel") f_Panel___eq__ (fCons (fV 6) (fCons (fV 7) fNil))) (fOp2 gEq (fV 8) (fCall f_law_reduced (fCons (fV 5) fNil))))) (fRet (fC (.bl false))) fNext
    [s0, s1, s2, s3, .p (iT ws), .p (iT os), .p (Pn due), .p (Pn oth), .p (iT due), .p (iT ms), s10, s11, .un, .un] = .ok (.nx [s0, s1, s2, s3, .p (iT ws), .p (iT os), .p (Pn due), .p (Pn oth), .p (iT due), .p (iT ms), s10, s11, .un, .un]) := by
  have c := call_ok (ws := red ws) (ms := ms) (red_W W) (by rw [red_len]; exact M)
  have s := law_score_ok W M
  rw [score_same W, ← hd] at c
  have e1 := gNe_fr (dot ws (desc ms)) ws.sum
  generalize fr (dot ws (desc ms)) ws.sum = F at *
  have q := eq_ok due oth
  have o := okEq_p (a := due) (b := oth)
  have r := law_reduced_ok O
  rw [← ho] at r
  have ge := gEq_iT due oth
  have e2 := gNe_bl (decide (due = oth))
  generalize decide (due = oth) = bb at *
  have A : fCallO "Panel" f_Panel___call__ (fV 6) (fCons (fV 9) fNil) [s0, s1, s2, s3, .p (iT ws), .p (iT os), .p (Pn due), .p (Pn oth), .p (iT due), .p (iT ms), s10, s11, .un, .un] = .ok (.p F, [s0, s1, s2, s3, .p (iT ws), .p (iT os), .p (Pn due), .p (Pn oth), .p (iT due), .p (iT ms), s10, s11, .un, .un]) := by
    generalize iT ms = mT at *
    generalize iT ws = wT at *
    generalize iT os = oT at *
    generalize Pn oth = P2 at *
    simp [c]
  generalize fCallO "Panel" f_Panel___call__ (fV 6) (fCons (fV 9) fNil) = FO at *
  generalize Pn due = P at *
  generalize Pn oth = P2 at *
  generalize iT ms = mT at *
  generalize iT ws = wT at *
  generalize iT os = oT at *
  generalize iT due = dT at *
  generalize iT oth = hT at *
  simp [A, s, e1, q, o, r, ge, e2, -okEq_p, -gNe_eq, -gEq_eq]
theorem c3_ok (W : Wts due) (h1 : foldG 0 due = 1) (t1 : 1 ≤ t) (t2 : t ≤ 1000) (t3 : t * maxI due ≤ 1000) : fIfS (fOr (fNot (fCallI (okEq "Panel") f_Panel___eq__ (fCons (fV 6) (fCons (fCall f_law_panel (fCons (fLc (fIt (fV 8)) (tgName 13) (nE fYes) (nE (fOp2 gMu (fV 10) (fV 13))) [13]) fNil)) fNil)))) (fCallI (okEq "Panel") f_Panel___eq__ (fCons (fV 6) (fCons (fV 8) fNil)))) (fRet (fC (.bl false))) fNext
    [s0, s1, s2, s3, s4, s5, .p (Pn due), s7, .p (iT due), s9, .p (.int t), s11, .un, .un] = .ok (.nx [s0, s1, s2, s3, s4, s5, .p (Pn due), s7, .p (iT due), s9, .p (.int t), s11, .un, .un]) := by
  have tl := times_list (s0 := s0) (s1 := s1) (s2 := s2) (s3 := s3) (s4 := s4) (s5 := s5) (s6 := .p (Pn due)) (s7 := s7) (s9 := s9) (s11 := s11) W t1 t2
  have TW := times_W W t1 t3
  have lp := law_panel_ok TW (.inr rfl)
  rw [red_times h1 (by omega)] at lp
  have q := eq_ok due due
  rw [decide_eq_true rfl] at q
  have q2 := eq_tup due (due.map D.int)
  have o := okEq_p (a := due) (b := due)
  have o2 := okEq_t (a := due) (xs := due.map D.int)
  generalize fLc (fIt (fV 8)) (tgName 13) (nE fYes) (nE (fOp2 gMu (fV 10) (fV 13))) [13] = LC at *
  generalize (due.map (t * ·)).map D.int = TD at *
  have hiT : iT due = .tup (due.map D.int) := rfl
  rw [← hiT] at q2 o2
  generalize iT due = dT at *
  generalize Pn due = P at *
  simp [tl, lp, q, q2, o, o2, -okEq_p, -okEq_t]
theorem c4_ok (W : Wts due) (h1 : foldG 0 due = 1) : fIfS (fOr (fOp2 gNe (fOp1 (gFld "Panel" "parts") (fCallI (okHd "Panel") f_Panel___neg__ (fCons (fV 6) fNil))) (fOp1 gRev (fV 8))) (fNot (fCallI (okEq "Panel") f_Panel___eq__ (fCons (fCallI (okHd "Panel") f_Panel___neg__ (fCons (fCallI (okHd "Panel") f_Panel___neg__ (fCons (fV 6) fNil)) fNil)) (fCons (fV 6) fNil))))) (fRet (fC (.bl false))) fNext
    [s0, s1, s2, s3, s4, s5, .p (Pn due), s7, .p (iT due), s9, s10, s11, .un, .un] = .ok (.nx [s0, s1, s2, s3, s4, s5, .p (Pn due), s7, .p (iT due), s9, s10, s11, .un, .un]) := by
  have n1 := neg_ok W
  rw [red_of_one (by rw [foldG_rev]; exact h1)] at n1
  have n2 := neg_ok (rev_W W)
  rw [List.reverse_reverse, red_of_one h1] at n2
  have g := gFld_p (ws := due.reverse)
  have r : gRev (iT due) = some (.p (iT due.reverse)) := by
    show some (Vl.p (.tup (due.map D.int).reverse)) = _
    rw [← List.map_reverse]
  have e := gNe_iT due.reverse
  have q := eq_ok due due
  rw [decide_eq_true rfl] at q
  have o := okEq_p (a := due) (b := due)
  have o1 := okHd_p (ws := due) (r := [])
  have o2 := okHd_p (ws := due.reverse) (r := [])
  generalize iT due.reverse = rT at *
  generalize iT due = dT at *
  generalize Pn due.reverse = P2 at *
  generalize Pn due = P at *
  simp [n1, n2, g, r, e, q, o, o1, o2, -okEq_p, -okHd_p, -gFld_p, -gNe_eq]
theorem c6_ok (W : Wts due) : fIfS (fOr (fOp2 gNe (fOp1 (gFld "Panel" "parts") (fV 6)) (fV 8)) (fNot (fCall f_law_refuses (fCons (fV 6) fNil)))) (fRet (fC (.bl false))) fNext
    [s0, s1, s2, s3, s4, s5, .p (Pn due), s7, .p (iT due), s9, s10, s11, .un, .un] = .ok (.nx [s0, s1, s2, s3, s4, s5, .p (Pn due), s7, .p (iT due), s9, s10, s11, .un, .un]) := by
  have g := gFld_p (ws := due)
  have e := gNe_iT due
  have r := refuses_ok W
  generalize iT due = dT at *
  generalize Pn due = P at *
  simp [g, e, r, -gFld_p, -gNe_eq]
theorem c5_ok {a b : Int} (A : Wts due) (B : Wts oth) (h : due.length = oth.length) : fIfS (fOp2 gLe (fCB gMax (fCons (fV 11) fNil)) (fC (.int 1000))) (fIfS (fOr (fOp2 gNe (fOp1 (gFld "Panel" "parts") (fCallI (okTwo "Panel") f_Panel___add__ (fCons (fV 6) (fCons (fV 7) fNil)))) (fV 11)) (fNot (fCallI (okEq "Panel") f_Panel___eq__ (fCons (fCallI (okTwo "Panel") f_Panel___add__ (fCons (fV 6) (fCons (fV 7) fNil))) (fCons (fCallI (okTwo "Panel") f_Panel___add__ (fCons (fV 7) (fCons (fV 6) fNil))) fNil))))) (fRet (fC (.bl false))) fNext) (fIfS (fOp2 gNe (fName nT (fCallI (okTwo "Panel") f_Panel___add__ (fCons (fV 6) (fCons (fV 7) fNil)))) (fC (.str "weights"))) (fRet (fC (.bl false))) fNext)
    [s0, s1, .o [.int a, .int b], s3, s4, s5, .p (Pn due), .p (Pn oth), s8, s9, s10, .p (iT (mix due oth)), .un, .un] = .ok (.nx [s0, s1, .o [.int a, .int b], s3, s4, s5, .p (Pn due), .p (Pn oth), s8, s9, s10, .p (iT (mix due oth)), .un, .un]) := by
  have M := mix_ok A B h
  have ne : mix due oth ≠ [] := fun z => by
    have := M.len
    rw [z] at this
    exact A.ne (List.eq_nil_of_length_eq_zero this.symm)
  have gm : gMax [iT (mix due oth)] = some (.p (.int (maxI (mix due oth)))) := gMax_t ne
  have o1 := okTwo_p (a := due) (b := oth)
  by_cases z : maxI (mix due oth) ≤ 1000
  · have MW := mix_W A B h z
    have a1 := add_ok A B h MW
    have a2 := add_ok B A h.symm (by rw [mix_comm oth due]; exact MW)
    rw [mix_comm oth due] at a2
    rw [red_of_one M.one] at a1 a2
    have o2 := okTwo_p (a := oth) (b := due)
    have o3 := okEq_p (a := mix due oth) (b := mix due oth)
    have g := gFld_p (ws := mix due oth)
    have e := gNe_iT (mix due oth)
    have q := eq_ok (mix due oth) (mix due oth)
    rw [decide_eq_true rfl] at q
    generalize maxI (mix due oth) = mx' at *
    generalize iT (mix due oth) = mT at *
    generalize Pn (mix due oth) = P3 at *
    generalize Pn due = P at *
    generalize Pn oth = P2 at *
    simp [gm, z, a1, a2, o1, o2, o3, g, e, q, -okTwo_p, -okEq_p, -gFld_p, -gNe_eq]
  · have a1 := add_big A B h ⟨_, (maxI_spec ne).1, z⟩
    have N : fName nT (fCallI (okTwo "Panel") f_Panel___add__ (fCons (fV 6) (fCons (fV 7) fNil))) [s0, s1, .o [.int a, .int b], s3, s4, s5, .p (Pn due), .p (Pn oth), s8, s9, s10, .p (iT (mix due oth)), .un, .un] = .ok (.p (.str "weights"), [s0, s1, .o [.int a, .int b], s3, s4, s5, .p (Pn due), .p (Pn oth), s8, s9, s10, .p (iT (mix due oth)), .un, .un]) := by
      rw [fName_eq]
      have w : wipeO [s0, s1, Sl.o [.int a, .int b], s3, s4, s5, .p (Pn due), .p (Pn oth), s8, s9, s10, .p (iT (mix due oth)), .un, .un] = [wipeS s0, wipeS s1, .un, wipeS s3, wipeS s4, wipeS s5, .p (Pn due), .p (Pn oth), wipeS s8, wipeS s9, wipeS s10, .p (iT (mix due oth)), .un, .un] := rfl
      have : fCallI (okTwo "Panel") f_Panel___add__ (fCons (fV 6) (fCons (fV 7) fNil)) (wipeO [s0, s1, .o [.int a, .int b], s3, s4, s5, .p (Pn due), .p (Pn oth), s8, s9, s10, .p (iT (mix due oth)), .un, .un]) = .err "InvalidWeights" none := by
        rw [w]
        generalize iT (mix due oth) = mT at *
        generalize Pn due = P at *
        generalize Pn oth = P2 at *
        simp [a1, o1, -okTwo_p]
      rw [this, kn_w]
    have g := gNe_str (s := "weights")
    generalize fName nT (fCallI (okTwo "Panel") f_Panel___add__ (fCons (fV 6) (fCons (fV 7) fNil))) = FN at *
    generalize maxI (mix due oth) = mx' at *
    generalize iT (mix due oth) = mT at *
    generalize Pn due = P at *
    generalize Pn oth = P2 at *
    simp [gm, z, N, g, -gNe_eq]
end
end K13

set_option Elab.async false
set_option linter.all false
set_option maxRecDepth 100000
set_option maxHeartbeats 1000000
namespace K13
open PySem PySem.Spec PyProof.Rows L2 RZ DK
theorem outer_ok {ns : List Int} {st : Ds} {d : D} {n : Nat} (hn : n ≤ 16) (hd : d ∈ rng 0 n) (h : Out ns st) : ∃ st1 st', tgName 1 d st = some st1 ∧ l1_law st1 = .ok (.nx st') ∧ Out ns st' := by
  obtain ⟨s1, s2, s3, s4, s5, s6, s7, s8, s9, s10, s11, rfl⟩ := h
  obtain ⟨k, hk, rfl⟩ := mem_rng hd
  obtain ⟨a0, b0, e0, hs⟩ := source_ok (ns := ns) (k := 0 + (k : Int)) (by omega) (by omega)
  obtain ⟨c, a1, b1, e1, t1, c0, c1⟩ := draw_ok (n := 8) hs (by omega) (by omega)
  obtain ⟨ws, a2, b2, e2, t2, W, l1⟩ := weights_ok (count := 1 + c) t1 (by omega) (by omega)
  obtain ⟨os, a3, b3, e3, t3, O, l2⟩ := weights_ok (count := 1 + c) t2 (by omega) (by omega)
  obtain ⟨ms, a4, b4, e4, t4, l3, mb⟩ := marks_ok (count := 1 + c) (most := 1000) t3 (by omega) (by omega) (by omega) (by omega)
  have M : Mks ws.length ms := ⟨by omega, fun m hm => (mb m hm).1, fun m hm => (mb m hm).2⟩
  obtain ⟨due, hdue⟩ : ∃ due, due = red ws := ⟨_, rfl⟩
  obtain ⟨oth, hoth⟩ : ∃ oth, oth = red os := ⟨_, rfl⟩
  have DW : Wts due := hdue ▸ red_W W
  have OW : Wts oth := hoth ▸ red_W O
  have one : foldG 0 due = 1 := hdue ▸ red_one W
  have dl : due.length = ws.length := by rw [hdue, red_len]
  have ol : oth.length = os.length := by rw [hoth, red_len]
  have dol : due.length = oth.length := by omega
  obtain ⟨m1, m2⟩ := maxI_spec DW.ne
  have mx0 : 0 < maxI due := by
    obtain ⟨x, hx, x0⟩ := pos_mem DW.lo DW.sum
    have := m2 x hx
    omega
  have mx1 := DW.hi _ m1
  have q0 : 0 < 1000 / maxI due := Int.lt_of_lt_of_le (by decide : (0:Int) < 1) ((Int.le_ediv_iff_mul_le mx0).mpr (by omega))
  have q1 : 1000 / maxI due ≤ 1000 := Int.ediv_le_self _ (by omega)
  obtain ⟨t, a5, b5, e5, t5, d0, d1⟩ := draw_ok (n := 1000 / maxI due) t4 q0 (by omega)
  have tm : (1 + t) * maxI due ≤ 1000 := by
    have h1 : (1 + t) * maxI due ≤ 1000 / maxI due * maxI due := Int.mul_le_mul_of_nonneg_right (by omega) (by omega)
    have h2 : 1000 / maxI due * maxI due ≤ 1000 := Int.ediv_mul_le _ (by omega)
    omega
  have lp1 := law_panel_ok W (.inl rfl)
  have lp2 := law_panel_ok O (.inl rfl)
  have lr1 := law_reduced_ok W
  have lr2 := law_reduced_ok O
  rw [← hdue] at lp1 lr1
  rw [← hoth] at lp2 lr2
  have mo := mixed_ok DW OW dol
  have gm : gMax [iT due] = some (.p (.int (maxI due))) := gMax_t DW.ne
  have gf : (0 : Int) < maxI due ∧ maxI due < 1073741824 := by omega
  simp only [Int.zero_add] at e0
  have hcn : 1 + c = (due.length : Int) := by omega
  have goal : ∃ st', l1_law [.p (.scr ns), .p (.int k), s2, s3, s4, s5, s6, s7, s8, s9, s10, s11, .un, .un] = .ok (.nx st') ∧ Out ns st' := by
    refine seqg (st1 := [.p (.scr ns), .p (.int k), .o [.int a0, .int b0], s3, s4, s5, s6, s7, s8, s9, s10, s11, .un, .un]) (by simp [e0]) ?_
    refine seqg (st1 := [.p (.scr ns), .p (.int k), .o [.int a1, .int b1], .p (.int (1 + c)), s4, s5, s6, s7, s8, s9, s10, s11, .un, .un]) (by simp [e1]) ?_
    refine seqg (st1 := [.p (.scr ns), .p (.int k), .o [.int a3, .int b3], .p (.int (1 + c)), .p (iT ws), .p (iT os), s6, s7, s8, s9, s10, s11, .un, .un]) (by
      generalize iT ws = wT at *
      generalize iT os = oT at *
      simp [e2, e3]) ?_
    refine seqg (st1 := [.p (.scr ns), .p (.int k), .o [.int a3, .int b3], .p (.int (1 + c)), .p (iT ws), .p (iT os), .p (Pn due), .p (Pn oth), .p (iT due), s9, s10, s11, .un, .un]) (by
      generalize Pn due = P at *
      generalize Pn oth = P2 at *
      generalize iT due = dT at *
      generalize iT ws = wT at *
      generalize iT os = oT at *
      simp [lp1, lp2, lr1]) ?_
    refine seqg (c1_ok DW hcn) ?_
    refine seqg (st1 := [.p (.scr ns), .p (.int k), .o [.int a4, .int b4], .p (.int (1 + c)), .p (iT ws), .p (iT os), .p (Pn due), .p (Pn oth), .p (iT due), .p (iT ms), s10, s11, .un, .un]) (by
      generalize Pn due = P at *
      generalize Pn oth = P2 at *
      generalize iT due = dT at *
      generalize iT ws = wT at *
      generalize iT os = oT at *
      generalize iT ms = mT at *
      simp [e4]) ?_
    refine seqg (c2_ok W O M hdue hoth) ?_
    refine seqg (st1 := [.p (.scr ns), .p (.int k), .o [.int a5, .int b5], .p (.int (1 + c)), .p (iT ws), .p (iT os), .p (Pn due), .p (Pn oth), .p (iT due), .p (iT ms), .p (.int (1 + t)), s11, .un, .un]) (by
      generalize Pn due = P at *
      generalize Pn oth = P2 at *
      generalize iT due = dT at *
      generalize iT ws = wT at *
      generalize iT os = oT at *
      generalize iT ms = mT at *
      simp [gm, gf, e5]) ?_
    refine seqg (c3_ok DW one (by omega) (by omega) tm) ?_
    refine seqg (c4_ok DW one) ?_
    refine seqg (st1 := [.p (.scr ns), .p (.int k), .o [.int a5, .int b5], .p (.int (1 + c)), .p (iT ws), .p (iT os), .p (Pn due), .p (Pn oth), .p (iT due), .p (iT ms), .p (.int (1 + t)), .p (iT (mix due oth)), .un, .un]) (by
      generalize Pn due = P at *
      generalize Pn oth = P2 at *
      generalize iT (mix due oth) = xT at *
      generalize iT due = dT at *
      generalize iT oth = hT at *
      generalize iT ws = wT at *
      generalize iT os = oT at *
      generalize iT ms = mT at *
      simp [lr2, mo]) ?_
    refine seqg (c5_ok DW OW dol) ?_
    exact ⟨_, c6_ok DW, _, _, _, _, _, _, _, _, _, _, _, rfl⟩
  obtain ⟨st', g1, g2⟩ := goal
  exact ⟨[.p (.scr ns), .p (.int k), s2, s3, s4, s5, s6, s7, s8, s9, s10, s11, .un, .un], st', by rw [Int.zero_add]; rfl, g1, g2⟩
theorem gd_of {xs : List D} (h : xs.length ≤ 10) (hx : ∀ x ∈ xs, Gd 100 5 x) : Gd 100 6 (.tup xs) := .tup (by omega) hx
theorem bad0 : i_Panel [] = .err "InvalidWeights" none := i_bad (isw_no (gd_of (by simp) (by simp)) (by omega) rfl)
theorem bad1 : i_Panel [.int 1, .int 1001] = .err "InvalidWeights" none := i_bad (isw_no (gd_of (by simp) (by
  intro x hx
  simp only [List.mem_cons, List.not_mem_nil, or_false] at hx
  rcases hx with rfl | rfl <;> exact .int)) (by omega) (by rfl))
theorem bad2 : i_Panel [.tup [.int 1, .int 1]] = .err "InvalidWeights" none := i_bad (isw_no (gd_of (by simp) (by
  intro x hx
  simp only [List.mem_cons, List.not_mem_nil, or_false] at hx
  subst hx
  exact .tup (by simp) (by
    intro x hx
    simp only [List.mem_cons, List.not_mem_nil, or_false] at hx
    rcases hx with rfl | rfl <;> exact .int))) (by omega) (by rfl))
theorem bad3 : i_Panel [.int 0, .int 0] = .err "InvalidWeights" none := by
  refine i_bad ?_
  have a := are_ok (l := 1) (m := 8) (d := .tup [.int 0, .int 0]) (gd_of (by simp) (by
    intro x hx
    simp only [List.mem_cons, List.not_mem_nil, or_false] at hx
    rcases hx with rfl | rfl <;> exact .int)) (by omega)
  have z : AI 1 8 (.tup [.int 0, .int 0]) = true := by rfl
  rw [z] at a
  have s : gSum [.tup [.int 0, .int 0]] = some (.p (.int 0)) := by rfl
  simp [f_is_weights, b_is_weights, a, s]
theorem law_true (ns : List Int) (hl : ns.length ≤ 63) : runF 1 14 b_law [.scr ns] = .ok (.p (.bl true)) := by
  obtain ⟨st', q, s1, s2, s3, s4, s5, s6, s7, s8, s9, s10, s11, e'⟩ := for_inv (tg := tgName 1) (body := l1_law) (Out ns) (ds := rng 0 (1 + if (12 : Int) < ns.length then (12 : Int) else ns.length).toNat) (st := [.p (.scr ns), .un, .un, .un, .un, .un, .un, .un, .un, .un, .un, .un, .un, .un])
    ⟨_, _, _, _, _, _, _, _, _, _, _, rfl⟩ fun d hd st h => outer_ok (by split <;> omega) hd h
  subst e'
  have rc : rOk (1 + if (12 : Int) < ns.length then (12 : Int) else ns.length) = true := by
    unfold rOk
    simp
    split <;> omega
  have A : (fFor (fRng (fCons (fOp2 gAdd (fC (.int 1)) (fCB gMin (fCons (fCB gLen (fCons (fV 0) fNil)) (fCons (fC (.int 12)) fNil)))) fNil)) (tgName 1) l1_law) [.p (.scr ns), .un, .un, .un, .un, .un, .un, .un, .un, .un, .un, .un, .un, .un] = .ok (.nx [.p (.scr ns), s1, s2, s3, s4, s5, s6, s7, s8, s9, s10, s11, .un, .un]) := by
    simp [rc, q]
  have key : ∀ {a : FA} {ds : List D} {st : Ds}, i_Panel ds = .err "InvalidWeights" none → ds.length ≤ 1000 → (∃ vs, a (wipeO st) = .ok (vs, wipeO st) ∧ fzVs vs (wipeO st) = some (ds, wipeO st)) → fName nT (fMkI "Panel" ["parts"] i_Panel a) st = .ok (.p (.str "weights"), st) := fun {a ds st} e l ⟨vs, h1, h2⟩ => by
    rw [fName_eq]
    have : fMkI "Panel" ["parts"] i_Panel a (wipeO st) = .err "InvalidWeights" none := by
      rw [fMkI_eq, h1, R.bind_ok]
      dsimp only
      rw [h2, kMkI_s, if_pos l, e]
      rfl
    rw [this, kn_w]
  have B0 := key (a := fNil) (st := [.p (.scr ns), s1, s2, s3, s4, s5, s6, s7, s8, s9, s10, s11, .un, .un]) bad0 (by simp) ⟨[], rfl, rfl⟩
  have B1 := key (a := fCons (fC (.int 0)) (fCons (fC (.int 0)) fNil)) (st := [.p (.scr ns), s1, s2, s3, s4, s5, s6, s7, s8, s9, s10, s11, .un, .un]) bad3 (by simp) ⟨[.p (.int 0), .p (.int 0)], rfl, rfl⟩
  have B2 := key (a := fCons (fC (.int 1)) (fCons (fC (.int 1001)) fNil)) (st := [.p (.scr ns), s1, s2, s3, s4, s5, s6, s7, s8, s9, s10, s11, .un, .un]) bad1 (by simp) ⟨[.p (.int 1), .p (.int 1001)], rfl, rfl⟩
  have B3 := key (a := fCons (fTup (fCons (fC (.int 1)) (fCons (fC (.int 1)) fNil))) fNil) (st := [.p (.scr ns), s1, s2, s3, s4, s5, s6, s7, s8, s9, s10, s11, .un, .un]) bad2 (by simp) ⟨[.p (.tup [.int 1, .int 1])], rfl, rfl⟩
  have g1 := gNe_str (s := "weights")
  have g2 := gEq_str' (s := "weights")
  unfold b_law
  generalize (fFor (fRng (fCons (fOp2 gAdd (fC (.int 1)) (fCB gMin (fCons (fCB gLen (fCons (fV 0) fNil)) (fCons (fC (.int 12)) fNil)))) fNil)) (tgName 1) l1_law) = LP at *
  generalize fName nT (fMkI "Panel" ["parts"] i_Panel fNil) = N0 at *
  generalize fName nT (fMkI "Panel" ["parts"] i_Panel (fCons (fC (.int 0)) (fCons (fC (.int 0)) fNil))) = N1 at *
  generalize fName nT (fMkI "Panel" ["parts"] i_Panel (fCons (fC (.int 1)) (fCons (fC (.int 1001)) fNil))) = N2 at *
  generalize fName nT (fMkI "Panel" ["parts"] i_Panel (fCons (fTup (fCons (fC (.int 1)) (fCons (fC (.int 1)) fNil))) fNil)) = N3 at *
  simp [A, B0, B1, B2, B3, g1, g2, -gNe_eq, -gEq_eq]
end K13

namespace K13
open PySem PySem.Spec PyProof.Rows L2 RZ DK
theorem all_mk {l : PySem.W.OpenLaw} {w : World} {K : PySem.W.Frag} {h : Heap} {mg : Str → Option Value} {fa ca_law_refuses Pt_law_refuses ca_law Pt_law : Addr} (hTab : ∀ q ∈ [Pt_law_refuses, Pt_law], h.get? q = some (PySem.W.tabObj #[])) (X : K.In h) (G : h.Ns mainGlobals mg) (hfa : mg "law" = some (.ref fa))
    {od0 an0 : Option Addr} {sl0 : Array (Option Value)} {oc0 kV0 dc0 pm0 cd0 ct0 : Value} {f0 : Addr}
    {od1 an1 : Option Addr} {sl1 : Array (Option Value)} {oc1 kV1 dc1 pm1 cd1 ct1 : Value} {f1 : Addr}
    {od2 an2 : Option Addr} {sl2 : Array (Option Value)} {oc2 kV2 dc2 pm2 cd2 ct2 : Value} {f2 : Addr}
    {od3 an3 : Option Addr} {sl3 : Array (Option Value)} {oc3 kV3 dc3 pm3 cd3 ct3 : Value} {f3 : Addr}
    {od4 an4 : Option Addr} {sl4 : Array (Option Value)} {oc4 kV4 dc4 pm4 cd4 ct4 : Value} {f4 : Addr}
    {od5 an5 : Option Addr} {sl5 : Array (Option Value)} {oc5 kV5 dc5 pm5 cd5 ct5 : Value} {f5 : Addr}
    {od6 an6 : Option Addr} {sl6 : Array (Option Value)} {oc6 kV6 dc6 pm6 cd6 ct6 : Value} {f6 : Addr}
    {od7 an7 : Option Addr} {sl7 : Array (Option Value)} {oc7 kV7 dc7 pm7 cd7 ct7 : Value} {f7 : Addr}
    {od8 an8 : Option Addr} {sl8 : Array (Option Value)} {oc8 kV8 dc8 pm8 cd8 ct8 : Value} {f8 : Addr}
    {od9 an9 : Option Addr} {sl9 : Array (Option Value)} {oc9 kV9 dc9 pm9 cd9 ct9 : Value} {f9 : Addr}
    {od10 an10 : Option Addr} {sl10 : Array (Option Value)} {oc10 kV10 dc10 pm10 cd10 ct10 : Value} {f10 : Addr}
    {od11 an11 : Option Addr} {sl11 : Array (Option Value)} {oc11 kV11 dc11 pm11 cd11 ct11 : Value} {f11 : Addr}
    {od12 an12 : Option Addr} {sl12 : Array (Option Value)} {oc12 kV12 dc12 pm12 cd12 ct12 : Value} {f12 : Addr}
    {od13 an13 : Option Addr} {sl13 : Array (Option Value)} {oc13 kV13 dc13 pm13 cd13 ct13 : Value} {f13 : Addr}
    {od14 an14 : Option Addr} {sl14 : Array (Option Value)} {oc14 kV14 dc14 pm14 cd14 ct14 : Value} {f14 : Addr}
    {od15 an15 : Option Addr} {sl15 : Array (Option Value)} {oc15 kV15 dc15 pm15 cd15 ct15 : Value} {f15 : Addr}
    {od16 an16 : Option Addr} {sl16 : Array (Option Value)} {oc16 kV16 dc16 pm16 cd16 ct16 : Value} {f16 : Addr}
    {od17 an17 : Option Addr} {sl17 : Array (Option Value)} {oc17 kV17 dc17 pm17 cd17 ct17 : Value} {f17 : Addr}
    {od18 an18 : Option Addr} {sl18 : Array (Option Value)} {oc18 kV18 dc18 pm18 cd18 ct18 : Value} {f18 : Addr}
    {od19 an19 : Option Addr} {sl19 : Array (Option Value)} {oc19 kV19 dc19 pm19 cd19 ct19 : Value} {f19 : Addr}
    {od20 an20 : Option Addr} {sl20 : Array (Option Value)} {oc20 kV20 dc20 pm20 cd20 ct20 : Value} {f20 : Addr}
    {od21 an21 : Option Addr} {sl21 : Array (Option Value)} {oc21 kV21 dc21 pm21 cd21 ct21 : Value} {f21 : Addr}
    {od22 an22 : Option Addr} {sl22 : Array (Option Value)} {oc22 kV22 dc22 pm22 cd22 ct22 : Value} {f22 : Addr}
    {od23 an23 : Option Addr} {sl23 : Array (Option Value)} {oc23 kV23 dc23 pm23 cd23 ct23 : Value} {f23 : Addr}
    {od24 an24 : Option Addr} {sl24 : Array (Option Value)} {oc24 kV24 dc24 pm24 cd24 ct24 : Value} {f24 : Addr}
    {od25 an25 : Option Addr} {sl25 : Array (Option Value)} {oc25 kV25 dc25 pm25 cd25 ct25 : Value} {f25 : Addr}
    {od26 an26 : Option Addr} {sl26 : Array (Option Value)} {oc26 kV26 dc26 pm26 cd26 ct26 : Value} {f26 : Addr}
    {od27 an27 : Option Addr} {sl27 : Array (Option Value)} {oc27 kV27 dc27 pm27 cd27 ct27 : Value} {f27 : Addr}
    {od28 an28 : Option Addr} {sl28 : Array (Option Value)} {oc28 kV28 dc28 pm28 cd28 ct28 : Value} {f28 : Addr}
    {od29 an29 : Option Addr} {sl29 : Array (Option Value)} {oc29 kV29 dc29 pm29 cd29 ct29 : Value} {f29 : Addr}
    {od30 an30 : Option Addr} {sl30 : Array (Option Value)} {oc30 kV30 dc30 pm30 ct30 : Value} {f30 : Addr}
    {od31 an31 : Option Addr} {sl31 : Array (Option Value)} {oc31 kV31 dc31 pm31 cd31 ct31 : Value} {f31 : Addr}
    {od32 an32 : Option Addr} {sl32 : Array (Option Value)} {oc32 kV32 dc32 pm32 cd32 ct32 : Value} {f32 : Addr}
    {od33 an33 : Option Addr} {sl33 : Array (Option Value)} {oc33 kV33 dc33 pm33 ct33 : Value} {f33 : Addr}
    {C_Panel : Addr}
    {odP_Panel_weights anP_Panel_weights : Option Addr} {slP_Panel_weights : Array (Option Value)} {ocP_Panel_weights kVP_Panel_weights dcP_Panel_weights pmP_Panel_weights cdP_Panel_weights ctP_Panel_weights : Value} {fP_Panel_weights pP_Panel_weights : Addr} {rP_Panel_weights : List Value}
    {t_MOST_JUDGES : Tok}
    {t_MOST_MARK : Tok}
    {t_MOST_WEIGHT : Tok}
    {C_InvalidMarks : Addr}
    {C_InvalidPair : Addr}
    {C_InvalidPlace : Addr}
    {C_InvalidWeights : Addr}
    (gc_Panel : PySem.W.nsIn K mainGlobals "Panel" = some (some (.ref C_Panel)))
    (a0 : PySem.W.nsIn K mainGlobals "_law_source" = some (some (.ref f0))) (l0 : K.lookup f0 = some ⟨oc0, od0, .func (PySem.W.fnOf "_law_source" "_law_source" (defArgs s_law_source) (defBody s_law_source) (defScope s_law_source) .none kV0 dc0 pm0 an0 cd0 ct0), sl0⟩) (c0 : PySem.W.codeIn K cd0 "_law_source" = true) (k0 : PySem.W.keepIn K (.ref f0) = true)
    (a1 : PySem.W.nsIn K mainGlobals "_law_draw" = some (some (.ref f1))) (l1 : K.lookup f1 = some ⟨oc1, od1, .func (PySem.W.fnOf "_law_draw" "_law_draw" (defArgs s_law_draw) (defBody s_law_draw) (defScope s_law_draw) .none kV1 dc1 pm1 an1 cd1 ct1), sl1⟩) (c1 : PySem.W.codeIn K cd1 "_law_draw" = true) (k1 : PySem.W.keepIn K (.ref f1) = true)
    (a2 : PySem.W.nsIn K mainGlobals "_law_marks" = some (some (.ref f2))) (l2 : K.lookup f2 = some ⟨oc2, od2, .func (PySem.W.fnOf "_law_marks" "_law_marks" (defArgs s_law_marks) (defBody s_law_marks) (defScope s_law_marks) .none kV2 dc2 pm2 an2 cd2 ct2), sl2⟩) (c2 : PySem.W.codeIn K cd2 "_law_marks" = true) (k2 : PySem.W.keepIn K (.ref f2) = true)
    (a3 : PySem.W.nsIn K mainGlobals "is_between" = some (some (.ref f3))) (l3 : K.lookup f3 = some ⟨oc3, od3, .func (PySem.W.fnOf "is_between" "is_between" (defArgs s_is_between) (defBody s_is_between) (defScope s_is_between) .none kV3 dc3 pm3 an3 cd3 ct3), sl3⟩) (c3 : PySem.W.codeIn K cd3 "is_between" = true) (k3 : PySem.W.keepIn K (.ref f3) = true)
    (a4 : PySem.W.nsIn K mainGlobals "are_integers" = some (some (.ref f4))) (l4 : K.lookup f4 = some ⟨oc4, od4, .func (PySem.W.fnOf "are_integers" "are_integers" (defArgs s_are_integers) (defBody s_are_integers) (defScope s_are_integers) .none kV4 dc4 pm4 an4 cd4 ct4), sl4⟩) (c4 : PySem.W.codeIn K cd4 "are_integers" = true) (k4 : PySem.W.keepIn K (.ref f4) = true)
    (a5 : PySem.W.nsIn K mainGlobals "is_weights" = some (some (.ref f5))) (l5 : K.lookup f5 = some ⟨oc5, od5, .func (PySem.W.fnOf "is_weights" "is_weights" (defArgs s_is_weights) (defBody s_is_weights) (defScope s_is_weights) .none kV5 dc5 pm5 an5 cd5 ct5), sl5⟩) (c5 : PySem.W.codeIn K cd5 "is_weights" = true) (k5 : PySem.W.keepIn K (.ref f5) = true)
    (a6 : PySem.W.nsIn K mainGlobals "need_weights" = some (some (.ref f6))) (l6 : K.lookup f6 = some ⟨oc6, od6, .func (PySem.W.fnOf "need_weights" "need_weights" (defArgs s_need_weights) (defBody s_need_weights) (defScope s_need_weights) .none kV6 dc6 pm6 an6 cd6 ct6), sl6⟩) (c6 : PySem.W.codeIn K cd6 "need_weights" = true) (k6 : PySem.W.keepIn K (.ref f6) = true)
    (a7 : PySem.W.nsIn K mainGlobals "need_pair" = some (some (.ref f7))) (l7 : K.lookup f7 = some ⟨oc7, od7, .func (PySem.W.fnOf "need_pair" "need_pair" (defArgs s_need_pair) (defBody s_need_pair) (defScope s_need_pair) .none kV7 dc7 pm7 an7 cd7 ct7), sl7⟩) (c7 : PySem.W.codeIn K cd7 "need_pair" = true) (k7 : PySem.W.keepIn K (.ref f7) = true)
    (a8 : PySem.W.nsIn K mainGlobals "need_both" = some (some (.ref f8))) (l8 : K.lookup f8 = some ⟨oc8, od8, .func (PySem.W.fnOf "need_both" "need_both" (defArgs s_need_both) (defBody s_need_both) (defScope s_need_both) .none kV8 dc8 pm8 an8 cd8 ct8), sl8⟩) (c8 : PySem.W.codeIn K cd8 "need_both" = true) (k8 : PySem.W.keepIn K (.ref f8) = true)
    (a9 : PySem.W.nsIn K mainGlobals "divisor" = some (some (.ref f9))) (l9 : K.lookup f9 = some ⟨oc9, od9, .func (PySem.W.fnOf "divisor" "divisor" (defArgs s_divisor) (defBody s_divisor) (defScope s_divisor) .none kV9 dc9 pm9 an9 cd9 ct9), sl9⟩) (c9 : PySem.W.codeIn K cd9 "divisor" = true) (k9 : PySem.W.keepIn K (.ref f9) = true)
    (a10 : PySem.W.nsIn K mainGlobals "reduced" = some (some (.ref f10))) (l10 : K.lookup f10 = some ⟨oc10, od10, .func (PySem.W.fnOf "reduced" "reduced" (defArgs s_reduced) (defBody s_reduced) (defScope s_reduced) .none kV10 dc10 pm10 an10 cd10 ct10), sl10⟩) (c10 : PySem.W.codeIn K cd10 "reduced" = true) (k10 : PySem.W.keepIn K (.ref f10) = true)
    (a11 : PySem.W.nsIn K mainGlobals "mixed_of" = some (some (.ref f11))) (l11 : K.lookup f11 = some ⟨oc11, od11, .func (PySem.W.fnOf "mixed_of" "mixed_of" (defArgs s_mixed_of) (defBody s_mixed_of) (defScope s_mixed_of) .none kV11 dc11 pm11 an11 cd11 ct11), sl11⟩) (c11 : PySem.W.codeIn K cd11 "mixed_of" = true) (k11 : PySem.W.keepIn K (.ref f11) = true)
    (a12 : PySem.W.nsIn K mainGlobals "mixed" = some (some (.ref f12))) (l12 : K.lookup f12 = some ⟨oc12, od12, .func (PySem.W.fnOf "mixed" "mixed" (defArgs s_mixed) (defBody s_mixed) (defScope s_mixed) .none kV12 dc12 pm12 an12 cd12 ct12), sl12⟩) (c12 : PySem.W.codeIn K cd12 "mixed" = true) (k12 : PySem.W.keepIn K (.ref f12) = true)
    (a13 : PySem.W.nsIn K mainGlobals "_law_name" = some (some (.ref f13))) (l13 : K.lookup f13 = some ⟨oc13, od13, .func (PySem.W.fnOf "_law_name" "_law_name" (defArgs s_law_name) (defBody s_law_name) (defScope s_law_name) .none kV13 dc13 pm13 an13 cd13 ct13), sl13⟩) (c13 : PySem.W.codeIn K cd13 "_law_name" = true) (k13 : PySem.W.keepIn K (.ref f13) = true)
    (a14 : PySem.W.nsIn K mainGlobals "_law_choice" = some (some (.ref f14))) (l14 : K.lookup f14 = some ⟨oc14, od14, .func (PySem.W.fnOf "_law_choice" "_law_choice" (defArgs s_law_choice) (defBody s_law_choice) (defScope s_law_choice) .none kV14 dc14 pm14 an14 cd14 ct14), sl14⟩) (c14 : PySem.W.codeIn K cd14 "_law_choice" = true) (k14 : PySem.W.keepIn K (.ref f14) = true)
    (a15 : PySem.W.nsIn K mainGlobals "_law_weights" = some (some (.ref f15))) (l15 : K.lookup f15 = some ⟨oc15, od15, .func (PySem.W.fnOf "_law_weights" "_law_weights" (defArgs s_law_weights) (defBody s_law_weights) (defScope s_law_weights) .none kV15 dc15 pm15 an15 cd15 ct15), sl15⟩) (c15 : PySem.W.codeIn K cd15 "_law_weights" = true) (k15 : PySem.W.keepIn K (.ref f15) = true)
    (a16 : PySem.W.findIn K (.ref C_Panel) "__init__" = some (some (.ref f16))) (l16 : K.lookup f16 = some ⟨oc16, od16, .func (PySem.W.fnOf "__init__" "Panel.__init__" (defArgs s_Panel___init__) (defBody s_Panel___init__) (defScope s_Panel___init__) .none kV16 dc16 pm16 an16 cd16 ct16), sl16⟩) (c16 : PySem.W.codeIn K cd16 "Panel.__init__" = true) (k16 : PySem.W.keepIn K (.ref f16) = true)
    (fn16 : PySem.W.isFn K (.ref f16) = true) (fi16 : PySem.W.fnIn K f16 = true)
    (a17 : PySem.W.nsIn K mainGlobals "_law_panel" = some (some (.ref f17))) (l17 : K.lookup f17 = some ⟨oc17, od17, .func (PySem.W.fnOf "_law_panel" "_law_panel" (defArgs s_law_panel) (defBody s_law_panel) (defScope s_law_panel) .none kV17 dc17 pm17 an17 cd17 ct17), sl17⟩) (c17 : PySem.W.codeIn K cd17 "_law_panel" = true) (k17 : PySem.W.keepIn K (.ref f17) = true)
    (a18 : PySem.W.nsIn K mainGlobals "_law_reduced" = some (some (.ref f18))) (l18 : K.lookup f18 = some ⟨oc18, od18, .func (PySem.W.fnOf "_law_reduced" "_law_reduced" (defArgs s_law_reduced) (defBody s_law_reduced) (defScope s_law_reduced) .none kV18 dc18 pm18 an18 cd18 ct18), sl18⟩) (c18 : PySem.W.codeIn K cd18 "_law_reduced" = true) (k18 : PySem.W.keepIn K (.ref f18) = true)
    (a19 : PySem.W.nsIn K mainGlobals "_law_lowest" = some (some (.ref f19))) (l19 : K.lookup f19 = some ⟨oc19, od19, .func (PySem.W.fnOf "_law_lowest" "_law_lowest" (defArgs s_law_lowest) (defBody s_law_lowest) (defScope s_law_lowest) .none kV19 dc19 pm19 an19 cd19 ct19), sl19⟩) (c19 : PySem.W.codeIn K cd19 "_law_lowest" = true) (k19 : PySem.W.keepIn K (.ref f19) = true)
    (a20 : PySem.W.nsIn K mainGlobals "_law_total" = some (some (.ref f20))) (l20 : K.lookup f20 = some ⟨oc20, od20, .func (PySem.W.fnOf "_law_total" "_law_total" (defArgs s_law_total) (defBody s_law_total) (defScope s_law_total) .none kV20 dc20 pm20 an20 cd20 ct20), sl20⟩) (c20 : PySem.W.codeIn K cd20 "_law_total" = true) (k20 : PySem.W.keepIn K (.ref f20) = true)
    (a21 : PySem.W.nsIn K mainGlobals "_law_score" = some (some (.ref f21))) (l21 : K.lookup f21 = some ⟨oc21, od21, .func (PySem.W.fnOf "_law_score" "_law_score" (defArgs s_law_score) (defBody s_law_score) (defScope s_law_score) .none kV21 dc21 pm21 an21 cd21 ct21), sl21⟩) (c21 : PySem.W.codeIn K cd21 "_law_score" = true) (k21 : PySem.W.keepIn K (.ref f21) = true)
    (a22 : PySem.W.findIn K (.ref C_Panel) "__len__" = some (some (.ref f22))) (l22 : K.lookup f22 = some ⟨oc22, od22, .func (PySem.W.fnOf "__len__" "Panel.__len__" (defArgs s_Panel___len__) (defBody s_Panel___len__) (defScope s_Panel___len__) .none kV22 dc22 pm22 an22 cd22 ct22), sl22⟩) (c22 : PySem.W.codeIn K cd22 "Panel.__len__" = true) (k22 : PySem.W.keepIn K (.ref f22) = true)
    (fn22 : PySem.W.isFn K (.ref f22) = true) (fi22 : PySem.W.fnIn K f22 = true)
    (a23 : PySem.W.findIn K (.ref C_Panel) "__add__" = some (some (.ref f23))) (l23 : K.lookup f23 = some ⟨oc23, od23, .func (PySem.W.fnOf "__add__" "Panel.__add__" (defArgs s_Panel___add__) (defBody s_Panel___add__) (defScope s_Panel___add__) .none kV23 dc23 pm23 an23 cd23 ct23), sl23⟩) (c23 : PySem.W.codeIn K cd23 "Panel.__add__" = true) (k23 : PySem.W.keepIn K (.ref f23) = true)
    (fn23 : PySem.W.isFn K (.ref f23) = true) (fi23 : PySem.W.fnIn K f23 = true)
    (a24 : PySem.W.nsIn K mainGlobals "are_marks" = some (some (.ref f24))) (l24 : K.lookup f24 = some ⟨oc24, od24, .func (PySem.W.fnOf "are_marks" "are_marks" (defArgs s_are_marks) (defBody s_are_marks) (defScope s_are_marks) .none kV24 dc24 pm24 an24 cd24 ct24), sl24⟩) (c24 : PySem.W.codeIn K cd24 "are_marks" = true) (k24 : PySem.W.keepIn K (.ref f24) = true)
    (a25 : PySem.W.nsIn K mainGlobals "need_marks" = some (some (.ref f25))) (l25 : K.lookup f25 = some ⟨oc25, od25, .func (PySem.W.fnOf "need_marks" "need_marks" (defArgs s_need_marks) (defBody s_need_marks) (defScope s_need_marks) .none kV25 dc25 pm25 an25 cd25 ct25), sl25⟩) (c25 : PySem.W.codeIn K cd25 "need_marks" = true) (k25 : PySem.W.keepIn K (.ref f25) = true)
    (a26 : PySem.W.nsIn K mainGlobals "lowest" = some (some (.ref f26))) (l26 : K.lookup f26 = some ⟨oc26, od26, .func (PySem.W.fnOf "lowest" "lowest" (defArgs s_lowest) (defBody s_lowest) (defScope s_lowest) .none kV26 dc26 pm26 an26 cd26 ct26), sl26⟩) (c26 : PySem.W.codeIn K cd26 "lowest" = true) (k26 : PySem.W.keepIn K (.ref f26) = true)
    (a27 : PySem.W.nsIn K mainGlobals "score_of" = some (some (.ref f27))) (l27 : K.lookup f27 = some ⟨oc27, od27, .func (PySem.W.fnOf "score_of" "score_of" (defArgs s_score_of) (defBody s_score_of) (defScope s_score_of) .none kV27 dc27 pm27 an27 cd27 ct27), sl27⟩) (c27 : PySem.W.codeIn K cd27 "score_of" = true) (k27 : PySem.W.keepIn K (.ref f27) = true)
    (a28 : PySem.W.findIn K (.ref C_Panel) "__call__" = some (some (.ref f28))) (l28 : K.lookup f28 = some ⟨oc28, od28, .func (PySem.W.fnOf "__call__" "Panel.__call__" (defArgs s_Panel___call__) (defBody s_Panel___call__) (defScope s_Panel___call__) .none kV28 dc28 pm28 an28 cd28 ct28), sl28⟩) (c28 : PySem.W.codeIn K cd28 "Panel.__call__" = true) (k28 : PySem.W.keepIn K (.ref f28) = true)
    (fn28 : PySem.W.isFn K (.ref f28) = true) (fi28 : PySem.W.fnIn K f28 = true)
    (a29 : PySem.W.findIn K (.ref C_Panel) "__getitem__" = some (some (.ref f29))) (l29 : K.lookup f29 = some ⟨oc29, od29, .func (PySem.W.fnOf "__getitem__" "Panel.__getitem__" (defArgs s_Panel___getitem__) (defBody s_Panel___getitem__) (defScope s_Panel___getitem__) .none kV29 dc29 pm29 an29 cd29 ct29), sl29⟩) (c29 : PySem.W.codeIn K cd29 "Panel.__getitem__" = true) (k29 : PySem.W.keepIn K (.ref f29) = true)
    (fn29 : PySem.W.isFn K (.ref f29) = true) (fi29 : PySem.W.fnIn K f29 = true)
    (a30 : PySem.W.nsIn K mainGlobals "_law_refuses" = some (some (.ref f30))) (l30 : K.lookup f30 = some ⟨oc30, od30, .func (PySem.W.fnOf "_law_refuses" "_law_refuses" (defArgs s_law_refuses) (defBody s_law_refuses) (defScope s_law_refuses) .none kV30 dc30 pm30 an30 (.ref ca_law_refuses) ct30), sl30⟩) (c30 : PySem.W.codeIn K (.ref ca_law_refuses) "_law_refuses" = true) (k30 : PySem.W.keepIn K (.ref f30) = true)
    (a31 : PySem.W.findIn K (.ref C_Panel) "__eq__" = some (some (.ref f31))) (l31 : K.lookup f31 = some ⟨oc31, od31, .func (PySem.W.fnOf "__eq__" "Panel.__eq__" (defArgs s_Panel___eq__) (defBody s_Panel___eq__) (defScope s_Panel___eq__) .none kV31 dc31 pm31 an31 cd31 ct31), sl31⟩) (c31 : PySem.W.codeIn K cd31 "Panel.__eq__" = true) (k31 : PySem.W.keepIn K (.ref f31) = true)
    (fn31 : PySem.W.isFn K (.ref f31) = true) (fi31 : PySem.W.fnIn K f31 = true)
    (a32 : PySem.W.findIn K (.ref C_Panel) "__neg__" = some (some (.ref f32))) (l32 : K.lookup f32 = some ⟨oc32, od32, .func (PySem.W.fnOf "__neg__" "Panel.__neg__" (defArgs s_Panel___neg__) (defBody s_Panel___neg__) (defScope s_Panel___neg__) .none kV32 dc32 pm32 an32 cd32 ct32), sl32⟩) (c32 : PySem.W.codeIn K cd32 "Panel.__neg__" = true) (k32 : PySem.W.keepIn K (.ref f32) = true)
    (fn32 : PySem.W.isFn K (.ref f32) = true) (fi32 : PySem.W.fnIn K f32 = true)
    (a33 : PySem.W.nsIn K mainGlobals "law" = some (some (.ref f33))) (l33 : K.lookup f33 = some ⟨oc33, od33, .func (PySem.W.fnOf "law" "law" (defArgs s_law) (defBody s_law) (defScope s_law) .none kV33 dc33 pm33 an33 (.ref ca_law) ct33), sl33⟩) (c33 : PySem.W.codeIn K (.ref ca_law) "law" = true) (k33 : PySem.W.keepIn K (.ref f33) = true)
    (cpg_Panel : PySem.W.plainGet K C_Panel Str.empty = true)
    (chd_Panel : PySem.W.hasDictIn K C_Panel = true)
    (cpo_Panel : PySem.W.plainOver K C_Panel = true)
    (csa_Panel : PySem.W.findIn K (.ref C_Panel) "__setattr__" = some (some (.builtin "object.__setattr__")))
    (cha_Panel : PySem.W.findIn K (.ref C_Panel) "__class__" = some (some (.builtin "object.__class__")))
    (chn_Panel : PySem.W.specialIn K (.builtin "object.__class__") "__get__" = some (some (.builtin "getset_descriptor.__get__")))
    (chtk_Panel : PySem.W.takesIn K (.builtin "object.__class__") = some true)
    (chm_Panel : PySem.W.mroIn K C_Panel (.type "object") = some true)
    (cme_Panel : PySem.W.kitOne K (.ref C_Panel) (.ref C_Panel) = some true)
    (ckt_Panel : PySem.W.kitOne K (.type "tuple") (.ref C_Panel) = some false)
    (cnf_Panel : PySem.W.notFirst K C_Panel (.ref C_Panel) = true)
    (cnt_Panel : PySem.W.notFirst K C_Panel (.type "tuple") = true)
    (csf_Panel : PySem.W.selfFirst K C_Panel = true)
    (ckp_Panel : PySem.W.keepIn K (.ref C_Panel) = true)
    (cmk_Panel : PySem.W.makesIn K C_Panel = true)
    (na_Panel : PySem.W.findIn K (.ref C_Panel) "parts" = some none)
    (pa_Panel_weights : PySem.W.findIn K (.ref C_Panel) "weights" = some (some (.ref pP_Panel_weights))) (pg_Panel_weights : PySem.W.specialIn K (.ref pP_Panel_weights) "__get__" = some (some (.builtin "property.__get__"))) (pt_Panel_weights : PySem.W.takesIn K (.ref pP_Panel_weights) = some true) (pr_Panel_weights : PySem.W.recIn K pP_Panel_weights "property" = some (.ref fP_Panel_weights :: rP_Panel_weights)) (pl_Panel_weights : K.lookup fP_Panel_weights = some ⟨ocP_Panel_weights, odP_Panel_weights, .func (PySem.W.fnOf "weights" "Panel.weights" (defArgs s_Panel_weights) (defBody s_Panel_weights) (defScope s_Panel_weights) .none kVP_Panel_weights dcP_Panel_weights pmP_Panel_weights anP_Panel_weights cdP_Panel_weights ctP_Panel_weights), slP_Panel_weights⟩) (pc_Panel_weights : PySem.W.codeIn K cdP_Panel_weights "Panel.weights" = true) (pk_Panel_weights : PySem.W.keepIn K (.ref fP_Panel_weights) = true)
    (z_abs : PySem.W.nsIn K mainGlobals "abs" = some none)
    (z_all : PySem.W.nsIn K mainGlobals "all" = some none)
    (z_bool : PySem.W.nsIn K mainGlobals "bool" = some none)
    (z_int : PySem.W.nsIn K mainGlobals "int" = some none)
    (z_isinstance : PySem.W.nsIn K mainGlobals "isinstance" = some none)
    (z_len : PySem.W.nsIn K mainGlobals "len" = some none)
    (z_list : PySem.W.nsIn K mainGlobals "list" = some none)
    (z_max : PySem.W.nsIn K mainGlobals "max" = some none)
    (z_min : PySem.W.nsIn K mainGlobals "min" = some none)
    (z_range : PySem.W.nsIn K mainGlobals "range" = some none)
    (z_sorted : PySem.W.nsIn K mainGlobals "sorted" = some none)
    (z_sum : PySem.W.nsIn K mainGlobals "sum" = some none)
    (z_tuple : PySem.W.nsIn K mainGlobals "tuple" = some none)
    (z_zip : PySem.W.nsIn K mainGlobals "zip" = some none)
    (c_MOST_JUDGES : PySem.W.nsIn K mainGlobals "MOST_JUDGES" = some (some (.int 8 t_MOST_JUDGES)))
    (c_MOST_MARK : PySem.W.nsIn K mainGlobals "MOST_MARK" = some (some (.int 1000 t_MOST_MARK)))
    (c_MOST_WEIGHT : PySem.W.nsIn K mainGlobals "MOST_WEIGHT" = some (some (.int 1000 t_MOST_WEIGHT)))
    (g_InvalidMarks : PySem.W.nsIn K mainGlobals "InvalidMarks" = some (some (.ref C_InvalidMarks)))
    (g_InvalidPair : PySem.W.nsIn K mainGlobals "InvalidPair" = some (some (.ref C_InvalidPair)))
    (g_InvalidPlace : PySem.W.nsIn K mainGlobals "InvalidPlace" = some (some (.ref C_InvalidPlace)))
    (g_InvalidWeights : PySem.W.nsIn K mainGlobals "InvalidWeights" = some (some (.ref C_InvalidWeights)))
    (q_InvalidMarks : PySem.W.excIn K C_InvalidMarks [.type "ValueError", .type "Exception", .type "BaseException", .type "object"] "ValueError.__new__" = true) (kk_InvalidMarks : PySem.W.keepIn K (.ref C_InvalidMarks) = true) (b_InvalidMarks : PySem.W.subIn K (.ref C_InvalidMarks) (.type "BaseException") = some true) (t_InvalidMarks : PySem.W.typeIn K (.ref C_InvalidMarks) = some (.type "type"))
    (q_InvalidPair : PySem.W.excIn K C_InvalidPair [.type "ValueError", .type "Exception", .type "BaseException", .type "object"] "ValueError.__new__" = true) (kk_InvalidPair : PySem.W.keepIn K (.ref C_InvalidPair) = true) (b_InvalidPair : PySem.W.subIn K (.ref C_InvalidPair) (.type "BaseException") = some true) (t_InvalidPair : PySem.W.typeIn K (.ref C_InvalidPair) = some (.type "type"))
    (q_InvalidPlace : PySem.W.excIn K C_InvalidPlace [.type "ValueError", .type "Exception", .type "BaseException", .type "object"] "ValueError.__new__" = true) (kk_InvalidPlace : PySem.W.keepIn K (.ref C_InvalidPlace) = true) (b_InvalidPlace : PySem.W.subIn K (.ref C_InvalidPlace) (.type "BaseException") = some true) (t_InvalidPlace : PySem.W.typeIn K (.ref C_InvalidPlace) = some (.type "type"))
    (q_InvalidWeights : PySem.W.excIn K C_InvalidWeights [.type "ValueError", .type "Exception", .type "BaseException", .type "object"] "ValueError.__new__" = true) (kk_InvalidWeights : PySem.W.keepIn K (.ref C_InvalidWeights) = true) (b_InvalidWeights : PySem.W.subIn K (.ref C_InvalidWeights) (.type "BaseException") = some true) (t_InvalidWeights : PySem.W.typeIn K (.ref C_InvalidWeights) = some (.type "type"))
    (em_InvalidWeights_InvalidWeights : PySem.W.exmOne K (.ref C_InvalidWeights) (.ref C_InvalidWeights) = some true)
    (em_InvalidWeights_InvalidMarks : PySem.W.exmOne K (.ref C_InvalidWeights) (.ref C_InvalidMarks) = some false)
    (em_InvalidWeights_InvalidPlace : PySem.W.exmOne K (.ref C_InvalidWeights) (.ref C_InvalidPlace) = some false)
    (em_InvalidWeights_InvalidPair : PySem.W.exmOne K (.ref C_InvalidWeights) (.ref C_InvalidPair) = some false)
    (em_InvalidMarks_InvalidWeights : PySem.W.exmOne K (.ref C_InvalidMarks) (.ref C_InvalidWeights) = some false)
    (em_InvalidMarks_InvalidMarks : PySem.W.exmOne K (.ref C_InvalidMarks) (.ref C_InvalidMarks) = some true)
    (em_InvalidMarks_InvalidPlace : PySem.W.exmOne K (.ref C_InvalidMarks) (.ref C_InvalidPlace) = some false)
    (em_InvalidMarks_InvalidPair : PySem.W.exmOne K (.ref C_InvalidMarks) (.ref C_InvalidPair) = some false)
    (em_InvalidPlace_InvalidWeights : PySem.W.exmOne K (.ref C_InvalidPlace) (.ref C_InvalidWeights) = some false)
    (em_InvalidPlace_InvalidMarks : PySem.W.exmOne K (.ref C_InvalidPlace) (.ref C_InvalidMarks) = some false)
    (em_InvalidPlace_InvalidPlace : PySem.W.exmOne K (.ref C_InvalidPlace) (.ref C_InvalidPlace) = some true)
    (em_InvalidPlace_InvalidPair : PySem.W.exmOne K (.ref C_InvalidPlace) (.ref C_InvalidPair) = some false)
    (em_InvalidPair_InvalidWeights : PySem.W.exmOne K (.ref C_InvalidPair) (.ref C_InvalidWeights) = some false)
    (em_InvalidPair_InvalidMarks : PySem.W.exmOne K (.ref C_InvalidPair) (.ref C_InvalidMarks) = some false)
    (em_InvalidPair_InvalidPlace : PySem.W.exmOne K (.ref C_InvalidPair) (.ref C_InvalidPlace) = some false)
    (em_InvalidPair_InvalidPair : PySem.W.exmOne K (.ref C_InvalidPair) (.ref C_InvalidPair) = some true)
    (nP_law_refuses : K.lookup Pt_law_refuses = none) (hCo_law_refuses : PySem.W.codeHdIn K ca_law_refuses Pt_law_refuses = true)
    (nP_law : K.lookup Pt_law = none) (hCo_law : PySem.W.codeHdIn K ca_law Pt_law = true)
    (hne_law_refuses_law : ¬ Pt_law_refuses = Pt_law)
    (law_true : ∀ ns : List Int, ns.length ≤ 63 → runF 1 14 b_law [.scr ns] = .ok (.p (.bl true))) :
    LamX.LawAtS l w K L2.CX0 11 63 "script" mg fa h := by
  have e := hfa.symm.trans (PySem.W.mg_of X G a33)
  cases e
  have ck_Panel : ClsK K mg "Panel" C_Panel := ⟨PySem.W.mg_of X G gc_Panel, by decide, ⟨⟨cpg_Panel, chd_Panel, cpo_Panel, csa_Panel⟩, cha_Panel, chn_Panel, chtk_Panel, chm_Panel, cme_Panel⟩, ckt_Panel, cnf_Panel, cnt_Panel, csf_Panel, ckp_Panel⟩
  have T : Top K mg := ⟨⟨f0, _, PySem.W.mg_of X G a0, fun_mk (st := s_law_source) l0 c0 k0, (fun_mk (st := s_law_source) l0 c0 k0).binds (fun _ _ _ _ _ _ us hl => match us, hl with | [_, _], _ => rfl)⟩,
    ⟨f1, _, PySem.W.mg_of X G a1, fun_mk (st := s_law_draw) l1 c1 k1, (fun_mk (st := s_law_draw) l1 c1 k1).binds (fun _ _ _ _ _ _ us hl => match us, hl with | [_, _], _ => rfl)⟩,
    ⟨f2, _, PySem.W.mg_of X G a2, fun_mk (st := s_law_marks) l2 c2 k2, (fun_mk (st := s_law_marks) l2 c2 k2).binds (fun _ _ _ _ _ _ us hl => match us, hl with | [_, _, _], _ => rfl)⟩,
    ⟨f3, _, PySem.W.mg_of X G a3, fun_mk (st := s_is_between) l3 c3 k3, (fun_mk (st := s_is_between) l3 c3 k3).binds (fun _ _ _ _ _ _ us hl => match us, hl with | [_, _, _], _ => rfl)⟩,
    ⟨f4, _, PySem.W.mg_of X G a4, fun_mk (st := s_are_integers) l4 c4 k4, (fun_mk (st := s_are_integers) l4 c4 k4).binds (fun _ _ _ _ _ _ us hl => match us, hl with | [_, _, _, _], _ => rfl)⟩,
    ⟨f5, _, PySem.W.mg_of X G a5, fun_mk (st := s_is_weights) l5 c5 k5, (fun_mk (st := s_is_weights) l5 c5 k5).binds (fun _ _ _ _ _ _ us hl => match us, hl with | [_], _ => rfl)⟩,
    ⟨f6, _, PySem.W.mg_of X G a6, fun_mk (st := s_need_weights) l6 c6 k6, (fun_mk (st := s_need_weights) l6 c6 k6).binds (fun _ _ _ _ _ _ us hl => match us, hl with | [_], _ => rfl)⟩,
    ⟨f7, _, PySem.W.mg_of X G a7, fun_mk (st := s_need_pair) l7 c7 k7, (fun_mk (st := s_need_pair) l7 c7 k7).binds (fun _ _ _ _ _ _ us hl => match us, hl with | [_, _], _ => rfl)⟩,
    ⟨f8, _, PySem.W.mg_of X G a8, fun_mk (st := s_need_both) l8 c8 k8, (fun_mk (st := s_need_both) l8 c8 k8).binds (fun _ _ _ _ _ _ us hl => match us, hl with | [_, _], _ => rfl)⟩,
    ⟨f9, _, PySem.W.mg_of X G a9, fun_mk (st := s_divisor) l9 c9 k9, (fun_mk (st := s_divisor) l9 c9 k9).binds (fun _ _ _ _ _ _ us hl => match us, hl with | [_, _], _ => rfl)⟩,
    ⟨f10, _, PySem.W.mg_of X G a10, fun_mk (st := s_reduced) l10 c10 k10, (fun_mk (st := s_reduced) l10 c10 k10).binds (fun _ _ _ _ _ _ us hl => match us, hl with | [_], _ => rfl)⟩,
    ⟨f11, _, PySem.W.mg_of X G a11, fun_mk (st := s_mixed_of) l11 c11 k11, (fun_mk (st := s_mixed_of) l11 c11 k11).binds (fun _ _ _ _ _ _ us hl => match us, hl with | [_, _], _ => rfl)⟩,
    ⟨f12, _, PySem.W.mg_of X G a12, fun_mk (st := s_mixed) l12 c12 k12, (fun_mk (st := s_mixed) l12 c12 k12).binds (fun _ _ _ _ _ _ us hl => match us, hl with | [_, _], _ => rfl)⟩,
    ⟨f13, _, PySem.W.mg_of X G a13, fun_mk (st := s_law_name) l13 c13 k13, (fun_mk (st := s_law_name) l13 c13 k13).binds (fun _ _ _ _ _ _ us hl => match us, hl with | [_], _ => rfl)⟩,
    ⟨f14, _, PySem.W.mg_of X G a14, fun_mk (st := s_law_choice) l14 c14 k14, (fun_mk (st := s_law_choice) l14 c14 k14).binds (fun _ _ _ _ _ _ us hl => match us, hl with | [_, _], _ => rfl)⟩,
    ⟨f15, _, PySem.W.mg_of X G a15, fun_mk (st := s_law_weights) l15 c15 k15, (fun_mk (st := s_law_weights) l15 c15 k15).binds (fun _ _ _ _ _ _ us hl => match us, hl with | [_, _], _ => rfl)⟩,
    ⟨C_Panel, f16, _, ck_Panel, ⟨cmk_Panel, a16, fn16, ck_Panel.kp⟩, fun_mk (st := s_Panel___init__) l16 c16 k16, na_Panel⟩,
    ⟨f17, _, PySem.W.mg_of X G a17, fun_mk (st := s_law_panel) l17 c17 k17, (fun_mk (st := s_law_panel) l17 c17 k17).binds (fun _ _ _ _ _ _ us hl => match us, hl with | [_], _ => rfl)⟩,
    ⟨f18, _, PySem.W.mg_of X G a18, fun_mk (st := s_law_reduced) l18 c18 k18, (fun_mk (st := s_law_reduced) l18 c18 k18).binds (fun _ _ _ _ _ _ us hl => match us, hl with | [_], _ => rfl)⟩,
    ⟨f19, _, PySem.W.mg_of X G a19, fun_mk (st := s_law_lowest) l19 c19 k19, (fun_mk (st := s_law_lowest) l19 c19 k19).binds (fun _ _ _ _ _ _ us hl => match us, hl with | [_, _], _ => rfl)⟩,
    ⟨f20, _, PySem.W.mg_of X G a20, fun_mk (st := s_law_total) l20 c20 k20, (fun_mk (st := s_law_total) l20 c20 k20).binds (fun _ _ _ _ _ _ us hl => match us, hl with | [_, _], _ => rfl)⟩,
    ⟨f21, _, PySem.W.mg_of X G a21, fun_mk (st := s_law_score) l21 c21 k21, (fun_mk (st := s_law_score) l21 c21 k21).binds (fun _ _ _ _ _ _ us hl => match us, hl with | [_, _], _ => rfl)⟩,
    ⟨C_Panel, f22, _, ck_Panel, ⟨a22, fn22, fi22⟩, fun_mk (st := s_Panel___len__) l22 c22 k22, (fun_mk (st := s_Panel___len__) l22 c22 k22).binds (fun _ _ _ _ _ _ us hl => match us, hl with | [_], _ => rfl)⟩,
    ⟨C_Panel, f23, _, ck_Panel, ⟨a23, fn23, fi23⟩, fun_mk (st := s_Panel___add__) l23 c23 k23, (fun_mk (st := s_Panel___add__) l23 c23 k23).binds (fun _ _ _ _ _ _ us hl => match us, hl with | [_, _], _ => rfl)⟩,
    ⟨f24, _, PySem.W.mg_of X G a24, fun_mk (st := s_are_marks) l24 c24 k24, (fun_mk (st := s_are_marks) l24 c24 k24).binds (fun _ _ _ _ _ _ us hl => match us, hl with | [_, _], _ => rfl)⟩,
    ⟨f25, _, PySem.W.mg_of X G a25, fun_mk (st := s_need_marks) l25 c25 k25, (fun_mk (st := s_need_marks) l25 c25 k25).binds (fun _ _ _ _ _ _ us hl => match us, hl with | [_, _], _ => rfl)⟩,
    ⟨f26, _, PySem.W.mg_of X G a26, fun_mk (st := s_lowest) l26 c26 k26, (fun_mk (st := s_lowest) l26 c26 k26).binds (fun _ _ _ _ _ _ us hl => match us, hl with | [_, _], _ => rfl)⟩,
    ⟨f27, _, PySem.W.mg_of X G a27, fun_mk (st := s_score_of) l27 c27 k27, (fun_mk (st := s_score_of) l27 c27 k27).binds (fun _ _ _ _ _ _ us hl => match us, hl with | [_, _], _ => rfl)⟩,
    ⟨C_Panel, f28, _, ck_Panel, ⟨a28, fn28, fi28⟩, fun_mk (st := s_Panel___call__) l28 c28 k28, (fun_mk (st := s_Panel___call__) l28 c28 k28).binds (fun _ _ _ _ _ _ us hl => match us, hl with | [_, _], _ => rfl)⟩,
    ⟨C_Panel, f29, _, ck_Panel, ⟨a29, fn29, fi29⟩, fun_mk (st := s_Panel___getitem__) l29 c29 k29, (fun_mk (st := s_Panel___getitem__) l29 c29 k29).binds (fun _ _ _ _ _ _ us hl => match us, hl with | [_, _], _ => rfl)⟩,
    ⟨C_Panel, f31, _, ck_Panel, ⟨a31, fn31, fi31⟩, fun_mk (st := s_Panel___eq__) l31 c31 k31, (fun_mk (st := s_Panel___eq__) l31 c31 k31).binds (fun _ _ _ _ _ _ us hl => match us, hl with | [_, _], _ => rfl)⟩,
    ⟨C_Panel, f32, _, ck_Panel, ⟨a32, fn32, fi32⟩, fun_mk (st := s_Panel___neg__) l32 c32 k32, (fun_mk (st := s_Panel___neg__) l32 c32 k32).binds (fun _ _ _ _ _ _ us hl => match us, hl with | [_], _ => rfl)⟩,
    ⟨C_Panel, ck_Panel, na_Panel⟩,
    ⟨C_Panel, pP_Panel_weights, fP_Panel_weights, _, ck_Panel, ⟨pa_Panel_weights, pg_Panel_weights, pt_Panel_weights, rP_Panel_weights, pr_Panel_weights⟩, fun_mk (st := s_Panel_weights) pl_Panel_weights pc_Panel_weights pk_Panel_weights, na_Panel, (fun_mk (st := s_Panel_weights) pl_Panel_weights pc_Panel_weights pk_Panel_weights).binds (fun _ _ _ _ _ _ us hl => match us, hl with | [_], _ => rfl)⟩,
    PySem.W.mg_none_of X G z_abs,
    PySem.W.mg_none_of X G z_all,
    PySem.W.mg_none_of X G z_bool,
    PySem.W.mg_none_of X G z_int,
    PySem.W.mg_none_of X G z_isinstance,
    PySem.W.mg_none_of X G z_len,
    PySem.W.mg_none_of X G z_list,
    PySem.W.mg_none_of X G z_max,
    PySem.W.mg_none_of X G z_min,
    PySem.W.mg_none_of X G z_range,
    PySem.W.mg_none_of X G z_sorted,
    PySem.W.mg_none_of X G z_sum,
    PySem.W.mg_none_of X G z_tuple,
    PySem.W.mg_none_of X G z_zip,
    ⟨t_MOST_JUDGES, PySem.W.mg_of X G c_MOST_JUDGES⟩,
    ⟨t_MOST_MARK, PySem.W.mg_of X G c_MOST_MARK⟩,
    ⟨t_MOST_WEIGHT, PySem.W.mg_of X G c_MOST_WEIGHT⟩,
    ⟨C_InvalidMarks, PySem.W.mg_of X G g_InvalidMarks, q_InvalidMarks, kk_InvalidMarks, b_InvalidMarks, t_InvalidMarks⟩,
    ⟨C_InvalidPair, PySem.W.mg_of X G g_InvalidPair, q_InvalidPair, kk_InvalidPair, b_InvalidPair, t_InvalidPair⟩,
    ⟨C_InvalidPlace, PySem.W.mg_of X G g_InvalidPlace, q_InvalidPlace, kk_InvalidPlace, b_InvalidPlace, t_InvalidPlace⟩,
    ⟨C_InvalidWeights, PySem.W.mg_of X G g_InvalidWeights, q_InvalidWeights, kk_InvalidWeights, b_InvalidWeights, t_InvalidWeights⟩,
    ⟨C_InvalidMarks, PySem.W.mg_of X G g_InvalidMarks⟩,
    ⟨C_InvalidPair, PySem.W.mg_of X G g_InvalidPair⟩,
    ⟨C_InvalidPlace, PySem.W.mg_of X G g_InvalidPlace⟩,
    ⟨C_InvalidWeights, PySem.W.mg_of X G g_InvalidWeights⟩,
    (List.forall_mem_cons.mpr ⟨⟨C_InvalidWeights, PySem.W.mg_of X G g_InvalidWeights, (List.forall_mem_cons.mpr ⟨⟨C_InvalidWeights, PySem.W.mg_of X G g_InvalidWeights, (em_InvalidWeights_InvalidWeights).trans (by decide +kernel)⟩, (List.forall_mem_cons.mpr ⟨⟨C_InvalidMarks, PySem.W.mg_of X G g_InvalidMarks, (em_InvalidWeights_InvalidMarks).trans (by decide +kernel)⟩, (List.forall_mem_cons.mpr ⟨⟨C_InvalidPlace, PySem.W.mg_of X G g_InvalidPlace, (em_InvalidWeights_InvalidPlace).trans (by decide +kernel)⟩, (List.forall_mem_cons.mpr ⟨⟨C_InvalidPair, PySem.W.mg_of X G g_InvalidPair, (em_InvalidWeights_InvalidPair).trans (by decide +kernel)⟩, (fun _ h => nomatch h)⟩)⟩)⟩)⟩)⟩, (List.forall_mem_cons.mpr ⟨⟨C_InvalidMarks, PySem.W.mg_of X G g_InvalidMarks, (List.forall_mem_cons.mpr ⟨⟨C_InvalidWeights, PySem.W.mg_of X G g_InvalidWeights, (em_InvalidMarks_InvalidWeights).trans (by decide +kernel)⟩, (List.forall_mem_cons.mpr ⟨⟨C_InvalidMarks, PySem.W.mg_of X G g_InvalidMarks, (em_InvalidMarks_InvalidMarks).trans (by decide +kernel)⟩, (List.forall_mem_cons.mpr ⟨⟨C_InvalidPlace, PySem.W.mg_of X G g_InvalidPlace, (em_InvalidMarks_InvalidPlace).trans (by decide +kernel)⟩, (List.forall_mem_cons.mpr ⟨⟨C_InvalidPair, PySem.W.mg_of X G g_InvalidPair, (em_InvalidMarks_InvalidPair).trans (by decide +kernel)⟩, (fun _ h => nomatch h)⟩)⟩)⟩)⟩)⟩, (List.forall_mem_cons.mpr ⟨⟨C_InvalidPlace, PySem.W.mg_of X G g_InvalidPlace, (List.forall_mem_cons.mpr ⟨⟨C_InvalidWeights, PySem.W.mg_of X G g_InvalidWeights, (em_InvalidPlace_InvalidWeights).trans (by decide +kernel)⟩, (List.forall_mem_cons.mpr ⟨⟨C_InvalidMarks, PySem.W.mg_of X G g_InvalidMarks, (em_InvalidPlace_InvalidMarks).trans (by decide +kernel)⟩, (List.forall_mem_cons.mpr ⟨⟨C_InvalidPlace, PySem.W.mg_of X G g_InvalidPlace, (em_InvalidPlace_InvalidPlace).trans (by decide +kernel)⟩, (List.forall_mem_cons.mpr ⟨⟨C_InvalidPair, PySem.W.mg_of X G g_InvalidPair, (em_InvalidPlace_InvalidPair).trans (by decide +kernel)⟩, (fun _ h => nomatch h)⟩)⟩)⟩)⟩)⟩, (List.forall_mem_cons.mpr ⟨⟨C_InvalidPair, PySem.W.mg_of X G g_InvalidPair, (List.forall_mem_cons.mpr ⟨⟨C_InvalidWeights, PySem.W.mg_of X G g_InvalidWeights, (em_InvalidPair_InvalidWeights).trans (by decide +kernel)⟩, (List.forall_mem_cons.mpr ⟨⟨C_InvalidMarks, PySem.W.mg_of X G g_InvalidMarks, (em_InvalidPair_InvalidMarks).trans (by decide +kernel)⟩, (List.forall_mem_cons.mpr ⟨⟨C_InvalidPlace, PySem.W.mg_of X G g_InvalidPlace, (em_InvalidPair_InvalidPlace).trans (by decide +kernel)⟩, (List.forall_mem_cons.mpr ⟨⟨C_InvalidPair, PySem.W.mg_of X G g_InvalidPair, (em_InvalidPair_InvalidPair).trans (by decide +kernel)⟩, (fun _ h => nomatch h)⟩)⟩)⟩)⟩)⟩, (fun _ h => nomatch h)⟩)⟩)⟩)⟩)⟩
  have h_law_refuses : HasC K mg "_law_refuses" s_law_refuses ["panel"] ca_law_refuses := ⟨f30, _, PySem.W.mg_of X G a30, fun_mk (st := s_law_refuses) l30 c30 k30, (fun_mk (st := s_law_refuses) l30 c30 k30).binds (fun _ _ _ _ _ _ us hl => match us, hl with | [_], _ => rfl), rfl⟩
  exact law_ats [(ca_law_refuses, Pt_law_refuses), (ca_law, Pt_law)] [(Pt_law_refuses, ((("_law_refuses" : Str) ++ (".<locals>." : Str)) ++ ("<lambda>" : Str))), (Pt_law, ((("law" : Str) ++ (".<locals>." : Str)) ++ ("<lambda>" : Str)))] X (List.forall_mem_cons.mpr ⟨hTab _ (.head _), (List.forall_mem_cons.mpr ⟨hTab _ (.tail _ (.head _)), (fun _ h => nomatch h)⟩)⟩) (List.forall_mem_cons.mpr ⟨nP_law_refuses, (List.forall_mem_cons.mpr ⟨nP_law, (fun _ h => nomatch h)⟩)⟩) (List.forall_mem_cons.mpr ⟨hCo_law_refuses, (List.forall_mem_cons.mpr ⟨hCo_law, (fun _ h => nomatch h)⟩)⟩) (List.forall_mem_cons.mpr ⟨⟨(ca_law_refuses, Pt_law_refuses), (.head _), rfl⟩, (List.forall_mem_cons.mpr ⟨⟨(ca_law, Pt_law), (.tail _ (.head _)), rfl⟩, (fun _ h => nomatch h)⟩)⟩) (fd := PySem.W.fnOf "law" "law" (defArgs s_law) (defBody s_law) (defScope s_law) .none kV33 dc33 pm33 an33 (.ref ca_law) ct33) (fun s v => .of_eq rfl) (fun base _ _ TB => letI : TabsC := ⟨[(Pt_law_refuses, ((("_law_refuses" : Str) ++ (".<locals>." : Str)) ++ ("<lambda>" : Str))), (Pt_law, ((("law" : Str) ++ (".<locals>." : Str)) ++ ("<lambda>" : Str)))]⟩; ok_law T law_true (TB_law_refuses := TB (ca_law_refuses, Pt_law_refuses) (.head _)) (hT_law_refuses := ⟨(.head _), (List.forall_mem_cons.mpr ⟨(fun _ => rfl), (List.forall_mem_cons.mpr ⟨(fun e => (hne_law_refuses_law e.symm).elim), (fun _ h => nomatch h)⟩)⟩)⟩) (TB_law := TB (ca_law, Pt_law) (.tail _ (.head _))) (hT_law := ⟨(.tail _ (.head _)), (List.forall_mem_cons.mpr ⟨(fun e => (hne_law_refuses_law e).elim), (List.forall_mem_cons.mpr ⟨(fun _ => rfl), (fun _ h => nomatch h)⟩)⟩)⟩) (h_law_refuses := h_law_refuses) l33 c33)
end K13

open PySem PySem.W PyProof.Rows
set_option maxHeartbeats 0 in
theorem PySem.Challenge.cw_markpanels_k13_signs_of_panels_holds : PySem.Challenge.rw_markpanels_k13_signs_of_panels.Holds := by
  w_on; o_law; k_head; (case hw => w_witness2)
  k_fill
  refine LamX.walk_ofTs (l := PySem.Challenge.rw_markpanels_k13_signs_of_panels) (n := 63) (k := 11) (x := "script") (CX := fun _ => L2.CX0) rfl (by decide) rfl ⟨rfl, by decide, by decide⟩ (fun w h Y => PySem.W.km_in_of Y) ?F (fun _ _ _ _ _ h => h)
  case F =>
    intro w mg fa h Y KX G hmg
    refine' K13.all_mk (PySem.W.km_tabs_of Y) KX G hmg ?gc_Panel ?a0 ?l0 ?c0 ?k0 ?a1 ?l1 ?c1 ?k1 ?a2 ?l2 ?c2 ?k2 ?a3 ?l3 ?c3 ?k3 ?a4 ?l4 ?c4 ?k4 ?a5 ?l5 ?c5 ?k5 ?a6 ?l6 ?c6 ?k6 ?a7 ?l7 ?c7 ?k7 ?a8 ?l8 ?c8 ?k8 ?a9 ?l9 ?c9 ?k9 ?a10 ?l10 ?c10 ?k10 ?a11 ?l11 ?c11 ?k11 ?a12 ?l12 ?c12 ?k12 ?a13 ?l13 ?c13 ?k13 ?a14 ?l14 ?c14 ?k14 ?a15 ?l15 ?c15 ?k15 ?a16 ?l16 ?c16 ?k16 ?fn16 ?fi16 ?a17 ?l17 ?c17 ?k17 ?a18 ?l18 ?c18 ?k18 ?a19 ?l19 ?c19 ?k19 ?a20 ?l20 ?c20 ?k20 ?a21 ?l21 ?c21 ?k21 ?a22 ?l22 ?c22 ?k22 ?fn22 ?fi22 ?a23 ?l23 ?c23 ?k23 ?fn23 ?fi23 ?a24 ?l24 ?c24 ?k24 ?a25 ?l25 ?c25 ?k25 ?a26 ?l26 ?c26 ?k26 ?a27 ?l27 ?c27 ?k27 ?a28 ?l28 ?c28 ?k28 ?fn28 ?fi28 ?a29 ?l29 ?c29 ?k29 ?fn29 ?fi29 ?a30 ?l30 ?c30 ?k30 ?a31 ?l31 ?c31 ?k31 ?fn31 ?fi31 ?a32 ?l32 ?c32 ?k32 ?fn32 ?fi32 ?a33 ?l33 ?c33 ?k33 ?cpg_Panel ?chd_Panel ?cpo_Panel ?csa_Panel ?cha_Panel ?chn_Panel ?chtk_Panel ?chm_Panel ?cme_Panel ?ckt_Panel ?cnf_Panel ?cnt_Panel ?csf_Panel ?ckp_Panel ?cmk_Panel ?na_Panel ?pa_Panel_weights ?pg_Panel_weights ?pt_Panel_weights ?pr_Panel_weights ?pl_Panel_weights ?pc_Panel_weights ?pk_Panel_weights ?z_abs ?z_all ?z_bool ?z_int ?z_isinstance ?z_len ?z_list ?z_max ?z_min ?z_range ?z_sorted ?z_sum ?z_tuple ?z_zip ?c_MOST_JUDGES ?c_MOST_MARK ?c_MOST_WEIGHT ?g_InvalidMarks ?g_InvalidPair ?g_InvalidPlace ?g_InvalidWeights ?q_InvalidMarks ?kk_InvalidMarks ?b_InvalidMarks ?t_InvalidMarks ?q_InvalidPair ?kk_InvalidPair ?b_InvalidPair ?t_InvalidPair ?q_InvalidPlace ?kk_InvalidPlace ?b_InvalidPlace ?t_InvalidPlace ?q_InvalidWeights ?kk_InvalidWeights ?b_InvalidWeights ?t_InvalidWeights ?em_InvalidWeights_InvalidWeights ?em_InvalidWeights_InvalidMarks ?em_InvalidWeights_InvalidPlace ?em_InvalidWeights_InvalidPair ?em_InvalidMarks_InvalidWeights ?em_InvalidMarks_InvalidMarks ?em_InvalidMarks_InvalidPlace ?em_InvalidMarks_InvalidPair ?em_InvalidPlace_InvalidWeights ?em_InvalidPlace_InvalidMarks ?em_InvalidPlace_InvalidPlace ?em_InvalidPlace_InvalidPair ?em_InvalidPair_InvalidWeights ?em_InvalidPair_InvalidMarks ?em_InvalidPair_InvalidPlace ?em_InvalidPair_InvalidPair ?nP_law_refuses ?hCo_law_refuses ?nP_law ?hCo_law ?hne_law_refuses_law K13.law_true
    (case gc_Panel => k_is)
    (case a0 => k_is)
    (case l0 => k_is)
    (case c0 => k_is)
    (case k0 => k_is)
    (case a1 => k_is)
    (case l1 => k_is)
    (case c1 => k_is)
    (case k1 => k_is)
    (case a2 => k_is)
    (case l2 => k_is)
    (case c2 => k_is)
    (case k2 => k_is)
    (case a3 => k_is)
    (case l3 => k_is)
    (case c3 => k_is)
    (case k3 => k_is)
    (case a4 => k_is)
    (case l4 => k_is)
    (case c4 => k_is)
    (case k4 => k_is)
    (case a5 => k_is)
    (case l5 => k_is)
    (case c5 => k_is)
    (case k5 => k_is)
    (case a6 => k_is)
    (case l6 => k_is)
    (case c6 => k_is)
    (case k6 => k_is)
    (case a7 => k_is)
    (case l7 => k_is)
    (case c7 => k_is)
    (case k7 => k_is)
    (case a8 => k_is)
    (case l8 => k_is)
    (case c8 => k_is)
    (case k8 => k_is)
    (case a9 => k_is)
    (case l9 => k_is)
    (case c9 => k_is)
    (case k9 => k_is)
    (case a10 => k_is)
    (case l10 => k_is)
    (case c10 => k_is)
    (case k10 => k_is)
    (case a11 => k_is)
    (case l11 => k_is)
    (case c11 => k_is)
    (case k11 => k_is)
    (case a12 => k_is)
    (case l12 => k_is)
    (case c12 => k_is)
    (case k12 => k_is)
    (case a13 => k_is)
    (case l13 => k_is)
    (case c13 => k_is)
    (case k13 => k_is)
    (case a14 => k_is)
    (case l14 => k_is)
    (case c14 => k_is)
    (case k14 => k_is)
    (case a15 => k_is)
    (case l15 => k_is)
    (case c15 => k_is)
    (case k15 => k_is)
    (case a16 => k_is)
    (case l16 => k_is)
    (case c16 => k_is)
    (case k16 => k_is)
    (case fn16 => k_is)
    (case fi16 => k_is)
    (case a17 => k_is)
    (case l17 => k_is)
    (case c17 => k_is)
    (case k17 => k_is)
    (case a18 => k_is)
    (case l18 => k_is)
    (case c18 => k_is)
    (case k18 => k_is)
    (case a19 => k_is)
    (case l19 => k_is)
    (case c19 => k_is)
    (case k19 => k_is)
    (case a20 => k_is)
    (case l20 => k_is)
    (case c20 => k_is)
    (case k20 => k_is)
    (case a21 => k_is)
    (case l21 => k_is)
    (case c21 => k_is)
    (case k21 => k_is)
    (case a22 => k_is)
    (case l22 => k_is)
    (case c22 => k_is)
    (case k22 => k_is)
    (case fn22 => k_is)
    (case fi22 => k_is)
    (case a23 => k_is)
    (case l23 => k_is)
    (case c23 => k_is)
    (case k23 => k_is)
    (case fn23 => k_is)
    (case fi23 => k_is)
    (case a24 => k_is)
    (case l24 => k_is)
    (case c24 => k_is)
    (case k24 => k_is)
    (case a25 => k_is)
    (case l25 => k_is)
    (case c25 => k_is)
    (case k25 => k_is)
    (case a26 => k_is)
    (case l26 => k_is)
    (case c26 => k_is)
    (case k26 => k_is)
    (case a27 => k_is)
    (case l27 => k_is)
    (case c27 => k_is)
    (case k27 => k_is)
    (case a28 => k_is)
    (case l28 => k_is)
    (case c28 => k_is)
    (case k28 => k_is)
    (case fn28 => k_is)
    (case fi28 => k_is)
    (case a29 => k_is)
    (case l29 => k_is)
    (case c29 => k_is)
    (case k29 => k_is)
    (case fn29 => k_is)
    (case fi29 => k_is)
    (case a30 => k_is)
    (case l30 => k_is)
    (case c30 => k_is)
    (case k30 => k_is)
    (case a31 => k_is)
    (case l31 => k_is)
    (case c31 => k_is)
    (case k31 => k_is)
    (case fn31 => k_is)
    (case fi31 => k_is)
    (case a32 => k_is)
    (case l32 => k_is)
    (case c32 => k_is)
    (case k32 => k_is)
    (case fn32 => k_is)
    (case fi32 => k_is)
    (case a33 => k_is)
    (case l33 => k_is)
    (case c33 => k_is)
    (case k33 => k_is)
    (case cpg_Panel => k_is)
    (case chd_Panel => k_is)
    (case cpo_Panel => k_is)
    (case csa_Panel => k_is)
    (case cha_Panel => k_is)
    (case chn_Panel => k_is)
    (case chtk_Panel => k_is)
    (case chm_Panel => k_is)
    (case cme_Panel => kernel_rfl)
    (case ckt_Panel => kernel_rfl)
    (case cnf_Panel => k_is)
    (case cnt_Panel => k_is)
    (case csf_Panel => k_is)
    (case ckp_Panel => k_is)
    (case cmk_Panel => k_is)
    (case na_Panel => k_is)
    (case pa_Panel_weights => k_is)
    (case pg_Panel_weights => k_is)
    (case pt_Panel_weights => k_is)
    (case pr_Panel_weights => k_is)
    (case pl_Panel_weights => k_is)
    (case pc_Panel_weights => k_is)
    (case pk_Panel_weights => k_is)
    (case z_abs => k_is)
    (case z_all => k_is)
    (case z_bool => k_is)
    (case z_int => k_is)
    (case z_isinstance => k_is)
    (case z_len => k_is)
    (case z_list => k_is)
    (case z_max => k_is)
    (case z_min => k_is)
    (case z_range => k_is)
    (case z_sorted => k_is)
    (case z_sum => k_is)
    (case z_tuple => k_is)
    (case z_zip => k_is)
    (case c_MOST_JUDGES => k_is)
    (case c_MOST_MARK => k_is)
    (case c_MOST_WEIGHT => k_is)
    (case g_InvalidMarks => k_is)
    (case g_InvalidPair => k_is)
    (case g_InvalidPlace => k_is)
    (case g_InvalidWeights => k_is)
    (case q_InvalidMarks => kernel_rfl)
    (case kk_InvalidMarks => k_is)
    (case b_InvalidMarks => k_is)
    (case t_InvalidMarks => k_is)
    (case q_InvalidPair => kernel_rfl)
    (case kk_InvalidPair => k_is)
    (case b_InvalidPair => k_is)
    (case t_InvalidPair => k_is)
    (case q_InvalidPlace => kernel_rfl)
    (case kk_InvalidPlace => k_is)
    (case b_InvalidPlace => k_is)
    (case t_InvalidPlace => k_is)
    (case q_InvalidWeights => kernel_rfl)
    (case kk_InvalidWeights => k_is)
    (case b_InvalidWeights => k_is)
    (case t_InvalidWeights => k_is)
    (case em_InvalidWeights_InvalidWeights => kernel_rfl)
    (case em_InvalidWeights_InvalidMarks => kernel_rfl)
    (case em_InvalidWeights_InvalidPlace => kernel_rfl)
    (case em_InvalidWeights_InvalidPair => kernel_rfl)
    (case em_InvalidMarks_InvalidWeights => kernel_rfl)
    (case em_InvalidMarks_InvalidMarks => kernel_rfl)
    (case em_InvalidMarks_InvalidPlace => kernel_rfl)
    (case em_InvalidMarks_InvalidPair => kernel_rfl)
    (case em_InvalidPlace_InvalidWeights => kernel_rfl)
    (case em_InvalidPlace_InvalidMarks => kernel_rfl)
    (case em_InvalidPlace_InvalidPlace => kernel_rfl)
    (case em_InvalidPlace_InvalidPair => kernel_rfl)
    (case em_InvalidPair_InvalidWeights => kernel_rfl)
    (case em_InvalidPair_InvalidMarks => kernel_rfl)
    (case em_InvalidPair_InvalidPlace => kernel_rfl)
    (case em_InvalidPair_InvalidPair => kernel_rfl)
    (case nP_law_refuses => kernel_rfl)
    (case hCo_law_refuses => kernel_rfl)
    (case nP_law => kernel_rfl)
    (case hCo_law => kernel_rfl)
    (case hne_law_refuses_law => decide)

