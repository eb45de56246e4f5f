import PyProof.Rows.All
import Wide.All
import OpenK.AllK
import Wide.FinOn
import HandS.ForMost
import HandS.TupMul
import HandS.TupAny
import HandS.Zip
import HandS.Style
import HandS.IsInst
import HandS.Strs
import HandS.Deep
import HandS.RaiseMore
import KE.DataMinMax
import KE.KStateDown
import HandS.More
import HandS.WordsExc
import HandS.Defaults
import HandS.Head0
import HandS.Head1
import HandS.Head2
import HandS.HeadEnd
import HandS.HeadHook1
import HandS.HeadHook2
import KE.IntTextText
import KE.KIntText
import HandS.Codes
import KE.KExcInit
import PyProof.ReprLen
import PySem.Challenge.RW_anypicks_k76_any_value_as_code_or_text
set_option Elab.async false
set_option linter.all false
set_option maxRecDepth 100000
section
set_option maxRecDepth 100000
/-! KA: data that stands still, owned objects, the relation of abstract slots to the layer's slots and heap. -/
namespace DI
open PySem L2

abbrev D := PyData
/-- what an owned object holds -/
inductive MO where
  | lst (xs : List D)
  | dic (ks : List Key) (xs : List D)
def kD : Key → D
  | .inl i => .int i
  | .inr s => .str s
def MO.d : MO → D
  | .lst xs => .list xs
  | .dic ks xs => .dict ((ks.map kD).zip xs)
/-- a slot: data that stands still, or an object that the slot alone owns -/
inductive B where
  | val (d : D)
  | own (o : MO)
def B.d : B → D
  | .val d => d
  | .own o => o.d
/-- what an expression gives: data, a new object that nobody else holds, the object of a slot -/
inductive R where
  | val (d : D)
  | new (o : MO)
  | slot (i : Nat)
abbrev ES := List (Option B)

/-! ### data in the heap, off the hidden places -/
/-- a list of the written part -/
def KLst (K : PySem.W.Frag) (a : Addr) (vs : List V) : Prop := ∃ (o : Obj) (its : Array Value) (n : Nat), K.lookup a = some o ∧ o.cls = .type "list" ∧ o.dict = none ∧ o.data = .seq its n ∧ its.size ≤ sizeLine ∧ Vals vs its.toList
/-- a list that nobody changes (the law's script), told apart from other lists: it is asked for its items and its length alone -/
def scr (ds : List D) : D := .dict [(.none, .list ds)]
/-- a tuple of the written part -/
def KTup (K : PySem.W.Frag) (a : Addr) (vs : List V) : Prop := ∃ (o : Obj) (its : Array Value) (n : Nat), K.lookup a = some o ∧ o.cls = .type "tuple" ∧ o.dict = none ∧ o.data = .seq its n ∧ its.size ≤ sizeLine ∧ Vals vs its.toList
mutual
inductive DA (K : PySem.W.Frag) (Z : Addr → Prop) (H : Hp) : V → D → Prop
  | non : DA K Z H .non .none
  | bl (b : Bool) : DA K Z H (.bl b) (.bool b)
  | int (i : Int) : DA K Z H (.int i) (.int i)
  | str (x : Str) : DA K Z H (.str x) (.str x)
  | lst {a : Addr} {vs : List V} {ds : List D} : ¬ Z a → H a = some (.lst vs) → DAs K Z H vs ds → DA K Z H (.ref a) (.list ds)
  | tup {a : Addr} {vs : List V} {ds : List D} : ¬ Z a → H a = some (.tup vs) → DAs K Z H vs ds → DA K Z H (.ref a) (.tuple ds)
  | tupK {a : Addr} {vs : List V} {ds : List D} : KTup K a vs → DAs K Z H vs ds → DA K Z H (.ref a) (.tuple ds)
  | scrF {a : Addr} {ob : Obj} {vs : List V} {ds : List D} : ¬ Z a → H a = some (.frz ob (.lst vs)) → DAs K Z H vs ds → DA K Z H (.ref a) (scr ds)
  | scrK {a : Addr} {vs : List V} {ds : List D} : KLst K a vs → DAs K Z H vs ds → DA K Z H (.ref a) (scr ds)
  | dic {a : Addr} {ks : List Key} {vs : List V} {ds : List D} : ¬ Z a → H a = some (.dK (ks.zip vs)) → ks.length = vs.length → DAs K Z H vs ds → DA K Z H (.ref a) (.dict ((ks.map kD).zip ds))
inductive DAs (K : PySem.W.Frag) (Z : Addr → Prop) (H : Hp) : List V → List D → Prop
  | nil : DAs K Z H [] []
  | cons {v : V} {vs : List V} {d : D} {ds : List D} : DA K Z H v d → DAs K Z H vs ds → DAs K Z H (v :: vs) (d :: ds)
end

section
variable {K : PySem.W.Frag} {Z Z' : Addr → Prop} {H H' : Hp}

theorem SqT_K {K : PySem.W.Frag} {a : Addr} {vs : List V} (h : KTup K a vs) (H : Hp) : SqT K H a vs := by
  obtain ⟨o, its, n, h1, h2, _, h4, h5, h6⟩ := h
  exact .inr ⟨o, its, n, h1, h2, h4, h5, h6⟩

theorem SqL_K {K : PySem.W.Frag} {a : Addr} {vs : List V} (h : KLst K a vs) (H : Hp) : SqL K H a vs := .inr h
theorem SqL_F {K : PySem.W.Frag} {a : Addr} {vs : List V} {ob : Obj} {H : Hp} (h : H a = some (.frz ob (.lst vs))) : SqL K H a vs := .inl (.inr ⟨ob, h⟩)
mutual
/-- data stands in another heap, off other places -/
theorem DA.keep (hz : ∀ a o, ¬ Z a → H a = some o → ¬ Z' a ∧ H' a = some o) : ∀ {v : V} {d : D}, DA K Z H v d → DA K Z' H' v d
  | _, _, .non => .non
  | _, _, .bl b => .bl b
  | _, _, .int i => .int i
  | _, _, .str x => .str x
  | _, _, .lst h1 h2 h3 => .lst (hz _ _ h1 h2).1 (hz _ _ h1 h2).2 (DAs.keep hz h3)
  | _, _, .scrF h1 h2 h3 => .scrF (hz _ _ h1 h2).1 (hz _ _ h1 h2).2 (DAs.keep hz h3)
  | _, _, .scrK h1 h3 => .scrK h1 (DAs.keep hz h3)
  | _, _, .tup h1 h2 h3 => .tup (hz _ _ h1 h2).1 (hz _ _ h1 h2).2 (DAs.keep hz h3)
  | _, _, .tupK h1 h3 => .tupK h1 (DAs.keep hz h3)
  | _, _, .dic h1 h2 h3 h4 => .dic (hz _ _ h1 h2).1 (hz _ _ h1 h2).2 h3 (DAs.keep hz h4)
theorem DAs.keep (hz : ∀ a o, ¬ Z a → H a = some o → ¬ Z' a ∧ H' a = some o) : ∀ {vs : List V} {ds : List D}, DAs K Z H vs ds → DAs K Z' H' vs ds
  | _, _, .nil => .nil
  | _, _, .cons h t => .cons (DA.keep hz h) (DAs.keep hz t)
end
theorem DA.less (hz : ∀ a, Z' a → Z a) {v : V} {d : D} (h : DA K Z H v d) : DA K Z' H v d := h.keep fun a o n e => ⟨fun z => n (hz a z), e⟩
theorem DAs.less (hz : ∀ a, Z' a → Z a) {vs : List V} {ds : List D} (h : DAs K Z H vs ds) : DAs K Z' H vs ds := h.keep fun a o n e => ⟨fun z => n (hz a z), e⟩
theorem DA.grow (hh : ∀ a o, H a = some o → H' a = some o) {v : V} {d : D} (h : DA K Z H v d) : DA K Z H' v d := h.keep fun a o n e => ⟨n, hh a o e⟩
theorem DAs.grow (hh : ∀ a o, H a = some o → H' a = some o) {vs : List V} {ds : List D} (h : DAs K Z H vs ds) : DAs K Z H' vs ds := h.keep fun a o n e => ⟨n, hh a o e⟩

theorem DAs.length : ∀ {vs : List V} {ds : List D}, DAs K Z H vs ds → vs.length = ds.length
  | _, _, .nil => rfl
  | _, _, .cons _ t => by simp [DAs.length t]
theorem DAs.append : ∀ {vs ws : List V} {ds es : List D}, DAs K Z H vs ds → DAs K Z H ws es → DAs K Z H (vs ++ ws) (ds ++ es)
  | _, _, _, _, .nil, s => s
  | _, _, _, _, .cons h t, s => .cons h (DAs.append t s)
theorem DAs.get : ∀ {vs : List V} {ds : List D} {i : Nat} {d : D}, DAs K Z H vs ds → ds[i]? = some d → ∃ v, vs[i]? = some v ∧ DA K Z H v d
  | _, _, _, _, .nil, e => by simp at e
  | _, _, 0, _, .cons h t, e => by simp at e; subst e; exact ⟨_, rfl, h⟩
  | _, _, i + 1, d, .cons h t, e => by
    obtain ⟨v, h1, h2⟩ := DAs.get (i := i) (d := d) t (by simpa using e)
    exact ⟨v, by simpa using h1, h2⟩
theorem DAs.getV : ∀ {vs : List V} {ds : List D} {i : Nat} {v : V}, DAs K Z H vs ds → vs[i]? = some v → ∃ d, ds[i]? = some d ∧ DA K Z H v d
  | _, _, _, _, .nil, e => by simp at e
  | _, _, 0, _, .cons h t, e => by simp at e; subst e; exact ⟨_, rfl, h⟩
  | _, _, i + 1, v, .cons h t, e => by
    obtain ⟨d, h1, h2⟩ := DAs.getV (i := i) (v := v) t (by simpa using e)
    exact ⟨d, by simpa using h1, h2⟩
theorem DAs.take : ∀ {vs : List V} {ds : List D} (n : Nat), DAs K Z H vs ds → DAs K Z H (vs.take n) (ds.take n)
  | _, _, 0, _ => .nil
  | _, _, _ + 1, .nil => .nil
  | _, _, n + 1, .cons h t => .cons h (DAs.take n t)
theorem DAs.drop : ∀ {vs : List V} {ds : List D} (n : Nat), DAs K Z H vs ds → DAs K Z H (vs.drop n) (ds.drop n)
  | _, _, 0, h => h
  | _, _, _ + 1, .nil => .nil
  | _, _, n + 1, .cons _ t => DAs.drop n t
theorem DAs.reverse : ∀ {vs : List V} {ds : List D}, DAs K Z H vs ds → DAs K Z H vs.reverse ds.reverse
  | _, _, .nil => .nil
  | _, _, .cons h t => by
    rw [List.reverse_cons, List.reverse_cons]
    exact (DAs.reverse t).append (.cons h .nil)
theorem DAs.set {v : V} {d : D} (h : DA K Z H v d) : ∀ {vs : List V} {ds : List D} (i : Nat), DAs K Z H vs ds → DAs K Z H (vs.set i v) (ds.set i d)
  | _, _, _, .nil => .nil
  | _, _, 0, .cons _ t => .cons h t
  | _, _, i + 1, .cons q t => .cons q (DAs.set h i t)
theorem DAs.rep {vs : List V} {ds : List D} (h : DAs K Z H vs ds) : ∀ k : Nat, DAs K Z H (List.replicate k vs).flatten (List.replicate k ds).flatten
  | 0 => .nil
  | k + 1 => by
    rw [List.replicate_succ, List.replicate_succ, List.flatten_cons, List.flatten_cons]
    exact h.append (DAs.rep h k)
end

-- data without a dict
mutual
def pl : D → Bool
  | .list xs => pls xs
  | .tuple xs => pls xs
  | .dict _ => false
  | _ => true
def pls : List D → Bool
  | [] => true
  | x :: xs => pl x && pls xs
end
mutual
theorem DA.dp {K : PySem.W.Frag} {Z : Addr → Prop} {H : Hp} : ∀ {v : V} {d : D}, DA K Z H v d → pl d = true → Dp K H v d
  | _, _, .non, _ => .non
  | _, _, .bl b, _ => .bl b
  | _, _, .int i, _ => .int i
  | _, _, .str x, _ => .str x
  | _, _, .lst h1 h2 h3, p => .lst (SqL.of h2) (DAs.dp h3 (by simpa [pl] using p))
  | _, _, .tup h1 h2 h3, p => .tup (SqT.of h2) (DAs.dp h3 (by simpa [pl] using p))
  | _, _, .tupK h1 h3, p => .tup (SqT_K h1 H) (DAs.dp h3 (by simpa [pl] using p))
  | _, _, .dic _ _ _ _, p => by simp [pl] at p
  | _, _, .scrF _ _ _, p => by simp [pl, scr] at p
  | _, _, .scrK _ _, p => by simp [pl, scr] at p
theorem DAs.dp {K : PySem.W.Frag} {Z : Addr → Prop} {H : Hp} : ∀ {vs : List V} {ds : List D}, DAs K Z H vs ds → pls ds = true → DpAll K H vs ds
  | _, _, .nil, _ => .nil
  | _, _, .cons h t, p => by
    simp only [pls, Bool.and_eq_true] at p
    exact .cons (DA.dp h p.1) (DAs.dp t p.2)
end

theorem DA.scrq {K : PySem.W.Frag} {Z : Addr → Prop} {H : Hp} {v : V} {xs : List D} (q : DA K Z H v (.dict [(.none, .list xs)])) : ∃ a vs, v = .ref a ∧ DAs K Z H vs xs ∧ SqL K H a vs := by
  generalize hd : (PyData.dict [(.none, .list xs)]) = d at q
  cases q with
  | scrF h1 h2 h3 => cases hd; exact ⟨_, _, rfl, h3, SqL_F h2⟩
  | scrK h1 h3 => cases hd; exact ⟨_, _, rfl, h3, SqL_K h1 H⟩
  | @dic a ks vs ds h1 h2 h3 h4 =>
    exfalso
    injection hd with hd
    cases ks with
    | nil => cases hd
    | cons k ks =>
      cases ds with
      | nil => cases hd
      | cons d ds => cases k <;> cases hd
  | _ => cases hd

/-! ### slots and heap -/
/-- the place of an object that a slot owns -/
def OwnA (ρ : ES) (σ : St) (a : Addr) : Prop := ∃ (i : Nat) (o : MO), ρ[i]? = some (some (.own o)) ∧ σ[i]? = some (some (.ref a))
def Hid (Λ : Addr → Prop) (ρ : ES) (σ : St) (a : Addr) : Prop := Λ a ∨ OwnA ρ σ a
def MOk (K : PySem.W.Frag) (Z : Addr → Prop) (H : Hp) (a : Addr) : MO → Prop
  | .lst ds => ∃ vs, H a = some (.lst vs) ∧ DAs K Z H vs ds
  | .dic ks ds => ∃ vs, H a = some (.dK (ks.zip vs)) ∧ ks.length = vs.length ∧ DAs K Z H vs ds
theorem MOk.there {K : PySem.W.Frag} {Z : Addr → Prop} {H : Hp} {a : Addr} {o : MO} (h : MOk K Z H a o) : ∃ u, H a = some u := by
  cases o with
  | lst ds => obtain ⟨vs, e, _⟩ := h; exact ⟨_, e⟩
  | dic ks ds => obtain ⟨vs, e, _⟩ := h; exact ⟨_, e⟩
theorem MOk.keep {K : PySem.W.Frag} {Z Z' : Addr → Prop} {H H' : Hp} {a : Addr} {o : MO} (h : MOk K Z H a o) (ha : ∀ u, H a = some u → H' a = some u) (hz : ∀ a o, ¬ Z a → H a = some o → ¬ Z' a ∧ H' a = some o) : MOk K Z' H' a o := by
  cases o with
  | lst ds => obtain ⟨vs, e, d⟩ := h; exact ⟨vs, ha _ e, d.keep hz⟩
  | dic ks ds => obtain ⟨vs, e, l, d⟩ := h; exact ⟨vs, ha _ e, l, d.keep hz⟩
/-- an owned object, seen as data -/
theorem MOk.da {K : PySem.W.Frag} {Z Z' : Addr → Prop} {H : Hp} {a : Addr} {o : MO} (h : MOk K Z H a o) (ha : ¬ Z' a) (hz : ∀ a, Z' a → Z a) : DA K Z' H (.ref a) o.d := by
  cases o with
  | lst ds => obtain ⟨vs, e, d⟩ := h; exact .lst ha e (d.less hz)
  | dic ks ds => obtain ⟨vs, e, l, d⟩ := h; exact .dic ha e l (d.less hz)

structure Rel (K : PySem.W.Frag) (Λ : Addr → Prop) (ρ : ES) (σ : St) (H : Hp) : Prop where
  len : ρ.length = σ.length
  val : ∀ (i : Nat) (d : D), ρ[i]? = some (some (.val d)) → ∃ v, σ[i]? = some (some v) ∧ DA K (Hid Λ ρ σ) H v d
  own : ∀ (i : Nat) (o : MO), ρ[i]? = some (some (.own o)) → ∃ a, σ[i]? = some (some (.ref a)) ∧ ¬ Λ a ∧ MOk K (Hid Λ ρ σ) H a o
  dis : ∀ (i j : Nat) (o o' : MO) (a : Addr), ρ[i]? = some (some (.own o)) → ρ[j]? = some (some (.own o')) → σ[i]? = some (some (.ref a)) → σ[j]? = some (some (.ref a)) → i = j
  lam : ∀ a, Λ a → ∃ o, H a = some o

/-- all that is tracked and not owned by a slot stays -/
def Fr (ρ : ES) (σ : St) (H H' : Hp) : Prop := ∀ a o, H a = some o → ¬ OwnA ρ σ a → H' a = some o
theorem Fr.refl (ρ : ES) (σ : St) (H : Hp) : Fr ρ σ H H := fun _ _ e _ => e
/-- the slots behind an expression: values as they were, owned objects owned or let go -/
def SubB : Option (Option B) → Option (Option B) → Prop
  | some (some (.own _)), some (some (.own _)) => True
  | some (some (.val d)), some (some (.own o)) => ∃ o' : MO, d = o'.d
  | x, y => x = y
def Sub (ρ' ρ : ES) : Prop := ∀ i : Nat, SubB ρ'[i]? ρ[i]?
theorem SubB.refl (x : Option (Option B)) : SubB x x := by
  rcases x with _ | _ | ⟨d⟩ | ⟨o⟩ <;> simp [SubB]
theorem Sub.refl (ρ : ES) : Sub ρ ρ := fun _ => SubB.refl _
theorem SubB.trans {x y z : Option (Option B)} (h : SubB x y) (g : SubB y z) : SubB x z := by
  rcases x with _ | _ | ⟨d⟩ | ⟨o⟩ <;> rcases y with _ | _ | ⟨d'⟩ | ⟨o'⟩ <;> rcases z with _ | _ | ⟨d''⟩ | ⟨o''⟩ <;> simp_all [SubB]
theorem Sub.trans {a b c : ES} (h : Sub a b) (g : Sub b c) : Sub a c := fun i => (h i).trans (g i)
theorem Sub.own {ρ' ρ : ES} (h : Sub ρ' ρ) {i : Nat} {o : MO} (e : ρ'[i]? = some (some (.own o))) : ∃ o', ρ[i]? = some (some (.own o')) := by
  have q := h i
  rw [e] at q
  rcases hz : ρ[i]? with _ | _ | ⟨d⟩ | ⟨o'⟩ <;> rw [hz] at q <;> simp [SubB] at q
  exact ⟨o', rfl⟩
theorem Sub.val {ρ' ρ : ES} (h : Sub ρ' ρ) {i : Nat} {d : D} (e : ρ[i]? = some (some (.val d))) : ρ'[i]? = some (some (.val d)) := by
  have q := h i
  rw [e] at q
  rcases hz : ρ'[i]? with _ | _ | ⟨d⟩ | ⟨o'⟩ <;> rw [hz] at q <;> simp [SubB] at q
  rw [q]
theorem Sub.some_ {ρ' ρ : ES} (h : Sub ρ' ρ) {i : Nat} {b : B} (e : ρ[i]? = some (some b)) : ∃ b', ρ'[i]? = some (some b') := by
  have q := h i
  rw [e] at q
  rcases hz : ρ'[i]? with _ | _ | b' <;> rw [hz] at q <;> cases b <;> simp [SubB] at q
  · exact ⟨b', rfl⟩
  · exact ⟨b', rfl⟩
theorem Sub.ownA {ρ' ρ : ES} {σ : St} (h : Sub ρ' ρ) {a : Addr} (q : OwnA ρ' σ a) : OwnA ρ σ a := by
  obtain ⟨i, o, e1, e2⟩ := q
  obtain ⟨o', e3⟩ := h.own e1
  exact ⟨i, o', e3, e2⟩
theorem Sub.len {ρ' ρ : ES} (h : Sub ρ' ρ) : ρ'.length = ρ.length := by
  refine Nat.le_antisymm (Nat.not_lt.mp fun l => ?_) (Nat.not_lt.mp fun l => ?_)
  · have q := h ρ.length
    rw [List.getElem?_eq_none (Nat.le_refl _)] at q
    rcases hz : ρ'[ρ.length]? with _ | b
    · exact absurd (List.getElem?_eq_none_iff.mp hz) (by omega)
    · rw [hz] at q; rcases b with _ | ⟨d⟩ | ⟨o⟩ <;> simp [SubB] at q
  · have q := h ρ'.length
    rw [List.getElem?_eq_none (Nat.le_refl _)] at q
    rcases hz : ρ[ρ'.length]? with _ | b
    · exact absurd (List.getElem?_eq_none_iff.mp hz) (by omega)
    · rw [hz] at q; rcases b with _ | ⟨d⟩ | ⟨o⟩ <;> simp [SubB] at q
theorem Fr.trans {ρ ρ' : ES} {σ : St} {H H1 H2 : Hp} (h : Fr ρ σ H H1) (g : Fr ρ' σ H1 H2) (s : Sub ρ' ρ) : Fr ρ σ H H2 := fun a o e n => g a o (h a o e n) fun q => n (s.ownA q)

/-- more places may be hidden: those of new objects -/
def Ext (Λ Λ' : Addr → Prop) (H : Hp) : Prop := (∀ a, Λ a → Λ' a) ∧ ∀ a, Λ' a → Λ a ∨ H a = none
theorem Ext.refl (Λ : Addr → Prop) (H : Hp) : Ext Λ Λ H := ⟨fun _ h => h, fun _ h => .inl h⟩

section
variable {K : PySem.W.Frag} {Λ Λ' Λ1 Λ2 : Addr → Prop} {ρ ρ' ρ1 ρ2 : ES} {σ : St} {H H' H0 H1 H2 : Hp}

theorem Hid.less (hl : ∀ a, Λ' a → Λ a) (s : ∀ a, OwnA ρ' σ a → OwnA ρ σ a) {a : Addr} (h : Hid Λ' ρ' σ a) : Hid Λ ρ σ a := h.elim (fun q => .inl (hl a q)) fun q => .inr (s a q)
/-- fewer hidden places -/
theorem Rel.mono (h : Rel K Λ ρ σ H) (hl : ∀ a, Λ' a → Λ a) : Rel K Λ' ρ σ H :=
  ⟨h.len, fun i d e => let ⟨v, e1, q⟩ := h.val i d e; ⟨v, e1, q.less fun a z => Hid.less hl (fun _ q => q) z⟩,
    fun i o e => let ⟨a, e1, n, q⟩ := h.own i o e; ⟨a, e1, fun z => n (hl a z), q.keep (fun _ e => e) fun b u nb eb => ⟨fun z => nb (Hid.less hl (fun _ q => q) z), eb⟩⟩, h.dis, fun a z => h.lam a (hl a z)⟩
/-- the heap grows -/
theorem Rel.grow (h : Rel K Λ ρ σ H) (hh : ∀ a o, H a = some o → H' a = some o) : Rel K Λ ρ σ H' :=
  ⟨h.len, fun i d e => let ⟨v, e1, q⟩ := h.val i d e; ⟨v, e1, q.grow hh⟩,
    fun i o e => let ⟨a, e1, n, q⟩ := h.own i o e; ⟨a, e1, n, q.keep (hh a) fun b u nb eb => ⟨nb, hh b u eb⟩⟩, h.dis, fun a z => let ⟨o, e⟩ := h.lam a z; ⟨o, hh a o e⟩⟩
/-- a place that is not yet tracked is hidden -/
theorem Rel.hide (h : Rel K Λ ρ σ H) {p : Addr} (hp : H p = none) (hh : ∀ a o, H a = some o → H' a = some o) (hp' : ∃ o, H' p = some o) : Rel K (fun a => Λ a ∨ a = p) ρ σ H' := by
  have nz : ∀ (a : Addr) (o : HO), ¬ Hid Λ ρ σ a → H a = some o → ¬ Hid (fun a => Λ a ∨ a = p) ρ σ a ∧ H' a = some o := fun a o n e => ⟨fun z => by
    rcases z with (z | z) | z
    · exact n (.inl z)
    · rw [z, hp] at e; cases e
    · exact n (.inr z), hh a o e⟩
  refine ⟨h.len, fun i d e => let ⟨v, e1, q⟩ := h.val i d e; ⟨v, e1, q.keep nz⟩, fun i o e => ?_, h.dis, fun a z => ?_⟩
  · obtain ⟨a, e1, n, q⟩ := h.own i o e
    refine ⟨a, e1, fun z => ?_, q.keep (hh a) nz⟩
    rcases z with z | z
    · exact n z
    · obtain ⟨u, eu⟩ := q.there
      rw [z, hp] at eu; cases eu
  · rcases z with z | z
    · obtain ⟨o, e⟩ := h.lam a z; exact ⟨o, hh a o e⟩
    · rw [z]; exact hp'
theorem Rel.ownThere (h : Rel K Λ ρ σ H) {a : Addr} (q : OwnA ρ σ a) : ¬ Λ a ∧ ∃ o, H a = some o := by
  obtain ⟨i, o, e1, e2⟩ := q
  obtain ⟨b, e3, n, m⟩ := h.own i o e1
  rw [e2] at e3; cases e3
  exact ⟨n, m.there⟩
theorem Rel.hidThere (h : Rel K Λ ρ σ H) {a : Addr} (q : Hid Λ ρ σ a) : ∃ o, H a = some o := q.elim (h.lam a) fun q => (h.ownThere q).2
/-- what is tracked and not hidden stays so -/
theorem Rel.still (h : Rel K Λ ρ σ H) (f : Fr ρ σ H H') (s : Sub ρ' ρ) (x : Ext Λ Λ' H) : ∀ (a : Addr) (o : HO), ¬ Hid Λ ρ σ a → H a = some o → ¬ Hid Λ' ρ' σ a ∧ H' a = some o := fun a o n e => ⟨fun z => by
    rcases z with z | z
    · rcases x.2 a z with z | z
      · exact n (.inl z)
      · rw [z] at e; cases e
    · exact n (.inr (s.ownA z)), f a o e fun z => n (.inr z)⟩
theorem Ext.trans (h : Ext Λ Λ1 H) (g : Ext Λ1 Λ2 H1) (hh : ∀ a, H1 a = none → H a = none) : Ext Λ Λ2 H := ⟨fun a q => g.1 a (h.1 a q), fun a q => by
  rcases g.2 a q with z | z
  · exact h.2 a z
  · exact .inr (hh a z)⟩
/-- behind an expression nothing tracked is lost -/
theorem Rel.lost (h : Rel K Λ ρ σ H) (f : Fr ρ σ H H') (s : Sub ρ' ρ) (r : Rel K Λ' ρ' σ H') (own : ∀ a, OwnA ρ σ a → ∃ o, H' a = some o) : ∀ a, H' a = none → H a = none := fun a e => by
  rcases q : H a with _ | o
  · rfl
  · exfalso
    rcases Classical.em (OwnA ρ σ a) with z | z
    · obtain ⟨u, e'⟩ := own a z; rw [e] at e'; cases e'
    · rw [f a o q z] at e; cases e
end
end DI
end

section
set_option maxRecDepth 100000
/-! KB: a small core language, what it computes over data, and which Python text it stands for. -/
namespace DI
open PySem L2

inductive Out (α : Type) where
  | ok (a : α)
  | stuck
def Out.bind {α β : Type} : Out α → (α → Out β) → Out β
  | .ok a, f => f a
  | .stuck, _ => .stuck
def Out.guard (b : Bool) : Out Unit := if b then .ok () else .stuck
theorem bind_ok {α β : Type} (a : α) (f : α → Out β) : (Out.bind (.ok a) f) = f a := rfl
theorem bind_eq {α β : Type} {x : Out α} {f : α → Out β} {b : β} (h : Out.bind x f = .ok b) : ∃ a, x = .ok a ∧ f a = .ok b := by
  cases x with
  | ok a => exact ⟨a, rfl, h⟩
  | stuck => cases h

/-! ### what the operations compute -/
abbrev SZ : Nat := 16777216
inductive BO where
  | add | sub | mul | fdiv | mod | pow
  deriving DecidableEq
inductive CO where
  | eq | ne | lt | le | gt | ge | isN | notN | isB | notB | inn | nin
  deriving DecidableEq
/-- a built-in function, by its name in Python -/
inductive BI where
  | len | all | any | int | str | tuple | list | abs | max | min | divmod | repr | sum
  deriving DecidableEq
inductive MT where
  | split | join | index
  deriving DecidableEq

def small64 (i : Int) : Bool := decide (-(2 ^ 64) < i) && decide (i < 2 ^ 64)
def bo : BO → D → D → Out R
  | .add, .int i, .int j => .ok (.val (.int (i + j)))
  | .add, .str x, .str y => if x.length + y.length ≤ SZ then .ok (.val (.str (x ++ y))) else .stuck
  | .add, .list x, .list y => if x.length + y.length ≤ SZ then .ok (.new (.lst (x ++ y))) else .stuck
  | .add, .tuple x, .tuple y => if x.length + y.length ≤ SZ then .ok (.val (.tuple (x ++ y))) else .stuck
  | .sub, .int i, .int j => .ok (.val (.int (i - j)))
  | .mul, .int i, .int j => if small64 i || small64 j then .ok (.val (.int (i * j))) else .stuck
  | .mul, .tuple x, .int k => if 0 < x.length ∧ 2 ≤ k ∧ k ≤ 10000 ∧ x.length ≤ 1000 then .ok (.val (.tuple (List.replicate k.toNat x).flatten)) else .stuck
  | .mul, .list x, .int k => if 0 ≤ k ∧ k ≤ 10000 ∧ x.length ≤ 1000 then .ok (.new (.lst (List.replicate k.toNat x).flatten)) else .stuck
  | .mul, .str x, .int k => if 0 ≤ k ∧ k ≤ 10000 ∧ x.length ≤ 1000 then .ok (.val (.str (Txt.mul x k))) else .stuck
  | .fdiv, .int i, .int j => if 0 < j ∧ j < 1073741824 then .ok (.val (.int (i / j))) else .stuck
  | .mod, .int i, .int j => if 0 < j then .ok (.val (.int (i % j))) else .stuck
  | .pow, .int i, .int j => if 0 ≤ j ∧ j ≤ 1000000 ∧ small64 i then .ok (.val (.int (i ^ j.toNat))) else .stuck
  | _, _, _ => .stuck
def flatD : D → Bool
  | .none => true
  | .bool _ => true
  | .int _ => true
  | .str _ => true
  | _ => false
def isNon : D → Bool
  | .none => true
  | _ => false
def inStr (x z : Str) : Option Bool := match x.cps.toList with
  | [c] => some (decide (c ∈ z.cps.toList))
  | _ => none
def inD (d : D) : D → Option Bool
  | .list xs => if SeqAt.shaped d && SeqAt.shaped (.list xs) then some (xs.any fun z => PyData.eqv z d) else none
  | .tuple xs => if flatD d && xs.all flatD then some (xs.any fun z => PyData.eqv z d) else none
  | .str z => match d with
    | .str x => inStr x z
    | _ => none
  | _ => none
def co : CO → D → D → Out Bool
  | .eq, .str x, .str y => .ok (decide (x = y))
  | .ne, .str x, .str y => .ok (!decide (x = y))
  | .eq, d, e => if SeqAt.shaped d && SeqAt.shaped e then .ok (PyData.eqv d e) else .stuck
  | .ne, d, e => if SeqAt.shaped d && SeqAt.shaped e then .ok (!PyData.eqv d e) else .stuck
  | .lt, .int i, .int j => .ok (decide (i < j))
  | .le, .int i, .int j => .ok (decide (i ≤ j))
  | .gt, .int i, .int j => .ok (decide (j < i))
  | .ge, .int i, .int j => .ok (decide (j ≤ i))
  | .lt, .str i, .str j => .ok (decide (i.cps.toList < j.cps.toList))
  | .le, .str i, .str j => .ok (!decide (j.cps.toList < i.cps.toList))
  | .gt, .str i, .str j => .ok (decide (j.cps.toList < i.cps.toList))
  | .ge, .str i, .str j => .ok (!decide (i.cps.toList < j.cps.toList))
  | .isN, d, .none => .ok (isNon d)
  | .notN, d, .none => .ok (!isNon d)
  | .isB, .bool a, .bool b => .ok (decide (a = b))
  | .notB, .bool a, .bool b => .ok (!decide (a = b))
  | .inn, d, e => match inD d e with | some b => .ok b | none => .stuck
  | .nin, d, e => match inD d e with | some b => .ok (!b) | none => .stuck
  | _, _, _ => .stuck
def bools? : List D → Option (List Bool)
  | [] => some []
  | .bool b :: r => (bools? r).map (b :: ·)
  | _ => none
def ints? : List D → Option (List Int)
  | [] => some []
  | .int b :: r => (ints? r).map (b :: ·)
  | _ => none
def strs? : List D → Option (List Str)
  | [] => some []
  | .str b :: r => (strs? r).map (b :: ·)
  | _ => none
/-- a list of ints: its greatest (the least) -/
def maxI : List Int → Int
  | [] => 0
  | a :: r => r.foldl (fun m x => if x > m then x else m) a
def minI : List Int → Int
  | [] => 0
  | a :: r => r.foldl (fun m x => if x < m then x else m) a
def bi : BI → List D → Out R
  | .len, [.str x] => if x.length ≤ SZ then .ok (.val (.int x.length)) else .stuck
  | .len, [.list x] => .ok (.val (.int x.length))
  | .len, [.dict [(.none, .list x)]] => .ok (.val (.int x.length))
  | .len, [.tuple x] => .ok (.val (.int x.length))
  | .all, [.list xs] => match bools? xs with | some bs => .ok (.val (.bool (bs.all id))) | none => .stuck
  | .any, [.list xs] => match bools? xs with | some bs => .ok (.val (.bool (bs.any id))) | none => .stuck
  | .int, [.int i] => .ok (.val (.int i))
  | .int, [.str x] => if x.length ≤ 640 then (match PySem.intText? x with | some n => .ok (.val (.int n)) | none => .stuck) else .stuck
  | .str, [.int i] => if i.natAbs < 2 ^ 1900 then .ok (.val (.str (toString i))) else .stuck
  | .tuple, [.list x] => .ok (.val (.tuple x))
  | .tuple, [.tuple x] => .ok (.val (.tuple x))
  | .list, [.list x] => .ok (.new (.lst x))
  | .list, [.tuple x] => .ok (.new (.lst x))
  | .abs, [.int i] => .ok (.val (.int (if i < 0 then -i else i)))
  | .max, [.int i, .int j] => .ok (.val (.int (if j > i then j else i)))
  | .min, [.int i, .int j] => .ok (.val (.int (if j < i then j else i)))
  | .max, [.list xs] => match ints? xs with | some (a :: r) => .ok (.val (.int (maxI (a :: r)))) | _ => .stuck
  | .min, [.list xs] => match ints? xs with | some (a :: r) => .ok (.val (.int (minI (a :: r)))) | _ => .stuck
  | .max, [.tuple xs] => match ints? xs with | some (a :: r) => .ok (.val (.int (maxI (a :: r)))) | _ => .stuck
  | .min, [.tuple xs] => match ints? xs with | some (a :: r) => .ok (.val (.int (minI (a :: r)))) | _ => .stuck
  | .sum, [.list xs] => match ints? xs with | some ns => .ok (.val (.int ns.sum)) | none => .stuck
  | .divmod, [.int i, .int j] => if 0 < j ∧ j < 1073741824 then .ok (.val (.tuple [.int (i / j), .int (i % j)])) else .stuck
  | .repr, [d] => if pl d && d.showable && decide (d.depth ≤ 64) && decide (d.shown.length ≤ SZ) then .ok (.val (.str d.shown)) else .stuck
  | _, _ => .stuck
def isi : D → String → Option Bool
  | .none, "int" => some false | .none, "bool" => some false | .none, "str" => some false | .none, "tuple" => some false | .none, "list" => some false
  | .bool _, "int" => some true | .bool _, "bool" => some true | .bool _, "str" => some false | .bool _, "tuple" => some false | .bool _, "list" => some false
  | .int _, "int" => some true | .int _, "bool" => some false | .int _, "str" => some false | .int _, "tuple" => some false | .int _, "list" => some false
  | .str _, "int" => some false | .str _, "bool" => some false | .str _, "str" => some true | .str _, "tuple" => some false | .str _, "list" => some false
  | .tuple _, "int" => some false | .tuple _, "bool" => some false | .tuple _, "str" => some false | .tuple _, "tuple" => some true | .tuple _, "list" => some false
  | .list _, "int" => some false | .list _, "bool" => some false | .list _, "str" => some false | .list _, "tuple" => some false | .list _, "list" => some true
  | _, _ => none
def mt : MT → D → List D → Out R
  | .split, .str a, [.str b] => if (b.length == 0) = false ∧ a.length + 2 ≤ SZ then .ok (.new (.lst ((Txt.split a b).map .str))) else .stuck
  | .join, .str a, [.list xs] => match strs? xs with
    | some ys => if (ys.map (·.length)).sum + ys.length * a.length ≤ SZ then .ok (.val (.str (Txt.join a ys))) else .stuck
    | none => .stuck
  | .join, .str a, [.tuple xs] => match strs? xs with
    | some ys => if (ys.map (·.length)).sum + ys.length * a.length ≤ SZ then .ok (.val (.str (Txt.join a ys))) else .stuck
    | none => .stuck
  | .index, .tuple xs, [.str z] => match strs? xs with
    | some ys => (match ys.idxOf? z with | some j => .ok (.val (.int j)) | none => .stuck)
    | none => .stuck
  | _, _, _ => .stuck
/-- a[i] -/
def ix : D → D → Out D
  | .list xs, .int i => match atI xs i with | some d => .ok d | none => .stuck
  | .tuple xs, .int i => match atI xs i with | some d => .ok d | none => .stuck
  | .dict [(.none, .list xs)], .int i => match atI xs i with | some d => .ok d | none => .stuck
  | .str z, .int i => if z.length ≤ SZ then (match atI z.cps.toList i with | some c => .ok (.str ⟨#[c]⟩) | none => .stuck) else .stuck
  | _, _ => .stuck
def cutD (xs : List D) (lo hi : Option Int) : List D := (xs.drop (HT.sIx xs.length 0 lo)).take (HT.sIx xs.length xs.length hi - HT.sIx xs.length 0 lo)
def part : D → Option (Option Int)
  | .none => some none
  | .int i => some (some i)
  | _ => none
def slc : D → Option Int → Option Int → Out R
  | .list xs, lo, hi => .ok (.new (.lst (cutD xs lo hi)))
  | .tuple xs, lo, hi => .ok (.val (.tuple (cutD xs lo hi)))
  | .str z, lo, hi => if z.length ≤ SZ then .ok (.val (.str (cutS z lo hi))) else .stuck
  | _, _, _ => .stuck
def rvs : D → Out R
  | .list xs => .ok (.new (.lst xs.reverse))
  | .tuple xs => .ok (.val (.tuple xs.reverse))
  | _ => .stuck

/-! ### the core language -/
mutual
inductive CE where
  | var (i : Nat)
  | lit (d : D)
  | glob (x : Str)
  | bin (op : BO) (a b : CE)
  | neg (a : CE)
  | cmp (op : CO) (a b : CE)
  | chain (op op' : CO) (a b c : CE)
  | and (a b : CE)
  | or (a b : CE)
  | not (a : CE)
  | ite (c a b : CE)
  | call (f : BI) (args : CL)
  | isi (a : CE) (T : String)
  | fn (f : Str) (args : CL)
  | fnk (f : Str) (ks : List Str) (args : CL)
  | meth (m : MT) (o : CE) (args : CL)
  | app (o a : CE)
  | tup (es : CL)
  | lst (es : CL)
  | idx (a b : CE)
  | bnd (a : CE)
  | slc (a lo hi : CE)
  | rev (a : CE)
  | lc (own : List (Str × Nat)) (t : CT) (it : CI) (tst : Option CE) (elt : CE)
inductive CL where
  | nil
  | cons (a : CE) (r : CL)
/-- a target -/
inductive CT where
  | name (i : Nat)
  | sub (o i : CE)
  | tup (ts : CTs)
inductive CTs where
  | nil
  | cons (t : CT) (r : CTs)
/-- what is walked -/
inductive CI where
  | seq (e : CE)
  | rng1 (b : CE)
  | rng2 (a b : CE)
  | enm (e : CE)
  | zip (a b : CE)
end
mutual
inductive CS where
  | asg (t : CT) (e : CE)
  | par (is : List Nat) (es : CL)
  | expr (e : CE)
  | ret (e : CE)
  | retN
  | ite (c : CE) (a b : CB)
  | fore (t : CT) (it : CI) (b : CB)
  | pass
  | brk
  | cont
  | doc
  | never
inductive CB where
  | nil
  | cons (s : CS) (r : CB)
end

/-! ### what it computes -/
/-- a def of the program: for arguments (data, or the one object that it may change) its answer, and the object as it is then -/
abbrev FSem := List B → Out (R × Option MO)
structure FI where
  sem : FSem
  ps : List Str
  mx : Option Nat := none
structure Ge where
  fns : Str → Option FI
  cst : Str → Option D

/-- what a result is, seen as data -/
def cont (ρ : ES) : R → Out D
  | .val d => .ok d
  | .new o => .ok o.d
  | .slot i => match ρ[i]? with
    | some (some b) => .ok b.d
    | _ => .stuck
/-- .. and let go: an object that a slot owns stands still from now on -/
def still (pin : Option Nat) (ρ : ES) : R → Out (D × ES)
  | .val d => .ok (d, ρ)
  | .new o => .ok (o.d, ρ)
  | .slot i => match ρ[i]? with
    | some (some (.val d)) => .ok (d, ρ)
    | some (some (.own o)) => if pin = some i then .stuck else .ok (o.d, ρ.set i (some (.val o.d)))
    | _ => .stuck
def stills (pin : Option Nat) : List R → ES → Out (List D × ES)
  | [], ρ => .ok ([], ρ)
  | r :: rs, ρ => Out.bind (still pin ρ r) fun p => Out.bind (stills pin rs p.2) fun q => .ok (p.1 :: q.1, q.2)
def conts (ρ : ES) : List R → Out (List D)
  | [] => .ok []
  | r :: rs => Out.bind (cont ρ r) fun d => Out.bind (conts ρ rs) fun ds => .ok (d :: ds)
/-- slots' objects let go -/
def settle (pin : Option Nat) : List R → ES → Out (List R × ES)
  | [], ρ => .ok ([], ρ)
  | .slot j :: rs, ρ => Out.bind (still pin ρ (.slot j)) fun p => Out.bind (settle pin rs p.2) fun q => .ok (.val p.1 :: q.1, q.2)
  | .val d :: rs, ρ => Out.bind (settle pin rs ρ) fun q => .ok (.val d :: q.1, q.2)
  | .new o :: rs, ρ => Out.bind (settle pin rs ρ) fun q => .ok (.new o :: q.1, q.2)
def news : List R → Nat
  | [] => 0
  | .new _ :: rs => news rs + 1
  | _ :: rs => news rs
def puts (pin : Option Nat) : List Nat → List R → ES → Out ES
  | [], [], ρ => .ok ρ
  | i :: is, .val d :: rs, ρ => if pin = some i then .stuck else if i < ρ.length then puts pin is rs (ρ.set i (some (.val d))) else .stuck
  | i :: is, .new o :: rs, ρ => if pin = some i then .stuck else if i < ρ.length then puts pin is rs (ρ.set i (some (.own o))) else .stuck
  | _, _, _ => .stuck
/-- names = rs: at most one of them a new object -/
def setvs (pin : Option Nat) (is : List Nat) (rs : List R) (ρ : ES) : Out ES :=
  Out.bind (settle pin rs ρ) fun p => if news p.1 ≤ 1 then puts pin is p.1 p.2 else .stuck
def setv (pin : Option Nat) (i : Nat) (r : R) (ρ : ES) : Out ES := setvs pin [i] [r] ρ
def asBool : R → Out Bool
  | .val (.bool b) => .ok b
  | _ => .stuck
def asVal : R → Out D
  | .val d => .ok d
  | _ => .stuck
/-- the arguments of a call: the one at m (none here) is an object that may be changed -/
def argB (m : Option Nat) (pin : Option Nat) : Nat → List R → ES → Out (List (Option D) × ES)
  | _, [], ρ => .ok ([], ρ)
  | k, r :: rs, ρ => if m = some k then Out.bind (argB m pin (k + 1) rs ρ) fun q => .ok (none :: q.1, q.2)
    else Out.bind (still pin ρ r) fun p => Out.bind (argB m pin (k + 1) rs p.2) fun q => .ok (some p.1 :: q.1, q.2)
/-- .. that object -/
def theB (m : Option Nat) (rs : List R) (ρ : ES) : Out (Option MO) := match m with
  | none => .ok none
  | some k => match rs[k]? with
    | some (.slot j) => (match ρ[j]? with
      | some (some (.own o)) => .ok (some o)
      | _ => .stuck)
    | some (.new o) => if news rs ≤ 1 then .ok (some o) else .stuck
    | _ => .stuck
def fill (o : Option MO) : List (Option D) → List B
  | [] => []
  | some d :: ds => .val d :: fill o ds
  | none :: ds => (match o with
    | some o => .own o
    | none => .val .none) :: fill o ds
/-- behind the call: the changed object -/
def putBack (m : Option Nat) (rs : List R) (o : Option MO) (ρ : ES) : Out ES :=
  match m with
  | none => .ok ρ
  | some k => match rs[k]?, o with
    | some (.slot j), some o => .ok (ρ.set j (some (.own o)))
    | some (.new _), some _ => .ok ρ
    | _, _ => .stuck
def callF (G : Ge) (pin : Option Nat) (f : Str) (rs : List R) (ρ : ES) : Out (R × ES) :=
  match G.fns f with
  | none => .stuck
  | some F => if rs.length = F.ps.length then Out.bind (argB F.mx pin 0 rs ρ) fun p => Out.bind (theB F.mx rs p.2) fun o => Out.bind (F.sem (fill o p.1)) fun q => Out.bind (putBack F.mx rs q.2 p.2) fun ρ' => .ok (q.1, ρ') else .stuck
/-- do the names ks stand for all the parameters? -/
def namesAll (G : Ge) (f : Str) (ks : List Str) : Bool := match G.fns f with
  | none => false
  | some F => decide (F.ps = ks)
/-- the block of a comprehension: its own names forgotten -/
def wipeE (ρ : ES) : List Nat → ES
  | [] => ρ
  | v :: vs => (wipeE ρ vs).set v none
def noOwn (ρ : ES) (vs : List Nat) : Bool := vs.all fun i => match ρ[i]? with
  | some (some (.own _)) => false
  | none => false
  | _ => true
/-- the slots behind a comprehension: its own names as ahead -/
def unwipe (ρ ρ' : ES) : List Nat → ES
  | [] => ρ'
  | v :: vs => (unwipe ρ ρ' vs).set v (ρ[v]?.join)
def lcLoop (f : D → ES → Out (Option D × ES)) : List D → ES → Out (List D × ES)
  | [], ρ => .ok ([], ρ)
  | d :: ds, ρ => Out.bind (f d ρ) fun p => Out.bind (lcLoop f ds p.2) fun q => .ok ((match p.1 with | some y => y :: q.1 | none => q.1), q.2)
/-- the slot owns a list -/
def isL (ρ : ES) (i : Nat) : Bool := match ρ[i]? with
  | some (some (.own (.lst _))) => true
  | _ => false
def rngL (lo : Int) (n : Nat) : List D := (List.range n).map fun k => .int (lo + (k : Nat))
def bnd62 (i : Int) : Bool := decide (-(2 ^ 62) ≤ i) && decide (i < 2 ^ 62)
def items : D → Out (List D)
  | .list xs => .ok xs
  | .tuple xs => .ok xs
  | .str z => .ok (z.cps.toList.map fun c => .str ⟨#[c]⟩)
  | _ => .stuck
def enmL : Nat → List D → List D
  | _, [] => []
  | k, x :: xs => .tuple [.int k, x] :: enmL (k + 1) xs

mutual
def ev (G : Ge) (pin : Option Nat) : CE → ES → Out (R × ES)
  | .var i, ρ => match ρ[i]? with
    | some (some (.val d)) => .ok (.val d, ρ)
    | some (some (.own _)) => .ok (.slot i, ρ)
    | _ => .stuck
  | .lit d, ρ => .ok (.val d, ρ)
  | .glob x, ρ => match G.cst x with
    | some d => .ok (.val d, ρ)
    | none => .stuck
  | .bin op a b, ρ => Out.bind (ev G pin a ρ) fun p => Out.bind (ev G pin b p.2) fun q => Out.bind (cont q.2 p.1) fun x => Out.bind (cont q.2 q.1) fun y => Out.bind (bo op x y) fun r => .ok (r, q.2)
  | .neg a, ρ => Out.bind (ev G pin a ρ) fun p => match p.1 with
    | .val (.int i) => .ok (.val (.int (-i)), p.2)
    | _ => .stuck
  | .cmp op a b, ρ => Out.bind (ev G pin a ρ) fun p => Out.bind (ev G pin b p.2) fun q => Out.bind (cont q.2 p.1) fun x => Out.bind (cont q.2 q.1) fun y => Out.bind (co op x y) fun r => .ok (.val (.bool r), q.2)
  | .chain op op' a b c, ρ => Out.bind (ev G pin a ρ) fun p => Out.bind (ev G pin b p.2) fun q => Out.bind (cont q.2 p.1) fun x => Out.bind (asVal q.1) fun y => Out.bind (co op x y) fun r =>
      if r = true then Out.bind (ev G pin c q.2) fun s => Out.bind (cont s.2 s.1) fun z => Out.bind (co op' y z) fun t => .ok (.val (.bool t), s.2) else .ok (.val (.bool false), q.2)
  | .and a b, ρ => Out.bind (ev G pin a ρ) fun p => Out.bind (asBool p.1) fun c => if c = true then ev G pin b p.2 else .ok (.val (.bool false), p.2)
  | .or a b, ρ => Out.bind (ev G pin a ρ) fun p => Out.bind (asBool p.1) fun c => if c = true then .ok (.val (.bool true), p.2) else ev G pin b p.2
  | .not a, ρ => Out.bind (ev G pin a ρ) fun p => Out.bind (asBool p.1) fun c => .ok (.val (.bool (!c)), p.2)
  | .ite c a b, ρ => Out.bind (ev G pin c ρ) fun p => Out.bind (asBool p.1) fun c => if c = true then ev G pin a p.2 else ev G pin b p.2
  | .call f args, ρ => Out.bind (evs G pin args ρ) fun p => Out.bind (conts p.2 p.1) fun ds => Out.bind (bi f ds) fun r => .ok (r, p.2)
  | .isi a T, ρ => Out.bind (ev G pin a ρ) fun p => Out.bind (cont p.2 p.1) fun d => match isi d T with
    | some b => .ok (.val (.bool b), p.2)
    | none => .stuck
  | .fn f args, ρ => Out.bind (evs G pin args ρ) fun p => callF G pin f p.1 p.2
  | .fnk f ks args, ρ => if namesAll G f ks = true then Out.bind (evs G pin args ρ) fun p => callF G pin f p.1 p.2 else .stuck
  | .meth m o args, ρ => Out.bind (ev G pin o ρ) fun p => Out.bind (evs G pin args p.2) fun q => Out.bind (asVal p.1) fun d => Out.bind (conts q.2 q.1) fun ds => Out.bind (mt m d ds) fun r => .ok (r, q.2)
  | .app o a, ρ => Out.bind (ev G pin o ρ) fun p => match p.1 with
    | .slot i => if isL p.2 i = true then Out.bind (ev G pin a p.2) fun q => Out.bind (still pin q.2 q.1) fun x => (match x.2[i]? with
        | some (some (.own (.lst xs))) => if xs.length < SZ then .ok (.val .none, x.2.set i (some (.own (.lst (xs ++ [x.1]))))) else .stuck
        | _ => .stuck) else .stuck
    | _ => .stuck
  | .tup es, ρ => Out.bind (evs G pin es ρ) fun p => Out.bind (stills pin p.1 p.2) fun q => .ok (.val (.tuple q.1), q.2)
  | .lst es, ρ => Out.bind (evs G pin es ρ) fun p => Out.bind (stills pin p.1 p.2) fun q => .ok (.new (.lst q.1), q.2)
  | .idx a b, ρ => Out.bind (ev G pin a ρ) fun p => Out.bind (ev G pin b p.2) fun q => Out.bind (cont q.2 p.1) fun x => Out.bind (cont q.2 q.1) fun y => Out.bind (ix x y) fun r => .ok (.val r, q.2)
  | .bnd a, ρ => Out.bind (ev G pin a ρ) fun p => match p.1 with
    | .val (.int i) => .ok (.val (.int i), p.2)
    | _ => .stuck
  | .slc a lo hi, ρ => Out.bind (ev G pin a ρ) fun p => Out.bind (ev G pin lo p.2) fun q => Out.bind (ev G pin hi q.2) fun s => Out.bind (cont s.2 p.1) fun x => Out.bind (asVal q.1) fun y => Out.bind (asVal s.1) fun z =>
      match part y, part z with
      | some l, some h => Out.bind (slc x l h) fun r => .ok (r, s.2)
      | _, _ => .stuck
  | .rev a, ρ => Out.bind (ev G pin a ρ) fun p => Out.bind (cont p.2 p.1) fun x => Out.bind (rvs x) fun r => .ok (r, p.2)
  | .lc own t it tst elt, ρ => Out.bind (evI G pin it ρ) fun p =>
      if noOwn p.2 (own.map (·.2)) = true then
        Out.bind (lcLoop (fun d ρ => Out.bind (asgE G pin t (.val d) ρ) fun ρ1 =>
            match tst with
            | none => Out.bind (ev G pin elt ρ1) fun q => Out.bind (still pin q.2 q.1) fun y => .ok (some y.1, wipeE y.2 (own.map (·.2)))
            | some c => Out.bind (ev G pin c ρ1) fun q => Out.bind (asBool q.1) fun b => if b = true then Out.bind (ev G pin elt q.2) fun q => Out.bind (still pin q.2 q.1) fun y => .ok (some y.1, wipeE y.2 (own.map (·.2))) else .ok (none, wipeE q.2 (own.map (·.2))))
          p.1 (wipeE p.2 (own.map (·.2)))) fun q => if q.1.length ≤ SZ then .ok (.new (.lst q.1), unwipe p.2 q.2 (own.map (·.2))) else .stuck
      else .stuck
def evs (G : Ge) (pin : Option Nat) : CL → ES → Out (List R × ES)
  | .nil, ρ => .ok ([], ρ)
  | .cons a r, ρ => Out.bind (ev G pin a ρ) fun p => Out.bind (evs G pin r p.2) fun q => .ok (p.1 :: q.1, q.2)
/-- target = r -/
def asgE (G : Ge) (pin : Option Nat) : CT → R → ES → Out ES
  | .name i, r, ρ => setv pin i r ρ
  | .sub o i, r, ρ => Out.bind (still pin ρ r) fun x => Out.bind (ev G pin o x.2) fun p => Out.bind (ev G pin i p.2) fun q => match p.1, q.1 with
    | .slot j, .val (.int k) => (match q.2[j]? with
      | some (some (.own (.lst xs))) => (match ixN xs.length k with
        | some n => .ok (q.2.set j (some (.own (.lst (xs.set n x.1)))))
        | none => .stuck)
      | _ => .stuck)
    | _, _ => .stuck
  | .tup ts, r, ρ => Out.bind (cont ρ r) fun d => match d with
    | .tuple xs => asgEs G pin ts xs ρ
    | _ => .stuck
def asgEs (G : Ge) (pin : Option Nat) : CTs → List D → ES → Out ES
  | .nil, [], ρ => .ok ρ
  | .cons t ts, x :: xs, ρ => Out.bind (asgE G pin t (.val x) ρ) fun ρ' => asgEs G pin ts xs ρ'
  | _, _, _ => .stuck
/-- what is walked, item by item -/
def evI (G : Ge) (pin : Option Nat) : CI → ES → Out (List D × ES)
  | .seq e, ρ => Out.bind (ev G pin e ρ) fun p => Out.bind (still pin p.2 p.1) fun x => Out.bind (items x.1) fun l => .ok (l, x.2)
  | .rng1 b, ρ => Out.bind (ev G pin b ρ) fun p => match p.1 with
    | .val (.int j) => if bnd62 j = true then .ok (rngL 0 j.toNat, p.2) else .stuck
    | _ => .stuck
  | .rng2 a b, ρ => Out.bind (ev G pin a ρ) fun p => Out.bind (ev G pin b p.2) fun q => match p.1, q.1 with
    | .val (.int i), .val (.int j) => if (bnd62 i && bnd62 j) = true then .ok (rngL i (j - i).toNat, q.2) else .stuck
    | _, _ => .stuck
  | .enm e, ρ => Out.bind (ev G pin e ρ) fun p => Out.bind (still pin p.2 p.1) fun x => match x.1 with
    | .list xs => .ok (enmL 0 xs, x.2)
    | _ => .stuck
  | .zip a b, ρ => Out.bind (ev G pin a ρ) fun p => Out.bind (ev G pin b p.2) fun q => Out.bind (stills pin [p.1, q.1] q.2) fun x => match x.1 with
    | [.list xs, .list ys] => .ok (List.zipWith (fun a b => .tuple [a, b]) xs ys, x.2)
    | [.tuple xs, .tuple ys] => .ok (List.zipWith (fun a b => .tuple [a, b]) xs ys, x.2)
    | _ => .stuck
end

inductive Fl where
  | next | brk | cont
  | ret (r : R)
def forLoop (f : D → ES → Out (Fl × ES)) : List D → ES → Out (Fl × ES)
  | [], ρ => .ok (.next, ρ)
  | d :: ds, ρ => Out.bind (f d ρ) fun p => match p.1 with
    | .next => forLoop f ds p.2
    | .cont => forLoop f ds p.2
    | .brk => .ok (.next, p.2)
    | .ret r => .ok (.ret r, p.2)
mutual
def ex (G : Ge) (pin : Option Nat) : CS → ES → Out (Fl × ES)
  | .asg t e, ρ => Out.bind (ev G pin e ρ) fun p => Out.bind (asgE G pin t p.1 p.2) fun ρ' => .ok (.next, ρ')
  | .par is es, ρ => Out.bind (evs G pin es ρ) fun p => Out.bind (setvs pin is p.1 p.2) fun ρ' => .ok (.next, ρ')
  | .expr e, ρ => Out.bind (ev G pin e ρ) fun p => .ok (.next, p.2)
  | .ret e, ρ => Out.bind (ev G pin e ρ) fun p => .ok (.ret p.1, p.2)
  | .retN, ρ => .ok (.ret (.val .none), ρ)
  | .ite c a b, ρ => Out.bind (ev G pin c ρ) fun p => Out.bind (asBool p.1) fun c => if c = true then exs G pin a p.2 else exs G pin b p.2
  | .fore t it b, ρ => Out.bind (evI G pin it ρ) fun p => forLoop (fun d ρ => Out.bind (asgE G pin t (.val d) ρ) fun ρ1 => exs G pin b ρ1) p.1 p.2
  | .pass, ρ => .ok (.next, ρ)
  | .doc, ρ => .ok (.next, ρ)
  | .brk, ρ => .ok (.brk, ρ)
  | .cont, ρ => .ok (.cont, ρ)
  | .never, _ => .stuck
def exs (G : Ge) (pin : Option Nat) : CB → ES → Out (Fl × ES)
  | .nil, ρ => .ok (.next, ρ)
  | .cons s r, ρ => Out.bind (ex G pin s ρ) fun p => match p.1 with
    | .next => exs G pin r p.2
    | fl => .ok (fl, p.2)
end
/-- a def: its names, its parameters' number, its body; pin: the parameter that it may change -/
structure CF where
  n : Nat
  ps : Nat
  pin : Option Nat := none
  body : CB
def endO (pin : Option Nat) (ρ : ES) : Out (Option MO) := match pin with
  | none => .ok none
  | some k => match ρ[k]? with
    | some (some (.own o)) => .ok (some o)
    | _ => .stuck
def endR (pin : Option Nat) (fl : Fl) (ρ : ES) : Out R := match fl with
  | .next => .ok (.val .none)
  | .ret (.val d) => .ok (.val d)
  | .ret (.new m) => .ok (.new m)
  | .ret (.slot i) => if pin = some i then .stuck else (match ρ[i]? with
    | some (some (.own m)) => .ok (.new m)
    | some (some (.val d)) => .ok (.val d)
    | _ => .stuck)
  | _ => .stuck
def okPin (pin : Option Nat) (n : Nat) : Bool := match pin with
  | none => true
  | some k => decide (k < n)
def run (G : Ge) (F : CF) : FSem := fun bs =>
  if bs.length = F.ps ∧ F.ps ≤ F.n ∧ okPin F.pin F.ps = true then
    Out.bind (exs G F.pin F.body (bs.map some ++ List.replicate (F.n - F.ps) none)) fun p => Out.bind (endO F.pin p.2) fun o => Out.bind (endR F.pin p.1 p.2) fun r => .ok (r, o)
  else .stuck
end DI
end

section
set_option maxRecDepth 100000
/-! KC: results in the heap, readings of the core language, how they follow one another. -/
namespace DI
open PySem L2

/-- a result stands for a value: H0 the heap ahead of the expression -/
def RV (K : PySem.W.Frag) (Λ : Addr → Prop) (ρ : ES) (σ : St) (H0 H : Hp) : R → V → Prop
  | .val d, v => DA K (Hid Λ ρ σ) H v d
  | .new o, v => ∃ p, v = .ref p ∧ H0 p = none ∧ Λ p ∧ MOk K (Hid Λ ρ σ) H p o
  | .slot i, v => σ[i]? = some (some v) ∧ ∃ b : B, ρ[i]? = some (some b)
inductive RVs (K : PySem.W.Frag) (Λ : Addr → Prop) (ρ : ES) (σ : St) (H0 H : Hp) : List R → List V → Prop where
  | nil : RVs K Λ ρ σ H0 H [] []
  | cons {r : R} {rs : List R} {v : V} {vs : List V} : RV K Λ ρ σ H0 H r v → RVs K Λ ρ σ H0 H rs vs → RVs K Λ ρ σ H0 H (r :: rs) (v :: vs)
/-- what is known behind an expression -/
structure Aft (K : PySem.W.Frag) (Λ Λf : Addr → Prop) (ρ ρ' : ES) (σ : St) (H H' : Hp) : Prop where
  ext : Ext Λ Λf H
  rel : Rel K Λf ρ' σ H'
  fr : Fr ρ σ H H'
  sub : Sub ρ' ρ
  own : ∀ a, OwnA ρ σ a → ∃ o, H' a = some o
def TEof (K : PySem.W.Frag) (f : ES → Out (R × ES)) : TE := fun σ H Q => ∃ (Λ : Addr → Prop) (ρ : ES) (r : R) (ρ' : ES), Rel K Λ ρ σ H ∧ f ρ = .ok (r, ρ') ∧
  ∀ (v : V) (H' : Hp) (Λf : Addr → Prop), Aft K Λ Λf ρ ρ' σ H H' → RV K Λf ρ' σ H H' r v → Q v H'
def TTof (K : PySem.W.Frag) (f : ES → Out (R × ES)) : TT := fun σ H Q => ∃ (Λ : Addr → Prop) (ρ : ES) (b : Bool) (ρ' : ES), Rel K Λ ρ σ H ∧ f ρ = .ok (.val (.bool b), ρ') ∧
  ∀ (H' : Hp) (Λf : Addr → Prop), Aft K Λ Λf ρ ρ' σ H H' → Q b H'
def TAof (K : PySem.W.Frag) (f : ES → Out (List R × ES)) : TA := fun σ H Q => ∃ (Λ : Addr → Prop) (ρ : ES) (rs : List R) (ρ' : ES), Rel K Λ ρ σ H ∧ f ρ = .ok (rs, ρ') ∧
  ∀ (vs : List V) (H' : Hp) (Λf : Addr → Prop), Aft K Λ Λf ρ ρ' σ H H' → RVs K Λf ρ' σ H H' rs vs → Q vs H'

section
variable {K : PySem.W.Frag} {Λ Λ' Λ1 Λ2 : Addr → Prop} {ρ ρ' ρ1 ρ2 : ES} {σ : St} {H H' H0 H1 H2 : Hp}

theorem Aft.refl (h : Rel K Λ ρ σ H) : Aft K Λ Λ ρ ρ σ H H := ⟨Ext.refl _ _, h, Fr.refl _ _ _, Sub.refl _, fun a q => (h.ownThere q).2⟩
theorem Aft.gone (h : Rel K Λ ρ σ H) (a : Aft K Λ Λ1 ρ ρ1 σ H H1) : ∀ b, H1 b = none → H b = none := h.lost a.fr a.sub a.rel a.own
theorem Aft.trans (h : Rel K Λ ρ σ H) (a : Aft K Λ Λ1 ρ ρ1 σ H H1) (b : Aft K Λ1 Λ2 ρ1 ρ2 σ H1 H2) : Aft K Λ Λ2 ρ ρ2 σ H H2 := by
  refine ⟨a.ext.trans b.ext (a.gone h), b.rel, a.fr.trans b.fr a.sub, b.sub.trans a.sub, fun x q => ?_⟩
  obtain ⟨o, e⟩ := a.own x q
  rcases Classical.em (OwnA ρ1 σ x) with z | z
  · exact b.own x z
  · exact ⟨o, b.fr x o e z⟩
/-- what stood stays so -/
theorem Aft.still (h : Rel K Λ ρ σ H) (a : Aft K Λ Λ1 ρ ρ1 σ H H1) : ∀ (x : Addr) (o : HO), ¬ Hid Λ ρ σ x → H x = some o → ¬ Hid Λ1 ρ1 σ x ∧ H1 x = some o := h.still a.fr a.sub a.ext
theorem RV.keep (h : Rel K Λ1 ρ1 σ H1) (a : Aft K Λ1 Λ2 ρ1 ρ2 σ H1 H2) {r : R} {v : V} (q : RV K Λ1 ρ1 σ H0 H1 r v) : RV K Λ2 ρ2 σ H0 H2 r v := by
  cases r with
  | val d => exact DA.keep (a.still h) q
  | new o =>
    obtain ⟨p, e, n, l, m⟩ := q
    refine ⟨p, e, n, a.ext.1 p l, m.keep (fun u e => a.fr p u e fun z => (h.ownThere z).1 l) (a.still h)⟩
  | slot i =>
    obtain ⟨e, b, e2⟩ := q
    obtain ⟨b', e3⟩ := a.sub.some_ e2
    exact ⟨e, b', e3⟩
theorem RVs.keep (h : Rel K Λ1 ρ1 σ H1) (a : Aft K Λ1 Λ2 ρ1 ρ2 σ H1 H2) : ∀ {rs : List R} {vs : List V}, RVs K Λ1 ρ1 σ H0 H1 rs vs → RVs K Λ2 ρ2 σ H0 H2 rs vs
  | _, _, .nil => .nil
  | _, _, .cons q t => .cons (q.keep h a) (RVs.keep h a t)
/-- .. seen from an earlier heap -/
theorem RV.from_ {r : R} {v : V} (hn : ∀ b, H1 b = none → H0 b = none) (q : RV K Λ ρ σ H1 H r v) : RV K Λ ρ σ H0 H r v := by
  cases r with
  | val d => exact q
  | new o => obtain ⟨p, e, n, l, m⟩ := q; exact ⟨p, e, hn p n, l, m⟩
  | slot i => exact q
theorem RVs.from_ (hn : ∀ b, H1 b = none → H0 b = none) : ∀ {rs : List R} {vs : List V}, RVs K Λ ρ σ H1 H rs vs → RVs K Λ ρ σ H0 H rs vs
  | _, _, .nil => .nil
  | _, _, .cons q t => .cons (q.from_ hn) (RVs.from_ hn t)
theorem RVs.length : ∀ {rs : List R} {vs : List V}, RVs K Λ ρ σ H0 H rs vs → rs.length = vs.length
  | _, _, .nil => rfl
  | _, _, .cons _ t => by simp [RVs.length t]

/-- a result as data, wherever it stands -/
theorem RV.da (h : Rel K Λ ρ σ H) {r : R} {v : V} (q : RV K Λ ρ σ H0 H r v) {d : D} (e : cont ρ r = .ok d) : DA K (fun _ => False) H v d := by
  cases r with
  | val d' => cases e; exact DA.less (fun a z => z.elim) q
  | new o =>
    cases e
    obtain ⟨p, rfl, n, l, m⟩ := q
    exact m.da (fun z => z) fun a z => z.elim
  | slot i =>
    obtain ⟨ev, b, eb⟩ := q
    simp only [cont, eb] at e
    cases e
    cases b with
    | val d' =>
      obtain ⟨w, ew, hd⟩ := h.val i d' eb
      rw [ev] at ew; cases ew
      exact hd.less fun a z => z.elim
    | own o =>
      obtain ⟨p, ew, _, m⟩ := h.own i o eb
      rw [ev] at ew; cases ew
      exact m.da (fun z => z) fun a z => z.elim
theorem RVs.das (h : Rel K Λ ρ σ H) : ∀ {rs : List R} {vs : List V} {ds : List D}, RVs K Λ ρ σ H0 H rs vs → conts ρ rs = .ok ds → DAs K (fun _ => False) H vs ds
  | _, _, _, .nil, e => by cases e; exact .nil
  | _, _, _, .cons q t, e => by
    obtain ⟨d, e1, e⟩ := bind_eq e
    obtain ⟨ds, e2, e⟩ := bind_eq e
    cases e
    exact .cons (q.da h e1) (RVs.das h t e2)

theorem set_get {α : Type} {l : List α} {i j : Nat} {x y : α} (h : (l.set i x)[j]? = some y) : (i = j ∧ x = y) ∨ (i ≠ j ∧ l[j]? = some y) := by
  by_cases e : i = j
  · subst e
    by_cases hi : i < l.length
    · rw [List.getElem?_set_self hi] at h
      cases h
      exact .inl ⟨rfl, rfl⟩
    · rw [List.getElem?_eq_none (by simpa using hi)] at h; cases h
  · rw [List.getElem?_set_ne e] at h
    exact .inr ⟨e, h⟩
/-- an owned object let go -/
theorem Rel.release (h : Rel K Λ ρ σ H) {i : Nat} {o : MO} (e : ρ[i]? = some (some (.own o))) : Rel K Λ (ρ.set i (some (.val o.d))) σ H ∧ Sub (ρ.set i (some (.val o.d))) ρ ∧ (∀ a, OwnA (ρ.set i (some (.val o.d))) σ a → OwnA ρ σ a) := by
  have own : ∀ a, OwnA (ρ.set i (some (.val o.d))) σ a → OwnA ρ σ a ∧ ¬ σ[i]? = some (some (.ref a)) := fun a ⟨j, o', e1, e2⟩ => by
    rcases set_get e1 with ⟨_, z⟩ | ⟨n, z⟩
    · cases z
    · exact ⟨⟨j, o', z, e2⟩, fun z2 => n (h.dis i j o o' a e z z2 e2)⟩
  have sub : Sub (ρ.set i (some (.val o.d))) ρ := fun j => by
    by_cases n : i = j
    · subst n
      have hi : i < ρ.length := (List.getElem?_eq_some_iff.mp e).1
      rw [List.getElem?_set_self hi, e]
      exact ⟨o, rfl⟩
    · rw [List.getElem?_set_ne n]; exact SubB.refl _
  have hl : ∀ a, Hid Λ (ρ.set i (some (.val o.d))) σ a → Hid Λ ρ σ a := fun a z => z.elim .inl fun q => .inr (own a q).1
  refine ⟨⟨by rw [List.length_set]; exact h.len, fun j d ej => ?_, fun j o' ej => ?_, fun j k o1 o2 a e1 e2 s1 s2 => ?_, h.lam⟩, sub, fun a q => (own a q).1⟩
  · rcases set_get ej with ⟨n, z⟩ | ⟨n, z⟩
    · subst n
      cases z
      obtain ⟨a, ea, na, m⟩ := h.own i o e
      refine ⟨_, ea, m.da (fun z => ?_) hl⟩
      rcases z with z | z
      · exact na z
      · exact (own a z).2 ea
    · obtain ⟨v, ev, q⟩ := h.val j d z
      exact ⟨v, ev, q.less hl⟩
  · rcases set_get ej with ⟨n, z⟩ | ⟨n, z⟩
    · cases z
    · obtain ⟨a, ea, na, m⟩ := h.own j o' z
      exact ⟨a, ea, na, m.keep (fun _ e => e) fun b u nb eb => ⟨fun z => nb (hl b z), eb⟩⟩
  · rcases set_get e1 with ⟨_, z1⟩ | ⟨_, z1⟩
    · cases z1
    · rcases set_get e2 with ⟨_, z2⟩ | ⟨_, z2⟩
      · cases z2
      · exact h.dis j k o1 o2 a z1 z2 s1 s2
/-- a result let go: data that stands still; what was hidden for it is no longer -/
theorem RV.let_go {pin : Option Nat} (h : Rel K Λ ρ σ H) (a : Aft K Λ Λ1 ρ ρ1 σ H H1) {r : R} {v : V} {d : D} {ρ2 : ES} (q : RV K Λ1 ρ1 σ H H1 r v) (e : still pin ρ1 r = .ok (d, ρ2)) :
    Aft K Λ Λ ρ ρ2 σ H H1 ∧ Aft K Λ1 Λ1 ρ1 ρ2 σ H1 H1 ∧ DA K (Hid Λ ρ2 σ) H1 v d := by
  have up : ∀ b, Λ b → Λ1 b := a.ext.1
  cases r with
  | val d' =>
    cases e
    exact ⟨⟨Ext.refl _ _, a.rel.mono up, a.fr, a.sub, a.own⟩, Aft.refl a.rel, DA.less (fun b z => Hid.less up (fun _ q => q) z) q⟩
  | new o =>
    cases e
    obtain ⟨p, rfl, n, l, m⟩ := q
    refine ⟨⟨Ext.refl _ _, a.rel.mono up, a.fr, a.sub, a.own⟩, Aft.refl a.rel, m.da (fun z => ?_) fun b z => Hid.less up (fun _ q => q) z⟩
    rcases z with z | z
    · obtain ⟨u, eu⟩ := h.lam p z
      rw [n] at eu; cases eu
    · exact (a.rel.ownThere z).1 l
  | slot i =>
    obtain ⟨ev, b, eb⟩ := q
    simp only [DI.still, eb] at e
    cases b with
    | val d' =>
      cases e
      obtain ⟨w, ew, hd⟩ := a.rel.val i _ eb
      rw [ev] at ew; cases ew
      exact ⟨⟨Ext.refl _ _, a.rel.mono up, a.fr, a.sub, a.own⟩, Aft.refl a.rel, hd.less fun b z => Hid.less up (fun _ q => q) z⟩
    | own o =>
      by_cases hp : pin = some i
      · simp [hp] at e
      · simp [hp] at e
        obtain ⟨rfl, rfl⟩ := e
        obtain ⟨r2, s2, o2⟩ := a.rel.release eb
        obtain ⟨w, ew, hd⟩ := (r2.mono up).val i o.d (List.getElem?_set_self (List.getElem?_eq_some_iff.mp eb).1)
        rw [ev] at ew; cases ew
        refine ⟨⟨Ext.refl _ _, r2.mono up, a.fr, s2.trans a.sub, a.own⟩, ⟨Ext.refl _ _, r2, Fr.refl _ _ _, s2, fun b q => (a.rel.ownThere q).2⟩, hd⟩
theorem RVs.let_go {pin : Option Nat} : ∀ {rs : List R} {vs : List V} {Λ Λ1 : Addr → Prop} {ρ ρ1 : ES} {H H1 : Hp} {ds : List D} {ρ2 : ES}, Rel K Λ ρ σ H → Aft K Λ Λ1 ρ ρ1 σ H H1 → RVs K Λ1 ρ1 σ H H1 rs vs → stills pin rs ρ1 = .ok (ds, ρ2) →
    Aft K Λ Λ ρ ρ2 σ H H1 ∧ Aft K Λ1 Λ1 ρ1 ρ2 σ H1 H1 ∧ DAs K (Hid Λ ρ2 σ) H1 vs ds
  | [], _, Λ, Λ1, _, _, _, _, _, _, h, a, .nil, e => by
    cases e
    exact ⟨⟨Ext.refl _ _, a.rel.mono a.ext.1, a.fr, a.sub, a.own⟩, Aft.refl a.rel, .nil⟩
  | r :: rs, _ :: _, Λ, Λ1, _, _, _, _, _, _, h, a, .cons q t, e => by
    obtain ⟨⟨d, ρ3⟩, e1, e⟩ := bind_eq e
    obtain ⟨⟨ds, ρ4⟩, e2, e⟩ := bind_eq e
    cases e
    obtain ⟨a1, b1, q1⟩ := q.let_go h a e1
    have a3 := a.trans h b1
    obtain ⟨a4, b4, q4⟩ := RVs.let_go h a3 (t.keep a.rel b1) e2
    refine ⟨a4, b1.trans a.rel b4, .cons (q1.keep fun x o n ex => ⟨fun z => n ?_, ex⟩) q4⟩
    exact Hid.less (fun _ z => z) (fun x z => b4.sub.ownA z) z
end
end DI
end

section
set_option maxRecDepth 100000
/-! KD: the parts of an expression in a row; operators, comparisons, and, or, not. -/
namespace DI
open PySem L2

section
variable {K : PySem.W.Frag} {Λ Λ1 : Addr → Prop} {ρ ρ' ρ1 : ES} {σ : St} {H H' H0 H1 : Hp}
theorem upd_grow {p : Addr} {o : HO} (hp : H p = none) : ∀ (a : Addr) (u : HO), H a = some u → upd H p o a = some u := fun a u e => by
  rw [upd_ne (ne_of_none e hp)]; exact e
theorem Aft.grow {p : Addr} {o : HO} (a : Aft K Λ Λ1 ρ ρ1 σ H H1) (hp : H1 p = none) : Aft K Λ Λ1 ρ ρ1 σ H (upd H1 p o) :=
  ⟨a.ext, a.rel.grow (upd_grow hp), fun x u e n => upd_grow hp x u (a.fr x u e n), a.sub, fun x q => let ⟨u, e⟩ := a.own x q; ⟨u, upd_grow hp x u e⟩⟩
theorem Aft.new {p : Addr} {o : HO} (h : Rel K Λ ρ σ H) (a : Aft K Λ Λ1 ρ ρ1 σ H H1) (hp : H1 p = none) : Aft K Λ (fun b => Λ1 b ∨ b = p) ρ ρ1 σ H (upd H1 p o) :=
  ⟨⟨fun x q => .inl (a.ext.1 x q), fun x q => q.elim (a.ext.2 x) fun e => .inr (by rw [e]; exact a.gone h p hp)⟩, a.rel.hide hp (upd_grow hp) ⟨o, upd_same⟩, fun x u e n => upd_grow hp x u (a.fr x u e n), a.sub, fun x q => let ⟨u, e⟩ := a.own x q; ⟨u, upd_grow hp x u e⟩⟩
/-- data, when a new object comes -/
theorem Rel.more {p : Addr} {o : HO} (r : Rel K Λ ρ σ H) (hp : H p = none) : ∀ (a : Addr) (u : HO), ¬ Hid Λ ρ σ a → H a = some u → ¬ Hid (fun b => Λ b ∨ b = p) ρ σ a ∧ upd H p o a = some u := fun a u n e => ⟨fun z => by
    rcases z with (z | z) | z
    · exact n (.inl z)
    · rw [z, hp] at e; cases e
    · exact n (.inr z), upd_grow hp a u e⟩
theorem Rel.notHid {p : Addr} (r : Rel K Λ ρ σ H) (hp : H p = none) : ¬ Hid Λ ρ σ p := fun z => by
  obtain ⟨u, e⟩ := r.hidThere z
  rw [hp] at e; cases e

/-! ### what a result is -/
theorem RV.lst (h : Rel K Λ ρ σ H) {r : R} {v : V} {xs : List D} (q : RV K Λ ρ σ H0 H r v) (e : cont ρ r = .ok (.list xs)) : ∃ a vs, v = .ref a ∧ H a = some (.lst vs) ∧ DAs K (Hid Λ ρ σ) H vs xs := by
  cases r with
  | val d =>
    cases e
    cases q with
    | lst h1 h2 h3 => exact ⟨_, _, rfl, h2, h3⟩
  | new o =>
    obtain ⟨p, rfl, n, l, m⟩ := q
    cases o with
    | lst ds => cases e; obtain ⟨vs, e1, d⟩ := m; exact ⟨p, vs, rfl, e1, d⟩
    | dic ks ds => cases e
  | slot i =>
    obtain ⟨ev, b, eb⟩ := q
    simp only [cont, eb] at e
    cases b with
    | val d =>
      cases e
      obtain ⟨w, ew, hd⟩ := h.val i _ eb
      rw [ev] at ew; cases ew
      cases hd with
      | lst h1 h2 h3 => exact ⟨_, _, rfl, h2, h3⟩
    | own o =>
      obtain ⟨p, ew, _, m⟩ := h.own i o eb
      rw [ev] at ew; cases ew
      cases o with
      | lst ds => cases e; obtain ⟨vs, e1, d⟩ := m; exact ⟨p, vs, rfl, e1, d⟩
      | dic ks ds => cases e
theorem cont_val (h : Rel K Λ ρ σ H) {r : R} {v : V} {d : D} (q : RV K Λ ρ σ H0 H r v) (e : cont ρ r = .ok d) (hl : ∀ xs, d ≠ .list xs) (hd : ∀ xs, d ≠ .dict xs) : DA K (Hid Λ ρ σ) H v d := by
  cases r with
  | val d' => cases e; exact q
  | new o => cases o <;> cases e <;> first | exact absurd rfl (hl _) | exact absurd rfl (hd _)
  | slot i =>
    obtain ⟨ev, b, eb⟩ := q
    simp only [cont, eb] at e
    cases b with
    | val d' =>
      cases e
      obtain ⟨w, ew, hd⟩ := h.val i _ eb
      rw [ev] at ew; cases ew
      exact hd
    | own o => cases o <;> cases e <;> first | exact absurd rfl (hl _) | exact absurd rfl (hd _)
theorem RV.tup (h : Rel K Λ ρ σ H) {r : R} {v : V} {xs : List D} (q : RV K Λ ρ σ H0 H r v) (e : cont ρ r = .ok (.tuple xs)) : ∃ a vs, v = .ref a ∧ SqT K H a vs ∧ DAs K (Hid Λ ρ σ) H vs xs ∧ DA K (Hid Λ ρ σ) H v (.tuple xs) := by
  have q2 := cont_val h q e (fun _ => nofun) (fun _ => nofun)
  cases q2 with
  | tup h1 h2 h3 => exact ⟨_, _, rfl, SqT.of h2, h3, .tup h1 h2 h3⟩
  | tupK h1 h3 => exact ⟨_, _, rfl, SqT_K h1 H, h3, .tupK h1 h3⟩
theorem RV.scr (h : Rel K Λ ρ σ H) {r : R} {v : V} {xs : List D} (q : RV K Λ ρ σ H0 H r v) (e : cont ρ r = .ok (.dict [(.none, .list xs)])) : ∃ a vs, v = .ref a ∧ SqL K H a vs ∧ DAs K (Hid Λ ρ σ) H vs xs := by
  have no : ∀ o : MO, o.d ≠ .dict [(.none, .list xs)] := fun o z => by
    cases o with
    | lst l => cases z
    | dic ks ds =>
      injection z with z
      cases ks with
      | nil => cases z
      | cons k ks =>
        cases ds with
        | nil => cases z
        | cons d ds => cases k <;> cases z
  cases r with
  | val d =>
    cases e
    obtain ⟨a, vs, e1, e2, e3⟩ := DA.scrq q
    exact ⟨a, vs, e1, e3, e2⟩
  | new o =>
    simp only [cont] at e
    exact absurd (by injection e) (no o)
  | slot i =>
    obtain ⟨ev, b, eb⟩ := q
    simp only [cont, eb] at e
    cases b with
    | val d' =>
      cases e
      obtain ⟨w, ew, hd⟩ := h.val i _ eb
      rw [ev] at ew; cases ew
      obtain ⟨a, vs, e1, e2, e3⟩ := DA.scrq hd
      exact ⟨a, vs, e1, e3, e2⟩
    | own o => exact absurd (by injection e) (no o)
theorem RV.int (h : Rel K Λ ρ σ H) {r : R} {v : V} {i : Int} (q : RV K Λ ρ σ H0 H r v) (e : cont ρ r = .ok (.int i)) : v = .int i := by
  have q2 := cont_val h q e (fun _ => nofun) (fun _ => nofun)
  cases q2; rfl
theorem RV.str (h : Rel K Λ ρ σ H) {r : R} {v : V} {x : Str} (q : RV K Λ ρ σ H0 H r v) (e : cont ρ r = .ok (.str x)) : v = .str x := by
  have q2 := cont_val h q e (fun _ => nofun) (fun _ => nofun)
  cases q2; rfl
theorem RV.bl (h : Rel K Λ ρ σ H) {r : R} {v : V} {b : Bool} (q : RV K Λ ρ σ H0 H r v) (e : cont ρ r = .ok (.bool b)) : v = .bl b := by
  have q2 := cont_val h q e (fun _ => nofun) (fun _ => nofun)
  cases q2; rfl
theorem asBool_val {r : R} {b : Bool} (e : asBool r = .ok b) : r = .val (.bool b) := by
  cases r with
  | val d => cases d <;> cases e; rfl
  | new o => cases e
  | slot i => cases e

/-! ### two parts in a row -/
theorem two {f g : ES → Out (R × ES)} {r1 r2 : R} {ρ2 : ES} {T : V → V → Hp → Prop} (h : Rel K Λ ρ σ H) (hf : f ρ = .ok (r1, ρ1)) (hg : g ρ1 = .ok (r2, ρ2))
    (k : ∀ (x y : V) (H2 : Hp) (Λ2 : Addr → Prop), Aft K Λ Λ2 ρ ρ2 σ H H2 → RV K Λ2 ρ2 σ H H2 r1 x → RV K Λ2 ρ2 σ H H2 r2 y → T x y H2) : TEof K f σ H fun x H1 => TEof K g σ H1 fun y H2 => T x y H2 :=
  ⟨Λ, ρ, r1, ρ1, h, hf, fun x H1 Λ1 a1 q1 => ⟨Λ1, ρ1, r2, ρ2, a1.rel, hg, fun y H2 Λ2 a2 q2 => k x y H2 Λ2 (a1.trans h a2) (q1.keep a1.rel a2) (q2.from_ (a1.gone h))⟩⟩
/-- .. with results for two parts, weaker ends -/
theorem TEof.imp {f : ES → Out (R × ES)} {Q Q' : VK} (h : TEof K f σ H Q) (i : ∀ v H', Q v H' → Q' v H') : TEof K f σ H Q' :=
  let ⟨Λ, ρ, r, ρ', hr, e, k⟩ := h
  ⟨Λ, ρ, r, ρ', hr, e, fun v H' Λf a q => i v H' (k v H' Λf a q)⟩
end

/-! ### operators -/
def opB : Operator → Option BO
  | .Add => some .add | .Sub => some .sub | .Mult => some .mul | .FloorDiv => some .fdiv | .Mod => some .mod | .Pow => some .pow
  | _ => none
section
variable {X : Cx} {a b c : Expr} {f g e : ES → Out (R × ES)} {pos : Pos}
theorem le_sz {n : Nat} (h : n ≤ SZ) : n ≤ sizeLine := by rw [sizeLine_eq]; exact h

theorem small64_ok {i : Int} (h : small64 i = true) : -(2 ^ 64) < i ∧ i < 2 ^ 64 := by
  simpa [small64, Bool.and_eq_true, decide_eq_true_eq] using h

/-- a tuple, many times -/
theorem op_repW : OpR X (binaryOp .Mult) (fun x y H Q => ∃ l k xs, x = .ref l ∧ y = .int k ∧ SqT X.K H l xs ∧ 0 < xs.length ∧ 2 ≤ k ∧ k ≤ 10000 ∧ xs.length ≤ 1000 ∧ ∀ p, H p = none → Q (.ref p) (upd H p (.tup (List.replicate k.toNat xs).flatten))) := by
  rintro pins s σ H x y v u Q I rx ry ⟨l, k, xs, rfl, rfl, hT, hpos, h1, h2, hz, q⟩
  cases rx
  obtain ⟨tk, rfl⟩ := ry
  obtain ⟨its, rv, tt, hs⟩ := I.tuple hT
  obtain ⟨ob, ho, hc, m, hd⟩ := tt
  obtain ⟨cl, di, da, sl⟩ := ob
  simp only at hc hd
  subst hc; subst hd
  have hle : its.length = xs.length := rv.length.symm
  have hi : its.toArray.isEmpty = false := by
    rcases its with _ | ⟨a, b⟩
    · simp at hle; omega
    · rfl
  have hsz0 : its.toArray.size = xs.length := by rw [List.size_toArray, hle]
  have a0 : ((xs.length : Nat) : Int) * k ≤ 1000 * k := Int.mul_le_mul_of_nonneg_right (by omega) (by omega)
  have hm : ((its.toArray.size : Nat) : Int) * k ≤ 10000000 := by rw [hsz0]; omega
  have fl : k.toNat * xs.length ≤ 10000 * 1000 := Nat.mul_le_mul (by omega) hz
  have flen : (List.replicate k.toNat its).flatten.length ≤ sizeLine := by
    rw [PyProof.Rows.lm_len_rep_flat, hle, sizeLine_eq]; omega
  have c0 : (decide (k < -(2 ^ 63)) || decide (k ≥ 2 ^ 63)) = false := Bool.or_eq_false_iff.mpr ⟨decide_eq_false (by omega), decide_eq_false (by omega)⟩
  have c1 : (its.toArray.isEmpty || k == 1) = false := Bool.or_eq_false_iff.mpr ⟨hi, beq_eq_false_iff_ne.mpr (by omega)⟩
  have c2 : (decide (k ≤ 0) || its.toArray.isEmpty) = false := Bool.or_eq_false_iff.mpr ⟨decide_eq_false (by omega), hi⟩
  have c4 : Builtin.Tuple.tupleTooMany (((its.toArray.size : Nat) : Int) * k) = false := by
    simp only [Builtin.Tuple.tupleTooMany, sizeLine_eq]; exact decide_eq_false (by omega)
  refine wpAny_binaryOp_repeat_ref (T := "tuple") (U := "int") (by decide) ⟨_, ho, rfl⟩ (fun s' => typeIs_int s' k tk) noFill_tuple_mul
    F.fills_int_mul F.slot_int_rmul repeat_tuple F.slot_int_index.lookup (call_meets F.slot_int_rmul (typeIs_int s k tk) F.entry_int_rmul (F.args_int_rmul_2 _ _)
    (int_rmul_tuple k tk l its.toArray m di sl) ⟨ho, rfl, ⟨_, ho, rfl⟩, call_meets F.slot_tuple_mul ⟨_, ho, rfl⟩ F.entry_tuple_mul
      (F.args_tuple_mul_2 _ _) (tuple_mulW l its.toArray m di sl k tk c0 c1 c2 (by omega) c4 (by rw [size_rep, List.size_toArray]; exact flen)) ⟨ho, ?_⟩⟩)
  rw [size_rep]
  have hsz : (List.replicate k.toNat xs).flatten.length ≤ sizeLine := by rw [PyProof.Rows.lm_len_rep_flat, sizeLine_eq]; omega
  exact ⟨.ref s.heap.objs.size, _, I.laid (t' := s.toks) (o := .tup (List.replicate k.toNat xs).flatten) (fun b ob q => Heap.get?_push_of_some _ q)
    (Nat.le_refl _) ⟨hsz, _, rv.rep k.toNat, PyProof.Rows.IsTup.new _ _⟩, rfl, q _ (I.hok.fresh (Nat.le_refl _))⟩
/-- a text, many times -/
theorem op_repS : OpR X (binaryOp .Mult) (fun x y H Q => ∃ z k, x = .str z ∧ y = .int k ∧ 0 ≤ k ∧ k ≤ 10000 ∧ z.length ≤ 1000 ∧ Q (.str (Txt.mul z k)) H) := by
  rintro pins s σ H x y v u Q I rx ry ⟨z, k, rfl, rfl, h1, h2, hz, q⟩
  obtain ⟨t, rfl⟩ := rx
  obtain ⟨t', rfl⟩ := ry
  refine PySem.SB.mul ⟨Bool.or_eq_false_iff.mpr ⟨decide_eq_false (by omega), decide_eq_false (by omega)⟩, fun c1 c2 => ?_, fun c1 c2 => ?_⟩ fun t2 k2 => ⟨.str (Txt.mul z k), H, I.tok k2, ⟨t2, rfl⟩, q⟩
  · have h3 : k = 1 ∨ 2 ≤ k := by omega
    have h4 : (2 ^ 63 - 1) / k ≥ 1000 := by
      refine (Int.le_ediv_iff_mul_le (by omega)).mpr ?_
      omega
    omega
  · refine decide_eq_false ?_
    have := Nat.mul_le_mul hz (show k.toNat ≤ 10000 from Int.toNat_le.mpr h2)
    rw [sizeLine_eq]; omega
end
section
variable {X : Cx} {a b c : Expr} {f g e : ES → Out (R × ES)} {pos : Pos}
def evBin (op : BO) (f g : ES → Out (R × ES)) : ES → Out (R × ES) := fun ρ => Out.bind (f ρ) fun p => Out.bind (g p.2) fun q => Out.bind (cont q.2 p.1) fun x => Out.bind (cont q.2 q.1) fun y => Out.bind (bo op x y) fun r => .ok (r, q.2)
theorem evBin_inv {op : BO} {ρ ρ' : ES} {r : R} (h : evBin op f g ρ = .ok (r, ρ')) : ∃ r1 ρ1 r2 x y, f ρ = .ok (r1, ρ1) ∧ g ρ1 = .ok (r2, ρ') ∧ cont ρ' r1 = .ok x ∧ cont ρ' r2 = .ok y ∧ bo op x y = .ok r := by
  obtain ⟨⟨r1, ρ1⟩, e1, h⟩ := bind_eq h
  obtain ⟨⟨r2, ρ2⟩, e2, h⟩ := bind_eq h
  obtain ⟨x, ex, h⟩ := bind_eq h
  obtain ⟨y, ey, h⟩ := bind_eq h
  obtain ⟨r3, e3, h⟩ := bind_eq h
  cases h
  exact ⟨r1, ρ1, r2, x, y, e1, e2, ex, ey, e3⟩
theorem pe_bin {op : BO} {o : Operator} (ho : opB o = some op) (ha : PE X a (TEof X.K f)) (hb : PE X b (TEof X.K g)) : PE X (.BinOp a o b pos) (TEof X.K (evBin op f g)) := by
  refine ⟨fun pins s σ H Q I ⟨Λ, ρ, r, ρ2, hr, ee, k⟩ => ?_⟩
  obtain ⟨r1, ρ1, r2, x, y, e1, e2, ex, ey, e3⟩ := evBin_inv ee
  clear ee
  have fin : ∀ {R0 : R2}, OpR X (binaryOp o) R0 → (∀ (x y : V) (H2 : Hp) (Λ2 : Addr → Prop), Aft X.K Λ Λ2 ρ ρ2 σ H H2 → RV X.K Λ2 ρ2 σ H H2 r1 x → RV X.K Λ2 ρ2 σ H H2 r2 y → R0 x y H2 Q) →
      wpAny (model X.prog X.w) X.A (eval (.BinOp a o b pos) X.env) (EP X pins σ Q) X.xe s := fun hop hh => (pe_op hop ha hb).run pins s σ H Q I (two hr e1 e2 hh)
  cases o <;> cases ho <;> cases x <;> cases y <;> simp only [bo] at e3 <;> try cases e3
  · exact fin op_add fun u w H2 Λ2 af q1 q2 => ⟨_, _, q1.int af.rel ex, q2.int af.rel ey, k _ _ _ af (show RV _ _ _ _ _ _ (R.val _) _ from DA.int _)⟩
  · split at e3 <;> cases e3
    rename_i hz
    exact fin op_add_str fun u w H2 Λ2 af q1 q2 => ⟨_, _, q1.str af.rel ex, q2.str af.rel ey, le_sz hz, k _ _ _ af (show RV _ _ _ _ _ _ (R.val _) _ from DA.str _)⟩
  · split at e3 <;> cases e3
    rename_i hz
    refine fin op_cat fun u w H2 Λ2 af q1 q2 => ?_
    obtain ⟨p1, v1, rfl, h1, d1⟩ := q1.lst af.rel ex
    obtain ⟨p2, v2, rfl, h2, d2⟩ := q2.lst af.rel ey
    refine ⟨p1, p2, v1, v2, rfl, rfl, h1, h2, le_sz (by rw [d1.length, d2.length]; exact hz), fun p hp => k _ _ _ (af.new hr hp) ⟨p, rfl, af.gone hr p hp, .inr rfl, _, upd_same, ?_⟩⟩
    exact DAs.keep (af.rel.more hp) (d1.append d2)
  · split at e3 <;> cases e3
    rename_i hz
    refine fin op_catA fun u w H2 Λ2 af q1 q2 => ?_
    obtain ⟨p1, v1, rfl, h1, d1, t1⟩ := q1.tup af.rel ex
    obtain ⟨p2, v2, rfl, h2, d2, t2⟩ := q2.tup af.rel ey
    refine ⟨p1, p2, v1, v2, rfl, rfl, h1, h2, le_sz (by rw [d1.length, d2.length]; exact hz), fun z => ?_, fun _ z => ?_, fun _ _ p hp => k _ _ _ (af.grow hp) (show RV _ _ _ _ _ _ (R.val _) _ from DA.tup (af.rel.notHid hp) upd_same ((d1.append d2).grow (upd_grow hp)))⟩
    · subst z
      cases d1
      exact k _ _ _ af (show RV _ _ _ _ _ _ (R.val _) _ from t2)
    · subst z
      cases d2
      rw [List.append_nil] at k
      exact k _ _ _ af (show RV _ _ _ _ _ _ (R.val _) _ from t1)
  · exact fin op_sub fun u w H2 Λ2 af q1 q2 => ⟨_, _, q1.int af.rel ex, q2.int af.rel ey, k _ _ _ af (show RV _ _ _ _ _ _ (R.val _) _ from DA.int _)⟩
  · split at e3 <;> cases e3
    rename_i hz
    refine fin op_mul fun u w H2 Λ2 af q1 q2 => ⟨_, _, q1.int af.rel ex, q2.int af.rel ey, ?_, k _ _ _ af (show RV _ _ _ _ _ _ (R.val _) _ from DA.int _)⟩
    rcases Bool.or_eq_true_iff.mp hz with z | z
    · exact .inl (small64_ok z)
    · exact .inr (small64_ok z)
  · split at e3 <;> cases e3
    rename_i hz
    exact fin op_repS fun u w H2 Λ2 af q1 q2 => ⟨_, _, q1.str af.rel ex, q2.int af.rel ey, hz.1, hz.2.1, hz.2.2, k _ _ _ af (show RV _ _ _ _ _ _ (R.val _) _ from DA.str _)⟩
  · split at e3 <;> cases e3
    rename_i hz
    refine fin op_rep fun u w H2 Λ2 af q1 q2 => ?_
    obtain ⟨p1, v1, rfl, h1, d1⟩ := q1.lst af.rel ex
    refine ⟨p1, _, v1, rfl, q2.int af.rel ey, h1, by omega, by omega, ?_, fun p hp => k _ _ _ (af.new hr hp) ⟨p, rfl, af.gone hr p hp, .inr rfl, _, upd_same, ?_⟩⟩
    · rw [d1.length, sizeLine_eq]
      have := Nat.mul_le_mul hz.2.2 (show (Int.toNat _) ≤ 10000 from Int.toNat_le.mpr hz.2.1)
      omega
    · exact DAs.keep (af.rel.more hp) (d1.rep _)
  · split at e3 <;> cases e3
    rename_i hz
    refine fin op_repW fun u w H2 Λ2 af q1 q2 => ?_
    obtain ⟨p1, v1, rfl, h1, d1, t1⟩ := q1.tup af.rel ex
    refine ⟨p1, _, v1, rfl, q2.int af.rel ey, h1, by rw [d1.length]; exact hz.1, hz.2.1, hz.2.2.1, by rw [d1.length]; exact hz.2.2.2, fun p hp => k _ _ _ (af.grow hp) ?_⟩
    exact DA.tup (af.rel.notHid hp) upd_same ((d1.rep _).grow (upd_grow hp))
  · split at e3 <;> cases e3
    rename_i hz
    exact fin op_mod fun u w H2 Λ2 af q1 q2 => ⟨_, _, q1.int af.rel ex, q2.int af.rel ey, hz, k _ _ _ af (show RV _ _ _ _ _ _ (R.val _) _ from DA.int _)⟩
  · split at e3 <;> cases e3
    rename_i hz
    refine fin op_pow fun u w H2 Λ2 af q1 q2 => ⟨_, _, q1.int af.rel ex, q2.int af.rel ey, ⟨hz.1, hz.2.1, ?_⟩, k _ _ _ af (show RV _ _ _ _ _ _ (R.val _) _ from DA.int _)⟩
    have := small64_ok hz.2.2
    omega
  · split at e3 <;> cases e3
    rename_i hz
    exact fin op_fdiv fun u w H2 Λ2 af q1 q2 => ⟨_, _, q1.int af.rel ex, q2.int af.rel ey, hz, k _ _ _ af (show RV _ _ _ _ _ _ (R.val _) _ from DA.int _)⟩
end
end DI
end

section
set_option maxRecDepth 100000
/-! KE1: comparisons, and, or, not, constants, names. -/
namespace DI
open PySem L2

def coOp : CO → CmpOp
  | .eq => .Eq | .ne => .NotEq | .lt => .Lt | .le => .LtE | .gt => .Gt | .ge => .GtE
  | .isN => .Is | .notN => .IsNot | .isB => .Is | .notB => .IsNot | .inn => .In | .nin => .NotIn

mutual
theorem pl_canLay : ∀ d : D, d.canLay0 = true → pl d = true
  | .none, _ => by simp [pl]
  | .bool _, _ => by simp [pl]
  | .int _, _ => by simp [pl]
  | .str _, _ => by simp [pl]
  | .list xs, h => by simp only [pl]; exact pls_canLay xs (by simpa [PyData.canLay0] using h)
  | .tuple xs, h => by simp only [pl]; exact pls_canLay xs (by simpa [PyData.canLay0] using h)
  | .dict _, h => by simp [PyData.canLay0] at h
theorem pls_canLay : ∀ xs : List D, PyData.canLayAll0 xs = true → pls xs = true
  | [], _ => by simp [pls]
  | x :: xs, h => by
    have h' : x.canLay0 = true ∧ PyData.canLayAll0 xs = true := by simpa [PyData.canLayAll0] using h
    simp only [pls, pl_canLay x h'.1, pls_canLay xs h'.2, Bool.and_self]
end
theorem pl_shaped {d : D} (h : SeqAt.shaped d = true) : pl d = true := pl_canLay d (SeqAt.canLay_of_shaped h)

section
variable {K : PySem.W.Frag} {Z : Addr → Prop} {H : Hp}
theorem DA.non_iff {v : V} {d : D} (h : DA K Z H v d) : decide (v = .non) = isNon d := by
  cases h <;> simp [isNon, scr]
theorem DA.flat {v : V} {d : D} (h : DA K Z H v d) (f : flatD d = true) : flatV v = true := by
  cases h <;> first | rfl | cases f
theorem DAs.flat : ∀ {vs : List V} {ds : List D}, DAs K Z H vs ds → ds.all flatD = true → vs.all flatV = true
  | _, _, .nil, _ => rfl
  | _, _, .cons h t, f => by
    simp only [List.all_cons, Bool.and_eq_true] at f ⊢
    exact ⟨h.flat f.1, DAs.flat t f.2⟩
theorem eqV_eqv {x y : V} {d e : D} (h : DA K Z H x d) (g : DA K Z H y e) (f1 : flatD d = true) (f2 : flatD e = true) : eqV x y = PyData.eqv d e := by
  cases h <;> cases g <;> first | (cases f1; done) | (cases f2; done) | (simp [eqV, PyData.eqv]; done) | (rename_i b i; cases b <;> simp [eqV, PyData.eqv]) | (rename_i i b; cases b <;> simp [eqV, PyData.eqv])
theorem inV_eqv {x : V} {d : D} (h : DA K Z H x d) (f : flatD d = true) : ∀ {vs : List V} {ds : List D}, DAs K Z H vs ds → ds.all flatD = true → inV x vs = ds.any fun z => PyData.eqv z d
  | _, _, .nil, _ => rfl
  | _, _, .cons g t, q => by
    simp only [List.all_cons, Bool.and_eq_true] at q
    have ih := inV_eqv h f t q.2
    simp only [inV, List.any_cons] at ih ⊢
    rw [eqV_eqv g h q.1 f, ih]
end

theorem co_eq_gen {x y : D} (h : ∀ s t, x = .str s → y = .str t → False) : co .eq x y = if SeqAt.shaped x && SeqAt.shaped y then .ok (PyData.eqv x y) else .stuck := by
  cases x <;> cases y <;> first | rfl | exact (h _ _ rfl rfl).elim
theorem co_ne_gen {x y : D} (h : ∀ s t, x = .str s → y = .str t → False) : co .ne x y = if SeqAt.shaped x && SeqAt.shaped y then .ok (!PyData.eqv x y) else .stuck := by
  cases x <;> cases y <;> first | rfl | exact (h _ _ rfl rfl).elim
section
variable {X : Cx}
theorem co_rule (hu : X.A.units + 65 < cLine) {op : CO} {x y : D} {b : Bool} (e3 : co op x y = .ok b) : ∃ R0 : R2, OpR X (compareOp (coOp op)) R0 ∧
    ∀ {Λ : Addr → Prop} {ρ : ES} {σ : St} {H0 H : Hp} {r1 r2 : R} {u w : V} {Q : VK}, Rel X.K Λ ρ σ H → RV X.K Λ ρ σ H0 H r1 u → RV X.K Λ ρ σ H0 H r2 w → cont ρ r1 = .ok x → cont ρ r2 = .ok y → Q (.bl b) H → R0 u w H Q := by
  cases op with
  | eq =>
    by_cases hst : ∃ s t, x = .str s ∧ y = .str t
    · obtain ⟨s, t, rfl, rfl⟩ := hst
      cases e3
      refine ⟨_, op_eq, fun h q1 q2 ex ey k => ?_⟩
      have h1 := q1.str h ex
      have h2 := q2.str h ey
      subst h1
      subst h2
      refine ⟨rfl, ?_⟩
      have e : decide (V.str s = V.str t) = decide (s = t) := by
        by_cases g : s = t <;> simp [g]
      rw [e]
      exact k
    rw [co_eq_gen fun s t e1 e2 => hst ⟨s, t, e1, e2⟩] at e3
    refine ⟨_, op_eqD (by omega), fun h q1 q2 ex ey k => ?_⟩
    split at e3 <;> cases e3
    rename_i hs
    obtain ⟨s1, s2⟩ := Bool.and_eq_true_iff.mp hs
    exact ⟨x, y, (q1.da h ex).dp (pl_shaped s1), (q2.da h ey).dp (pl_shaped s2), s1, s2, k⟩
  | ne =>
    by_cases hst : ∃ s t, x = .str s ∧ y = .str t
    · obtain ⟨s, t, rfl, rfl⟩ := hst
      cases e3
      refine ⟨_, op_ne, fun h q1 q2 ex ey k => ?_⟩
      have h1 := q1.str h ex
      have h2 := q2.str h ey
      subst h1
      subst h2
      refine ⟨rfl, ?_⟩
      have e : decide (V.str s = V.str t) = decide (s = t) := by
        by_cases g : s = t <;> simp [g]
      rw [e]
      exact k
    rw [co_ne_gen fun s t e1 e2 => hst ⟨s, t, e1, e2⟩] at e3
    refine ⟨_, op_neD (by omega), fun h q1 q2 ex ey k => ?_⟩
    split at e3 <;> cases e3
    rename_i hs
    obtain ⟨s1, s2⟩ := Bool.and_eq_true_iff.mp hs
    exact ⟨x, y, (q1.da h ex).dp (pl_shaped s1), (q2.da h ey).dp (pl_shaped s2), s1, s2, k⟩
  | lt =>
    cases x <;> cases y <;> simp only [co] at e3 <;> cases e3
    · exact ⟨_, op_lt, fun h q1 q2 ex ey k => ⟨_, _, q1.int h ex, q2.int h ey, k⟩⟩
    · exact ⟨_, op_lt_str, fun h q1 q2 ex ey k => ⟨_, _, q1.str h ex, q2.str h ey, k⟩⟩
  | le =>
    cases x <;> cases y <;> simp only [co] at e3 <;> cases e3
    · exact ⟨_, op_le, fun h q1 q2 ex ey k => ⟨_, _, q1.int h ex, q2.int h ey, k⟩⟩
    · exact ⟨_, op_le_str, fun h q1 q2 ex ey k => ⟨_, _, q1.str h ex, q2.str h ey, k⟩⟩
  | gt =>
    cases x <;> cases y <;> simp only [co] at e3 <;> cases e3
    · exact ⟨_, op_gt, fun h q1 q2 ex ey k => ⟨_, _, q1.int h ex, q2.int h ey, k⟩⟩
    · exact ⟨_, op_gt_str, fun h q1 q2 ex ey k => ⟨_, _, q1.str h ex, q2.str h ey, k⟩⟩
  | ge =>
    cases x <;> cases y <;> simp only [co] at e3 <;> cases e3
    · exact ⟨_, op_ge, fun h q1 q2 ex ey k => ⟨_, _, q1.int h ex, q2.int h ey, k⟩⟩
    · exact ⟨_, op_ge_str, fun h q1 q2 ex ey k => ⟨_, _, q1.str h ex, q2.str h ey, k⟩⟩
  | isN =>
    cases y with
    | none =>
      cases e3
      refine ⟨_, op_isN, fun h q1 q2 ex ey k => ?_⟩
      have h2 := q2.da h ey
      have h1 := (q1.da h ex).non_iff
      cases h2
      exact ⟨rfl, by rw [h1]; exact k⟩
    | _ => cases e3
  | notN =>
    cases y with
    | none =>
      cases e3
      refine ⟨_, op_notN, fun h q1 q2 ex ey k => ?_⟩
      have h2 := q2.da h ey
      have h1 := (q1.da h ex).non_iff
      cases h2
      exact ⟨rfl, by rw [h1]; exact k⟩
    | _ => cases e3
  | isB =>
    cases x <;> cases y <;> simp only [co] at e3 <;> cases e3
    exact ⟨_, op_isBl, fun h q1 q2 ex ey k => ⟨_, _, q1.bl h ex, q2.bl h ey, k⟩⟩
  | notB =>
    cases x <;> cases y <;> simp only [co] at e3 <;> cases e3
    exact ⟨_, op_notBl, fun h q1 q2 ex ey k => ⟨_, _, q1.bl h ex, q2.bl h ey, k⟩⟩
  | inn =>
    simp only [co] at e3
    split at e3 <;> cases e3
    rename_i c hc
    cases y with
    | list xs =>
      simp only [inD] at hc
      split at hc <;> cases hc
      rename_i hs
      obtain ⟨s1, s2⟩ := Bool.and_eq_true_iff.mp hs
      exact ⟨_, op_inD hu, fun h q1 q2 ex ey k => ⟨x, xs, (q1.da h ex).dp (pl_shaped s1), (q2.da h ey).dp (pl_shaped s2), s1, s2, k⟩⟩
    | tuple xs =>
      simp only [inD] at hc
      split at hc <;> cases hc
      rename_i hs
      obtain ⟨s1, s2⟩ := Bool.and_eq_true_iff.mp hs
      refine ⟨_, op_in_seq, fun h q1 q2 ex ey k => ?_⟩
      obtain ⟨a, vs, rfl, hq, d1, _⟩ := q2.tup h ey
      have d0 := d1.less (Z' := fun _ => False) (fun _ z => z.elim)
      refine ⟨a, vs, rfl, .inr hq, (q1.da h ex).flat s1, d1.flat s2, ?_⟩
      rw [if_neg Bool.false_ne_true, inV_eqv (q1.da h ex) s1 d0 s2]
      exact k
    | str z =>
      cases x <;> simp only [inD] at hc <;> try (cases hc; done)
      rename_i s
      obtain ⟨⟨l⟩⟩ := s
      simp only [inStr] at hc
      rcases l with _ | ⟨a, _ | ⟨b, l⟩⟩ <;> cases hc
      exact ⟨_, op_in_sign, fun h q1 q2 ex ey k => ⟨a, z, q1.str h ex, q2.str h ey, k⟩⟩
    | _ => cases hc
  | nin =>
    simp only [co] at e3
    split at e3 <;> cases e3
    rename_i c hc
    cases y with
    | list xs =>
      simp only [inD] at hc
      split at hc <;> cases hc
      rename_i hs
      obtain ⟨s1, s2⟩ := Bool.and_eq_true_iff.mp hs
      exact ⟨_, op_notInD hu, fun h q1 q2 ex ey k => ⟨x, xs, (q1.da h ex).dp (pl_shaped s1), (q2.da h ey).dp (pl_shaped s2), s1, s2, k⟩⟩
    | tuple xs =>
      simp only [inD] at hc
      split at hc <;> cases hc
      rename_i hs
      obtain ⟨s1, s2⟩ := Bool.and_eq_true_iff.mp hs
      refine ⟨_, op_notIn_seq, fun h q1 q2 ex ey k => ?_⟩
      obtain ⟨a, vs, rfl, hq, d1, _⟩ := q2.tup h ey
      have d0 := d1.less (Z' := fun _ => False) (fun _ z => z.elim)
      refine ⟨a, vs, rfl, .inr hq, (q1.da h ex).flat s1, d1.flat s2, ?_⟩
      rw [if_pos rfl, inV_eqv (q1.da h ex) s1 d0 s2]
      exact k
    | str z =>
      cases x <;> simp only [inD] at hc <;> try (cases hc; done)
      rename_i s
      obtain ⟨⟨l⟩⟩ := s
      simp only [inStr] at hc
      rcases l with _ | ⟨a, _ | ⟨b, l⟩⟩ <;> cases hc
      exact ⟨_, op_notIn_sign, fun h q1 q2 ex ey k => ⟨a, z, q1.str h ex, q2.str h ey, k⟩⟩
    | _ => cases hc
end
end DI
end

section
set_option maxRecDepth 100000
/-! KE2: built-in functions over data. -/
namespace DI
open PySem L2

/-- what a built-in is called, and what it is -/
def biName : BI → Str
  | .len => "len" | .all => "all" | .any => "any" | .int => "int" | .str => "str" | .tuple => "tuple" | .list => "list" | .abs => "abs" | .max => "max" | .min => "min" | .divmod => "divmod" | .repr => "repr" | .sum => "sum"
def biVal : BI → Value
  | .len => .builtin "len" | .all => .builtin "all" | .any => .builtin "any" | .int => .type "int" | .str => .type "str" | .tuple => .type "tuple" | .list => .type "list" | .abs => .builtin "abs"
  | .max => .builtin "max" | .min => .builtin "min" | .divmod => .builtin "divmod" | .repr => .builtin "repr" | .sum => .builtin "sum"

theorem bi_len_scr {xs : List (D × D)} {r : R} (e : bi .len [.dict xs] = .ok r) : ∃ l, xs = [(.none, .list l)] ∧ r = .val (.int l.length) := by
  rcases xs with _ | ⟨⟨k, v⟩, _ | ⟨y, t⟩⟩
  · cases e
  · cases k <;> cases v <;> first | (cases e; done) | (cases e; exact ⟨_, rfl, rfl⟩)
  · obtain ⟨k', v'⟩ := y
    cases k <;> cases v <;> cases e
theorem bools_vs {K : PySem.W.Frag} {Z : Addr → Prop} {H : Hp} : ∀ {vs : List V} {ds : List D} {bs : List Bool}, DAs K Z H vs ds → bools? ds = some bs → vs = bs.map V.bl
  | _, [], _, .nil, e => by cases e; rfl
  | _, d :: ds, _, .cons h t, e => by
    cases d <;> simp only [bools?] at e <;> try (cases e; done)
    cases q : bools? ds with
    | none => rw [q] at e; cases e
    | some l =>
      rw [q] at e; cases e
      cases h
      rw [bools_vs t q]; rfl
theorem ints_vs {K : PySem.W.Frag} {Z : Addr → Prop} {H : Hp} : ∀ {vs : List V} {ds : List D} {bs : List Int}, DAs K Z H vs ds → ints? ds = some bs → vs = bs.map V.int
  | _, [], _, .nil, e => by cases e; rfl
  | _, d :: ds, _, .cons h t, e => by
    cases d <;> simp only [ints?] at e <;> try (cases e; done)
    cases q : ints? ds with
    | none => rw [q] at e; cases e
    | some l =>
      rw [q] at e; cases e
      cases h
      rw [ints_vs t q]; rfl
theorem strs_vs {K : PySem.W.Frag} {Z : Addr → Prop} {H : Hp} : ∀ {vs : List V} {ds : List D} {bs : List Str}, DAs K Z H vs ds → strs? ds = some bs → vs = bs.map V.str
  | _, [], _, .nil, e => by cases e; rfl
  | _, d :: ds, _, .cons h t, e => by
    cases d <;> simp only [strs?] at e <;> try (cases e; done)
    cases q : strs? ds with
    | none => rw [q] at e; cases e
    | some l =>
      rw [q] at e; cases e
      cases h
      rw [strs_vs t q]; rfl
theorem maxI_go : ∀ (l : List Int) (a : Int), (l.foldl (fun m x => if x > m then x else m) a) ∈ a :: l ∧ ∀ y ∈ a :: l, y ≤ l.foldl (fun m x => if x > m then x else m) a
  | [], a => by simp
  | b :: l, a => by
    rw [List.foldl_cons]
    obtain ⟨h1, h2⟩ := maxI_go l (if b > a then b else a)
    refine ⟨?_, fun y hy => ?_⟩
    · rcases List.mem_cons.mp h1 with e | h
      · rw [e]; split <;> simp
      · simp [h]
    · have h3 := h2 _ List.mem_cons_self
      rcases List.mem_cons.mp hy with rfl | hy
      · refine Int.le_trans ?_ h3
        split <;> omega
      · rcases List.mem_cons.mp hy with rfl | hy
        · refine Int.le_trans ?_ h3
          split <;> omega
        · exact h2 y (List.mem_cons_of_mem _ hy)
theorem minI_go : ∀ (l : List Int) (a : Int), (l.foldl (fun m x => if x < m then x else m) a) ∈ a :: l ∧ ∀ y ∈ a :: l, l.foldl (fun m x => if x < m then x else m) a ≤ y
  | [], a => by simp
  | b :: l, a => by
    rw [List.foldl_cons]
    obtain ⟨h1, h2⟩ := minI_go l (if b < a then b else a)
    refine ⟨?_, fun y hy => ?_⟩
    · rcases List.mem_cons.mp h1 with e | h
      · rw [e]; split <;> simp
      · simp [h]
    · have h3 := h2 _ List.mem_cons_self
      rcases List.mem_cons.mp hy with rfl | hy
      · refine Int.le_trans h3 ?_
        split <;> omega
      · rcases List.mem_cons.mp hy with rfl | hy
        · refine Int.le_trans h3 ?_
          split <;> omega
        · exact h2 y (List.mem_cons_of_mem _ hy)

mutual
theorem noDict_pl : ∀ d : D, pl d = true → d.hasDict = false
  | .none, _ => by simp [PyData.hasDict]
  | .bool _, _ => by simp [PyData.hasDict]
  | .int _, _ => by simp [PyData.hasDict]
  | .str _, _ => by simp [PyData.hasDict]
  | .list xs, h => by simp only [PyData.hasDict]; exact noDicts_pl xs (by simpa [pl] using h)
  | .tuple xs, h => by simp only [PyData.hasDict]; exact noDicts_pl xs (by simpa [pl] using h)
  | .dict _, h => by simp [pl] at h
theorem noDicts_pl : ∀ xs : List D, pls xs = true → PyData.hasDictAll xs = false
  | [], _ => by simp [PyData.hasDictAll]
  | x :: xs, h => by
    have h' : pl x = true ∧ pls xs = true := by simpa [pls] using h
    simp only [PyData.hasDictAll, noDict_pl x h'.1, noDicts_pl xs h'.2, Bool.or_self]
end

section
variable {X : Cx}
/-- repr of data -/
theorem call_reprD (hu : X.A.units + 70 < cLine) (hg : X.A.guards = some []) : CallR X (.builtin "repr") (fun xs H Q => ∃ v d, xs = [v] ∧ Dp X.K H v d ∧ pl d = true ∧ d.showable = true ∧ d.depth ≤ 64 ∧ d.shown.length ≤ SZ ∧ Q (.str d.shown) H) := by
  rintro pins s σ H xs us Q I rs ⟨v, d, rfl, hd, hp, hs, h64, hz, q⟩
  obtain ⟨u, rfl, ru⟩ := vals1 rs
  obtain ⟨as, r⟩ := Dp.reads I d v u hd ru
  have hz' : d.shown.length ≤ sizeLine := le_sz hz
  cases hd with
  | non =>
    cases ru
    exact PySem.P.repr_of_none ⟨.str _, H, I.tok _, ⟨_, rfl⟩, q⟩
  | bl b =>
    cases ru
    exact PySem.P.repr_of_bool ⟨.str _, H, I.tok _, ⟨_, rfl⟩, q⟩
  | int i =>
    obtain ⟨t, rfl⟩ := ru
    exact PySem.P.repr_of_int (by simpa [PyData.showable] using hs) ⟨.str _, H, I.tok _, ⟨_, rfl⟩, q⟩
  | str x =>
    obtain ⟨t, rfl⟩ := ru
    exact PySem.P.repr_of_str ⟨.str _, H, I.tok _, ⟨_, rfl⟩, q⟩ hz'
  | lst h1 h2 =>
    cases ru
    exact repr_of_reads' r hs (PyData.noDict_hsm (noDict_pl _ hp)) hg (by omega) (fun _ _ e => e) (fun h' w tk hk => ⟨.str _, H, I.kept hk, ⟨_, rfl⟩, q⟩) hz'
  | tup h1 h2 =>
    cases ru
    exact repr_of_reads' r hs (PyData.noDict_hsm (noDict_pl _ hp)) hg (by omega) (fun _ _ e => e) (fun h' w tk hk => ⟨.str _, H, I.kept hk, ⟨_, rfl⟩, q⟩) hz'

theorem ints_ds : ∀ {ds : List D} {ns : List Int}, ints? ds = some ns → ds = ns.map PyData.int
  | [], ns, e => by cases e; rfl
  | d :: ds, ns, e => by
    cases d <;> simp only [ints?] at e <;> try (cases e; done)
    cases q : ints? ds with
    | none => rw [q] at e; cases e
    | some l =>
      rw [q] at e; cases e
      rw [ints_ds q]; rfl
theorem ints_pls : ∀ ns : List Int, pls (ns.map PyData.int) = true
  | [] => rfl
  | n :: ns => by simp [pls, pl, ints_pls ns]
theorem ints_dep : ∀ ns : List Int, PyData.depthAll (ns.map PyData.int) ≤ 1
  | [] => Nat.zero_le _
  | n :: ns => by
    have := ints_dep ns
    simp [PyData.depthAll, PyData.depth]
    omega
theorem ints_alike (ns : List Int) : PySem.W.AlikeAll (ns.map PyData.int) := by
  refine ⟨fun x mx y my => ?_, fun x mx => ?_⟩
  · obtain ⟨i, _, rfl⟩ := List.mem_map.mp mx
    obtain ⟨j, _, rfl⟩ := List.mem_map.mp my
    rfl
  · obtain ⟨i, _, rfl⟩ := List.mem_map.mp mx
    intro e; cases e
theorem max_fold (n : Int) (ns : List Int) : ns.foldl max n = maxI (n :: ns) := by
  show _ = ns.foldl (fun m x => if x > m then x else m) n
  congr 1
  funext m x
  rw [Int.max_def]
  split <;> split <;> omega
theorem min_fold (n : Int) (ns : List Int) : ns.foldl min n = minI (n :: ns) := by
  show _ = ns.foldl (fun m x => if x < m then x else m) n
  congr 1
  funext m x
  rw [Int.min_def]
  split <;> split <;> omega
/-- max, min of a tuple of ints -/
theorem call_maxT (hc : X.calm = true) (hu : X.A.units + 70 < cLine) : CallR X (.builtin "max") (fun xs H Q => ∃ v n ns, xs = [v] ∧ Dp X.K H v (.tuple ((n :: ns : List Int).map PyData.int)) ∧ Q (.int (maxI (n :: ns))) H) := by
  rintro pins s σ H xs us Q I rs ⟨v, n, ns, rfl, hd, q⟩
  obtain ⟨u, rfl, ru⟩ := vals1 rs
  obtain ⟨as, r⟩ := Dp.reads I _ v u hd ru
  cases r with
  | tuple h1 h2 h3 h4 =>
    refine PySem.W.max_tuple_data (I.ok.hd hc) ⟨_, h1, h2, _, h3⟩ h4 (ints_alike (n :: ns)) (by have h := ints_dep (n :: ns); rw [List.map_cons] at h; omega) fun i v h' tk bs hi r hk => ?_
    rw [PySem.W.maxD_ints, max_fold] at r
    cases r
    exact ⟨.int _, H, I.kept hk, ⟨_, rfl⟩, q⟩
theorem call_minT (hc : X.calm = true) (hu : X.A.units + 70 < cLine) : CallR X (.builtin "min") (fun xs H Q => ∃ v n ns, xs = [v] ∧ Dp X.K H v (.tuple ((n :: ns : List Int).map PyData.int)) ∧ Q (.int (minI (n :: ns))) H) := by
  rintro pins s σ H xs us Q I rs ⟨v, n, ns, rfl, hd, q⟩
  obtain ⟨u, rfl, ru⟩ := vals1 rs
  obtain ⟨as, r⟩ := Dp.reads I _ v u hd ru
  cases r with
  | tuple h1 h2 h3 h4 =>
    refine PySem.W.min_tuple_data (I.ok.hd hc) ⟨_, h1, h2, _, h3⟩ h4 (ints_alike (n :: ns)) (by have h := ints_dep (n :: ns); rw [List.map_cons] at h; omega) fun i v h' tk bs hi r hk => ?_
    rw [PySem.W.minD_ints, min_fold] at r
    cases r
    exact ⟨.int _, H, I.kept hk, ⟨_, rfl⟩, q⟩
theorem RVs.one {K : PySem.W.Frag} {Λ : Addr → Prop} {ρ : ES} {σ : St} {H0 H : Hp} {rs : List R} {vs : List V} {d : D} (q : RVs K Λ ρ σ H0 H rs vs) (e : conts ρ rs = .ok [d]) : ∃ r v, rs = [r] ∧ vs = [v] ∧ RV K Λ ρ σ H0 H r v ∧ cont ρ r = .ok d := by
  cases q with
  | nil => cases e
  | cons q t =>
    obtain ⟨d1, e1, e⟩ := bind_eq e
    obtain ⟨ds, e2, e⟩ := bind_eq e
    cases e
    cases t with
    | nil => exact ⟨_, _, rfl, rfl, q, e1⟩
    | cons q2 t2 =>
      obtain ⟨d3, e3, e2⟩ := bind_eq e2
      obtain ⟨ds, e4, e2⟩ := bind_eq e2
      cases e2
theorem RVs.two {K : PySem.W.Frag} {Λ : Addr → Prop} {ρ : ES} {σ : St} {H0 H : Hp} {rs : List R} {vs : List V} {d e : D} (q : RVs K Λ ρ σ H0 H rs vs) (h : conts ρ rs = .ok [d, e]) :
    ∃ r v s w, rs = [r, s] ∧ vs = [v, w] ∧ RV K Λ ρ σ H0 H r v ∧ RV K Λ ρ σ H0 H s w ∧ cont ρ r = .ok d ∧ cont ρ s = .ok e := by
  cases q with
  | nil => cases h
  | cons q t =>
    obtain ⟨d1, e1, h⟩ := bind_eq h
    obtain ⟨ds, e2, h⟩ := bind_eq h
    cases h
    obtain ⟨r, v, rfl, rfl, q2, e3⟩ := t.one e2
    exact ⟨_, _, _, _, rfl, rfl, q, q2, e1, e3⟩

theorem bi_rule (hc : X.calm = true) (hu : X.A.units + 70 < cLine) (hg : X.A.guards = some []) {f : BI} {ds : List D} {r : R} (e : bi f ds = .ok r) : ∃ r0 : List V → Hp → VK → Prop, CallR X (biVal f) r0 ∧
    ∀ {Λ Λ2 : Addr → Prop} {ρ ρ2 : ES} {σ : St} {H H2 : Hp} {rs : List R} {vs : List V} {Q : VK}, Rel X.K Λ ρ σ H → Aft X.K Λ Λ2 ρ ρ2 σ H H2 → RVs X.K Λ2 ρ2 σ H H2 rs vs → conts ρ2 rs = .ok ds →
      (∀ (v : V) (H' : Hp) (Λf : Addr → Prop), Aft X.K Λ Λf ρ ρ2 σ H H' → RV X.K Λf ρ2 σ H H' r v → Q v H') → r0 vs H2 Q := by
  rcases ds with _ | ⟨d, _ | ⟨d2, _ | ⟨d3, ds⟩⟩⟩
  · cases f <;> cases e
  · cases f
    · -- len
      refine ⟨_, call_len, fun h af q ex k => ?_⟩
      obtain ⟨r1, v, rfl, rfl, q1, e1⟩ := q.one ex
      cases d <;> (try simp only [bi] at e) <;> try (cases e; done)
      · split at e <;> cases e
        rename_i hz
        have := q1.str af.rel e1
        subst this
        exact ⟨_, _, rfl, ⟨le_sz hz, rfl⟩, k _ _ _ af (show RV _ _ _ _ _ _ (R.val _) _ from DA.int _)⟩
      · cases e
        obtain ⟨a, vs, rfl, h1, d1⟩ := q1.lst af.rel e1
        exact ⟨_, _, rfl, .inl ⟨vs, SqL.of h1, d1.length.symm⟩, k _ _ _ af (show RV _ _ _ _ _ _ (R.val _) _ from DA.int _)⟩
      · cases e
        obtain ⟨a, vs, rfl, h1, d1, _⟩ := q1.tup af.rel e1
        exact ⟨_, _, rfl, .inr ⟨vs, h1, d1.length.symm⟩, k _ _ _ af (show RV _ _ _ _ _ _ (R.val _) _ from DA.int _)⟩
      · obtain ⟨l, rfl, rfl⟩ := bi_len_scr e
        obtain ⟨a, vs, rfl, h1, d1⟩ := q1.scr af.rel e1
        exact ⟨_, _, rfl, .inl ⟨vs, h1, d1.length.symm⟩, k _ _ _ af (show RV _ _ _ _ _ _ (R.val _) _ from DA.int _)⟩
    · -- all
      refine ⟨_, cr_all hc, fun h af q ex k => ?_⟩
      obtain ⟨r1, v, rfl, rfl, q1, e1⟩ := q.one ex
      cases d <;> simp only [bi] at e <;> try (cases e; done)
      split at e <;> cases e
      rename_i bs hb
      obtain ⟨a, vs, rfl, h1, d1⟩ := q1.lst af.rel e1
      rw [bools_vs d1 hb] at h1
      exact ⟨a, bs, rfl, SqL.of h1, k _ _ _ af (show RV _ _ _ _ _ _ (R.val _) _ from DA.bl _)⟩
    · -- any
      refine ⟨_, cr_any hc, fun h af q ex k => ?_⟩
      obtain ⟨r1, v, rfl, rfl, q1, e1⟩ := q.one ex
      cases d <;> simp only [bi] at e <;> try (cases e; done)
      split at e <;> cases e
      rename_i bs hb
      obtain ⟨a, vs, rfl, h1, d1⟩ := q1.lst af.rel e1
      rw [bools_vs d1 hb] at h1
      exact ⟨a, bs, rfl, SqL.of h1, k _ _ _ af (show RV _ _ _ _ _ _ (R.val _) _ from DA.bl _)⟩
    · -- int
      cases d <;> simp only [bi] at e <;> try (cases e; done)
      · cases e
        refine ⟨_, call_int1, fun h af q ex k => ?_⟩
        obtain ⟨r1, v, rfl, rfl, q1, e1⟩ := q.one ex
        have := q1.int af.rel e1
        subst this
        exact .inl ⟨_, rfl, k _ _ _ af (show RV _ _ _ _ _ _ (R.val _) _ from DA.int _)⟩
      · refine ⟨_, call_int_str, fun h af q ex k => ?_⟩
        obtain ⟨r1, v, rfl, rfl, q1, e1⟩ := q.one ex
        split at e
        · rename_i hz
          split at e <;> cases e
          rename_i n hn
          have := q1.str af.rel e1
          subst this
          exact ⟨_, n, rfl, hn, hz, k _ _ _ af (show RV _ _ _ _ _ _ (R.val _) _ from DA.int _)⟩
        · cases e
    · -- str
      cases d <;> simp only [bi] at e <;> try (cases e; done)
      refine ⟨_, call_str_int, fun h af q ex k => ?_⟩
      obtain ⟨r1, v, rfl, rfl, q1, e1⟩ := q.one ex
      split at e <;> cases e
      rename_i hz
      have := q1.int af.rel e1
      subst this
      refine ⟨_, rfl, ?_, k _ _ _ af (show RV _ _ _ _ _ _ (R.val _) _ from DA.str _)⟩
      refine Nat.lt_of_lt_of_le (PySem.Flt.log2_lt_of (by decide) hz) (by decide)
    · -- tuple
      refine ⟨_, call_tuple_of, fun h af q ex k => ?_⟩
      obtain ⟨r1, v, rfl, rfl, q1, e1⟩ := q.one ex
      cases d <;> simp only [bi] at e <;> cases e
      · obtain ⟨a, vs, rfl, h1, d1⟩ := q1.lst af.rel e1
        exact ⟨a, vs, rfl, .inl ⟨SqL.of h1, fun p hp => k _ _ _ (af.grow hp) (show RV _ _ _ _ _ _ (R.val _) _ from DA.tup (af.rel.notHid hp) upd_same (d1.grow (upd_grow hp)))⟩⟩
      · obtain ⟨a, vs, rfl, h1, d1, t1⟩ := q1.tup af.rel e1
        exact ⟨a, vs, rfl, .inr ⟨h1, k _ _ _ af (show RV _ _ _ _ _ _ (R.val _) _ from t1)⟩⟩
    · -- list
      refine ⟨_, call_list_of, fun h af q ex k => ?_⟩
      obtain ⟨r1, v, rfl, rfl, q1, e1⟩ := q.one ex
      cases d <;> simp only [bi] at e <;> cases e
      · obtain ⟨a, vs, rfl, h1, d1⟩ := q1.lst af.rel e1
        exact ⟨a, vs, rfl, .inl (SqL.of h1), fun p hp => k _ _ _ (af.new h hp) ⟨p, rfl, af.gone h p hp, .inr rfl, vs, upd_same, DAs.keep (af.rel.more hp) d1⟩⟩
      · obtain ⟨a, vs, rfl, h1, d1, t1⟩ := q1.tup af.rel e1
        exact ⟨a, vs, rfl, .inr h1, fun p hp => k _ _ _ (af.new h hp) ⟨p, rfl, af.gone h p hp, .inr rfl, vs, upd_same, DAs.keep (af.rel.more hp) d1⟩⟩
    · -- abs
      cases d <;> simp only [bi] at e <;> cases e
      refine ⟨_, call_abs, fun h af q ex k => ?_⟩
      obtain ⟨r1, v, rfl, rfl, q1, e1⟩ := q.one ex
      have := q1.int af.rel e1
      subst this
      exact ⟨_, rfl, k _ _ _ af (show RV _ _ _ _ _ _ (R.val _) _ from DA.int _)⟩
    · -- max
      cases d <;> simp only [bi] at e <;> try (cases e; done)
      · refine ⟨_, cr_max hc, fun h af q ex k => ?_⟩
        obtain ⟨r1, v, rfl, rfl, q1, e1⟩ := q.one ex
        split at e <;> cases e
        rename_i b bs hb
        obtain ⟨a, vs, rfl, h1, d1⟩ := q1.lst af.rel e1
        rw [ints_vs d1 hb] at h1
        refine ⟨a, b :: bs, rfl, SqL.of h1, Nat.succ_pos _, fun m hm hle => ?_⟩
        obtain ⟨g1, g2⟩ := maxI_go bs b
        have em : m = maxI (b :: bs) := Int.le_antisymm (g2 m hm) (hle _ g1)
        rw [em]
        exact k _ _ _ af (show RV _ _ _ _ _ _ (R.val _) _ from DA.int _)
      · refine ⟨_, call_maxT hc hu, fun h af q ex k => ?_⟩
        obtain ⟨r1, v, rfl, rfl, q1, e1⟩ := q.one ex
        split at e <;> cases e
        rename_i b bs hb
        have hd := ints_ds hb
        subst hd
        exact ⟨v, b, bs, rfl, (q1.da af.rel e1).dp (by simpa [pl] using ints_pls (b :: bs)), k _ _ _ af (show RV _ _ _ _ _ _ (R.val _) _ from DA.int _)⟩
    · -- min
      cases d <;> simp only [bi] at e <;> try (cases e; done)
      · refine ⟨_, cr_min hc, fun h af q ex k => ?_⟩
        obtain ⟨r1, v, rfl, rfl, q1, e1⟩ := q.one ex
        split at e <;> cases e
        rename_i b bs hb
        obtain ⟨a, vs, rfl, h1, d1⟩ := q1.lst af.rel e1
        rw [ints_vs d1 hb] at h1
        refine ⟨a, b :: bs, rfl, SqL.of h1, Nat.succ_pos _, fun m hm hle => ?_⟩
        obtain ⟨g1, g2⟩ := minI_go bs b
        have em : m = minI (b :: bs) := Int.le_antisymm (hle _ g1) (g2 m hm)
        rw [em]
        exact k _ _ _ af (show RV _ _ _ _ _ _ (R.val _) _ from DA.int _)
      · refine ⟨_, call_minT hc hu, fun h af q ex k => ?_⟩
        obtain ⟨r1, v, rfl, rfl, q1, e1⟩ := q.one ex
        split at e <;> cases e
        rename_i b bs hb
        have hd := ints_ds hb
        subst hd
        exact ⟨v, b, bs, rfl, (q1.da af.rel e1).dp (by simpa [pl] using ints_pls (b :: bs)), k _ _ _ af (show RV _ _ _ _ _ _ (R.val _) _ from DA.int _)⟩
    · cases d <;> simp only [bi] at e <;> cases e
    · -- repr
      refine ⟨_, call_reprD hu hg, fun h af q ex k => ?_⟩
      obtain ⟨r1, v, rfl, rfl, q1, e1⟩ := q.one ex
      simp only [bi] at e
      split at e <;> cases e
      rename_i hz
      simp only [Bool.and_eq_true, decide_eq_true_eq] at hz
      exact ⟨v, d, rfl, (q1.da af.rel e1).dp hz.1.1.1, hz.1.1.1, hz.1.1.2, hz.1.2, hz.2, k _ _ _ af (show RV _ _ _ _ _ _ (R.val _) _ from DA.str _)⟩
    · -- sum
      cases d <;> simp only [bi] at e <;> try (cases e; done)
      refine ⟨_, cr_sum hc, fun h af q ex k => ?_⟩
      obtain ⟨r1, v, rfl, rfl, q1, e1⟩ := q.one ex
      split at e <;> cases e
      rename_i bs hb
      obtain ⟨a, vs, rfl, h1, d1⟩ := q1.lst af.rel e1
      rw [ints_vs d1 hb] at h1
      exact ⟨a, bs, rfl, SqL.of h1, k _ _ _ af (show RV _ _ _ _ _ _ (R.val _) _ from DA.int _)⟩
  · cases f <;> cases d <;> cases d2 <;> simp only [bi] at e <;> try (cases e; done)
    · cases e
      refine ⟨_, call_max2 hc, fun h af q ex k => ?_⟩
      obtain ⟨r1, v, s1, w, rfl, rfl, q1, q2, e1, e2⟩ := q.two ex
      have h1 := q1.int af.rel e1
      have h2 := q2.int af.rel e2
      subst h1; subst h2
      exact ⟨_, _, rfl, k _ _ _ af (show RV _ _ _ _ _ _ (R.val _) _ from DA.int _)⟩
    · cases e
      refine ⟨_, call_min2 hc, fun h af q ex k => ?_⟩
      obtain ⟨r1, v, s1, w, rfl, rfl, q1, q2, e1, e2⟩ := q.two ex
      have h1 := q1.int af.rel e1
      have h2 := q2.int af.rel e2
      subst h1; subst h2
      exact ⟨_, _, rfl, k _ _ _ af (show RV _ _ _ _ _ _ (R.val _) _ from DA.int _)⟩
    · refine ⟨_, call_divmod, fun h af q ex k => ?_⟩
      obtain ⟨r1, v, s1, w, rfl, rfl, q1, q2, e1, e2⟩ := q.two ex
      split at e <;> cases e
      rename_i hz
      have h1 := q1.int af.rel e1
      have h2 := q2.int af.rel e2
      subst h1; subst h2
      exact ⟨_, _, rfl, hz, fun p hp => k _ _ _ (af.grow hp) (show RV _ _ _ _ _ _ (R.val _) _ from DA.tup (af.rel.notHid hp) upd_same (.cons (.int _) (.cons (.int _) .nil)))⟩
  · cases f <;> simp [bi] at e
end
end DI
end

section
set_option maxRecDepth 100000
/-! KE3: the forms of expressions, each by its parts. -/
namespace DI
open PySem L2

section
variable {X : Cx} {e a b c : Expr} {es : List Expr} {f g h : ES → Out (R × ES)} {fs gs : ES → Out (List R × ES)} {pos p : Pos} {x : Str} {i : Nat} {d : D}

theorem pe_of {t : TE} (he : PE X e t) {t' : TE} (i : ∀ σ H Q, t' σ H Q → t σ H Q) : PE X e t' := ⟨fun pins s σ H Q I hq => he.run pins s σ H Q I (i σ H Q hq)⟩
theorem pt_of {t : TT} (he : PT X e t) {t' : TT} (i : ∀ σ H Q, t' σ H Q → t σ H Q) : PT X e t' := ⟨fun pins s σ H Q I hq => he.run pins s σ H Q I (i σ H Q hq)⟩
/-- a test whose value is a bool -/
theorem pt_plain (he : PE X e (TEof X.K f)) (hp : ∀ whole, isTrue e X.env whole = (do let v ← whole; standAt e.pos; holding [v] (truthy v))) : PT X e (TTof X.K f) := by
  refine pt_of (pt_val he hp) ?_
  rintro σ H Q ⟨Λ, ρ, b, ρ', hr, ee, k⟩
  refine ⟨Λ, ρ, _, ρ', hr, ee, fun v H' Λf af q => ?_⟩
  cases q
  exact ⟨b, rfl, k H' Λf af⟩

/-! ### names, constants -/
def evVar (i : Nat) : ES → Out (R × ES) := fun ρ => match ρ[i]? with
  | some (some (.val d)) => .ok (.val d, ρ)
  | some (some (.own _)) => .ok (.slot i, ρ)
  | _ => .stuck
theorem pe_varD (hN : X.N[i]? = some x) (hv : Vis X.env.scope x) (hd : (x == ("__debug__" : Str)) = false) (hcd : (x == ("__classdict__" : Str)) = false) : PE X (.Name x pos) (TEof X.K (evVar i)) := by
  refine pe_of (pe_var hN hv hd hcd) ?_
  rintro σ H Q ⟨Λ, ρ, r, ρ', hr, ee, k⟩
  simp only [evVar] at ee
  split at ee <;> cases ee
  · rename_i d hi
    obtain ⟨v, hv, q⟩ := hr.val i d hi
    exact ⟨v, hv, k v H Λ (Aft.refl hr) q⟩
  · rename_i o hi
    obtain ⟨v, hv, _⟩ := hr.own i o hi
    exact ⟨_, hv, k _ H Λ (Aft.refl hr) ⟨hv, _, hi⟩⟩
def constD : Const → Option D
  | .none => some .none
  | .bool b => some (.bool b)
  | .int i => some (.int i)
  | .str s => some (.str s)
  | _ => none
def evLit (d : D) : ES → Out (R × ES) := fun ρ => .ok (.val d, ρ)
theorem pe_litD {cst : Const} {j : Nat} (h : constD cst = some d) : PE X (.Constant cst j pos) (TEof X.K (evLit d)) := by
  cases cst <;> simp only [constD] at h <;> cases h
  · exact pe_of pe_non fun σ H Q ⟨Λ, ρ, r, ρ', hr, ee, k⟩ => by cases ee; exact k _ H Λ (Aft.refl hr) DA.non
  · exact pe_of pe_bl fun σ H Q ⟨Λ, ρ, r, ρ', hr, ee, k⟩ => by cases ee; exact k _ H Λ (Aft.refl hr) (DA.bl _)
  · exact pe_of pe_int fun σ H Q ⟨Λ, ρ, r, ρ', hr, ee, k⟩ => by cases ee; exact k _ H Λ (Aft.refl hr) (DA.int _)
  · exact pe_of pe_str fun σ H Q ⟨Λ, ρ, r, ρ', hr, ee, k⟩ => by cases ee; exact k _ H Λ (Aft.refl hr) (DA.str _)
theorem pe_globD {v : V} {u : Value} (hg : Gl X x) (hm : X.mg x = some u) (rv : RelV v u) (hd : DA X.K (fun _ => True) (fun _ => none) v d) (hdb : (x == ("__debug__" : Str)) = false) : PE X (.Name x pos) (TEof X.K (evLit d)) :=
  pe_of (pe_glob hg hm rv hdb) fun σ H Q ⟨Λ, ρ, r, ρ', hr, ee, k⟩ => by
    cases ee
    exact k _ H Λ (Aft.refl hr) (DA.keep (fun a o n _ => absurd trivial n) hd)

/-! ### minus -/
def evNeg (f : ES → Out (R × ES)) : ES → Out (R × ES) := fun ρ => Out.bind (f ρ) fun p => match p.1 with
  | .val (.int i) => .ok (.val (.int (-i)), p.2)
  | _ => .stuck
theorem pe_negD (ha : PE X a (TEof X.K f)) : PE X (.UnaryOp .USub a pos) (TEof X.K (evNeg f)) := by
  refine pe_of (pe_un un_neg ha) ?_
  rintro σ H Q ⟨Λ, ρ, r, ρ', hr, ee, k⟩
  obtain ⟨⟨r1, ρ1⟩, e1, ee⟩ := bind_eq ee
  split at ee <;> cases ee
  rename_i i hi
  simp only at hi
  subst hi
  refine ⟨Λ, ρ, _, ρ1, hr, e1, fun v H' Λf af q => ?_⟩
  cases q
  exact ⟨i, rfl, k _ H' Λf af (DA.int _)⟩

/-! ### comparisons -/
def evCmp (op : CO) (f g : ES → Out (R × ES)) : ES → Out (R × ES) := fun ρ => Out.bind (f ρ) fun p => Out.bind (g p.2) fun q => Out.bind (cont q.2 p.1) fun x => Out.bind (cont q.2 q.1) fun y => Out.bind (co op x y) fun r => .ok (.val (.bool r), q.2)
theorem evCmp_inv {op : CO} {ρ ρ' : ES} {r : R} (h : evCmp op f g ρ = .ok (r, ρ')) : ∃ r1 ρ1 r2 x y z, f ρ = .ok (r1, ρ1) ∧ g ρ1 = .ok (r2, ρ') ∧ cont ρ' r1 = .ok x ∧ cont ρ' r2 = .ok y ∧ co op x y = .ok z ∧ r = .val (.bool z) := by
  obtain ⟨⟨r1, ρ1⟩, e1, h⟩ := bind_eq h
  obtain ⟨⟨r2, ρ2⟩, e2, h⟩ := bind_eq h
  obtain ⟨x, ex, h⟩ := bind_eq h
  obtain ⟨y, ey, h⟩ := bind_eq h
  obtain ⟨z, ez, h⟩ := bind_eq h
  cases h
  exact ⟨r1, ρ1, r2, x, y, z, e1, e2, ex, ey, ez, rfl⟩
theorem pe_cmpD {op : CO} (hu : X.A.units + 65 < cLine) (ha : PE X a (TEof X.K f)) (hb : PE X b (TEof X.K g)) (hm : behindInMarks (coOp op) b = false) : PE X (.Compare a [coOp op] [b] pos) (TEof X.K (evCmp op f g)) := by
  refine ⟨fun pins s σ H Q I ⟨Λ, ρ, r, ρ2, hr, ee, k⟩ => ?_⟩
  obtain ⟨r1, ρ1, r2, x, y, z, e1, e2, ex, ey, ez, rfl⟩ := evCmp_inv ee
  obtain ⟨R0, hop, hh⟩ := co_rule hu ez
  exact (pe_cmpR hop ha hb hm).run pins s σ H Q I (two hr e1 e2 fun u w H2 Λ2 af q1 q2 => hh af.rel q1 q2 ex ey (k _ _ _ af (show RV _ _ _ _ _ _ (R.val _) _ from DA.bl _)))
theorem pt_cmpD {op : CO} (hu : X.A.units + 65 < cLine) (ha : PE X a (TEof X.K f)) (hb : PE X b (TEof X.K g)) (hm : behindInMarks (coOp op) b = false) : PT X (.Compare a [coOp op] [b] pos) (TTof X.K (evCmp op f g)) := by
  refine ⟨fun pins s σ H Q I ⟨Λ, ρ, c, ρ2, hr, ee, k⟩ => ?_⟩
  obtain ⟨r1, ρ1, r2, x, y, z, e1, e2, ex, ey, ez, eq⟩ := evCmp_inv ee
  cases eq
  obtain ⟨R0, hop, hh⟩ := co_rule hu ez
  exact (pt_cmpR hop ha hb hm).run pins s σ H Q I (two hr e1 e2 fun u w H2 Λ2 af q1 q2 => hh af.rel q1 q2 ex ey ⟨_, rfl, k _ _ af⟩)
def evChain (op op' : CO) (f g h : ES → Out (R × ES)) : ES → Out (R × ES) := fun ρ => Out.bind (f ρ) fun p => Out.bind (g p.2) fun q => Out.bind (cont q.2 p.1) fun x => Out.bind (asVal q.1) fun y => Out.bind (co op x y) fun r =>
  if r = true then Out.bind (h q.2) fun s => Out.bind (cont s.2 s.1) fun z => Out.bind (co op' y z) fun t => .ok (.val (.bool t), s.2) else .ok (.val (.bool false), q.2)
theorem asVal_eq {r : R} {d : D} (h : asVal r = .ok d) : r = .val d := by
  cases r <;> cases h; rfl
theorem evChain_inv {op op' : CO} {ρ ρ' : ES} {r : R} (hh : evChain op op' f g h ρ = .ok (r, ρ')) : ∃ r1 ρ1 y ρ2 x z, f ρ = .ok (r1, ρ1) ∧ g ρ1 = .ok (.val y, ρ2) ∧ cont ρ2 r1 = .ok x ∧ co op x y = .ok z ∧
    ((z = false ∧ r = .val (.bool false) ∧ ρ' = ρ2) ∨ (z = true ∧ ∃ r3 w t, h ρ2 = .ok (r3, ρ') ∧ cont ρ' r3 = .ok w ∧ co op' y w = .ok t ∧ r = .val (.bool t))) := by
  obtain ⟨⟨r1, ρ1⟩, e1, hh⟩ := bind_eq hh
  obtain ⟨⟨r2, ρ2⟩, e2, hh⟩ := bind_eq hh
  obtain ⟨x, ex, hh⟩ := bind_eq hh
  obtain ⟨y, ey, hh⟩ := bind_eq hh
  obtain ⟨z, ez, hh⟩ := bind_eq hh
  have e3 := asVal_eq ey
  simp only at e3
  subst e3
  refine ⟨r1, ρ1, y, ρ2, x, z, e1, e2, ex, ez, ?_⟩
  cases z with
  | false => cases hh; exact .inl ⟨rfl, rfl, rfl⟩
  | true =>
    rw [if_pos rfl] at hh
    obtain ⟨⟨r3, ρ3⟩, e3, hh⟩ := bind_eq hh
    obtain ⟨w, ew, hh⟩ := bind_eq hh
    obtain ⟨t, et, hh⟩ := bind_eq hh
    cases hh
    exact .inr ⟨rfl, r3, w, t, e3, ew, et, rfl⟩
theorem chain_run {op op' : CO} {σ : St} {H : Hp} {Λ : Addr → Prop} {ρ ρ' : ES} {r : R} {Q : Bool → Hp → Prop} (hu : X.A.units + 65 < cLine) (hr : Rel X.K Λ ρ σ H) (ee : evChain op op' f g h ρ = .ok (r, ρ'))
    (k : ∀ (t : Bool) (H' : Hp) (Λf : Addr → Prop), r = .val (.bool t) → Aft X.K Λ Λf ρ ρ' σ H H' → Q t H') : ∃ R0 R1 : R2, OpR X (compareOp (coOp op)) R0 ∧ OpR X (compareOp (coOp op')) R1 ∧
      tChain R0 R1 (TEof X.K f) (TEof X.K g) (TEof X.K h) σ H (fun v H' => ∃ t, v = .bl t ∧ Q t H') := by
  obtain ⟨r1, ρ1, y, ρ2, x, z, e1, e2, ex, ez, alt⟩ := evChain_inv ee
  obtain ⟨R0, hop, hh⟩ := co_rule hu ez
  rcases alt with ⟨rfl, rfl, rfl⟩ | ⟨rfl, r3, w, t, e3, ew, et, rfl⟩
  · refine ⟨R0, fun _ _ _ _ => False, hop, fun _ _ _ _ _ _ _ _ _ _ _ _ z => z.elim, two hr e1 e2 fun u v H2 Λ2 af q1 q2 => hh af.rel q1 q2 ex rfl ⟨false, rfl, ?_⟩⟩
    rw [if_neg Bool.false_ne_true]
    exact ⟨false, rfl, k _ _ _ rfl af⟩
  · obtain ⟨R1, hop', hh'⟩ := co_rule hu et
    refine ⟨R0, R1, hop, hop', two hr e1 e2 fun u v H2 Λ2 af q1 q2 => hh af.rel q1 q2 ex rfl ⟨true, rfl, ?_⟩⟩
    rw [if_pos rfl]
    refine ⟨Λ2, ρ2, r3, ρ', af.rel, e3, fun v3 H3 Λ3 af3 q3 => ?_⟩
    exact hh' (H0 := H2) af3.rel (RV.keep (H0 := H2) af.rel af3 (show RV X.K Λ2 ρ2 σ H2 H2 (.val y) v from q2)) q3 rfl ew ⟨t, rfl, k _ _ _ rfl (af.trans hr af3)⟩
theorem marks2 {o1 o2 : CmpOp} (hm' : behindInMarks o2 c = false) : lastMarks [o1, o2] [b, c] = false := hm'
theorem pe_chainD {op op' : CO} (hu : X.A.units + 65 < cLine) (ha : PE X a (TEof X.K f)) (hb : PE X b (TEof X.K g)) (hc : PE X c (TEof X.K h)) (hm' : behindInMarks (coOp op') c = false) :
    PE X (.Compare a [coOp op, coOp op'] [b, c] pos) (TEof X.K (evChain op op' f g h)) := by
  refine ⟨fun pins s σ H Q I ⟨Λ, ρ, r, ρ2, hr, ee, k⟩ => ?_⟩
  obtain ⟨R0, R1, h0, h1, hq⟩ := chain_run (Q := fun t H' => Q (.bl t) H') hu hr ee (fun t H' Λf er af => by
    subst er
    exact k _ _ _ af (show RV _ _ _ _ _ _ (R.val _) _ from DA.bl _))
  refine wpAny_mono ((pe_chain h0 h1 ha hb hc (marks2 hm')).run pins s σ H _ I hq) (fun u s' ⟨v, H', I', rv, t, ev, q⟩ => ⟨v, H', I', rv, by rw [ev]; exact q⟩) fun _ _ z => z
theorem pt_chainD {op op' : CO} (hu : X.A.units + 65 < cLine) (ha : PE X a (TEof X.K f)) (hb : PE X b (TEof X.K g)) (hc : PE X c (TEof X.K h)) (hm' : behindInMarks (coOp op') c = false) :
    PT X (.Compare a [coOp op, coOp op'] [b, c] pos) (TTof X.K (evChain op op' f g h)) := by
  refine ⟨fun pins s σ H Q I ⟨Λ, ρ, b0, ρ2, hr, ee, k⟩ => ?_⟩
  obtain ⟨R0, R1, h0, h1, hq⟩ := chain_run (Q := Q) hu hr ee (fun t H' Λf er af => by
    cases er
    exact k _ _ af)
  exact (pt_chain h0 h1 ha hb hc (marks2 hm')).run pins s σ H _ I hq

/-! ### and, or, not, if -/
def evAnd (f g : ES → Out (R × ES)) : ES → Out (R × ES) := fun ρ => Out.bind (f ρ) fun p => Out.bind (asBool p.1) fun c => if c = true then g p.2 else .ok (.val (.bool false), p.2)
def evOr (f g : ES → Out (R × ES)) : ES → Out (R × ES) := fun ρ => Out.bind (f ρ) fun p => Out.bind (asBool p.1) fun c => if c = true then .ok (.val (.bool true), p.2) else g p.2
def evNot (f : ES → Out (R × ES)) : ES → Out (R × ES) := fun ρ => Out.bind (f ρ) fun p => Out.bind (asBool p.1) fun c => .ok (.val (.bool (!c)), p.2)
def evIte (f g h : ES → Out (R × ES)) : ES → Out (R × ES) := fun ρ => Out.bind (f ρ) fun p => Out.bind (asBool p.1) fun c => if c = true then g p.2 else h p.2
theorem two' {K : PySem.W.Frag} {Λ : Addr → Prop} {ρ ρ1 ρ2 : ES} {σ : St} {H : Hp} {r : R} (h : Rel K Λ ρ σ H) {H1 : Hp} {Λ1 : Addr → Prop} (a1 : Aft K Λ Λ1 ρ ρ1 σ H H1) (hg : g ρ1 = .ok (r, ρ2)) {Q : VK}
    (k : ∀ (v : V) (H' : Hp) (Λf : Addr → Prop), Aft K Λ Λf ρ ρ2 σ H H' → RV K Λf ρ2 σ H H' r v → Q v H') : TEof K g σ H1 Q :=
  ⟨Λ1, ρ1, r, ρ2, a1.rel, hg, fun v H' Λf af q => k v H' Λf (a1.trans h af) (q.from_ (a1.gone h))⟩
theorem two'' {K : PySem.W.Frag} {Λ : Addr → Prop} {ρ ρ1 ρ2 : ES} {σ : St} {H : Hp} {b : Bool} (h : Rel K Λ ρ σ H) {H1 : Hp} {Λ1 : Addr → Prop} (a1 : Aft K Λ Λ1 ρ ρ1 σ H H1) (hg : g ρ1 = .ok (.val (.bool b), ρ2)) {Q : Bool → Hp → Prop}
    (k : ∀ (H' : Hp) (Λf : Addr → Prop), Aft K Λ Λf ρ ρ2 σ H H' → Q b H') : TTof K g σ H1 Q :=
  ⟨Λ1, ρ1, b, ρ2, a1.rel, hg, fun H' Λf af => k H' Λf (a1.trans h af)⟩
variable {rest : List Expr}
theorem pe_andD (ha : PE X a (TEof X.K f)) (hb : PE X (.BoolOp .And (b :: rest) pos) (TEof X.K g)) : PE X (.BoolOp .And (a :: b :: rest) pos) (TEof X.K (evAnd f g)) := by
  refine pe_of (pe_and ha hb) ?_
  rintro σ H Q ⟨Λ, ρ, r, ρ', hr, ee, k⟩
  obtain ⟨⟨r1, ρ1⟩, e1, ee⟩ := bind_eq ee
  obtain ⟨c, ec, ee⟩ := bind_eq ee
  have e2 := asBool_val ec
  simp only at e2
  subst e2
  refine ⟨Λ, ρ, _, ρ1, hr, e1, fun v H1 Λ1 a1 q1 => ?_⟩
  cases q1
  refine ⟨c, rfl, ?_⟩
  cases c with
  | false => cases ee; rw [if_neg Bool.false_ne_true]; exact k _ _ _ a1 (DA.bl _)
  | true => rw [if_pos rfl] at ee ⊢; exact two' hr a1 ee k
theorem pe_orD (ha : PE X a (TEof X.K f)) (hb : PE X (.BoolOp .Or (b :: rest) pos) (TEof X.K g)) : PE X (.BoolOp .Or (a :: b :: rest) pos) (TEof X.K (evOr f g)) := by
  refine pe_of (pe_or ha hb) ?_
  rintro σ H Q ⟨Λ, ρ, r, ρ', hr, ee, k⟩
  obtain ⟨⟨r1, ρ1⟩, e1, ee⟩ := bind_eq ee
  obtain ⟨c, ec, ee⟩ := bind_eq ee
  have e2 := asBool_val ec
  simp only at e2
  subst e2
  refine ⟨Λ, ρ, _, ρ1, hr, e1, fun v H1 Λ1 a1 q1 => ?_⟩
  cases q1
  refine ⟨c, rfl, ?_⟩
  cases c with
  | true => cases ee; rw [if_pos rfl]; exact k _ _ _ a1 (DA.bl _)
  | false => rw [if_neg Bool.false_ne_true] at ee ⊢; exact two' hr a1 ee k
theorem pe_notD (ha : PE X a (TEof X.K f)) : PE X (.UnaryOp .Not a pos) (TEof X.K (evNot f)) := by
  refine pe_of (pe_not ha) ?_
  rintro σ H Q ⟨Λ, ρ, r, ρ', hr, ee, k⟩
  obtain ⟨⟨r1, ρ1⟩, e1, ee⟩ := bind_eq ee
  obtain ⟨c, ec, ee⟩ := bind_eq ee
  have e2 := asBool_val ec
  simp only at e2
  subst e2
  cases ee
  refine ⟨Λ, ρ, _, ρ1, hr, e1, fun v H1 Λ1 a1 q1 => ?_⟩
  cases q1
  exact ⟨c, rfl, k _ _ _ a1 (DA.bl _)⟩
theorem pe_iteD (hc : PT X c (TTof X.K f)) (ha : PE X a (TEof X.K g)) (hb : PE X b (TEof X.K h)) : PE X (.IfExp c a b pos) (TEof X.K (evIte f g h)) := by
  refine pe_of (pe_ifExp hc ha hb) ?_
  rintro σ H Q ⟨Λ, ρ, r, ρ', hr, ee, k⟩
  obtain ⟨⟨r1, ρ1⟩, e1, ee⟩ := bind_eq ee
  obtain ⟨c, ec, ee⟩ := bind_eq ee
  have e2 := asBool_val ec
  simp only at e2
  subst e2
  refine ⟨Λ, ρ, c, ρ1, hr, e1, fun H1 Λ1 a1 => ?_⟩
  cases c with
  | true => rw [if_pos rfl] at ee ⊢; exact two' hr a1 ee k
  | false => rw [if_neg Bool.false_ne_true] at ee ⊢; exact two' hr a1 ee k
theorem pt_andD (ha : PT X a (TTof X.K f)) (hb : PW X (.BoolOp .And (b :: rest) pos) (TTof X.K g)) : PT X (.BoolOp .And (a :: b :: rest) pos) (TTof X.K (evAnd f g)) := by
  refine pt_of (pw_and ha hb).pt ?_
  rintro σ H Q ⟨Λ, ρ, r, ρ', hr, ee, k⟩
  obtain ⟨⟨r1, ρ1⟩, e1, ee⟩ := bind_eq ee
  obtain ⟨c, ec, ee⟩ := bind_eq ee
  have e2 := asBool_val ec
  simp only at e2
  subst e2
  refine ⟨Λ, ρ, c, ρ1, hr, e1, fun H1 Λ1 a1 => ?_⟩
  cases c with
  | false => cases ee; rw [if_neg Bool.false_ne_true]; exact k _ _ a1
  | true => rw [if_pos rfl] at ee ⊢; exact two'' hr a1 ee k
theorem pt_orD (ha : PT X a (TTof X.K f)) (hb : PW X (.BoolOp .Or (b :: rest) pos) (TTof X.K g)) : PT X (.BoolOp .Or (a :: b :: rest) pos) (TTof X.K (evOr f g)) := by
  refine pt_of (pw_or ha hb).pt ?_
  rintro σ H Q ⟨Λ, ρ, r, ρ', hr, ee, k⟩
  obtain ⟨⟨r1, ρ1⟩, e1, ee⟩ := bind_eq ee
  obtain ⟨c, ec, ee⟩ := bind_eq ee
  have e2 := asBool_val ec
  simp only at e2
  subst e2
  refine ⟨Λ, ρ, c, ρ1, hr, e1, fun H1 Λ1 a1 => ?_⟩
  cases c with
  | true => cases ee; rw [if_pos rfl]; exact k _ _ a1
  | false => rw [if_neg Bool.false_ne_true] at ee ⊢; exact two'' hr a1 ee k
theorem pt_notD (ha : PT X a (TTof X.K f)) : PT X (.UnaryOp .Not a pos) (TTof X.K (evNot f)) := by
  refine pt_of (pt_not ha) ?_
  rintro σ H Q ⟨Λ, ρ, r, ρ', hr, ee, k⟩
  obtain ⟨⟨r1, ρ1⟩, e1, ee⟩ := bind_eq ee
  obtain ⟨c, ec, ee⟩ := bind_eq ee
  have e2 := asBool_val ec
  simp only at e2
  subst e2
  cases ee
  exact ⟨Λ, ρ, c, ρ1, hr, e1, fun H1 Λ1 a1 => k _ _ a1⟩
theorem PT.pw {op : BoolOp} {vs : List Expr} {t : TT} (h : PT X (.BoolOp op vs pos) t) : PW X (.BoolOp op vs pos) t := ⟨fun whole pins s σ H Q I hq => h.run pins s σ H Q I hq⟩
theorem pt_iteD (hc : PT X c (TTof X.K f)) (ha : PT X a (TTof X.K g)) (hb : PT X b (TTof X.K h)) : PT X (.IfExp c a b pos) (TTof X.K (evIte f g h)) := by
  refine ⟨fun pins s σ H Q I ⟨Λ, ρ, r, ρ', hr, ee, k⟩ => ?_⟩
  obtain ⟨⟨r1, ρ1⟩, e1, ee⟩ := bind_eq ee
  obtain ⟨d, ec, ee⟩ := bind_eq ee
  have e2 := asBool_val ec
  simp only at e2
  subst e2
  show wpAny _ _ (do if ← isTrue c X.env (eval c X.env) then isTrue a X.env (eval a X.env) else isTrue b X.env (eval b X.env)) _ _ _
  refine wpAny_bind (thn (hc.run pins s σ H (fun b0 H1 => b0 = d ∧ ∃ Λ1, Aft X.K Λ Λ1 ρ ρ1 σ H H1) I ⟨Λ, ρ, d, ρ1, hr, e1, fun H1 Λ1 a1 => ⟨rfl, Λ1, a1⟩⟩) fun b0 s1 ⟨H1, I1, eb, Λ1, a1⟩ => ?_)
  subst eb
  cases b0 with
  | true => rw [if_pos rfl] at ee ⊢; exact ha.run pins s1 σ H1 Q I1 (two'' hr a1 ee k)
  | false => rw [if_neg Bool.false_ne_true] at ee ⊢; exact hb.run pins s1 σ H1 Q I1 (two'' hr a1 ee k)
end
end DI
end

section
set_option maxRecDepth 100000
/-! KE4: calls of built-in functions, displays, items, slices, methods. -/
namespace DI
open PySem L2

section
variable {X : Cx} {e a b c : Expr} {es : List Expr} {f g h : ES → Out (R × ES)} {fs gs : ES → Out (List R × ES)} {pos p p2 : Pos} {x : Str} {i : Nat} {d : D}
theorem pa_of {t : TA} (he : PA X es t) {t' : TA} (i : ∀ σ H Q, t' σ H Q → t σ H Q) : PA X es t' := ⟨fun pos pins s σ H Q I hq => he.run pos pins s σ H Q I (i σ H Q hq)⟩
def evNil : ES → Out (List R × ES) := fun ρ => .ok ([], ρ)
def evCons (f : ES → Out (R × ES)) (fs : ES → Out (List R × ES)) : ES → Out (List R × ES) := fun ρ => Out.bind (f ρ) fun p => Out.bind (fs p.2) fun q => .ok (p.1 :: q.1, q.2)
theorem pa_nilD : PA X [] (TAof X.K evNil) := pa_of pa_nil fun σ H Q ⟨Λ, ρ, rs, ρ', hr, ee, k⟩ => by
  cases ee
  exact k [] H Λ (Aft.refl hr) .nil
theorem pa_consD (ha : PE X e (TEof X.K f)) (hr : PA X es (TAof X.K fs)) (hs : starEach (e :: es) X.env = (false, eval e X.env) :: starEach es X.env) : PA X (e :: es) (TAof X.K (evCons f fs)) := by
  refine pa_of (pa_cons ha hr hs) ?_
  rintro σ H Q ⟨Λ, ρ, rs, ρ', hr, ee, k⟩
  obtain ⟨⟨r1, ρ1⟩, e1, ee⟩ := bind_eq ee
  obtain ⟨⟨r2, ρ2⟩, e2, ee⟩ := bind_eq ee
  cases ee
  refine ⟨Λ, ρ, r1, ρ1, hr, e1, fun v H1 Λ1 a1 q1 => ⟨Λ1, ρ1, r2, ρ2, a1.rel, e2, fun vs H2 Λ2 a2 q2 => ?_⟩⟩
  exact k _ H2 Λ2 (a1.trans hr a2) (.cons (q1.keep a1.rel a2) (q2.from_ (a1.gone hr)))

/-! ### built-in functions -/
def evBI (b : BI) (fs : ES → Out (List R × ES)) : ES → Out (R × ES) := fun ρ => Out.bind (fs ρ) fun p => Out.bind (conts p.2 p.1) fun ds => Out.bind (bi b ds) fun r => .ok (r, p.2)
theorem boot_bi (b : BI) : bootBuiltins (biName b) = some (biVal b) := by
  cases b <;> decide +kernel
theorem pe_biD {b : BI} (hc : X.calm = true) (hu : X.A.units + 70 < cLine) (hg : X.A.guards = some []) (hgl : Gl X (biName b)) (hm : X.mg (biName b) = none) (ha : PA X (e :: es) (TAof X.K fs))
    (hst : starEach (e :: es) X.env = (false, eval e X.env) :: starEach es X.env) (hpl : (backTo pos (starEach es X.env)).any (·.1) = false) :
    PE X (.Call (.Name (biName b) p) (e :: es) [] pos) (TEof X.K (evBI b fs)) := by
  refine ⟨fun pins s σ H Q I ⟨Λ, ρ, r, ρ2, hr, ee, k⟩ => ?_⟩
  obtain ⟨⟨rs, ρ1⟩, e1, ee⟩ := bind_eq ee
  obtain ⟨ds, e2, ee⟩ := bind_eq ee
  obtain ⟨r3, e3, ee⟩ := bind_eq ee
  cases ee
  obtain ⟨r0, hcall, hh⟩ := bi_rule hc hu hg e3
  have hq : tCB r0 (TAof X.K fs) σ H Q := ⟨Λ, ρ, rs, ρ1, hr, e1, fun vs H' Λf af q => hh hr af q e2 k⟩
  have hn : biName b ≠ ("__name__" : Str) := by cases b <;> decide
  have hd : (biName b == ("__debug__" : Str)) = false := by cases b <;> decide
  have hv := boot_bi b
  cases b with
  | int => exact (pe_callTy hcall hgl hm hv ha hn hd hst hpl).run pins s σ H Q I hq
  | str => exact (pe_callTy hcall hgl hm hv ha hn hd hst hpl).run pins s σ H Q I hq
  | tuple => exact (pe_callTy hcall hgl hm hv ha hn hd hst hpl).run pins s σ H Q I hq
  | list => exact (pe_callTy hcall hgl hm hv ha hn hd hst hpl).run pins s σ H Q I hq
  | _ => exact (pe_callB hcall hgl hm hv ha hn hd hst hpl).run pins s σ H Q I hq

/-! ### isinstance -/
def tyName : D → String
  | .none => "NoneType" | .bool _ => "bool" | .int _ => "int" | .str _ => "str" | .list _ => "list" | .tuple _ => "tuple" | .dict [(.none, .list _)] => "list" | .dict _ => "dict"
theorem DA.tyx {K : PySem.W.Frag} {Z : Addr → Prop} {H : Hp} {v : V} (h : DA K Z H v d) : TyX K H v (.type (tyName d)) := by
  cases h with
  | non => exact .base .non
  | bl b => exact .base (.bl b)
  | int i => exact .base (.int i)
  | str s => exact .base (.str s)
  | lst h1 h2 h3 => exact .base (.lst h2)
  | tup h1 h2 h3 => exact .base (.tup h2)
  | tupK h1 h3 => obtain ⟨o, its, n, h1, h2, _⟩ := h1; exact .kTuple h1 h2
  | @dic a ks vs ds h1 h2 h3 h4 =>
    have : tyName (.dict ((ks.map kD).zip ds)) = "dict" := by
      cases ks with
      | nil => rfl
      | cons k ks => cases ds with
        | nil => rfl
        | cons d ds => cases k <;> rfl
    rw [this]
    exact .base (.dK h2)
  | scrF h1 h2 h3 => exact .base (.frz h2)
  | scrK h1 h3 => obtain ⟨o, its, n, h1, h2, _⟩ := h1; exact .kList h1 h2
theorem isi_kit {T : String} {r : Bool} (h : isi d T = some r) : kitB (tyName d) T = some r := by
  unfold isi at h
  split at h <;> cases h <;> simp only [tyName] <;> decide +kernel
theorem isi_tys {T : String} {r : Bool} (h : isi d T = some r) : T = "int" ∨ T = "bool" ∨ T = "str" ∨ T = "tuple" ∨ T = "list" := by
  unfold isi at h
  split at h <;> simp at h ⊢
def evIsi (T : String) (f : ES → Out (R × ES)) : ES → Out (R × ES) := fun ρ => Out.bind (f ρ) fun p => Out.bind (cont p.2 p.1) fun d => match isi d T with
  | some b => .ok (.val (.bool b), p.2)
  | none => .stuck
theorem pe_isiD {T : String} (hT : T = "int" ∨ T = "bool" ∨ T = "str" ∨ T = "tuple" ∨ T = "list") (hgl : Gl X "isinstance") (hm : X.mg "isinstance" = none) (hgt : Gl X (Str.ofString T)) (hmt : X.mg (Str.ofString T) = none) (ha : PE X a (TEof X.K f))
    (hst : starEach [a, .Name (Str.ofString T) p2] X.env = (false, eval a X.env) :: starEach [.Name (Str.ofString T) p2] X.env) :
    PE X (.Call (.Name "isinstance" p) [a, .Name (Str.ofString T) p2] [] pos) (TEof X.K (evIsi T f)) := by
  have hb : bootBuiltins (Str.ofString T) = some (.type T) ∧ (Str.ofString T) ≠ ("__name__" : Str) ∧ ((Str.ofString T) == ("__debug__" : Str)) = false := by
    rcases hT with rfl | rfl | rfl | rfl | rfl <;> exact ⟨by decide +kernel, by decide, by decide⟩
  refine pe_of (pe_callB call_isi hgl hm (by decide +kernel) (pa_cons ha (pa_cons (pe_bltn (v := .ty T) hgt hmt hb.1 rfl hb.2.1 hb.2.2) pa_nil) hst) (by decide) (by decide) hst) ?_
  rintro σ H Q ⟨Λ, ρ, r, ρ2, hr, ee, k⟩
  obtain ⟨⟨r1, ρ1⟩, e1, ee2⟩ := bind_eq ee
  obtain ⟨d, e2, ee3⟩ := bind_eq ee2
  clear ee ee2
  split at ee3 <;> cases ee3
  rename_i c hc
  refine ⟨Λ, ρ, r1, ρ1, hr, e1, fun v H1 Λ1 a1 q1 => ?_⟩
  exact ⟨v, .ty T, .type (tyName d), .type T, c, rfl, .ty T, (q1.da a1.rel e2).tyx, kit_ty (isi_kit hc), k _ _ _ a1 (DA.bl _)⟩

/-! ### displays -/
def evTup (pin : Option Nat) (fs : ES → Out (List R × ES)) : ES → Out (R × ES) := fun ρ => Out.bind (fs ρ) fun p => Out.bind (stills pin p.1 p.2) fun q => .ok (.val (.tuple q.1), q.2)
def evLst (pin : Option Nat) (fs : ES → Out (List R × ES)) : ES → Out (R × ES) := fun ρ => Out.bind (fs ρ) fun p => Out.bind (stills pin p.1 p.2) fun q => .ok (.new (.lst q.1), q.2)
theorem stills_len {pin : Option Nat} : ∀ {rs : List R} {ρ ρ' : ES} {ds : List D}, stills pin rs ρ = .ok (ds, ρ') → ds.length = rs.length
  | [], _, _, _, e => by cases e; rfl
  | r :: rs, _, _, _, e => by
    obtain ⟨p, e1, e⟩ := bind_eq e
    obtain ⟨q, e2, e⟩ := bind_eq e
    cases e
    simp [stills_len e2]
theorem pe_tupD {pin : Option Nat} {k : Nat} (ha : PA X es (TAof X.K fs)) (hz : ∀ ρ rs ρ', fs ρ = .ok (rs, ρ') → rs.length ≤ 1000) : PE X (.Tuple es k pos) (TEof X.K (evTup pin fs)) := by
  refine pe_of (pe_tup ha) ?_
  rintro σ H Q ⟨Λ, ρ, r, ρ2, hr, ee, k⟩
  obtain ⟨⟨rs, ρ1⟩, e1, ee⟩ := bind_eq ee
  obtain ⟨⟨ds, ρ3⟩, e2, ee⟩ := bind_eq ee
  cases ee
  refine ⟨Λ, ρ, rs, ρ1, hr, e1, fun vs H1 Λ1 a1 q1 => ?_⟩
  obtain ⟨b1, _, q2⟩ := q1.let_go hr a1 e2
  have hl := hz _ _ _ e1
  refine ⟨by rw [← q1.length, sizeLine_eq]; omega, fun p hp => k _ _ _ (b1.grow hp) (DA.tup (b1.rel.notHid hp) upd_same (q2.grow (upd_grow hp)))⟩
theorem pe_lstD {pin : Option Nat} (ha : PA X es (TAof X.K fs)) (hz : ∀ ρ rs ρ', fs ρ = .ok (rs, ρ') → rs.length ≤ 1000) : PE X (.List es pos) (TEof X.K (evLst pin fs)) := by
  refine pe_of (pe_lst ha) ?_
  rintro σ H Q ⟨Λ, ρ, r, ρ2, hr, ee, k⟩
  obtain ⟨⟨rs, ρ1⟩, e1, ee⟩ := bind_eq ee
  obtain ⟨⟨ds, ρ3⟩, e2, ee⟩ := bind_eq ee
  cases ee
  refine ⟨Λ, ρ, rs, ρ1, hr, e1, fun vs H1 Λ1 a1 q1 => ?_⟩
  obtain ⟨b1, _, q2⟩ := q1.let_go hr a1 e2
  have hl := hz _ _ _ e1
  refine ⟨by rw [← q1.length, sizeLine_eq]; omega, fun p hp => k _ _ _ (b1.new hr hp) ⟨p, rfl, b1.gone hr p hp, .inr rfl, vs, upd_same, DAs.keep (b1.rel.more hp) q2⟩⟩

/-! ### items -/
theorem ixN_len {n m : Nat} (h : n = m) (i : Int) : ixN n i = ixN m i := by rw [h]
theorem DAs.atI {K : PySem.W.Frag} {Z : Addr → Prop} {H : Hp} {vs : List V} {ds : List D} {i : Int} (h : DAs K Z H vs ds) (e : atI ds i = some d) : ∃ v, atI vs i = some v ∧ DA K Z H v d := by
  unfold L2.atI at e ⊢
  rw [h.length]
  cases q : ixN ds.length i with
  | none => rw [q] at e; cases e
  | some j =>
    rw [q] at e
    exact h.get e
def evIdx (f g : ES → Out (R × ES)) : ES → Out (R × ES) := fun ρ => Out.bind (f ρ) fun p => Out.bind (g p.2) fun q => Out.bind (cont q.2 p.1) fun x => Out.bind (cont q.2 q.1) fun y => Out.bind (ix x y) fun r => .ok (.val r, q.2)
theorem ix_scr {xs : List (D × D)} {i : Int} {z : D} (e : ix (.dict xs) (.int i) = .ok z) : ∃ l, xs = [(.none, .list l)] ∧ atI l i = some z := by
  rcases xs with _ | ⟨⟨k, v⟩, _ | ⟨y, t⟩⟩
  · cases e
  · cases k <;> cases v <;> first | (cases e; done) | skip
    simp only [ix] at e
    split at e <;> cases e
    rename_i h
    exact ⟨_, rfl, h⟩
  · obtain ⟨k', v'⟩ := y
    cases k <;> cases v <;> cases e
theorem pe_idxD (ha : PE X a (TEof X.K f)) (hb : PE X b (TEof X.K g)) (hp : PlainIx b) : PE X (.Subscript a b pos) (TEof X.K (evIdx f g)) := by
  refine ⟨fun pins s σ H Q I ⟨Λ, ρ, r, ρ2, hr, ee, k⟩ => ?_⟩
  obtain ⟨⟨r1, ρ1⟩, e1, f1⟩ := bind_eq ee
  obtain ⟨⟨r2, ρ3⟩, e2, f2⟩ := bind_eq f1
  obtain ⟨x, ex, f3⟩ := bind_eq f2
  obtain ⟨y, ey, f4⟩ := bind_eq f3
  obtain ⟨z, ez, f5⟩ := bind_eq f4
  clear ee f1 f2 f3 f4
  cases f5
  refine (pe_ix ix_seq ha hb hp).run pins s σ H Q I (two hr e1 e2 fun u w H2 Λ2 af q1 q2 => ?_)
  cases x <;> cases y <;> (try simp only [ix] at ez) <;> try (cases ez; done)
  · -- str
    split at ez
    · rename_i hz
      split at ez <;> cases ez
      rename_i c hc
      exact .inr (.inr ⟨_, _, c, q1.str af.rel ex, q2.int af.rel ey, le_sz hz, hc, k _ _ _ af (DA.str _)⟩)
    · cases ez
  · -- list
    split at ez <;> cases ez
    rename_i d hd
    obtain ⟨a1, vs, rfl, h1, d1⟩ := q1.lst af.rel ex
    obtain ⟨v, hv, q⟩ := d1.atI hd
    exact .inl ⟨a1, vs, _, v, rfl, q2.int af.rel ey, SqL.of h1, hv, k _ _ _ af q⟩
  · split at ez <;> cases ez
    rename_i d hd
    obtain ⟨a1, vs, rfl, h1, d1, _⟩ := q1.tup af.rel ex
    obtain ⟨v, hv, q⟩ := d1.atI hd
    exact .inr (.inl ⟨a1, vs, _, v, rfl, q2.int af.rel ey, h1, hv, k _ _ _ af q⟩)
  · rename_i xs i
    obtain ⟨l, rfl, hd⟩ := ix_scr (i := i) ez
    obtain ⟨a1, vs, rfl, h1, d1⟩ := q1.scr af.rel ex
    obtain ⟨v, hv, q⟩ := d1.atI hd
    exact .inl ⟨a1, vs, _, v, rfl, q2.int af.rel ey, h1, hv, k _ _ _ af q⟩

/-! ### slices -/
def TOof (K : PySem.W.Frag) (f : ES → Out (R × ES)) : TO := fun σ H Q => ∃ (Λ : Addr → Prop) (ρ : ES) (d : D) (ρ' : ES) (o : Option Int), Rel K Λ ρ σ H ∧ f ρ = .ok (.val d, ρ') ∧ part d = some o ∧
  ∀ (H' : Hp) (Λf : Addr → Prop), Aft K Λ Λf ρ ρ' σ H H' → Q o H'
theorem po_noneD : PO X none (TOof X.K (evLit .none)) := ⟨fun pins s σ H Q I ⟨Λ, ρ, d, ρ', o, hr, ee, hp, k⟩ => by
  cases ee
  cases hp
  exact po_none.run pins s σ H Q I (k H Λ (Aft.refl hr))⟩
theorem po_someD (he : PE X e (TEof X.K f)) (hn : ∀ ρ ρ', f ρ = .ok (.val .none, ρ') → False) : PO X (some e) (TOof X.K f) := ⟨fun pins s σ H Q I ⟨Λ, ρ, d, ρ', o, hr, ee, hp, k⟩ => by
  refine (po_some he).run pins s σ H Q I ⟨Λ, ρ, _, ρ', hr, ee, fun v H' Λf af q => ?_⟩
  cases d with
  | none => exact (hn _ _ ee).elim
  | int i => cases hp; cases q; exact ⟨i, rfl, k H' Λf af⟩
  | _ => cases hp⟩
def evSlc (f g h : ES → Out (R × ES)) : ES → Out (R × ES) := fun ρ => Out.bind (f ρ) fun p => Out.bind (g p.2) fun q => Out.bind (h q.2) fun s => Out.bind (cont s.2 p.1) fun x => Out.bind (asVal q.1) fun y => Out.bind (asVal s.1) fun z =>
      match part y, part z with
      | some l, some h => Out.bind (slc x l h) fun r => .ok (r, s.2)
      | _, _ => .stuck
theorem DAs.cut {K : PySem.W.Frag} {Z : Addr → Prop} {H : Hp} {vs : List V} {ds : List D} (h : DAs K Z H vs ds) (lo hi : Option Int) : DAs K Z H (cutV vs lo hi) (cutD ds lo hi) := by
  unfold cutV cutD
  rw [h.length]
  exact (h.drop _).take _
theorem pe_slcD {lo hi : Option Expr} {p2 : Pos} (ha : PE X a (TEof X.K f)) (hb : PO X lo (TOof X.K g)) (hc : PO X hi (TOof X.K h)) : PE X (.Subscript a (.Slice lo hi none p2) pos) (TEof X.K (evSlc f g h)) := by
  refine ⟨fun pins s σ H Q I ⟨Λ, ρ, r, ρ2, hr, ee, k⟩ => ?_⟩
  obtain ⟨⟨r1, ρ1⟩, e1, f1⟩ := bind_eq ee
  obtain ⟨⟨r2, ρ3⟩, e2, f2⟩ := bind_eq f1
  obtain ⟨⟨r3, ρ4⟩, e3, f3⟩ := bind_eq f2
  obtain ⟨x, ex, f4⟩ := bind_eq f3
  obtain ⟨y, ey, f5⟩ := bind_eq f4
  obtain ⟨z, ez, f6⟩ := bind_eq f5
  clear ee f1 f2 f3 f4 f5
  have f1 := asVal_eq ey
  have f2 := asVal_eq ez
  simp only at f1 f2
  subst f1; subst f2
  split at f6
  · rename_i l u hl hu
    obtain ⟨w, ew, f7⟩ := bind_eq f6
    clear f6
    cases f7
    have parts : ∀ {T : V → Hp → Prop}, (∀ (v : V) (H' : Hp) (Λf : Addr → Prop), Aft X.K Λ Λf ρ ρ4 σ H H' → RV X.K Λf ρ4 σ H H' r1 v → T v H') →
        TEof X.K f σ H fun v H1 => TOof X.K g σ H1 fun l' H2 => TOof X.K h σ H2 fun u' H3 => l' = l ∧ u' = u ∧ T v H3 := fun kk =>
      ⟨Λ, ρ, r1, ρ1, hr, e1, fun v H1 Λ1 a1 q1 => ⟨Λ1, ρ1, y, ρ3, l, a1.rel, e2, hl, fun H2 Λ2 a2 => ⟨Λ2, ρ3, z, ρ4, u, a2.rel, e3, hu, fun H3 Λ3 a3 =>
        ⟨rfl, rfl, kk v H3 Λ3 ((a1.trans hr a2).trans hr a3) ((q1.keep a1.rel a2).keep a2.rel a3)⟩⟩⟩⟩
    cases x <;> simp only [slc] at ew <;> try (cases ew; done)
    · split at ew <;> cases ew
      rename_i hz
      refine (pe_slice sl_str ha hb hc).run pins s σ H Q I (TEof.imp (parts (T := fun v H3 => rSlS v l u H3 Q) fun v H' Λf af q => ⟨_, q.str af.rel ex, le_sz hz, k _ _ _ af (DA.str _)⟩) fun v H1 t => ?_)
      obtain ⟨A1, A2, A3, A4, A5, A6, A7, A8, A9⟩ := t
      refine ⟨A1, A2, A3, A4, A5, A6, A7, A8, fun H2 Λ2 a2 => ?_⟩
      obtain ⟨B1, B2, B3, B4, B5, B6, B7, B8, B9⟩ := A9 H2 Λ2 a2
      refine ⟨B1, B2, B3, B4, B5, B6, B7, B8, fun H3 Λ3 a3 => ?_⟩
      obtain ⟨rfl, rfl, t⟩ := B9 H3 Λ3 a3
      exact t
    · cases ew
      refine (pe_slice sl_list ha hb hc).run pins s σ H Q I (TEof.imp (parts (T := fun v H3 => rSlL X.K v l u H3 Q) fun v H' Λf af q => ?_) fun v H1 t => ?_)
      · obtain ⟨p, vs, rfl, h1, d1⟩ := q.lst af.rel ex
        exact ⟨p, vs, rfl, SqL.of h1, fun p2 hp => k _ _ _ (af.new hr hp) ⟨p2, rfl, af.gone hr p2 hp, .inr rfl, _, upd_same, DAs.keep (af.rel.more hp) (d1.cut _ _)⟩⟩
      · obtain ⟨A1, A2, A3, A4, A5, A6, A7, A8, A9⟩ := t
        refine ⟨A1, A2, A3, A4, A5, A6, A7, A8, fun H2 Λ2 a2 => ?_⟩
        obtain ⟨B1, B2, B3, B4, B5, B6, B7, B8, B9⟩ := A9 H2 Λ2 a2
        refine ⟨B1, B2, B3, B4, B5, B6, B7, B8, fun H3 Λ3 a3 => ?_⟩
        obtain ⟨rfl, rfl, t⟩ := B9 H3 Λ3 a3
        exact t
    · cases ew
      refine (pe_slice sl_tupA ha hb hc).run pins s σ H Q I (TEof.imp (parts (T := fun v H3 => rSlA X.K v l u H3 Q) fun v H' Λf af q => ?_) fun v H1 t => ?_)
      · obtain ⟨p, vs, rfl, h1, d1, t1⟩ := q.tup af.rel ex
        refine ⟨p, vs, rfl, h1, fun z => ?_, fun _ p2 hp => k _ _ _ (af.grow hp) (DA.tup (af.rel.notHid hp) upd_same ((d1.cut _ _).grow (upd_grow hp)))⟩
        refine k _ _ _ af ?_
        rw [d1.length] at z
        have e : cutD _ l u = _ := show cutD _ l u = _ by
          unfold cutD
          rw [z.1, z.2, List.drop_zero, Nat.sub_zero, List.take_length]
        rw [e]
        exact t1
      · obtain ⟨A1, A2, A3, A4, A5, A6, A7, A8, A9⟩ := t
        refine ⟨A1, A2, A3, A4, A5, A6, A7, A8, fun H2 Λ2 a2 => ?_⟩
        obtain ⟨B1, B2, B3, B4, B5, B6, B7, B8, B9⟩ := A9 H2 Λ2 a2
        refine ⟨B1, B2, B3, B4, B5, B6, B7, B8, fun H3 Λ3 a3 => ?_⟩
        obtain ⟨rfl, rfl, t⟩ := B9 H3 Λ3 a3
        exact t
  · cases f6
end
end DI
end

section
set_option maxRecDepth 100000
/-! KE5: reversed slices, methods of texts, append. -/
namespace DI
open PySem L2

theorem fm_congr {α β : Type} {f g : α → Option β} : ∀ {l : List α}, (∀ m ∈ l, f m = g m) → l.filterMap f = l.filterMap g
  | [], _ => rfl
  | a :: l, h => by
    rw [List.filterMap_cons, List.filterMap_cons, h a List.mem_cons_self, fm_congr fun m hm => h m (List.mem_cons_of_mem _ hm)]
theorem rev_pick (xs : Array Value) : ((List.range xs.size).filterMap fun (m : Nat) => xs[(((xs.size : Int) - 1) + (m : Int) * (-1)).toNat]?).toArray = xs.toList.reverse.toArray := by
  have e : (List.range xs.size).filterMap (fun (m : Nat) => xs[(((xs.size : Int) - 1) + (m : Int) * (-1)).toNat]?) = ((List.range xs.size).map fun k => xs.size - 1 - k).filterMap (xs[·]?) := by
    rw [List.filterMap_map]
    refine fm_congr fun m hm => ?_
    have := List.mem_range.mp hm
    show xs[(((xs.size : Int) - 1) + (m : Int) * (-1)).toNat]? = xs[xs.size - 1 - m]?
    have : (((xs.size : Int) - 1) + (m : Int) * (-1)).toNat = xs.size - 1 - m := by omega
    rw [this]
  rw [e, PySem.W.krv_range, List.filterMap_reverse, PySem.W.krv_all]
section
variable {prog : Program} {w : World} {A : Around} {E : Value → Shared → Prop} {s : Shared}
theorem rev_applied {sl : Addr} {t : Tok} {n : Nat} {Q : Int × Int × Nat → Shared → Prop} (hs : s.heap.IsSliceOf sl .none .none (.int (-1) t))
    (h : Q ((n : Int) - 1, -1, n) s) : wpAny (model prog w) A (Builtin.Slice.sliceApplied (.ref sl) (pure (n : Int))) Q E s := by
  obtain ⟨os, h1, h2, h3⟩ := id hs
  unfold Builtin.Slice.sliceApplied Builtin.Slice.sliceFields
  refine wpAny_bind (wpAny_bind (wpAny_field h1 h3 (x := .none) rfl (wpAny_bind (wpAny_field h1 h3 (x := .none) rfl (wpAny_bind (wpAny_field h1 h3 (x := .int (-1) t) rfl (wpAny_pure ?_)))))))
  refine wpAny_bind (HT.slicePart_ (.int _ _) ?_)
  show wpAny _ _ (if ((-1 : Int) == 0) = true then _ else _) _ _ s
  rw [if_neg (by decide)]
  refine wpAny_bind (HT.slicePart_ .none (wpAny_bind (HT.slicePart_ .none (wpAny_bind (wpAny_pure ?_)))))
  have e1 : Builtin.Slice.sliceAdjust none none (-1) (n : Int) = ((n : Int) - 1, -1) := by simp [Builtin.Slice.sliceAdjust]
  have e2 : Builtin.Slice.slicePlaces ((n : Int) - 1) (-1) (-1) = n := by
    unfold Builtin.Slice.slicePlaces
    rw [if_neg (by decide)]
    by_cases q : (n : Int) - 1 > -1
    · rw [if_pos q]
      have e4 : ((n : Int) - 1 - -1 - 1) / (- -1) + 1 = (n : Int) := by
        rw [show (- -1 : Int) = 1 by decide, Int.ediv_one]; omega
      rw [e4, Int.toNat_natCast]
    · rw [if_neg q]; simp; omega
  show wpAny _ _ (match Builtin.Slice.sliceAdjust none none (-1) (n : Int) with | (lo, hi) => pure (lo, (-1 : Int), Builtin.Slice.slicePlaces lo hi (-1))) _ _ s
  rw [e1]
  show wpAny _ _ (pure ((n : Int) - 1, (-1 : Int), Builtin.Slice.slicePlaces ((n : Int) - 1) (-1) (-1))) _ _ s
  rw [e2]
  exact wpAny_pure h
theorem getItem_tuple_rev {t sl : Addr} {items : Array Value} {tk : Tok} {Q : Value → Shared → Prop} (ht : PyProof.Rows.IsTup s.heap t items) (hs : s.heap.IsSliceOf sl .none .none (.int (-1) tk))
    (h : Q (.ref s.heap.objs.size) { s with heap := s.heap.push { cls := .type "tuple", data := .seq items.toList.reverse.toArray } })
    (hsz : items.size ≤ sizeLine) : wpAny (model prog w) A (getItem (.ref t) (.ref sl)) Q E s := by
  have sok : sizeOk (.seq items.toList.reverse.toArray) := by
    show items.toList.reverse.toArray.size ≤ sizeLine
    simpa using hsz
  obtain ⟨os, ho, hc, hd⟩ := id hs
  have ts : s.TypeIs (.ref sl) "slice" := ⟨os, ho, hc⟩
  unfold getItem
  try with_reducible refine wpAny_holding ?_
  first | refine wpAny_bind (wpAny_pure ?_) | skip
  refine wpAny_bind (wpAny_sequenceKey ht.typeIs (by decide) (wpAny_bind (wpAny_callSpecial?_slot (name := Str.ofString "__getitem__") ht.typeIs PyProof.Rows.slot_tuple_getitem
    (wpAny_call_entry PyProof.Rows.slot_tuple_getitem ht.typeIs PyProof.Rows.entry_tuple_getitem ?_ (PyProof.Rows.args_tuple_getitem _ _)))))
  show wpAny _ _ (Builtin.Tuple.tupleItemsOf (.ref t) >>= _) _ _ s
  refine wpAny_bind (PyProof.Rows.tupleItemsOf_ ht (wpAny_bind (wpAny_typeOf ts ?_)))
  rw [if_pos (by decide)]
  refine wpAny_bind (rev_applied hs ?_)
  have no : ¬ ((((items.size : Int) - 1) == 0 && (-1 : Int) == 1 && items.size == items.size) = true) := by simp
  show wpAny _ _ (if (((items.size : Int) - 1) == 0 && (-1 : Int) == 1 && items.size == items.size) = true then _ else _) _ _ s
  rw [if_neg no, rev_pick]
  first
    | exact wpAny_bind (m := Builtin.Tuple.tupleExact _) (wpAny_newObj_type (wpAny_pure ⟨_, rfl, wpAny_pure h⟩) sok)
    | exact wpAny_bind (m := Builtin.Tuple.tupleExact _) (wpAny_newObj_type (wpAny_bind (wpAny_pure (wpAny_pure ⟨_, rfl, wpAny_pure h⟩))) sok)
    | exact wpAny_bind (wpAny_bind (m := Builtin.Tuple.tupleExact _) (wpAny_newObj_type (wpAny_pure (wpAny_pure ⟨_, rfl, wpAny_pure h⟩)) sok))
    | exact wpAny_bind (wpAny_bind (m := Builtin.Tuple.tupleExact _) (wpAny_newObj_type (wpAny_pure ⟨_, rfl, wpAny_pure h⟩) sok))
end
section
variable {X : Cx} {e a b c : Expr} {es : List Expr} {f g h : ES → Out (R × ES)} {fs gs : ES → Out (List R × ES)} {pos p p2 : Pos} {x : Str} {i : Nat} {d : D}
def tRevT (K : PySem.W.Frag) (te : TE) : TE := fun σ H Q => te σ H fun x H1 => ∃ a xs, x = .ref a ∧ SqT K H1 a xs ∧ ∀ p, H1 p = none → Q (.ref p) (upd H1 p (.tup xs.reverse))
theorem pe_revT {te : TE} {k : Nat} {p1 p2 p3 : Pos} (he : PE X e te) : PE X (.Subscript e (.Slice none none (some (.UnaryOp .USub (.Constant (.int 1) k p1) p2)) p3) pos) (tRevT X.K te) := by
  refine ⟨fun pins s σ H Q I hh => ?_⟩
  refine PyProof.Rows.Subscript_ (thn (he.run pins s σ H _ I hh) fun v s1 ⟨x, H1, I1, r1, a, xs, ex, hx, q⟩ => ?_)
  subst ex
  obtain rfl : v = Value.ref a := r1
  have hst : PO X (some (.UnaryOp .USub (.Constant (.int 1) k p1) p2)) (tPart (tUn (rU fun i => .int (-i)) (tC (.int 1)))) := po_some (pe_un un_neg pe_int)
  refine wpAny_Slice (thn (po_none.run pins s1 σ H1 (fun o H2 => o = none ∧ H2 = H1) I1 ⟨rfl, rfl⟩) fun vl s2 ⟨l, H2, I2, pl, el, e2⟩ => ?_)
  subst el; subst e2
  refine thn (po_none.run pins s2 σ H2 (fun o H3 => o = none ∧ H3 = H2) I2 ⟨rfl, rfl⟩) fun vu s3 ⟨u, H3, I3, pu, eu, e3⟩ => ?_
  subst eu; subst e3
  refine thn (hst.run pins s3 σ H3 (fun o H4 => o = some (-1) ∧ H4 = H3) I3 ⟨1, rfl, -1, rfl, rfl, rfl⟩) fun vs s4 ⟨o, H4, I4, ps, eo, e4⟩ => ?_
  subst eo; subst e4
  cases pl
  cases pu
  obtain ⟨tk, rfl⟩ : ∃ t, vs = Value.int (-1) t := by cases ps; exact ⟨_, rfl⟩
  have J : Inv X pins σ H4 { s4 with heap := s4.heap.push { cls := .type "slice", data := .fields #[.none, .none, .int (-1) tk] } } := I4.kept (t' := s4.toks) fun b ob q => Heap.get?_push_of_some _ q
  obtain ⟨its, rv, ht, hz⟩ := J.tuple hx
  have hlen := rv.length
  refine PyProof.Rows.tail_any (ops := [.ref a, .ref s4.heap.objs.size]) ht.typeIs (PyProof.Rows.slot_tuple_getitem.lookup) ?_ (by with_unfolding_all rfl)
  refine getItem_tuple_rev ht (Heap.IsSliceOf.new _ _ _ _) ?_ (by rw [List.size_toArray]; omega)
  refine ⟨.ref _, _, J.laid (t' := s4.toks) (o := .tup xs.reverse) (fun b ob q => Heap.get?_push_of_some _ q) (Nat.le_refl _) ?_, rfl, q _ (J.hok.fresh (Nat.le_refl _))⟩
  exact ⟨by rw [List.length_reverse]; exact hz, its.reverse, rv.reverse, PyProof.Rows.IsTup.new (s4.heap.push { cls := .type "slice", data := .fields #[.none, .none, .int (-1) tk] }) its.reverse.toArray⟩
def evRev (f : ES → Out (R × ES)) : ES → Out (R × ES) := fun ρ => Out.bind (f ρ) fun p => Out.bind (cont p.2 p.1) fun x => Out.bind (rvs x) fun r => .ok (r, p.2)
theorem pe_revD {k : Nat} {p1 p2 p3 : Pos} (ha : PE X a (TEof X.K f)) : PE X (.Subscript a (.Slice none none (some (.UnaryOp .USub (.Constant (.int 1) k p1) p2)) p3) pos) (TEof X.K (evRev f)) := by
  refine ⟨fun pins s σ H Q I ⟨Λ, ρ, r, ρ2, hr, ee, kk⟩ => ?_⟩
  obtain ⟨⟨r1, ρ1⟩, e1, f1⟩ := bind_eq ee
  obtain ⟨x, ex, f2⟩ := bind_eq f1
  obtain ⟨y, ey, f3⟩ := bind_eq f2
  clear ee f1 f2
  cases f3
  cases x <;> simp only [rvs] at ey <;> cases ey
  · refine (pe_revL ha).run pins s σ H Q I ⟨Λ, ρ, r1, ρ1, hr, e1, fun v H' Λf af q => ?_⟩
    obtain ⟨a1, vs, rfl, h1, d1⟩ := q.lst af.rel ex
    exact ⟨a1, vs, rfl, SqL.of h1, fun p hp => kk _ _ _ (af.new hr hp) ⟨p, rfl, af.gone hr p hp, .inr rfl, _, upd_same, DAs.keep (af.rel.more hp) d1.reverse⟩⟩
  · refine (pe_revT ha).run pins s σ H Q I ⟨Λ, ρ, r1, ρ1, hr, e1, fun v H' Λf af q => ?_⟩
    obtain ⟨a1, vs, rfl, h1, d1, _⟩ := q.tup af.rel ex
    exact ⟨a1, vs, rfl, h1, fun p hp => kk _ _ _ (af.grow hp) (DA.tup (af.rel.notHid hp) upd_same (d1.reverse.grow (upd_grow hp)))⟩

/-! ### methods -/
def evMeth (m : MT) (f : ES → Out (R × ES)) (fs : ES → Out (List R × ES)) : ES → Out (R × ES) := fun ρ => Out.bind (f ρ) fun p => Out.bind (fs p.2) fun q => Out.bind (asVal p.1) fun d => Out.bind (conts q.2 q.1) fun ds => Out.bind (mt m d ds) fun r => .ok (r, q.2)
theorem evMeth1 {m : MT} {ρ ρ' : ES} {r : R} (h : evMeth m f (evCons g evNil) ρ = .ok (r, ρ')) : ∃ x ρ1 r2 y, f ρ = .ok (.val x, ρ1) ∧ g ρ1 = .ok (r2, ρ') ∧ cont ρ' r2 = .ok y ∧ mt m x [y] = .ok r := by
  obtain ⟨⟨r1, ρ1⟩, e1, h1⟩ := bind_eq h
  obtain ⟨⟨rs, ρ2⟩, e2, h2⟩ := bind_eq h1
  obtain ⟨x, ex, h3⟩ := bind_eq h2
  obtain ⟨ys, ey, h4⟩ := bind_eq h3
  obtain ⟨z, ez, h5⟩ := bind_eq h4
  clear h h1 h2 h3 h4
  cases h5
  have e3 := asVal_eq ex
  simp only at e3
  subst e3
  obtain ⟨⟨r2, ρ3⟩, g1, g2⟩ := bind_eq e2
  cases g2
  obtain ⟨y, g3, g4⟩ := bind_eq ey
  cases g4
  exact ⟨x, ρ1, r2, y, e1, g1, g3, ez⟩
/-- a receiver that is data, then an argument -/
theorem recv {K : PySem.W.Frag} {Λ : Addr → Prop} {ρ ρ1 ρ2 : ES} {σ : St} {H : Hp} {d : D} {r2 : R} {P : V → Prop} {T : V → V → Hp → Prop} (h : Rel K Λ ρ σ H) (hf : f ρ = .ok (.val d, ρ1)) (hg : g ρ1 = .ok (r2, ρ2))
    (hP : ∀ (v : V) (H1 : Hp), DA K (fun _ => False) H1 v d → P v)
    (k : ∀ (x y : V) (H2 : Hp) (Λ2 : Addr → Prop), Aft K Λ Λ2 ρ ρ2 σ H H2 → RV K Λ2 ρ2 σ H H2 (.val d) x → RV K Λ2 ρ2 σ H H2 r2 y → T x y H2) : TEof K f σ H fun x H1 => P x ∧ TEof K g σ H1 fun y H2 => T x y H2 :=
  ⟨Λ, ρ, .val d, ρ1, h, hf, fun x H1 Λ1 a1 q1 => ⟨hP x H1 (DA.less (fun _ z => z.elim) q1), Λ1, ρ1, r2, ρ2, a1.rel, hg, fun y H2 Λ2 a2 q2 => k x y H2 Λ2 (a1.trans h a2) (q1.keep a1.rel a2) (q2.from_ (a1.gone h))⟩⟩
theorem das_strs {K : PySem.W.Frag} {Z : Addr → Prop} {H : Hp} : ∀ l : List Str, DAs K Z H (l.map V.str) (l.map PyData.str)
  | [] => .nil
  | z :: l => .cons (.str z) (das_strs l)
variable {apos : Pos}
theorem pe_splitD (ho : PE X a (TEof X.K f)) (he : PE X e (TEof X.K g)) (hs : starEach [e] X.env = [(false, eval e X.env)]) (hbase : attributeBase a "split" X.env (eval a X.env) = eval a X.env) (hline : (apos.endLine == pos.line) = true) :
    PE X (.Call (.Attribute a "split" apos) [e] [] pos) (TEof X.K (evMeth .split f (evCons g evNil))) := by
  refine ⟨fun pins s σ H Q I ⟨Λ, ρ, r, ρ2, hr, ee, k⟩ => ?_⟩
  obtain ⟨x, ρ1, r2, y, e1, e2, ey, ez⟩ := evMeth1 ee
  clear ee
  cases x <;> cases y <;> simp only [mt] at ez <;> try (cases ez; done)
  split at ez <;> cases ez
  rename_i hz
  refine (pe_split ho he hs hbase hline).run pins s σ H Q I (recv hr e1 e2 (fun v H1 q => by cases q; exact ⟨_, rfl⟩) fun u w H2 Λ2 af q1 q2 => ?_)
  have h2 := q2.str af.rel ey
  subst h2
  cases q1
  exact ⟨_, _, rfl, rfl, hz.1, le_sz hz.2, fun p hp => k _ _ _ (af.new hr hp) ⟨p, rfl, af.gone hr p hp, .inr rfl, _, upd_same, das_strs _⟩⟩
theorem pe_joinD (ho : PE X a (TEof X.K f)) (he : PE X e (TEof X.K g)) (hs : starEach [e] X.env = [(false, eval e X.env)]) (hbase : attributeBase a "join" X.env (eval a X.env) = eval a X.env) (hline : (apos.endLine == pos.line) = true) :
    PE X (.Call (.Attribute a "join" apos) [e] [] pos) (TEof X.K (evMeth .join f (evCons g evNil))) := by
  refine ⟨fun pins s σ H Q I ⟨Λ, ρ, r, ρ2, hr, ee, k⟩ => ?_⟩
  obtain ⟨x, ρ1, r2, y, e1, e2, ey, ez⟩ := evMeth1 ee
  clear ee
  cases x <;> cases y <;> simp only [mt] at ez <;> try (cases ez; done)
  · split at ez
    · rename_i ys hys
      split at ez <;> cases ez
      rename_i hz
      refine (pe_join ho he hs hbase hline).run pins s σ H Q I (recv hr e1 e2 (fun v H1 q => by cases q; exact ⟨_, rfl⟩) fun u w H2 Λ2 af q1 q2 => ?_)
      obtain ⟨a1, vs, rfl, h1, d1⟩ := q2.lst af.rel ey
      rw [strs_vs d1 hys] at h1
      cases q1
      exact ⟨_, a1, ys, rfl, rfl, .inl (SqL.of h1), hz, k _ _ _ af (DA.str _)⟩
    · cases ez
  · split at ez
    · rename_i ys hys
      split at ez <;> cases ez
      rename_i hz
      refine (pe_join ho he hs hbase hline).run pins s σ H Q I (recv hr e1 e2 (fun v H1 q => by cases q; exact ⟨_, rfl⟩) fun u w H2 Λ2 af q1 q2 => ?_)
      obtain ⟨a1, vs, rfl, h1, d1, _⟩ := q2.tup af.rel ey
      rw [strs_vs d1 hys] at h1
      cases q1
      exact ⟨_, a1, ys, rfl, rfl, .inr h1, hz, k _ _ _ af (DA.str _)⟩
    · cases ez
theorem idxOf_spec {z : Str} : ∀ {ys : List Str} {j : Nat}, ys.idxOf? z = some j → True ∧ ys[j]? = some z ∧ ∀ m, m < j → ys[m]? ≠ some z
  | [], j, h => by simp at h
  | y :: ys, j, h => by
    rw [List.idxOf?_cons] at h
    by_cases e : (y == z) = true
    · rw [if_pos e] at h
      cases h
      exact ⟨trivial, by simpa using e, fun m hm => absurd hm (Nat.not_lt_zero m)⟩
    · rw [if_neg e] at h
      cases q : ys.idxOf? z with
      | none => rw [q] at h; cases h
      | some i =>
        rw [q] at h
        cases h
        obtain ⟨_, h2, h3⟩ := idxOf_spec q
        refine ⟨trivial, by simpa using h2, fun m hm => ?_⟩
        cases m with
        | zero => simpa using e
        | succ m => simpa using h3 m (Nat.lt_of_succ_lt_succ hm)
/-- t.index(x), t a tuple of the module's -/
theorem pe_indexD {v : V} {u : Value} {d : D} (hg : Gl X x) (hm : X.mg x = some u) (rv : RelV v u) (hd : DA X.K (fun _ => True) (fun _ => none) v d) (hdb : (x == ("__debug__" : Str)) = false) (he : PE X e (TEof X.K g))
    (hs : starEach [e] X.env = (false, eval e X.env) :: starEach [] X.env) (hline : (apos.endLine == pos.line) = true) (hbase : attributeBase (.Name x p) "index" X.env (eval (.Name x p) X.env) = eval (.Name x p) X.env)
    (hfew : ((backTo pos (starEach [e] X.env)).all (fun x => !x.1) && (backToKw pos (keywordEach [] X.env)).all (fun x => x.1.isSome) && decide ([e].length + ([] : List Keyword).length + (if ([] : List Keyword).isEmpty then 0 else 1) < 30)) = true) :
    PE X (.Call (.Attribute (.Name x p) "index" apos) [e] [] pos) (TEof X.K (evMeth .index (evLit d) (evCons g evNil))) := by
  refine ⟨fun pins s σ H Q I ⟨Λ, ρ, r, ρ2, hr, ee, k⟩ => ?_⟩
  obtain ⟨x, ρ1, r2, y, e1, e2, ey, ez⟩ := evMeth1 ee
  clear ee
  cases e1
  cases d <;> cases y <;> simp only [mt] at ez <;> try (cases ez; done)
  split at ez
  · rename_i ys hys
    split at ez <;> cases ez
    rename_i j hj
    refine (pe_bm PySem.F.plainAttrs_tuple PySem.F.slot_tuple_index PySem.F.type_tuple_index mt_tup_index (pe_glob (pos := p) hg hm rv hdb) (pa_cons he pa_nil hs) hbase hfew hline hs rfl).run pins s σ H Q I ?_
    cases hd with
    | tup n _ _ => exact absurd trivial n
    | @tupK a1 vs _ h1 h3 =>
      refine ⟨?_, Λ, ρ, r2, ρ2, hr, e2, fun w H2 Λ2 af q2 => ?_⟩
      · obtain ⟨o, its, n, g1, g2, g3, _⟩ := id h1
        exact .inr (.inl ⟨rfl, o, g1, g2, g3⟩)
      · have h2 := q2.str af.rel ey
        subst h2
        have hq := SqT_K h1 H2
        rw [strs_vs h3 hys] at hq
        obtain ⟨hjl, hj2, hj3⟩ := idxOf_spec hj
        exact ⟨a1, ys, _, j, rfl, rfl, hq, hj2, hj3, k _ _ _ af (DA.int _)⟩
  · cases ez
end
end DI
end

section
set_option maxRecDepth 100000
/-! KF: statements: what is known behind them; targets; append; what is walked. -/
namespace DI
open PySem L2

/-- from ρ0, σ0, H0 to ρ, σ, H: Λf: what is hidden now -/
structure Mid (K : PySem.W.Frag) (pin : Option Nat) (Λ Λf : Addr → Prop) (ρ0 : ES) (σ0 : St) (H0 : Hp) (ρ : ES) (σ : St) (H : Hp) : Prop where
  ext : Ext Λ Λf H0
  rel : Rel K Λf ρ σ H
  fr : ∀ (a : Addr) (o : HO), H0 a = some o → ¬ OwnA ρ0 σ0 a → H a = some o
  own : ∀ a, OwnA ρ σ a → OwnA ρ0 σ0 a ∨ H0 a = none
  there : ∀ a, OwnA ρ0 σ0 a → ∃ o, H a = some o
  pin : ∀ i, pin = some i → σ[i]? = σ0[i]?
section
variable {K : PySem.W.Frag} {pin : Option Nat} {Λ Λ' Λ1 Λ2 Λf : Addr → Prop} {ρ ρ0 ρ' ρ1 ρ2 : ES} {σ σ0 σ1 σ2 : St} {H H' H0 H1 H2 : Hp}
theorem Aft.mid (a : Aft K Λ Λ1 ρ ρ1 σ H H1) : Mid K pin Λ Λ1 ρ σ H ρ1 σ H1 := ⟨a.ext, a.rel, a.fr, fun b q => .inl (a.sub.ownA q), a.own, fun _ _ => rfl⟩
theorem Mid.refl (h : Rel K Λ ρ σ H) : Mid K pin Λ Λ ρ σ H ρ σ H := (Aft.refl h).mid
theorem Mid.gone (h : Rel K Λ ρ0 σ0 H0) (a : Mid K pin Λ Λ1 ρ0 σ0 H0 ρ1 σ1 H1) : ∀ b, H1 b = none → H0 b = none := fun b e => by
  rcases q : H0 b with _ | o
  · rfl
  · exfalso
    rcases Classical.em (OwnA ρ0 σ0 b) with z | z
    · obtain ⟨u, e'⟩ := a.there b z; rw [e] at e'; cases e'
    · rw [a.fr b o q z] at e; cases e
theorem Mid.trans (h : Rel K Λ ρ0 σ0 H0) (a : Mid K pin Λ Λ1 ρ0 σ0 H0 ρ1 σ1 H1) (b : Mid K pin Λ1 Λ2 ρ1 σ1 H1 ρ2 σ2 H2) : Mid K pin Λ Λ2 ρ0 σ0 H0 ρ2 σ2 H2 := by
  refine ⟨a.ext.trans b.ext (a.gone h), b.rel, fun x o e n => ?_, fun x q => ?_, fun x q => ?_, fun i e => (b.pin i e).trans (a.pin i e)⟩
  · refine b.fr x o (a.fr x o e n) fun z => ?_
    rcases a.own x z with z | z
    · exact n z
    · rw [z] at e; cases e
  · rcases b.own x q with z | z
    · exact a.own x z
    · exact .inr (a.gone h x z)
  · obtain ⟨o, e⟩ := a.there x q
    rcases Classical.em (OwnA ρ1 σ1 x) with z | z
    · exact b.there x z
    · exact ⟨o, b.fr x o e z⟩
/-- what stood and was not hidden stays so -/
theorem Mid.still (h : Rel K Λ ρ0 σ0 H0) (a : Mid K pin Λ Λ1 ρ0 σ0 H0 ρ1 σ1 H1) : ∀ (x : Addr) (o : HO), ¬ Hid Λ ρ0 σ0 x → H0 x = some o → ¬ Hid Λ1 ρ1 σ1 x ∧ H1 x = some o := by
  refine fun x o n e => ⟨fun z => ?_, a.fr x o e fun z => n (.inr z)⟩
  rcases z with z | z
  · rcases a.ext.2 x z with z | z
    · exact n (.inl z)
    · rw [z] at e; cases e
  · rcases a.own x z with z | z
    · exact n (.inr z)
    · rw [z] at e; cases e
theorem Mid.mono (a : Mid K pin Λ Λ1 ρ0 σ0 H0 ρ1 σ1 H1) : Mid K pin Λ Λ ρ0 σ0 H0 ρ1 σ1 H1 := ⟨Ext.refl _ _, a.rel.mono a.ext.1, a.fr, a.own, a.there, a.pin⟩
/-- a slot stored: data -/
theorem Rel.setVal (h : Rel K Λ ρ σ H) {i : Nat} {d : D} {v : V} (hi : i < ρ.length) (q : DA K (Hid Λ ρ σ) H v d) : Rel K Λ (ρ.set i (some (.val d))) (σ.set i (some v)) H ∧ ∀ a, OwnA (ρ.set i (some (.val d))) (σ.set i (some v)) a → OwnA ρ σ a := by
  have own : ∀ a, OwnA (ρ.set i (some (.val d))) (σ.set i (some v)) a → OwnA ρ σ a := fun a ⟨j, o, e1, e2⟩ => by
    rcases set_get e1 with ⟨_, z⟩ | ⟨n, z⟩
    · cases z
    · rw [List.getElem?_set_ne n] at e2; exact ⟨j, o, z, e2⟩
  have hl : ∀ a, Hid Λ (ρ.set i (some (.val d))) (σ.set i (some v)) a → Hid Λ ρ σ a := fun a z => z.elim .inl fun q => .inr (own a q)
  refine ⟨⟨by rw [List.length_set, List.length_set]; exact h.len, fun j d' e => ?_, fun j o e => ?_, fun j k o o' a e1 e2 s1 s2 => ?_, h.lam⟩, own⟩
  · rcases set_get e with ⟨n, z⟩ | ⟨n, z⟩
    · subst n; cases z
      exact ⟨v, List.getElem?_set_self (by rw [← h.len]; exact hi), q.less hl⟩
    · obtain ⟨w, ew, qq⟩ := h.val j d' z
      exact ⟨w, by rw [List.getElem?_set_ne n]; exact ew, qq.less hl⟩
  · rcases set_get e with ⟨n, z⟩ | ⟨n, z⟩
    · cases z
    · obtain ⟨a, ea, na, m⟩ := h.own j o z
      exact ⟨a, by rw [List.getElem?_set_ne n]; exact ea, na, m.keep (fun _ e => e) fun b u nb eb => ⟨fun z => nb (hl b z), eb⟩⟩
  · rcases set_get e1 with ⟨_, z1⟩ | ⟨n1, z1⟩
    · cases z1
    · rcases set_get e2 with ⟨_, z2⟩ | ⟨n2, z2⟩
      · cases z2
      · rw [List.getElem?_set_ne n1] at s1
        rw [List.getElem?_set_ne n2] at s2
        exact h.dis j k o o' a z1 z2 s1 s2
/-- .. a new object -/
theorem Rel.setOwn (h : Rel K Λf ρ σ H) {i : Nat} {o : MO} {p : Addr} (hi : i < ρ.length) (hl : ∀ a, Λ a → Λf a) (np : ¬ Λ p) (hp : Λf p) (m : MOk K (Hid Λf ρ σ) H p o) :
    Rel K Λ (ρ.set i (some (.own o))) (σ.set i (some (.ref p))) H ∧ ∀ a, OwnA (ρ.set i (some (.own o))) (σ.set i (some (.ref p))) a → OwnA ρ σ a ∨ a = p := by
  have own : ∀ a, OwnA (ρ.set i (some (.own o))) (σ.set i (some (.ref p))) a → OwnA ρ σ a ∨ a = p := fun a ⟨j, o', e1, e2⟩ => by
    rcases set_get e1 with ⟨n, z⟩ | ⟨n, z⟩
    · subst n
      rw [List.getElem?_set_self (by rw [← h.len]; exact hi)] at e2
      cases e2; exact .inr rfl
    · rw [List.getElem?_set_ne n] at e2; exact .inl ⟨j, o', z, e2⟩
  have hd : ∀ a, Hid Λ (ρ.set i (some (.own o))) (σ.set i (some (.ref p))) a → Hid Λf ρ σ a := fun a z => z.elim (fun q => .inl (hl a q)) fun q => (own a q).elim .inr fun e => .inl (by rw [e]; exact hp)
  have npo : ¬ OwnA ρ σ p := fun q => (h.ownThere q).1 hp
  refine ⟨⟨by rw [List.length_set, List.length_set]; exact h.len, fun j d' e => ?_, fun j o' e => ?_, fun j k o1 o2 a e1 e2 s1 s2 => ?_, fun a z => h.lam a (hl a z)⟩, own⟩
  · rcases set_get e with ⟨n, z⟩ | ⟨n, z⟩
    · cases z
    · obtain ⟨w, ew, qq⟩ := h.val j d' z
      exact ⟨w, by rw [List.getElem?_set_ne n]; exact ew, qq.less hd⟩
  · rcases set_get e with ⟨n, z⟩ | ⟨n, z⟩
    · subst n; cases z
      exact ⟨p, List.getElem?_set_self (by rw [← h.len]; exact hi), np, m.keep (fun _ e => e) fun b u nb eb => ⟨fun z => nb (hd b z), eb⟩⟩
    · obtain ⟨a, ea, na, mm⟩ := h.own j o' z
      exact ⟨a, by rw [List.getElem?_set_ne n]; exact ea, fun z => na (hl a z), mm.keep (fun _ e => e) fun b u nb eb => ⟨fun z => nb (hd b z), eb⟩⟩
  · rcases set_get e1 with ⟨n1, z1⟩ | ⟨n1, z1⟩ <;> rcases set_get e2 with ⟨n2, z2⟩ | ⟨n2, z2⟩
    · exact n1.symm.trans n2
    · subst n1
      rw [List.getElem?_set_self (by rw [← h.len]; exact hi)] at s1
      rw [List.getElem?_set_ne n2] at s2
      cases s1
      exact absurd ⟨k, o2, z2, s2⟩ npo
    · subst n2
      rw [List.getElem?_set_self (by rw [← h.len]; exact hi)] at s2
      rw [List.getElem?_set_ne n1] at s1
      cases s2
      exact absurd ⟨j, o1, z1, s1⟩ npo
    · rw [List.getElem?_set_ne n1] at s1
      rw [List.getElem?_set_ne n2] at s2
      exact h.dis j k o1 o2 a z1 z2 s1 s2
/-- an owned object changed -/
theorem Rel.put (h : Rel K Λ ρ σ H) {i : Nat} {o o' : MO} {l : Addr} {u : HO} (e : ρ[i]? = some (some (.own o))) (es : σ[i]? = some (some (.ref l))) (m : MOk K (Hid Λ ρ σ) (upd H l u) l o') :
    Rel K Λ (ρ.set i (some (.own o'))) σ (upd H l u) ∧ Sub (ρ.set i (some (.own o'))) ρ := by
  have hi : i < ρ.length := (List.getElem?_eq_some_iff.mp e).1
  have own : ∀ a, OwnA (ρ.set i (some (.own o'))) σ a → OwnA ρ σ a := fun a ⟨j, o2, e1, e2⟩ => by
    rcases set_get e1 with ⟨n, z⟩ | ⟨n, z⟩
    · subst n; exact ⟨i, o, e, e2⟩
    · exact ⟨j, o2, z, e2⟩
  have hl : OwnA ρ σ l := ⟨i, o, e, es⟩
  have nz : ∀ (a : Addr) (w : HO), ¬ Hid Λ ρ σ a → H a = some w → ¬ Hid Λ (ρ.set i (some (.own o'))) σ a ∧ upd H l u a = some w := fun a w n ew =>
    ⟨fun z => n (z.elim .inl fun q => .inr (own a q)), by rw [upd_ne (fun z => n (.inr (by rw [z]; exact hl)))]; exact ew⟩
  refine ⟨⟨by rw [List.length_set]; exact h.len, fun j d ej => ?_, fun j o2 ej => ?_, fun j k o1 o2 a e1 e2 s1 s2 => ?_, fun a z => ?_⟩, fun j => ?_⟩
  · rcases set_get ej with ⟨n, z⟩ | ⟨n, z⟩
    · cases z
    · obtain ⟨v, ev, q⟩ := h.val j d z
      exact ⟨v, ev, q.keep nz⟩
  · rcases set_get ej with ⟨n, z⟩ | ⟨n, z⟩
    · subst n; cases z
      obtain ⟨a, ea, na, _⟩ := h.own i o e
      rw [es] at ea; cases ea
      exact ⟨l, es, na, m.keep (fun _ e => e) fun b w nb eb => ⟨fun z => nb (z.elim .inl fun q => .inr (own b q)), eb⟩⟩
    · obtain ⟨a, ea, na, mm⟩ := h.own j o2 z
      have nal : a ≠ l := fun q => n (h.dis i j o o2 l e z es (by rw [← q]; exact ea))
      exact ⟨a, ea, na, mm.keep (fun w ew => by rw [upd_ne nal]; exact ew) nz⟩
  · have up : ∀ (j : Nat) (o1 : MO), (ρ.set i (some (.own o')))[j]? = some (some (.own o1)) → ∃ o2, ρ[j]? = some (some (.own o2)) := fun j o1 ej => by
      rcases set_get ej with ⟨n, z⟩ | ⟨n, z⟩
      · subst n; exact ⟨o, e⟩
      · exact ⟨o1, z⟩
    obtain ⟨_, f1⟩ := up j o1 e1
    obtain ⟨_, f2⟩ := up k o2 e2
    exact h.dis j k _ _ a f1 f2 s1 s2
  · by_cases q : a = l
    · rw [q]; exact ⟨u, upd_same⟩
    · rw [upd_ne q]; exact h.lam a z
  · by_cases n : i = j
    · subst n
      rw [List.getElem?_set_self hi, e]
      trivial
    · rw [List.getElem?_set_ne n]; exact SubB.refl _
theorem Aft.put (h : Rel K Λ ρ σ H) (a : Aft K Λ Λ1 ρ ρ1 σ H H1) {i : Nat} {o o' : MO} {l : Addr} {u : HO} (e : ρ1[i]? = some (some (.own o))) (es : σ[i]? = some (some (.ref l))) (m : MOk K (Hid Λ1 ρ1 σ) (upd H1 l u) l o') :
    Aft K Λ Λ1 ρ (ρ1.set i (some (.own o'))) σ H (upd H1 l u) := by
  obtain ⟨r, s⟩ := a.rel.put e es m
  refine ⟨a.ext, r, fun b w eb nb => ?_, s.trans a.sub, fun b q => ?_⟩
  · rw [upd_ne (fun z => nb (by rw [z]; exact a.sub.ownA ⟨i, o, e, es⟩))]; exact a.fr b w eb nb
  · by_cases z : b = l
    · rw [z]; exact ⟨u, upd_same⟩
    · rw [upd_ne z]; exact a.own b q
/-- data at an owned object's change -/
theorem Rel.besides (h : Rel K Λ ρ σ H) {i : Nat} {o : MO} {l : Addr} {u : HO} (e : ρ[i]? = some (some (.own o))) (es : σ[i]? = some (some (.ref l))) : ∀ (a : Addr) (w : HO), ¬ Hid Λ ρ σ a → H a = some w → ¬ Hid Λ ρ σ a ∧ upd H l u a = some w := fun a w n ew =>
  ⟨n, by rw [upd_ne (fun z => n (.inr (by rw [z]; exact ⟨i, o, e, es⟩)))]; exact ew⟩
end

section
variable {X : Cx} {e a b c : Expr} {es : List Expr} {f g h : ES → Out (R × ES)} {fs gs : ES → Out (List R × ES)} {pos p p2 apos : Pos} {x : Str} {i : Nat} {d : D} {pin : Option Nat}
/-! ### append -/
def evApp (pin : Option Nat) (f g : ES → Out (R × ES)) : ES → Out (R × ES) := fun ρ => Out.bind (f ρ) fun p => match p.1 with
    | .slot i => if isL p.2 i = true then Out.bind (g p.2) fun q => Out.bind (still pin q.2 q.1) fun x => (match x.2[i]? with
        | some (some (.own (.lst xs))) => if xs.length < SZ then .ok (.val .none, x.2.set i (some (.own (.lst (xs ++ [x.1]))))) else .stuck
        | _ => .stuck) else .stuck
    | _ => .stuck
theorem isL_eq {ρ : ES} (h : isL ρ i = true) : ∃ xs, ρ[i]? = some (some (.own (.lst xs))) := by
  simp only [isL] at h
  split at h
  · exact ⟨_, by assumption⟩
  · cases h
theorem evApp_inv {ρ ρ' : ES} {r : R} (h : evApp pin f g ρ = .ok (r, ρ')) : ∃ i ρ1 r2 ρ2 d ρ3 ys xs, f ρ = .ok (.slot i, ρ1) ∧ ρ1[i]? = some (some (.own (.lst ys))) ∧ g ρ1 = .ok (r2, ρ2) ∧ still pin ρ2 r2 = .ok (d, ρ3) ∧ ρ3[i]? = some (some (.own (.lst xs))) ∧ xs.length < SZ ∧
    r = .val .none ∧ ρ' = ρ3.set i (some (.own (.lst (xs ++ [d])))) := by
  obtain ⟨⟨r1, ρ1⟩, e1, f1⟩ := bind_eq h
  clear h
  cases r1 with
  | slot i =>
    simp only at f1
    split at f1
    · rename_i hl
      obtain ⟨ys, hy⟩ := isL_eq hl
      obtain ⟨⟨r2, ρ2⟩, e2, f2⟩ := bind_eq f1
      obtain ⟨⟨d, ρ3⟩, e3, f3⟩ := bind_eq f2
      clear f1 f2
      simp only at f3
      split at f3
      · rename_i xs hx
        split at f3 <;> cases f3
        rename_i hz
        exact ⟨i, ρ1, r2, ρ2, d, ρ3, ys, xs, e1, hy, e2, e3, hx, hz, rfl, rfl⟩
      · cases f3
    · cases f1
  | _ => cases f1
theorem pe_appD (ho : PE X a (TEof X.K f)) (he : PE X e (TEof X.K g)) (hs : starEach [e] X.env = (false, eval e X.env) :: starEach [] X.env) (hbase : attributeBase a "append" X.env (eval a X.env) = eval a X.env) (hline : (apos.endLine == pos.line) = true)
    (hfew : ((backTo pos (starEach [e] X.env)).all (fun x => !x.1) && (backToKw pos (keywordEach [] X.env)).all (fun x => x.1.isSome) && decide ([e].length + ([] : List Keyword).length + (if ([] : List Keyword).isEmpty then 0 else 1) < 30)) = true) :
    PE X (.Call (.Attribute a "append" apos) [e] [] pos) (TEof X.K (evApp pin f g)) := by
  refine pe_of (pe_bm PySem.F.plainAttrs_list PySem.F.slot_list_append PySem.F.type_list_append mt_append ho (pa_cons he pa_nil hs) hbase hfew hline hs rfl) ?_
  rintro σ H Q ⟨Λ, ρ, r, ρ2, hr, ee, k⟩
  obtain ⟨i, ρ1, r2, ρ3, d, ρ4, ys, xs, e1, hy, e2, e3, hx, hz, rfl, rfl⟩ := evApp_inv ee
  clear ee
  refine ⟨Λ, ρ, .slot i, ρ1, hr, e1, fun v H1 Λ1 a1 q1 => ?_⟩
  obtain ⟨qs, b0, _⟩ := q1
  refine ⟨?_, two' hr a1 e2 fun y H2 Λ2 af q2 => ?_⟩
  · obtain ⟨l, el, nl, vs, hl, dl⟩ := a1.rel.own i _ hy
    rw [qs] at el; cases el
    exact .inl ⟨rfl, _, SqL.of hl⟩
  · obtain ⟨b1, b2, q3⟩ := q2.let_go hr af e3
    obtain ⟨l, el, nl, vs, hl, dl⟩ := b1.rel.own i _ hx
    rw [qs] at el; cases el
    refine ⟨l, vs, y, rfl, rfl, hl, by rw [dl.length, sizeLine_eq]; exact hz, ?_⟩
    refine k _ _ _ (b1.put hr hx qs ⟨_, upd_same, ?_⟩) DA.non
    exact DAs.keep (b1.rel.besides hx qs) (dl.append (.cons q3 .nil))
end
end DI
end

section
set_option maxRecDepth 100000
/-! KG: targets; what is walked. -/
namespace DI
open PySem L2

section
variable {K : PySem.W.Frag} {pin : Option Nat} {Λ Λ' Λ1 Λ2 Λf : Addr → Prop} {ρ ρ0 ρ' ρ1 ρ2 : ES} {σ σ0 σ1 σ2 : St} {H H' H0 H1 H2 : Hp}

/-! ### names stored -/
inductive Quiet : List R → Prop where
  | nil : Quiet []
  | val {d : D} {rs : List R} : Quiet rs → Quiet (.val d :: rs)
  | new {o : MO} {rs : List R} : Quiet rs → Quiet (.new o :: rs)
theorem settle_ok : ∀ {rs : List R} {vs : List V} {ρ ρ' : ES} {rs' : List R}, Rel K Λ ρ0 σ H0 → Aft K Λ Λ1 ρ0 ρ σ H0 H → RVs K Λ1 ρ σ H0 H rs vs → settle pin rs ρ = .ok (rs', ρ') →
    Aft K Λ Λ1 ρ0 ρ' σ H0 H ∧ Aft K Λ1 Λ1 ρ ρ' σ H H ∧ RVs K Λ1 ρ' σ H0 H rs' vs ∧ Quiet rs'
  | [], _, _, _, _, h, a, .nil, e => by cases e; exact ⟨a, Aft.refl a.rel, .nil, .nil⟩
  | .slot j :: rs, v :: vs, _, _, _, h, a, .cons q t, e => by
    obtain ⟨⟨d, ρ3⟩, e1, e⟩ := bind_eq e
    obtain ⟨⟨ds, ρ4⟩, e2, e⟩ := bind_eq e
    cases e
    have q' : RV K Λ1 _ σ H H (.slot j) v := q
    obtain ⟨b1, b2, q3⟩ := q'.let_go a.rel (Aft.refl a.rel) e1
    have a3 := a.trans h b1
    obtain ⟨a4, b4, q4, z⟩ := settle_ok h a3 (t.keep a.rel b1) e2
    exact ⟨a4, b1.trans a.rel b4, .cons (show RV K Λ1 _ σ H0 H (.val d) v from RV.keep (H0 := H0) a3.rel b4 (show RV K Λ1 _ σ H0 H (.val d) v from q3)) q4, .val z⟩
  | .val d :: rs, v :: vs, _, _, _, h, a, .cons q t, e => by
    obtain ⟨⟨ds, ρ4⟩, e2, e⟩ := bind_eq e
    cases e
    obtain ⟨a4, b4, q4, z⟩ := settle_ok h a t e2
    exact ⟨a4, b4, .cons (q.keep a.rel b4) q4, .val z⟩
  | .new o :: rs, v :: vs, _, _, _, h, a, .cons q t, e => by
    obtain ⟨⟨ds, ρ4⟩, e2, e⟩ := bind_eq e
    cases e
    obtain ⟨a4, b4, q4, z⟩ := settle_ok h a t e2
    exact ⟨a4, b4, .cons (q.keep a.rel b4) q4, .new z⟩
def setsV : List Nat → List V → St → St
  | i :: is, v :: vs, σ => setsV is vs (σ.set i (some v))
  | _, _, σ => σ
/-- vals stay -/
theorem RVs.vals {N : Nat} {ρ2 : ES} {σ2 : St} (hz : ∀ (a : Addr) (o : HO), ¬ Hid Λ1 ρ σ a → H a = some o → ¬ Hid Λ2 ρ2 σ2 a ∧ H a = some o) (hl : ∀ p, Λ1 p → Λ2 p ∨ N = 0) : ∀ {rs : List R} {vs : List V}, Quiet rs → (N = 0 → news rs = 0) → RVs K Λ1 ρ σ H0 H rs vs → RVs K Λ2 ρ2 σ2 H0 H rs vs
  | _, _, .nil, _, .nil => .nil
  | _, _, .val q, n, .cons h t => .cons (show RV _ _ _ _ _ _ (R.val _) _ from DA.keep hz h) (RVs.vals hz hl q n t)
  | _, _, .new q, n, .cons h t => by
    obtain ⟨p, e, e0, l, m⟩ := h
    rcases hl p l with z | z
    · exact .cons (show RV _ _ _ _ _ _ (R.new _) _ from ⟨p, e, e0, z, m.keep (fun _ e => e) hz⟩) (RVs.vals hz hl q (fun z => by have := n z; simp [news] at this) t)
    · have := n z; simp [news] at this
/-- stored: data, and at most one new object -/
theorem puts_ok : ∀ {is : List Nat} {rs : List R} {vs : List V} {Λ1 : Addr → Prop} {ρ ρ' : ES} {σ : St}, (∀ a, Λ a → ∃ o, H0 a = some o) → (∀ a, Λ a → Λ1 a) → Rel K Λ1 ρ σ H → Quiet rs → RVs K Λ1 ρ σ H0 H rs vs → news rs ≤ 1 → puts pin is rs ρ = .ok ρ' →
    Rel K Λ ρ' (setsV is vs σ) H ∧ (∀ a, OwnA ρ' (setsV is vs σ) a → OwnA ρ σ a ∨ (Λ1 a ∧ ¬ Λ a)) ∧ (setsV is vs σ).length = σ.length ∧ (∀ j, j ∉ is → (setsV is vs σ)[j]? = σ[j]?) ∧ (∀ i, pin = some i → i ∉ is)
  | [], [], _, Λ1, ρ, _, σ, hl, up, h, _, .nil, hn, e => by
    cases e
    exact ⟨h.mono up, fun a q => .inl q, rfl, fun _ _ => rfl, fun _ _ => nofun⟩
  | i :: is, .val d :: rs, v :: vs, Λ1, ρ, ρ', σ, hl, up, h, .val qt, .cons q t, hn, e => by
    simp only [puts] at e
    split at e
    · cases e
    · rename_i np
      split at e
      · rename_i hi
        obtain ⟨r2, o2⟩ := h.setVal (v := v) (d := d) hi q
        have t2 := RVs.vals (N := 1) (Λ2 := Λ1) (fun a o n ea => ⟨fun z => n (z.elim .inl fun q => .inr (o2 a q)), ea⟩) (fun p l => .inl l) qt (fun z => by cases z) t
        obtain ⟨r3, o3, l3, j3, p3⟩ := puts_ok hl up r2 qt t2 hn e
        refine ⟨r3, fun a q => (o3 a q).elim (fun z => .inl (o2 a z)) .inr, by rw [setsV, l3, List.length_set], fun j hj => ?_, fun k hk hm => ?_⟩
        · rw [setsV, j3 j fun z => hj (List.mem_cons_of_mem _ z), List.getElem?_set_ne (fun z : i = j => hj (by rw [← z]; exact List.mem_cons_self))]
        · rcases List.mem_cons.mp hm with z | z
          · exact np (z ▸ hk)
          · exact p3 k hk z
      · cases e
  | i :: is, .new o :: rs, v :: vs, Λ1, ρ, ρ', σ, hl, up, h, .new qt, .cons q t, hn, e => by
    simp only [puts] at e
    split at e
    · cases e
    · rename_i np
      split at e
      · rename_i hi
        obtain ⟨p, rfl, n0, l, m⟩ := q
        have npp : ¬ Λ p := fun z => by
          obtain ⟨u, eu⟩ := hl p z
          rw [n0] at eu; cases eu
        obtain ⟨r2, o2⟩ := h.setOwn (Λ := Λ) hi up npp l m
        have hz : news rs = 0 := by simp [news] at hn; omega
        have t2 := RVs.vals (N := 0) (Λ2 := Λ) (ρ2 := ρ.set i (some (.own o))) (σ2 := σ.set i (some (.ref p))) (fun a u n ea => ⟨fun z => n (z.elim (fun q => .inl (up a q)) fun q => (o2 a q).elim .inr fun e => .inl (by rw [e]; exact l)), ea⟩) (fun p l => .inr rfl) qt (fun _ => hz) t
        obtain ⟨r3, o3, l3, j3, p3⟩ := puts_ok hl (fun _ z => z) r2 qt t2 (by omega) e
        refine ⟨r3, fun a q => (o3 a q).elim (fun z => (o2 a z).elim .inl fun e => .inr (by rw [e]; exact ⟨l, npp⟩)) fun z => absurd z.1 z.2, by rw [setsV, l3, List.length_set], fun j hj => ?_, fun k hk hm => ?_⟩
        · rw [setsV, j3 j fun z => hj (List.mem_cons_of_mem _ z), List.getElem?_set_ne (fun z : i = j => hj (by rw [← z]; exact List.mem_cons_self))]
        · rcases List.mem_cons.mp hm with z | z
          · exact np (z ▸ hk)
          · exact p3 k hk z
      · cases e
/-- names = rs -/
theorem setvs_ok {is : List Nat} {rs : List R} {vs : List V} (h : Rel K Λ ρ0 σ H0) (a : Aft K Λ Λ1 ρ0 ρ σ H0 H) (q : RVs K Λ1 ρ σ H0 H rs vs) (e : setvs pin is rs ρ = .ok ρ') :
    Mid K pin Λ Λ ρ0 σ H0 ρ' (setsV is vs σ) H ∧ (setsV is vs σ).length = σ.length ∧ ∀ j, j ∉ is → (setsV is vs σ)[j]? = σ[j]? := by
  obtain ⟨⟨rs', ρ2⟩, e1, e⟩ := bind_eq e
  obtain ⟨a2, _, q2, qt⟩ := settle_ok h a q e1
  split at e
  · rename_i hn
    obtain ⟨r3, o3, l3, j3, p3⟩ := puts_ok (fun a z => h.lam a z) a2.ext.1 a2.rel qt q2 hn e
    refine ⟨⟨Ext.refl _ _, r3, a2.fr, fun b z => ?_, a2.own, fun i hi => j3 i (p3 i hi)⟩, l3, j3⟩
    rcases o3 b z with w | w
    · exact .inl (a2.sub.ownA w)
    · rcases a2.ext.2 b w.1 with u | u
      · exact absurd u w.2
      · exact .inr u
  · cases e

/-! ### readings of targets -/
/-- outside S the slots are as they were -/
def Out1 (S : List Nat) (σ σ' : St) : Prop := σ'.length = σ.length ∧ ∀ j, j ∉ S → σ'[j]? = σ[j]?
theorem Out1.refl (S : List Nat) (σ : St) : Out1 S σ σ := ⟨rfl, fun _ _ => rfl⟩
theorem Out1.trans {S : List Nat} (h : Out1 S σ σ1) (g : Out1 S σ1 σ2) : Out1 S σ σ2 := ⟨g.1.trans h.1, fun j n => (g.2 j n).trans (h.2 j n)⟩
def TGof (K : PySem.W.Frag) (pin : Option Nat) (S : List Nat) (f : R → ES → Out ES) : TG := fun v σ H Q => ∃ (Λ : Addr → Prop) (ρ0 : ES) (H0 : Hp) (Λ1 : Addr → Prop) (ρ : ES) (r : R) (ρ' : ES), Rel K Λ ρ0 σ H0 ∧ Aft K Λ Λ1 ρ0 ρ σ H0 H ∧ RV K Λ1 ρ σ H0 H r v ∧ f r ρ = .ok ρ' ∧
  ∀ (σ' : St) (H' : Hp), Mid K pin Λ Λ ρ0 σ H0 ρ' σ' H' → Out1 S σ σ' → Q σ' H'
def TGsof (K : PySem.W.Frag) (pin : Option Nat) (S : List Nat) (f : List D → ES → Out ES) : TGs := fun vs σ H Q => ∃ (Λ : Addr → Prop) (ρ : ES) (ds : List D) (ρ' : ES), Rel K Λ ρ σ H ∧ DAs K (Hid Λ ρ σ) H vs ds ∧ f ds ρ = .ok ρ' ∧
  ∀ (σ' : St) (H' : Hp), Mid K pin Λ Λ ρ σ H ρ' σ' H' → Out1 S σ σ' → Q σ' H'
end

section
variable {X : Cx} {e e2 tg a b c : Expr} {es : List Expr} {f g h : ES → Out (R × ES)} {fs gs : ES → Out (List R × ES)} {pos p p2 apos tpos : Pos} {x : Str} {i kk : Nat} {d : D} {pin : Option Nat} {S : List Nat} {elts : List Expr}
theorem pg_of {t : TG} (he : PG X e t) {t' : TG} (i : ∀ v σ H Q, t' v σ H Q → t v σ H Q) : PG X e t' := ⟨fun pins s σ H v u Q I r hq => he.run pins s σ H v u Q I r (i v σ H Q hq)⟩
theorem pgs_of {t : TGs} (he : PGs X es t) {t' : TGs} (i : ∀ v σ H Q, t' v σ H Q → t v σ H Q) : PGs X es t' := ⟨fun pins s σ H v u Q I r hq => he.run pins s σ H v u Q I r (i v σ H Q hq)⟩
theorem pg_nameD (hN : X.N.Nodup) (hi : X.N[i]? = some x) (hx : Loc X.env.scope x) (hf : X.fn x = true ∨ X.env.scope.names.lookup x = some .local) (hS : i ∈ S) : PG X (.Name x pos) (TGof X.K pin S (setv pin i)) := by
  refine pg_of (pg_name hN hi hx hf) ?_
  rintro v σ H Q ⟨Λ, ρ0, H0, Λ1, ρ, r, ρ', hr, af, q, ee, k⟩
  obtain ⟨m, l, j⟩ := setvs_ok (vs := [v]) hr af (.cons q .nil) ee
  exact k _ _ m ⟨l, fun t n => j t fun z => n (by rw [List.mem_singleton.mp z]; exact hS)⟩
def asNil : List D → ES → Out ES := fun ds ρ => match ds with
  | [] => .ok ρ
  | _ => .stuck
def asCons (f : R → ES → Out ES) (g : List D → ES → Out ES) : List D → ES → Out ES := fun ds ρ => match ds with
  | d :: ds => Out.bind (f (.val d) ρ) fun ρ' => g ds ρ'
  | _ => .stuck
theorem pgs_nilD : PGs X [] (TGsof X.K pin S asNil) := by
  refine pgs_of pgs_nil ?_
  rintro vs σ H Q ⟨Λ, ρ, ds, ρ', hr, hd, ee, k⟩
  cases hd with
  | nil => cases ee; exact ⟨rfl, k _ _ (Mid.refl hr) (Out1.refl _ _)⟩
  | cons _ _ => cases ee
theorem pgs_consD {f : R → ES → Out ES} {g : List D → ES → Out ES} (h1 : PG X e (TGof X.K pin S f)) (h2 : PGs X es (TGsof X.K pin S g)) (hs : (assignEach (e :: es) X.env).map (·.2) = assign e X.env :: (assignEach es X.env).map (·.2)) : PGs X (e :: es) (TGsof X.K pin S (asCons f g)) := by
  refine pgs_of (pgs_cons h1 h2 hs) ?_
  rintro vs σ H Q ⟨Λ, ρ, ds, ρ', hr, hd, ee, k⟩
  cases hd with
  | nil => cases ee
  | @cons v vs d ds h t =>
    obtain ⟨ρ1, e1, ee⟩ := bind_eq ee
    refine ⟨v, vs, rfl, Λ, ρ, H, Λ, ρ, .val d, ρ1, hr, Aft.refl hr, h, e1, fun σ1 H1 m1 o1 => ?_⟩
    exact ⟨Λ, ρ1, ds, ρ', m1.rel, t.keep (m1.still hr), ee, fun σ2 H2 m2 o2 => k _ _ (m1.trans hr m2) (o1.trans o2)⟩
def asTup (g : List D → ES → Out ES) : R → ES → Out ES := fun r ρ => Out.bind (cont ρ r) fun d => match d with
    | .tuple xs => g xs ρ
    | _ => .stuck
theorem pg_tupD {g : List D → ES → Out ES} {n : Nat} (hc : X.calm = true) (h : PGs X es (TGsof X.K pin S g)) (hn : (assignEach es X.env).length = n) (hst : (assignEach es X.env).findIdx? (·.1) = none) (hl : ∀ ds ρ ρ', g ds ρ = .ok ρ' → ds.length = n) :
    PG X (.Tuple es kk pos) (TGof X.K pin S (asTup g)) := by
  refine pg_of (pg_tup hc h hn hst) ?_
  rintro v σ H Q ⟨Λ, ρ0, H0, Λ1, ρ, r, ρ', hr, af, q, ee, k⟩
  obtain ⟨d, e1, ee⟩ := bind_eq ee
  split at ee
  · rename_i xs
    obtain ⟨a, vs, rfl, h1, d1, _⟩ := q.tup af.rel e1
    have mo : Mid X.K pin Λ Λ ρ0 σ H0 ρ σ H := af.mid.mono
    exact ⟨a, vs, rfl, h1, d1.length.trans (hl _ _ _ ee), Λ, ρ, xs, ρ', mo.rel, d1.less fun b z => Hid.less af.ext.1 (fun _ z => z) z, ee, fun σ' H' m o => k _ _ (mo.trans hr m) o⟩
  · cases ee
/-- o[i] = .. -/
def asSub (pin : Option Nat) (f g : ES → Out (R × ES)) : R → ES → Out ES := fun r ρ => Out.bind (still pin ρ r) fun x => Out.bind (f x.2) fun p => Out.bind (g p.2) fun q => match p.1, q.1 with
    | .slot j, .val (.int k) => (match q.2[j]? with
      | some (some (.own (.lst xs))) => (match ixN xs.length k with
        | some n => .ok (q.2.set j (some (.own (.lst (xs.set n x.1)))))
        | none => .stuck)
      | _ => .stuck)
    | _, _ => .stuck
theorem asSub_inv {r : R} {ρ ρ' : ES} (h : asSub pin f g r ρ = .ok ρ') : ∃ d ρ1 j ρ2 k ρ3 xs n, still pin ρ r = .ok (d, ρ1) ∧ f ρ1 = .ok (.slot j, ρ2) ∧ g ρ2 = .ok (.val (.int k), ρ3) ∧ ρ3[j]? = some (some (.own (.lst xs))) ∧ ixN xs.length k = some n ∧ ρ' = ρ3.set j (some (.own (.lst (xs.set n d)))) := by
  obtain ⟨⟨d, ρ1⟩, e1, f1⟩ := bind_eq h
  obtain ⟨⟨r2, ρ2⟩, e2, f2⟩ := bind_eq f1
  obtain ⟨⟨r3, ρ3⟩, e3, f3⟩ := bind_eq f2
  clear h f1 f2
  split at f3
  · rename_i j k h1 h2
    simp only at h1 h2
    subst h1; subst h2
    split at f3
    · rename_i xs hx
      split at f3 <;> cases f3
      rename_i n hn
      exact ⟨d, ρ1, j, ρ2, k, ρ3, xs, n, e1, e2, e3, hx, hn, rfl⟩
    · cases f3
  · cases f3
theorem pg_subD (ho : PE X a (TEof X.K f)) (hi : PE X b (TEof X.K g)) (ha : ∀ v, assign (.Subscript a b pos) X.env v = (do
      let ov ← holding [v] (eval a X.env)
      let iv ← holding [v, ov] (eval b X.env)
      standAt pos
      holding [v, ov, iv] (setItem ov iv v)
      release [v, ov, iv] [])) : PG X (.Subscript a b pos) (TGof X.K pin S (asSub pin f g)) := by
  refine pg_of (pg_sub ho hi set_list ha) ?_
  rintro v σ H Q ⟨Λ, ρ0, H0, Λ1, ρ, r, ρ', hr, af, q, ee, k⟩
  obtain ⟨d, ρ1, j, ρ2, t, ρ3, xs, n, e1, e2, e3, hx, hn, rfl⟩ := asSub_inv ee
  clear ee
  obtain ⟨a1, b1, q1⟩ := q.let_go hr af e1
  refine ⟨Λ, ρ1, .slot j, ρ2, a1.rel, e2, fun o H1 Λ2 a2 q2 => ⟨Λ2, ρ2, .val (.int t), ρ3, a2.rel, e3, fun w H2 Λ3 a3 q3 => ?_⟩⟩
  cases q3
  have a23 := a2.trans a1.rel a3
  obtain ⟨l, el, nl, vs, hl, dl⟩ := a3.rel.own j _ hx
  obtain ⟨qs, _⟩ := q2
  rw [qs] at el; cases el
  refine ⟨l, vs, t, n, rfl, rfl, hl, by rw [dl.length]; exact hn, ?_⟩
  have a4 := a23.put a1.rel hx qs (o' := .lst (xs.set n d)) (u := .lst (vs.set n v)) ⟨_, upd_same, DAs.keep (a3.rel.besides hx qs) (dl.set (q1.keep (a23.still a1.rel)) n)⟩
  exact k _ _ (a1.mid.trans hr a4.mid.mono) (Out1.refl _ _)
end
end DI
end

section
set_option maxRecDepth 100000
/-! KH: what is walked; statements. -/
namespace DI
open PySem L2

/-- the walk J gives ds, while what stood at H1 off Z stands -/
def IW (K : PySem.W.Frag) (Z : Addr → Prop) (H1 : Hp) (ds : List D) (J : It) : Prop := ∀ H' : Hp, (∀ a o, ¬ Z a → H1 a = some o → H' a = some o) → (∀ i, i < ds.length → J.go i H') ∧ J.stop ds.length H' ∧
  ∀ (i : Nat) (x : V) (H2 : Hp), i < ds.length → J.yld i H' x H2 → (∀ a o, H' a = some o → H2 a = some o) ∧
    ∀ Z' : Addr → Prop, (∀ a o, ¬ Z a → H1 a = some o → ¬ Z' a) → (∀ a, Z' a → ∃ o, H' a = some o) → ∃ d, ds[i]? = some d ∧ DA K Z' H2 x d
section
variable {K : PySem.W.Frag} {Z Z' : Addr → Prop} {H H1 H2 H' : Hp} {vs ws : List V} {ds es : List D} {a b : Addr}
theorem lt_some {α : Type} {l : List α} {i : Nat} (h : i < l.length) : ∃ x, l[i]? = some x := ⟨_, List.getElem?_eq_getElem h⟩
theorem da_to (hh : ∀ a o, ¬ Z a → H1 a = some o → H' a = some o) (hz : ∀ a o, ¬ Z a → H1 a = some o → ¬ Z' a) {v : V} {d : D} (q : DA K Z H1 v d) : DA K Z' H' v d := q.keep fun a o n e => ⟨hz a o n e, hh a o n e⟩
theorem iw_lst (n : ¬ Z a) (ha : H1 a = some (.lst vs)) (q : DAs K Z H1 vs ds) : IW K Z H1 ds (Itl K a) := by
  intro H' hh
  have hq := SqL.of (K := K) (hh a _ n ha)
  refine ⟨fun i hi => ?_, ⟨vs, hq, Nat.le_of_eq q.length⟩, fun i x H2 hi y => ?_⟩
  · obtain ⟨v, hv⟩ := lt_some (l := vs) (i := i) (by rw [q.length]; exact hi)
    exact ⟨vs, v, hq, hv⟩
  · obtain ⟨rfl, y⟩ := y
    refine ⟨fun _ _ e => e, fun Z' hz _ => ?_⟩
    obtain ⟨d, hd, r⟩ := q.getV (y vs hq)
    exact ⟨d, hd, da_to hh hz r⟩
theorem iw_tup (hq : ∀ H' : Hp, (∀ a o, ¬ Z a → H1 a = some o → H' a = some o) → SqT K H' a vs) (q : DAs K Z H1 vs ds) : IW K Z H1 ds (Itt K a) := by
  intro H' hh
  have hq := hq H' hh
  refine ⟨fun i hi => ?_, ⟨vs, hq, Nat.le_of_eq q.length⟩, fun i x H2 hi y => ?_⟩
  · obtain ⟨v, hv⟩ := lt_some (l := vs) (i := i) (by rw [q.length]; exact hi)
    exact ⟨vs, v, hq, hv⟩
  · obtain ⟨rfl, y⟩ := y
    refine ⟨fun _ _ e => e, fun Z' hz _ => ?_⟩
    obtain ⟨d, hd, r⟩ := q.getV (y vs hq)
    exact ⟨d, hd, da_to hh hz r⟩
theorem iw_str (z : Str) : IW K Z H1 (z.cps.toList.map fun c => .str ⟨#[c]⟩) (Its z) := by
  intro H' hh
  have hl : (z.cps.toList.map fun c => PyData.str ⟨#[c]⟩).length = z.cps.size := by simp
  refine ⟨fun i hi => by rw [hl] at hi; exact hi, by rw [hl]; exact Nat.le_refl _, fun i x H2 hi y => ?_⟩
  obtain ⟨rfl, c, hc, rfl⟩ := y
  refine ⟨fun _ _ e => e, fun Z' hz _ => ⟨_, ?_, DA.str _⟩⟩
  rw [List.getElem?_map, Array.getElem?_toList, hc]
  rfl
theorem iw_rng (lo : Int) (n : Nat) : IW K Z H1 (rngL lo n) (Itr lo n) := by
  intro H' hh
  have hl : (rngL lo n).length = n := by simp [rngL]
  refine ⟨fun i hi => by rw [hl] at hi; exact hi, by rw [hl]; exact Nat.le_refl _, fun i x H2 hi y => ?_⟩
  obtain ⟨rfl, rfl⟩ := y
  refine ⟨fun _ _ e => e, fun Z' hz _ => ⟨_, ?_, DA.int _⟩⟩
  rw [hl] at hi
  simp [rngL, hi]
theorem enmL_get : ∀ (l : List D) (k i : Nat), (enmL k l)[i]? = l[i]?.map fun d => .tuple [.int ((k + i : Nat) : Int), d]
  | [], _, _ => by simp [enmL]
  | x :: xs, k, 0 => by simp [enmL]
  | x :: xs, k, i + 1 => by
    rw [enmL, List.getElem?_cons_succ, enmL_get xs (k + 1) i, List.getElem?_cons_succ]
    rw [show k + 1 + i = k + (i + 1) by omega]
theorem enmL_len : ∀ (l : List D) (k : Nat), (enmL k l).length = l.length
  | [], _ => rfl
  | x :: xs, k => by simp [enmL, enmL_len xs]
theorem newPair {x y : V} {c d : D} {T : Addr} (hh : ∀ a o, ¬ Z a → H1 a = some o → H' a = some o) (hT : H' T = none) (hz : ∀ a o, ¬ Z a → H1 a = some o → ¬ Z' a) (hs : ∀ a, Z' a → ∃ o, H' a = some o) (qx : DA K Z H1 x c) (qy : DA K Z H1 y d) : DA K Z' (upd H' T (.tup [x, y])) (.ref T) (.tuple [c, d]) := by
  have hn : ¬ Z' T := fun z => by
    obtain ⟨o, e⟩ := hs T z
    rw [hT] at e; cases e
  refine .tup hn upd_same ?_
  exact .cons ((da_to hh hz qx).grow (upd_grow hT)) (.cons ((da_to hh hz qy).grow (upd_grow hT)) .nil)
theorem iw_enm (n : ¬ Z a) (ha : H1 a = some (.lst vs)) (q : DAs K Z H1 vs ds) : IW K Z H1 (enmL 0 ds) (Ite K a) := by
  intro H' hh
  have hq := SqL.of (K := K) (hh a _ n ha)
  refine ⟨fun i hi => ?_, ⟨vs, hq, by rw [enmL_len]; exact Nat.le_of_eq q.length⟩, fun i x H2 hi y => ?_⟩
  · obtain ⟨v, hv⟩ := lt_some (l := vs) (i := i) (by rw [q.length, ← enmL_len ds 0]; exact hi)
    exact ⟨vs, v, hq, hv⟩
  · obtain ⟨T, x, rfl, hT, rfl, y⟩ := y
    refine ⟨upd_grow hT, fun Z' hz hs => ?_⟩
    obtain ⟨d, hd, r⟩ := q.getV (y vs hq)
    refine ⟨_, by rw [enmL_get, hd]; rfl, ?_⟩
    rw [Nat.zero_add]
    exact newPair hh hT hz hs (.int _) r
theorem zip_get (xs ys : List D) (i : Nat) : (List.zipWith (fun a b => PyData.tuple [a, b]) xs ys)[i]? = match xs[i]?, ys[i]? with
    | some a, some b => some (PyData.tuple [a, b])
    | _, _ => none := by
  rw [List.getElem?_zipWith]
  cases xs[i]? <;> cases ys[i]? <;> rfl
theorem iw_zip {J : It} {P : Hp → Prop} (hP : ∀ H' : Hp, (∀ a o, ¬ Z a → H1 a = some o → H' a = some o) → P H') (q1 : DAs K Z H1 vs ds) (q2 : DAs K Z H1 ws es)
    (hgo : ∀ (i : Nat) (H' : Hp) (x y : V), P H' → vs[i]? = some x → ws[i]? = some y → J.go i H') (hst : ∀ (i : Nat) (H' : Hp), P H' → vs.length ≤ i ∨ ws.length ≤ i → J.stop i H')
    (hy : ∀ (i : Nat) (H' : Hp) (v : V) (H2 : Hp), P H' → J.yld i H' v H2 → ∃ T x y, v = .ref T ∧ H' T = none ∧ H2 = upd H' T (.tup [x, y]) ∧ vs[i]? = some x ∧ ws[i]? = some y) : IW K Z H1 (List.zipWith (fun a b => PyData.tuple [a, b]) ds es) J := by
  intro H' hh
  have p := hP H' hh
  have l1 := q1.length
  have l2 := q2.length
  refine ⟨fun i hi => ?_, ?_, fun i x H2 hi y => ?_⟩
  · rw [List.length_zipWith] at hi
    obtain ⟨v, hv⟩ := lt_some (l := vs) (i := i) (by omega)
    obtain ⟨w, hw⟩ := lt_some (l := ws) (i := i) (by omega)
    exact hgo i H' v w p hv hw
  · refine hst _ H' p ?_
    rw [List.length_zipWith]
    omega
  · obtain ⟨T, x, y, rfl, hT, rfl, hx, hy⟩ := hy i H' x H2 p y
    refine ⟨upd_grow hT, fun Z' hz hs => ?_⟩
    obtain ⟨c, hc, r1⟩ := q1.getV hx
    obtain ⟨d, hd, r2⟩ := q2.getV hy
    exact ⟨.tuple [c, d], by rw [zip_get, hc, hd], newPair hh hT hz hs r1 r2⟩
end

def TIof (K : PySem.W.Frag) (f : ES → Out (List D × ES)) : TI := fun σ H R => ∃ (Λ : Addr → Prop) (ρ : ES) (ds : List D) (ρ' : ES), Rel K Λ ρ σ H ∧ f ρ = .ok (ds, ρ') ∧
  ∀ (J : It) (H1 : Hp), Aft K Λ Λ ρ ρ' σ H H1 → IW K (Hid Λ ρ' σ) H1 ds J → R J H1
section
variable {X : Cx} {e e2 tg a b c : Expr} {es : List Expr} {f g h : ES → Out (R × ES)} {fs gs : ES → Out (List R × ES)} {pos p p2 apos tpos : Pos} {x : Str} {i kk : Nat} {d : D} {pin : Option Nat} {S : List Nat} {elts : List Expr}
theorem pi_of {t : TI} (he : PI X tg e t) {t' : TI} (i : ∀ σ H Q, t' σ H Q → t σ H Q) : PI X tg e t' := ⟨fun pins s σ H Q I hq => he.run pins s σ H Q I (i σ H Q hq)⟩
def itSeq (pin : Option Nat) (f : ES → Out (R × ES)) : ES → Out (List D × ES) := fun ρ => Out.bind (f ρ) fun p => Out.bind (still pin p.2 p.1) fun x => Out.bind (items x.1) fun l => .ok (l, x.2)
theorem pi_seqD (he : PE X e (TEof X.K f)) : PI X tg e (TIof X.K (itSeq pin f)) := by
  refine ⟨fun pins s σ H Q I ⟨Λ, ρ, ds, ρ2, hr, ee, k⟩ => ?_⟩
  obtain ⟨⟨r, ρ1⟩, e1, f1⟩ := bind_eq ee
  obtain ⟨⟨d, ρ3⟩, e2, f2⟩ := bind_eq f1
  obtain ⟨l, e3, f3⟩ := bind_eq f2
  cases f3
  clear ee f1 f2
  simp only at e3
  cases d <;> simp only [items] at e3 <;> cases e3
  · refine (pi_str he).run pins s σ H Q I ⟨Λ, ρ, r, ρ1, hr, e1, fun v H1 Λ1 af q => ?_⟩
    obtain ⟨b1, b2, q3⟩ := q.let_go hr af e2
    cases q3
    exact ⟨_, rfl, k _ _ b1 (iw_str _)⟩
  · refine (pi_list he).run pins s σ H Q I ⟨Λ, ρ, r, ρ1, hr, e1, fun v H1 Λ1 af q => ?_⟩
    obtain ⟨b1, b2, q3⟩ := q.let_go hr af e2
    cases q3 with
    | lst h1 h2 h3 => exact ⟨_, rfl, ⟨_, SqL.of h2⟩, k _ _ b1 (iw_lst h1 h2 h3)⟩
  · refine (pi_tup he).run pins s σ H Q I ⟨Λ, ρ, r, ρ1, hr, e1, fun v H1 Λ1 af q => ?_⟩
    obtain ⟨b1, b2, q3⟩ := q.let_go hr af e2
    cases q3 with
    | tup h1 h2 h3 => exact ⟨_, rfl, ⟨_, SqT.of h2⟩, k _ _ b1 (iw_tup (fun H' hh => SqT.of (hh _ _ h1 h2)) h3)⟩
    | tupK h1 h3 => exact ⟨_, rfl, ⟨_, SqT_K h1 H1⟩, k _ _ b1 (iw_tup (fun H' hh => SqT_K h1 H') h3)⟩
def itR1 (f : ES → Out (R × ES)) : ES → Out (List D × ES) := fun ρ => Out.bind (f ρ) fun p => match p.1 with
    | .val (.int j) => if bnd62 j = true then .ok (rngL 0 j.toNat, p.2) else .stuck
    | _ => .stuck
theorem bnd62_eq {i : Int} (h : bnd62 i = true) : -(2 ^ 62) ≤ i ∧ i < 2 ^ 62 := by simpa [bnd62] using h
theorem Aft.low {K : PySem.W.Frag} {Λ Λ1 : Addr → Prop} {ρ ρ1 : ES} {σ : St} {H H1 : Hp} (a : Aft K Λ Λ1 ρ ρ1 σ H H1) : Aft K Λ Λ ρ ρ1 σ H H1 := ⟨Ext.refl _ _, a.rel.mono a.ext.1, a.fr, a.sub, a.own⟩
theorem pi_rng1D (hg : Gl X "range") (hm : X.mg "range" = none) (ha : PE X a (TEof X.K f)) (hs : starEach [a] X.env = (false, eval a X.env) :: starEach [] X.env) : PI X tg (.Call (.Name "range" p) [a] [] pos) (TIof X.K (itR1 f)) := by
  refine pi_of (pi_range1 hg hm (pa_consD ha pa_nilD hs) hs) ?_
  rintro σ H Q ⟨Λ, ρ, ds, ρ2, hr, ee, k⟩
  obtain ⟨⟨r, ρ1⟩, e1, f1⟩ := bind_eq ee
  clear ee
  split at f1
  · rename_i j hj
    split at f1 <;> cases f1
    rename_i hb
    simp only at hj
    subst hj
    refine ⟨Λ, ρ, [.val (.int j)], ρ1, hr, by simp only [evCons, evNil, e1, Out.bind], fun vs H' Λf af q => ?_⟩
    cases q with
    | cons q t =>
      cases t
      cases q
      obtain ⟨b1, b2⟩ := bnd62_eq hb
      exact ⟨j, rfl, b1, b2, k _ _ af.low (iw_rng _ _)⟩
  · cases f1
def itR2 (f g : ES → Out (R × ES)) : ES → Out (List D × ES) := fun ρ => Out.bind (f ρ) fun p => Out.bind (g p.2) fun q => match p.1, q.1 with
    | .val (.int i), .val (.int j) => if (bnd62 i && bnd62 j) = true then .ok (rngL i (j - i).toNat, q.2) else .stuck
    | _, _ => .stuck
theorem pi_rng2D (hg : Gl X "range") (hm : X.mg "range" = none) (ha : PE X a (TEof X.K f)) (hb : PE X b (TEof X.K g)) (hs : starEach [a, b] X.env = (false, eval a X.env) :: starEach [b] X.env) (hs2 : starEach [b] X.env = (false, eval b X.env) :: starEach [] X.env) : PI X tg (.Call (.Name "range" p) [a, b] [] pos) (TIof X.K (itR2 f g)) := by
  refine pi_of (pi_range2 hg hm (pa_consD ha (pa_consD hb pa_nilD hs2) hs) (by rw [hs, hs2]; rfl) hs2) ?_
  rintro σ H Q ⟨Λ, ρ, ds, ρ2, hr, ee, k⟩
  obtain ⟨⟨r, ρ1⟩, e1, f1⟩ := bind_eq ee
  obtain ⟨⟨r', ρ3⟩, e2, f2⟩ := bind_eq f1
  clear ee f1
  split at f2
  · rename_i i j hi hj
    split at f2 <;> cases f2
    rename_i hb
    simp only at hi hj
    subst hi; subst hj
    refine ⟨Λ, ρ, [.val (.int i), .val (.int j)], ρ3, hr, by simp only [evCons, evNil, e1, e2, Out.bind], fun vs H' Λf af q => ?_⟩
    cases q with
    | cons q t =>
      cases t with
      | cons q' t =>
        cases t
        cases q; cases q'
        simp only [Bool.and_eq_true] at hb
        obtain ⟨b1, b2⟩ := bnd62_eq hb.1
        obtain ⟨b3, b4⟩ := bnd62_eq hb.2
        exact ⟨i, j, rfl, ⟨b1, b2, b3, b4⟩, k _ _ af.low (iw_rng _ _)⟩
  · cases f2
def itEn (pin : Option Nat) (f : ES → Out (R × ES)) : ES → Out (List D × ES) := fun ρ => Out.bind (f ρ) fun p => Out.bind (still pin p.2 p.1) fun x => match x.1 with
    | .list xs => .ok (enmL 0 xs, x.2)
    | _ => .stuck
theorem pi_enmD (hg : Gl X "enumerate") (hm : X.mg "enumerate" = none) (ha : PE X a (TEof X.K f)) (hs : starEach [a] X.env = (false, eval a X.env) :: starEach [] X.env) : PI X (.Tuple elts kk tpos) (.Call (.Name "enumerate" p) [a] [] pos) (TIof X.K (itEn pin f)) := by
  refine pi_of (pi_enum hg hm (pa_consD ha pa_nilD hs) hs) ?_
  rintro σ H Q ⟨Λ, ρ, ds, ρ2, hr, ee, k⟩
  obtain ⟨⟨r, ρ1⟩, e1, f1⟩ := bind_eq ee
  obtain ⟨⟨d, ρ3⟩, e2, f2⟩ := bind_eq f1
  clear ee f1
  split at f2 <;> cases f2
  rename_i xs hx
  simp only at hx
  subst hx
  refine ⟨Λ, ρ, [r], ρ1, hr, by simp only [evCons, evNil, e1, Out.bind], fun vs H' Λf af q => ?_⟩
  cases q with
  | cons q t =>
    cases t
    obtain ⟨b1, b2, q3⟩ := q.let_go hr af e2
    cases q3 with
    | lst h1 h2 h3 => exact ⟨_, _, rfl, SqL.of h2, k _ _ b1 (iw_enm h1 h2 h3)⟩
def itZp (pin : Option Nat) (f g : ES → Out (R × ES)) : ES → Out (List D × ES) := fun ρ => Out.bind (f ρ) fun p => Out.bind (g p.2) fun q => Out.bind (stills pin [p.1, q.1] q.2) fun x => match x.1 with
    | [.list xs, .list ys] => .ok (List.zipWith (fun a b => .tuple [a, b]) xs ys, x.2)
    | [.tuple xs, .tuple ys] => .ok (List.zipWith (fun a b => .tuple [a, b]) xs ys, x.2)
    | _ => .stuck
theorem DA.tupq {K : PySem.W.Frag} {Z : Addr → Prop} {H : Hp} {v : V} {xs : List D} (q : DA K Z H v (.tuple xs)) : ∃ a vs, v = .ref a ∧ DAs K Z H vs xs ∧ ∀ H' : Hp, (∀ a o, ¬ Z a → H a = some o → H' a = some o) → SqT K H' a vs := by
  cases q with
  | tup h1 h2 h3 => exact ⟨_, _, rfl, h3, fun H' hh => SqT.of (hh _ _ h1 h2)⟩
  | tupK h1 h3 => exact ⟨_, _, rfl, h3, fun H' hh => SqT_K h1 H'⟩
theorem pi_zipD (hg : Gl X "zip") (hm : X.mg "zip" = none) (ha : PE X a (TEof X.K f)) (hb : PE X b (TEof X.K g)) (hs : starEach [a, b] X.env = (false, eval a X.env) :: starEach [b] X.env) (hs2 : starEach [b] X.env = (false, eval b X.env) :: starEach [] X.env)
    (hpl : (backTo pos (starEach [b] X.env)).any (·.1) = false) : PI X (.Tuple elts kk tpos) (.Call (.Name "zip" p) [a, b] [] pos) (TIof X.K (itZp pin f g)) := by
  refine pi_of (RZ.pi_zipA hg hm (pa_consD ha (pa_consD hb pa_nilD hs2) hs) hs hpl) ?_
  rintro σ H Q ⟨Λ, ρ, ds, ρ2, hr, ee, k⟩
  obtain ⟨⟨r, ρ1⟩, e1, f1⟩ := bind_eq ee
  obtain ⟨⟨r', ρ3⟩, e2, f2⟩ := bind_eq f1
  obtain ⟨⟨l, ρ4⟩, e3, f3⟩ := bind_eq f2
  clear ee f1 f2
  refine ⟨Λ, ρ, [r, r'], ρ3, hr, by simp only [evCons, evNil, e1, e2, Out.bind], fun vs H' Λf af q => ?_⟩
  obtain ⟨b1, b2, q3⟩ := q.let_go hr af e3
  split at f3 <;> cases f3
  · rename_i xs ys hx
    simp only at hx
    subst hx
    cases q3 with
    | cons q1 t =>
      cases t with
      | cons q2 t =>
        cases t
        cases q1 with
        | @lst a1 vs1 _ h1 h2 h3 =>
          cases q2 with
          | @lst a2 vs2 _ g1 g2 g3 =>
            refine ⟨a1, a2, vs1, vs2, rfl, .inl ⟨SqL.of h2, SqL.of g2, k _ _ b1 (iw_zip (P := fun H' => SqL X.K H' a1 vs1 ∧ SqL X.K H' a2 vs2) (fun H' hh => ⟨SqL.of (hh _ _ h1 h2), SqL.of (hh _ _ g1 g2)⟩) h3 g3 ?_ ?_ ?_)⟩⟩
            · exact fun i H' x y p hx hy => ⟨vs1, vs2, x, y, p.1, p.2, hx, hy⟩
            · exact fun i H' p h => ⟨vs1, vs2, p.1, p.2, h⟩
            · rintro i H' v H2 p ⟨T, x, y, hv, hT, h2, hx, hy⟩
              exact ⟨T, x, y, hv, hT, h2, hx vs1 p.1, hy vs2 p.2⟩
  · rename_i xs ys hx
    simp only at hx
    subst hx
    cases q3 with
    | cons q1 t =>
      cases t with
      | cons q2 t =>
        cases t
        obtain ⟨a1, vs1, rfl, d1, s1⟩ := q1.tupq
        obtain ⟨a2, vs2, rfl, d2, s2⟩ := q2.tupq
        refine ⟨a1, a2, vs1, vs2, rfl, .inr ⟨s1 _ fun _ _ _ e => e, s2 _ fun _ _ _ e => e, k _ _ b1 (iw_zip (P := fun H' => SqT X.K H' a1 vs1 ∧ SqT X.K H' a2 vs2) (fun H' hh => ⟨s1 H' hh, s2 H' hh⟩) d1 d2 ?_ ?_ ?_)⟩⟩
        · exact fun i H' x y p hx hy => ⟨vs1, vs2, x, y, p.1, p.2, hx, hy⟩
        · exact fun i H' p h => ⟨vs1, vs2, p.1, p.2, h⟩
        · rintro i H' v H2 p ⟨T, x, y, hv, hT, h2, hx, hy⟩
          exact ⟨T, x, y, hv, hT, h2, hx vs1 p.1, hy vs2 p.2⟩
end
end DI
end

section
set_option maxRecDepth 100000
/-! KI: statements. -/
namespace DI
open PySem L2

section
variable {K : PySem.W.Frag} {pin : Option Nat} {Λ Λ' Λ1 Λ2 Λf : Addr → Prop} {ρ ρ0 ρ' ρ1 ρ2 : ES} {σ σ0 σ1 σ2 : St} {H H' H0 H1 H2 : Hp}
def EndsOk (K : PySem.W.Frag) (pin : Option Nat) (Λ : Addr → Prop) (ρ : ES) (σ : St) (H : Hp) (ρ' : ES) (D : Ends) : Fl → Prop
  | .next => ∀ (σ' : St) (H' : Hp), Mid K pin Λ Λ ρ σ H ρ' σ' H' → D.nx σ' H'
  | .brk => ∀ (σ' : St) (H' : Hp), Mid K pin Λ Λ ρ σ H ρ' σ' H' → D.bk σ' H'
  | .cont => ∀ (σ' : St) (H' : Hp), Mid K pin Λ Λ ρ σ H ρ' σ' H' → D.ct σ' H'
  | .ret r => ∀ (v : V) (σ' : St) (H' : Hp) (Λf : Addr → Prop), Mid K pin Λ Λf ρ σ H ρ' σ' H' → RV K Λf ρ' σ' H H' r v → D.rt v H'
def TSof (K : PySem.W.Frag) (pin : Option Nat) (F : ES → Out (Fl × ES)) : TS := fun D σ H => ∃ (Λ : Addr → Prop) (ρ : ES) (fl : Fl) (ρ' : ES), Rel K Λ ρ σ H ∧ F ρ = .ok (fl, ρ') ∧ EndsOk K pin Λ ρ σ H ρ' D fl
theorem EndsOk.after {D : Ends} {fl : Fl} (h : Rel K Λ ρ σ H) (m : Mid K pin Λ Λ ρ σ H ρ1 σ1 H1) (k : EndsOk K pin Λ ρ σ H ρ' D fl) : EndsOk K pin Λ ρ1 σ1 H1 ρ' D fl := by
  cases fl with
  | next => exact fun σ' H' m' => k σ' H' (m.trans h m')
  | brk => exact fun σ' H' m' => k σ' H' (m.trans h m')
  | cont => exact fun σ' H' m' => k σ' H' (m.trans h m')
  | ret r => exact fun v σ' H' Λf m' q => k v σ' H' Λf (m.trans h m') (q.from_ (m.gone h))
end

section
variable {X : Cx} {e e2 tg a b c : Expr} {es : List Expr} {f g h : ES → Out (R × ES)} {fs gs : ES → Out (List R × ES)} {F G : ES → Out (Fl × ES)} {pos p p2 apos tpos : Pos} {x : Str} {i kk : Nat} {d : D} {pin : Option Nat} {S : List Nat} {elts : List Expr} {st : Stmt} {sts sts2 : List Stmt}
theorem ps_of {t : TS} (he : PS X st t) {t' : TS} (i : ∀ D σ H, t' D σ H → t D σ H) : PS X st t' := ⟨fun pins s σ H D I hq => he.run pins s σ H D I (i D σ H hq)⟩
theorem pss_of {t : TS} (he : PSs X sts t) {t' : TS} (i : ∀ D σ H, t' D σ H → t D σ H) : PSs X sts t' := ⟨fun pins s σ H D I hq => he.run pins s σ H D I (i D σ H hq)⟩
def exNil : ES → Out (Fl × ES) := fun ρ => .ok (.next, ρ)
def exSeq (F G : ES → Out (Fl × ES)) : ES → Out (Fl × ES) := fun ρ => Out.bind (F ρ) fun p => match p.1 with
    | .next => G p.2
    | fl => .ok (fl, p.2)
theorem pss_nilD : PSs X [] (TSof X.K pin exNil) := pss_of pss_nil fun D σ H ⟨Λ, ρ, fl, ρ', hr, ee, k⟩ => by
  cases ee
  exact k _ _ (Mid.refl hr)
theorem pss_consD (h1 : PS X st (TSof X.K pin F)) (h2 : PSs X sts (TSof X.K pin G)) : PSs X (st :: sts) (TSof X.K pin (exSeq F G)) := by
  refine pss_of (pss_cons h1 h2) ?_
  rintro D σ H ⟨Λ, ρ, fl, ρ', hr, ee, k⟩
  obtain ⟨⟨fl1, ρ1⟩, e1, ee⟩ := bind_eq ee
  cases fl1 with
  | next => exact ⟨Λ, ρ, .next, ρ1, hr, e1, fun σ' H' m => ⟨Λ, ρ1, fl, ρ', m.rel, ee, k.after hr m⟩⟩
  | brk => cases ee; exact ⟨Λ, ρ, .brk, ρ1, hr, e1, k⟩
  | cont => cases ee; exact ⟨Λ, ρ, .cont, ρ1, hr, e1, k⟩
  | ret r => cases ee; exact ⟨Λ, ρ, .ret r, ρ1, hr, e1, k⟩
def exFl (fl : Fl) : ES → Out (Fl × ES) := fun ρ => .ok (fl, ρ)
theorem ps_passD : PS X (.Pass pos) (TSof X.K pin (exFl .next)) := ps_of ps_pass fun D σ H ⟨Λ, ρ, fl, ρ', hr, ee, k⟩ => by cases ee; exact k _ _ (Mid.refl hr)
theorem ps_brkD : PS X (.Break pos) (TSof X.K pin (exFl .brk)) := ps_of ps_break fun D σ H ⟨Λ, ρ, fl, ρ', hr, ee, k⟩ => by cases ee; exact k _ _ (Mid.refl hr)
theorem ps_contD : PS X (.Continue pos) (TSof X.K pin (exFl .cont)) := ps_of ps_continue fun D σ H ⟨Λ, ρ, fl, ρ', hr, ee, k⟩ => by cases ee; exact k _ _ (Mid.refl hr)
theorem ps_docD {j : Nat} : PS X (.Expr (.Constant (.str x) j p) pos) (TSof X.K pin (exFl .next)) := ps_of ps_doc fun D σ H ⟨Λ, ρ, fl, ρ', hr, ee, k⟩ => by cases ee; exact k _ _ (Mid.refl hr)
theorem ps_retND : PS X (.Return none pos) (TSof X.K pin (exFl (.ret (.val .none)))) := ps_of ps_retN fun D σ H ⟨Λ, ρ, fl, ρ', hr, ee, k⟩ => by cases ee; exact k _ _ _ Λ (Mid.refl hr) DA.non
def exStuck : ES → Out (Fl × ES) := fun _ => .stuck
theorem ps_neverD : PS X st (TSof X.K pin exStuck) := ps_of ps_never fun D σ H ⟨Λ, ρ, fl, ρ', hr, ee, k⟩ => by cases ee
def exExpr (f : ES → Out (R × ES)) : ES → Out (Fl × ES) := fun ρ => Out.bind (f ρ) fun p => .ok (.next, p.2)
theorem ps_exprD (he : PE X e (TEof X.K f)) (hs : swapsWith e none pos.line X.env = pure false) : PS X (.Expr e pos) (TSof X.K pin (exExpr f)) := by
  refine ps_of (ps_expr he hs) ?_
  rintro D σ H ⟨Λ, ρ, fl, ρ', hr, ee, k⟩
  obtain ⟨⟨r, ρ1⟩, e1, ee⟩ := bind_eq ee
  cases ee
  exact ⟨Λ, ρ, r, ρ1, hr, e1, fun v H' Λf af q => k _ _ af.mid.mono⟩
def exRet (f : ES → Out (R × ES)) : ES → Out (Fl × ES) := fun ρ => Out.bind (f ρ) fun p => .ok (.ret p.1, p.2)
theorem ps_retD (he : PE X e (TEof X.K f)) : PS X (.Return (some e) pos) (TSof X.K pin (exRet f)) := by
  refine ps_of (ps_ret he) ?_
  rintro D σ H ⟨Λ, ρ, fl, ρ', hr, ee, k⟩
  obtain ⟨⟨r, ρ1⟩, e1, ee⟩ := bind_eq ee
  cases ee
  exact ⟨Λ, ρ, r, ρ1, hr, e1, fun v H' Λf af q => k _ _ _ _ af.mid q⟩
def exIf (f : ES → Out (R × ES)) (F G : ES → Out (Fl × ES)) : ES → Out (Fl × ES) := fun ρ => Out.bind (f ρ) fun p => Out.bind (asBool p.1) fun c => if c = true then F p.2 else G p.2
theorem ps_ifD (hc : PT X c (TTof X.K f)) (ha : PSs X sts (TSof X.K pin F)) (hb : PSs X sts2 (TSof X.K pin G)) : PS X (.If c sts sts2 pos) (TSof X.K pin (exIf f F G)) := by
  refine ps_of (ps_if hc ha hb) ?_
  rintro D σ H ⟨Λ, ρ, fl, ρ', hr, ee, k⟩
  obtain ⟨⟨r, ρ1⟩, e1, ee⟩ := bind_eq ee
  obtain ⟨c, ec, ee⟩ := bind_eq ee
  have e2 := asBool_val ec
  simp only at e2
  subst e2
  refine ⟨Λ, ρ, c, ρ1, hr, e1, fun H1 Λ1 a1 => ?_⟩
  have m := a1.mid.mono (pin := pin)
  cases c with
  | true => rw [if_pos rfl] at ee; show (if true = true then _ else _); rw [if_pos rfl]; exact ⟨Λ, ρ1, fl, ρ', m.rel, ee, k.after hr m⟩
  | false => rw [if_neg Bool.false_ne_true] at ee; show (if false = true then _ else _); rw [if_neg Bool.false_ne_true]; exact ⟨Λ, ρ1, fl, ρ', m.rel, ee, k.after hr m⟩

/-! ### assignments -/
def exAsg (f : ES → Out (R × ES)) (g : R → ES → Out ES) : ES → Out (Fl × ES) := fun ρ => Out.bind (f ρ) fun p => Out.bind (g p.1 p.2) fun ρ' => .ok (.next, ρ')
theorem exAsg_to {K : PySem.W.Frag} {g : R → ES → Out ES} : ∀ D σ H, TSof K pin (exAsg f g) D σ H → tAsg (TEof K f) (TGof K pin S g) D σ H := by
  rintro D σ H ⟨Λ, ρ, fl, ρ', hr, ee, k⟩
  obtain ⟨⟨r, ρ1⟩, e1, ee⟩ := bind_eq ee
  obtain ⟨ρ2, e2, ee⟩ := bind_eq ee
  cases ee
  exact ⟨Λ, ρ, r, ρ1, hr, e1, fun v H1 Λ1 a1 q1 => ⟨Λ, ρ, H, Λ1, ρ1, r, ρ', hr, a1, q1, e2, fun σ' H' m _ => k _ _ m⟩⟩
theorem ps_asgD {g : R → ES → Out ES} (he : PE X e (TEof X.K f)) (hg : PG X tg (TGof X.K pin S g)) (hs : swapsWithSole [tg] e pos.line X.env = pure false) (hw : swappedStores [tg] e X.env = pure none)
    (h1 : (assignEach [tg] X.env).map (·.2) = [assign tg X.env]) : PS X (.Assign [tg] e pos) (TSof X.K pin (exAsg f g)) := ps_of (ps_asg he hg hs hw h1) exAsg_to
theorem set_to {K : PySem.W.Frag} {te : TE} : ∀ D σ H, tAsg te (TGof K pin [i] (setv pin i)) D σ H → True := fun _ _ _ _ => trivial
theorem name_to {K : PySem.W.Frag} : ∀ (v : V) (σ : St) (H : Hp) (Q : St → Hp → Prop), TGof K pin [i] (setv pin i) v σ H Q → gName i v σ H Q := by
  rintro v σ H Q ⟨Λ, ρ0, H0, Λ1, ρ, r, ρ', hr, af, q, ee, k⟩
  obtain ⟨m, l, j⟩ := setvs_ok (vs := [v]) hr af (.cons q .nil) ee
  exact k _ _ m ⟨l, fun t n => j t n⟩
theorem ps_setD (hN : X.N.Nodup) (hi : X.N[i]? = some x) (hx : Loc X.env.scope x) (he : PE X e (TEof X.K f)) (hs : swapsWith e (some (.Name x p)) pos.line X.env = pure false) (hf : X.fn x = true ∨ X.env.scope.names.lookup x = some .local) :
    PS X (.Assign [.Name x p] e pos) (TSof X.K pin (exAsg f (setv pin i))) := by
  refine ps_of (ps_set hN hi hx he hs hf) ?_
  rintro D σ H ⟨Λ, ρ, fl, ρ', hr, ee, k⟩
  obtain ⟨⟨r, ρ1⟩, e1, ee⟩ := bind_eq ee
  obtain ⟨ρ2, e2, ee⟩ := bind_eq ee
  cases ee
  exact ⟨Λ, ρ, r, ρ1, hr, e1, fun v H1 Λ1 a1 q1 => name_to _ _ _ _ ⟨Λ, ρ, H, Λ1, ρ1, r, ρ', hr, a1, q1, e2, fun σ' H' m _ => k _ _ m⟩⟩
def exPar (pin : Option Nat) (is : List Nat) (fs : ES → Out (List R × ES)) : ES → Out (Fl × ES) := fun ρ => Out.bind (fs ρ) fun p => Out.bind (setvs pin is p.1 p.2) fun ρ' => .ok (.next, ρ')
theorem setvs_len : ∀ {is : List Nat} {rs : List R} {ρ ρ' : ES}, setvs pin is rs ρ = .ok ρ' → rs.length = is.length := by
  have h1 : ∀ {rs rs' : List R} {ρ ρ' : ES}, settle pin rs ρ = .ok (rs', ρ') → rs'.length = rs.length := by
    intro rs
    induction rs with
    | nil => intro rs' ρ ρ' e; cases e; rfl
    | cons r rs ih =>
      intro rs' ρ ρ' e
      cases r with
      | val d => obtain ⟨⟨l, ρ4⟩, e2, e⟩ := bind_eq e; cases e; simp [ih e2]
      | new d => obtain ⟨⟨l, ρ4⟩, e2, e⟩ := bind_eq e; cases e; simp [ih e2]
      | slot j =>
        obtain ⟨⟨d, ρ3⟩, e1, e⟩ := bind_eq e
        obtain ⟨⟨l, ρ4⟩, e2, e⟩ := bind_eq e; cases e; simp [ih e2]
  have h2 : ∀ {is : List Nat} {rs : List R} {ρ ρ' : ES}, puts pin is rs ρ = .ok ρ' → rs.length = is.length := by
    intro is
    induction is with
    | nil => intro rs ρ ρ' e; cases rs with
      | nil => rfl
      | cons r rs => cases r <;> cases e
    | cons i is ih => intro rs ρ ρ' e; cases rs with
      | nil => cases e
      | cons r rs =>
        cases r with
        | slot j => cases e
        | val d =>
          simp only [puts] at e
          split at e
          · cases e
          · split at e
            · simp [ih e]
            · cases e
        | new d =>
          simp only [puts] at e
          split at e
          · cases e
          · split at e
            · simp [ih e]
            · cases e
  intro is rs ρ ρ' e
  obtain ⟨⟨rs', ρ2⟩, e1, e⟩ := bind_eq e
  split at e
  · rw [← h1 e1, h2 e]
  · cases e
theorem ps_parD {i j : Nat} {x y : Str} {px py pt : Pos} {kt k2 : Nat} {pt2 : Pos} (hc : X.calm = true) (hN : X.N.Nodup) (hi : X.N[i]? = some x) (hj : X.N[j]? = some y) (hij : i ≠ j)
    (hx : X.env.scope.names.lookup x = some .local) (hy : X.env.scope.names.lookup y = some .local) (ha : PA X [a, b] (TAof X.K fs))
    (hw : swappedStores [.Tuple [.Name x px, .Name y py] kt pt] (.Tuple [a, b] k2 pt2) X.env = pure (some [x, y]))
    (hs : swapsWithSole [.Tuple [.Name x px, .Name y py] kt pt] (.Tuple [a, b] k2 pt2) pos.line X.env = pure false) :
    PS X (.Assign [.Tuple [.Name x px, .Name y py] kt pt] (.Tuple [a, b] k2 pt2) pos) (TSof X.K pin (exPar pin [i, j] fs)) := by
  refine ps_of (ps_par hc hN hi hj hij hx hy ha hw hs) ?_
  rintro D σ H ⟨Λ, ρ, fl, ρ', hr, ee, k⟩
  obtain ⟨⟨rs, ρ1⟩, e1, ee⟩ := bind_eq ee
  obtain ⟨ρ2, e2, ee⟩ := bind_eq ee
  cases ee
  refine ⟨Λ, ρ, rs, ρ1, hr, e1, fun vs H1 Λ1 a1 q1 => ?_⟩
  have hl := setvs_len e2
  have hv := q1.length
  obtain ⟨m, _⟩ := setvs_ok hr a1 q1 e2
  match vs, hv.symm.trans hl with
  | [v, w], _ => exact ⟨v, w, rfl, k _ _ m⟩
theorem ps_par3D {i j l : Nat} {x y z : Str} {px py pz pt : Pos} {kt k2 : Nat} {pt2 : Pos} (hc : X.calm = true) (hN : X.N.Nodup) (hi : X.N[i]? = some x) (hj : X.N[j]? = some y) (hl : X.N[l]? = some z) (hij : i ≠ j) (hil : i ≠ l) (hjl : j ≠ l)
    (hx : X.env.scope.names.lookup x = some .local) (hy : X.env.scope.names.lookup y = some .local) (hz : X.env.scope.names.lookup z = some .local) (ha : PA X [a, b, c] (TAof X.K fs))
    (hw : swappedStores [.Tuple [.Name x px, .Name y py, .Name z pz] kt pt] (.Tuple [a, b, c] k2 pt2) X.env = pure (some [x, y, z]))
    (hs : swapsWithSole [.Tuple [.Name x px, .Name y py, .Name z pz] kt pt] (.Tuple [a, b, c] k2 pt2) pos.line X.env = pure false) :
    PS X (.Assign [.Tuple [.Name x px, .Name y py, .Name z pz] kt pt] (.Tuple [a, b, c] k2 pt2) pos) (TSof X.K pin (exPar pin [i, j, l] fs)) := by
  refine ps_of (ps_par3 hc hN hi hj hl hij hil hjl hx hy hz ha hw hs) ?_
  rintro D σ H ⟨Λ, ρ, fl, ρ', hr, ee, k⟩
  obtain ⟨⟨rs, ρ1⟩, e1, ee⟩ := bind_eq ee
  obtain ⟨ρ2, e2, ee⟩ := bind_eq ee
  cases ee
  refine ⟨Λ, ρ, rs, ρ1, hr, e1, fun vs H1 Λ1 a1 q1 => ?_⟩
  have hl := setvs_len e2
  have hv := q1.length
  obtain ⟨m, _⟩ := setvs_ok hr a1 q1 e2
  match vs, hv.symm.trans hl with
  | [v, w, u], _ => exact ⟨v, w, u, rfl, k _ _ m⟩

/-- names by a tuple that is made and taken apart -/
inductive NmT (X : Cx) : List Expr → List Nat → Prop where
  | nil : NmT X [] []
  | cons {x : Str} {p : Pos} {i : Nat} {es : List Expr} {is : List Nat} : X.N[i]? = some x → Loc X.env.scope x → (X.fn x = true ∨ X.env.scope.names.lookup x = some .local) → NmT X es is → NmT X (.Name x p :: es) (i :: is)
def gNames : List Nat → TGs
  | [] => gNil
  | i :: is => gCons (gName i) (gNames is)
theorem NmT.pgs (hN : X.N.Nodup) : ∀ {es : List Expr} {is : List Nat}, NmT X es is → PGs X es (gNames is) ∧ (assignEach es X.env).length = is.length ∧ (assignEach es X.env).findIdx? (·.1) = none
  | _, _, .nil => ⟨pgs_nil, rfl, rfl⟩
  | _, _, .cons h1 h2 h3 t => by
    obtain ⟨g1, g2, g3⟩ := NmT.pgs hN t
    refine ⟨pgs_cons (pg_name hN h1 h2 h3) g1, ?_, ?_⟩
    · show (assignEach _ X.env).length + 1 = _
      rw [g2]; rfl
    · show List.findIdx? _ ((false, _) :: assignEach _ X.env) = none
      rw [List.findIdx?_cons]
      simp [g3]
theorem gNames_to : ∀ {is : List Nat} {vs : List V} {σ : St} {H : Hp} {Q : St → Hp → Prop}, vs.length = is.length → Q (setsV is vs σ) H → gNames is vs σ H Q
  | [], [], _, _, _, _, q => ⟨rfl, q⟩
  | i :: is, v :: vs, σ, H, Q, l, q => ⟨v, vs, rfl, gNames_to (by simpa using l) q⟩
theorem ps_parT {tgs : List Expr} {is : List Nat} {pt pt2 : Pos} {kt k2 : Nat} (hc : X.calm = true) (hN : X.N.Nodup) (ht : NmT X tgs is) (ha : PA X es (TAof X.K fs)) (hz : is.length ≤ 1000)
    (hw : swappedStores [.Tuple tgs kt pt] (.Tuple es k2 pt2) X.env = pure none) (hs : swapsWithSole [.Tuple tgs kt pt] (.Tuple es k2 pt2) pos.line X.env = pure false) :
    PS X (.Assign [.Tuple tgs kt pt] (.Tuple es k2 pt2) pos) (TSof X.K pin (exPar pin is fs)) := by
  obtain ⟨g1, g2, g3⟩ := ht.pgs hN
  refine ps_of (ps_asg (pe_tup ha) (pg_tup hc g1 g2 g3) hs hw) ?_
  rintro D σ H ⟨Λ, ρ, fl, ρ', hr, ee, k⟩
  obtain ⟨⟨rs, ρ1⟩, e1, ee⟩ := bind_eq ee
  obtain ⟨ρ2, e2, ee⟩ := bind_eq ee
  cases ee
  refine ⟨Λ, ρ, rs, ρ1, hr, e1, fun vs H1 Λ1 a1 q1 => ?_⟩
  have hl := setvs_len e2
  have hv := q1.length
  obtain ⟨m, _⟩ := setvs_ok hr a1 q1 e2
  have hlen : vs.length = is.length := hv.symm.trans hl
  refine ⟨by rw [hlen, sizeLine_eq]; omega, fun p hp => ⟨p, vs, rfl, SqT.of upd_same, hlen, gNames_to hlen (k _ _ ?_)⟩⟩
  have hh := upd_grow (o := HO.tup vs) hp
  exact ⟨m.ext, m.rel.grow hh, fun a o e n => hh a o (m.fr a o e n), m.own, fun a q => let ⟨o, e⟩ := m.there a q; ⟨o, hh a o e⟩, m.pin⟩

/-! ### for -/
theorem Mid.grow {K : PySem.W.Frag} {Λ Λ1 : Addr → Prop} {ρ0 ρ : ES} {σ0 σ : St} {H0 H H' : Hp} (m : Mid K pin Λ Λ1 ρ0 σ0 H0 ρ σ H) (hh : ∀ a o, H a = some o → H' a = some o) : Mid K pin Λ Λ1 ρ0 σ0 H0 ρ σ H' :=
  ⟨m.ext, m.rel.grow hh, fun a o e n => hh a o (m.fr a o e n), m.own, fun a q => let ⟨o, e⟩ := m.there a q; ⟨o, hh a o e⟩, m.pin⟩
def exFor (it : ES → Out (List D × ES)) (g : R → ES → Out ES) (F : ES → Out (Fl × ES)) : ES → Out (Fl × ES) := fun ρ => Out.bind (it ρ) fun p => forLoop (fun d ρ => Out.bind (g (.val d) ρ) fun ρ1 => F ρ1) p.1 p.2
theorem ps_forD {it : ES → Out (List D × ES)} {g : R → ES → Out ES} (hp : PassesOwn (model X.prog X.w) X.A X.env X.xe) (hc : X.calm = true) (hi : PI X tg e (TIof X.K it)) (hg : PG X tg (TGof X.K pin S g)) (hb : PSs X sts (TSof X.K pin F))
    (hs : ∀ x, foldedSetIterable e X.env x = pure x) : PS X (.For tg e sts [] pos) (TSof X.K pin (exFor it g F)) := by
  refine ps_of (ps_for hp hc hi hg hb hs) ?_
  rintro D σ H ⟨Λ, ρ, fl, ρ', hr, ee, k⟩
  obtain ⟨⟨ds, ρ1⟩, e1, ee⟩ := bind_eq ee
  refine ⟨Λ, ρ, ds, ρ1, hr, e1, fun J H1 a1 iw => ?_⟩
  have hr1 := a1.rel
  have k1 := k.after hr a1.mid
  clear e1 k
  refine ⟨fun i m σ' H' => m = ds.length - i ∧ i ≤ ds.length ∧ ∃ ρi, Mid X.K pin Λ Λ ρ1 σ H1 ρi σ' H' ∧ forLoop (fun d ρ => Out.bind (g (.val d) ρ) fun ρ1 => F ρ1) (ds.drop i) ρi = .ok (fl, ρ'), ⟨ds.length, rfl, Nat.zero_le _, ρ1, Mid.refl hr1, ee⟩, ?_⟩
  rintro i m σ' H' ⟨rfl, hi, ρi, mi, ei⟩
  have st := mi.still hr1
  obtain ⟨go, stop, yld⟩ := iw H' fun a o n e => (st a o n e).2
  by_cases hlt : i < ds.length
  · rw [List.drop_eq_getElem_cons hlt] at ei
    obtain ⟨⟨fl1, ρ3⟩, e3, ei⟩ := bind_eq ei
    obtain ⟨ρ2, e2, e3⟩ := bind_eq e3
    refine .inr ⟨go i hlt, fun σ2 H2 => ∃ ρj, Mid X.K pin Λ Λ ρ1 σ H1 ρj σ2 H2 ∧ forLoop (fun d ρ => Out.bind (g (.val d) ρ) fun ρ1 => F ρ1) (ds.drop (i + 1)) ρj = .ok (fl, ρ'),
      fun σ2 H2 ⟨ρj, mj, ej⟩ => ⟨ds.length - (i + 1), by omega, rfl, hlt, ρj, mj, ej⟩, fun x H2 y => ?_⟩
    obtain ⟨hh, dx⟩ := yld i x H2 hlt y
    obtain ⟨d, hd, qd⟩ := dx (Hid Λ ρi σ') (fun a o n e => (st a o n e).1) fun a z => mi.rel.hidThere z
    rw [List.getElem?_eq_getElem hlt] at hd
    cases hd
    have m2 := mi.grow hh
    refine ⟨Λ, ρi, H2, Λ, ρi, .val _, ρ2, m2.rel, Aft.refl m2.rel, qd, e2, fun σ3 H3 m3 _ => ?_⟩
    have m3' := m2.trans hr1 m3
    refine ⟨Λ, ρ2, fl1, ρ3, m3.rel, e3, ?_⟩
    cases fl1 with
    | next => exact fun σ4 H4 m4 => ⟨ρ3, m3'.trans hr1 m4, ei⟩
    | cont => exact fun σ4 H4 m4 => ⟨ρ3, m3'.trans hr1 m4, ei⟩
    | brk => cases ei; exact k1.after hr1 m3'
    | ret r => cases ei; exact k1.after hr1 m3'
  · have e : i = ds.length := by omega
    subst e
    rw [List.drop_length] at ei
    cases ei
    exact .inl ⟨stop, k1 _ _ mi⟩
end
end DI
end

section
set_option maxRecDepth 100000
/-! KJ: comprehensions. -/
namespace DI
open PySem L2

section
theorem wipe_in {σ : St} {i : Nat} : ∀ {vs : List Nat}, i ∈ vs → i < σ.length → (wipe σ vs)[i]? = some none
  | v :: vs, h, l => by
    unfold wipe
    by_cases e : v = i
    · subst e; rw [List.getElem?_set_self (by rw [wipe_length]; exact l)]
    · rw [List.getElem?_set_ne e]
      exact wipe_in ((List.mem_cons.mp h).resolve_left fun z => e z.symm) l
theorem wipeE_length (ρ : ES) : ∀ vs : List Nat, (wipeE ρ vs).length = ρ.length
  | [] => rfl
  | v :: vs => by unfold wipeE; rw [List.length_set, wipeE_length ρ vs]
theorem wipeE_out {ρ : ES} {i : Nat} : ∀ {vs : List Nat}, i ∉ vs → (wipeE ρ vs)[i]? = ρ[i]?
  | [], _ => rfl
  | v :: vs, h => by
    have h1 : v ≠ i := fun e => h (by rw [e]; exact List.mem_cons_self)
    unfold wipeE
    rw [List.getElem?_set_ne h1]
    exact wipeE_out fun m => h (List.mem_cons_of_mem _ m)
theorem wipeE_in {ρ : ES} {i : Nat} : ∀ {vs : List Nat}, i ∈ vs → i < ρ.length → (wipeE ρ vs)[i]? = some none
  | v :: vs, h, l => by
    unfold wipeE
    by_cases e : v = i
    · subst e; rw [List.getElem?_set_self (by rw [wipeE_length]; exact l)]
    · rw [List.getElem?_set_ne e]
      exact wipeE_in ((List.mem_cons.mp h).resolve_left fun z => e z.symm) l
theorem wipeE_some {ρ : ES} {i : Nat} {b : B} {vs : List Nat} (h : (wipeE ρ vs)[i]? = some (some b)) : ρ[i]? = some (some b) ∧ i ∉ vs := by
  have n : i ∉ vs := fun m => by
    have l : i < ρ.length := by
      have := (List.getElem?_eq_some_iff.mp h).1
      rwa [wipeE_length] at this
    rw [wipeE_in m l] at h; cases h
  rw [wipeE_out n] at h
  exact ⟨h, n⟩
theorem unwipe_length (ρ ρ' : ES) : ∀ vs : List Nat, (unwipe ρ ρ' vs).length = ρ'.length
  | [] => rfl
  | v :: vs => by unfold unwipe; rw [List.length_set, unwipe_length ρ ρ' vs]
theorem unwipe_out {ρ ρ' : ES} {i : Nat} : ∀ {vs : List Nat}, i ∉ vs → (unwipe ρ ρ' vs)[i]? = ρ'[i]?
  | [], _ => rfl
  | v :: vs, h => by
    have h1 : v ≠ i := fun e => h (by rw [e]; exact List.mem_cons_self)
    unfold unwipe
    rw [List.getElem?_set_ne h1]
    exact unwipe_out fun m => h (List.mem_cons_of_mem _ m)
theorem unwipe_in {ρ ρ' : ES} {i : Nat} : ∀ {vs : List Nat}, i ∈ vs → i < ρ'.length → (unwipe ρ ρ' vs)[i]? = some (ρ[i]?.join)
  | v :: vs, h, l => by
    unfold unwipe
    by_cases e : v = i
    · subst e; rw [List.getElem?_set_self (by rw [unwipe_length]; exact l)]
    · rw [List.getElem?_set_ne e]
      exact unwipe_in ((List.mem_cons.mp h).resolve_left fun z => e z.symm) l
theorem noOwn_val {ρ : ES} {vs : List Nat} (h : noOwn ρ vs = true) {i : Nat} (m : i ∈ vs) : ρ[i]? = some none ∨ ∃ d, ρ[i]? = some (some (.val d)) := by
  have q := (List.all_eq_true.mp h) i m
  split at q
  · cases q
  · cases q
  · rename_i n1 n2
    rcases hz : ρ[i]? with _ | _ | ⟨d⟩ | ⟨o⟩
    · exact absurd hz n2
    · exact .inl rfl
    · exact .inr ⟨d, rfl⟩
    · exact absurd hz (n1 o)

variable {K : PySem.W.Frag} {pin : Option Nat} {Λ Λ' Λ1 Λ2 Λf : Addr → Prop} {ρ ρ0 ρ' ρ1 ρ2 : ES} {σ σ0 σ1 σ2 : St} {H H' H0 H1 H2 : Hp} {vs : List Nat}
theorem ownA_wipe {a : Addr} (q : OwnA (wipeE ρ vs) (wipe σ vs) a) : OwnA ρ σ a := by
  obtain ⟨i, o, e1, e2⟩ := q
  obtain ⟨e1, _⟩ := wipeE_some e1
  exact ⟨i, o, e1, (wipe_some e2).1⟩
theorem Rel.wipe (h : Rel K Λ ρ σ H) (vs : List Nat) : Rel K Λ (wipeE ρ vs) (wipe σ vs) H := by
  have hl : ∀ a, Hid Λ (wipeE ρ vs) (L2.wipe σ vs) a → Hid Λ ρ σ a := fun a z => z.elim .inl fun q => .inr (ownA_wipe q)
  refine ⟨by rw [wipeE_length, wipe_length]; exact h.len, fun i d e => ?_, fun i o e => ?_, fun i j o o' a e1 e2 s1 s2 => ?_, h.lam⟩
  · obtain ⟨e, n⟩ := wipeE_some e
    obtain ⟨v, ev, q⟩ := h.val i d e
    exact ⟨v, by rw [wipe_out n]; exact ev, q.less hl⟩
  · obtain ⟨e, n⟩ := wipeE_some e
    obtain ⟨a, ea, na, m⟩ := h.own i o e
    exact ⟨a, by rw [wipe_out n]; exact ea, na, m.keep (fun _ e => e) fun b u nb eb => ⟨fun z => nb (hl b z), eb⟩⟩
  · exact h.dis i j o o' a (wipeE_some e1).1 (wipeE_some e2).1 (wipe_some s1).1 (wipe_some s2).1
theorem ownA_unwipe (n : noOwn ρ vs = true) (hl : ρ.length = σ.length) (h2 : ρ2.length = ρ.length) {a : Addr} (q : OwnA (unwipe ρ ρ2 vs) σ a) : OwnA ρ2 (wipe σ vs) a := by
  obtain ⟨i, o, e1, e2⟩ := q
  by_cases m : i ∈ vs
  · have l : i < ρ2.length := by
      have := (List.getElem?_eq_some_iff.mp e1).1
      rwa [unwipe_length] at this
    rw [unwipe_in m l] at e1
    rcases noOwn_val n m with z | ⟨d, z⟩ <;> rw [z] at e1 <;> cases e1
  · rw [unwipe_out m] at e1
    exact ⟨i, o, e1, by rw [wipe_out m]; exact e2⟩
/-- behind a comprehension -/
theorem Aft.leave (h : Rel K Λ ρ σ H) (n : noOwn ρ vs = true) (a : Aft K Λ Λ1 (wipeE ρ vs) ρ2 (wipe σ vs) H H1) : Aft K Λ Λ1 ρ (unwipe ρ ρ2 vs) σ H H1 := by
  have l2 : ρ2.length = ρ.length := by rw [a.sub.len, wipeE_length]
  have own : ∀ b, OwnA (unwipe ρ ρ2 vs) σ b → OwnA ρ2 (L2.wipe σ vs) b := fun b q => ownA_unwipe n h.len l2 q
  have ownw : ∀ b, OwnA ρ σ b → OwnA (wipeE ρ vs) (L2.wipe σ vs) b := fun b ⟨i, o, e1, e2⟩ => by
    have m : i ∉ vs := fun m => by
      rcases noOwn_val n m with z | ⟨d, z⟩ <;> rw [z] at e1 <;> cases e1
    exact ⟨i, o, by rw [wipeE_out m]; exact e1, by rw [wipe_out m]; exact e2⟩
  have hl : ∀ b, Hid Λ1 (unwipe ρ ρ2 vs) σ b → Hid Λ1 ρ2 (L2.wipe σ vs) b := fun b z => z.elim .inl fun q => .inr (own b q)
  have still := a.still (h.wipe vs)
  refine ⟨a.ext, ⟨by rw [unwipe_length, l2]; exact h.len, fun i d e => ?_, fun i o e => ?_, fun i j o o' b e1 e2 s1 s2 => ?_, a.rel.lam⟩, fun b o e nb => a.fr b o e fun q => nb (ownA_wipe q), fun i => ?_, fun b q => a.own b (ownw b q)⟩
  · by_cases m : i ∈ vs
    · have l : i < ρ2.length := by
        have := (List.getElem?_eq_some_iff.mp e).1
        rwa [unwipe_length] at this
      rw [unwipe_in m l] at e
      rcases noOwn_val n m with z | ⟨d', z⟩ <;> rw [z] at e <;> cases e
      obtain ⟨v, ev, q⟩ := h.val i d z
      exact ⟨v, ev, q.keep fun b u nb eb => by
        obtain ⟨n1, e1⟩ := still b u (fun z => nb (z.elim .inl fun q => .inr (ownA_wipe q))) eb
        exact ⟨fun z => n1 (hl b z), e1⟩⟩
    · rw [unwipe_out m] at e
      obtain ⟨v, ev, q⟩ := a.rel.val i d e
      rw [wipe_out m] at ev
      exact ⟨v, ev, q.less hl⟩
  · by_cases m : i ∈ vs
    · have l : i < ρ2.length := by
        have := (List.getElem?_eq_some_iff.mp e).1
        rwa [unwipe_length] at this
      rw [unwipe_in m l] at e
      rcases noOwn_val n m with z | ⟨d', z⟩ <;> rw [z] at e <;> cases e
    · rw [unwipe_out m] at e
      obtain ⟨p, ea, na, mm⟩ := a.rel.own i o e
      rw [wipe_out m] at ea
      exact ⟨p, ea, na, mm.keep (fun _ e => e) fun b u nb eb => ⟨fun z => nb (hl b z), eb⟩⟩
  · have nm : ∀ {i : Nat} {o : MO}, (unwipe ρ ρ2 vs)[i]? = some (some (.own o)) → i ∉ vs := fun {i o} e m => by
      have l : i < ρ2.length := by
        have := (List.getElem?_eq_some_iff.mp e).1
        rwa [unwipe_length] at this
      rw [unwipe_in m l] at e
      rcases noOwn_val n m with z | ⟨d', z⟩ <;> rw [z] at e <;> cases e
    have m1 := nm e1
    have m2 := nm e2
    rw [unwipe_out m1] at e1
    rw [unwipe_out m2] at e2
    exact a.rel.dis i j o o' b e1 e2 (by rw [wipe_out m1]; exact s1) (by rw [wipe_out m2]; exact s2)
  · by_cases m : i ∈ vs
    · by_cases l : i < ρ2.length
      · rw [unwipe_in m l]
        rcases noOwn_val n m with z | ⟨d', z⟩ <;> rw [z] <;> exact SubB.refl _
      · rw [List.getElem?_eq_none (by rw [unwipe_length]; omega), List.getElem?_eq_none (by omega)]
        exact SubB.refl _
    · rw [unwipe_out m]
      have q := a.sub i
      rwa [wipeE_out m] at q
/-- one turn: what it stored is forgotten -/
theorem Mid.wipe (m : Mid K pin Λ Λ ρ (wipe σ vs) H ρ1 σ1 H1) (hw : wipe σ1 vs = wipe σ vs) (hs : Sub (wipeE ρ1 vs) ρ) : Aft K Λ Λ ρ (wipeE ρ1 vs) (wipe σ vs) H H1 := by
  have r := m.rel.wipe vs
  rw [hw] at r
  refine ⟨m.ext, r, m.fr, hs, m.there⟩
/-- the new list changes -/
theorem Aft.hidPut {p : Addr} {u : HO} (a : Aft K Λ Λ1 ρ ρ1 σ H H1) (hp : H p = none) (hl : Λ1 p) : Aft K Λ Λ1 ρ ρ1 σ H (upd H1 p u) := by
  have nz : ∀ (b : Addr) (w : HO), ¬ Hid Λ1 ρ1 σ b → H1 b = some w → ¬ Hid Λ1 ρ1 σ b ∧ upd H1 p u b = some w := fun b w n e => ⟨n, by rw [upd_ne fun z => n (.inl (by rw [z]; exact hl))]; exact e⟩
  refine ⟨a.ext, ⟨a.rel.len, fun i d e => ?_, fun i o e => ?_, a.rel.dis, fun b z => ?_⟩, fun b o e nb => ?_, a.sub, fun b q => ?_⟩
  · obtain ⟨v, ev, q⟩ := a.rel.val i d e; exact ⟨v, ev, q.keep nz⟩
  · obtain ⟨b, eb, nb, m⟩ := a.rel.own i o e
    exact ⟨b, eb, nb, m.keep (fun w ew => by rw [upd_ne fun z => nb (by rw [z]; exact hl)]; exact ew) nz⟩
  · by_cases q : b = p
    · rw [q]; exact ⟨u, upd_same⟩
    · rw [upd_ne q]; exact a.rel.lam b z
  · rw [upd_ne (ne_of_none e hp)]; exact a.fr b o e nb
  · by_cases q : b = p
    · rw [q]; exact ⟨u, upd_same⟩
    · rw [upd_ne q]; exact a.own b (by assumption)
end

section
variable {X : Cx} {e e2 tg iter elt : Expr} {es ifs : List Expr} {f g h : ES → Out (R × ES)} {pos p p2 : Pos} {x : Str} {i kk : Nat} {d : D} {pin : Option Nat} {S vs : List Nat} {scope : Scope} {own : List (Str × Nat)}
def Tame (vs : List Nat) (g : R → ES → Out ES) : Prop := ∀ d ρ ρ', g (.val d) ρ = .ok ρ' → ρ'.length = ρ.length ∧ ∀ j, j ∉ vs → ρ'[j]? = ρ[j]?
def evTst (c : Option (ES → Out (R × ES))) : ES → Out (Bool × ES) := fun ρ => match c with
  | none => .ok (true, ρ)
  | some c => Out.bind (c ρ) fun q => Out.bind (asBool q.1) fun b => .ok (b, q.2)
def lcBody (pin : Option Nat) (g : R → ES → Out ES) (c : Option (ES → Out (R × ES))) (f : ES → Out (R × ES)) (vs : List Nat) : D → ES → Out (Option D × ES) := fun d ρ => Out.bind (g (.val d) ρ) fun ρ1 => Out.bind (evTst c ρ1) fun q =>
  if q.1 = true then Out.bind (f q.2) fun q => Out.bind (still pin q.2 q.1) fun y => .ok (some y.1, wipeE y.2 vs) else .ok (none, wipeE q.2 vs)
def evLc (pin : Option Nat) (it : ES → Out (List D × ES)) (g : R → ES → Out ES) (c : Option (ES → Out (R × ES))) (f : ES → Out (R × ES)) (vs : List Nat) : ES → Out (R × ES) := fun ρ => Out.bind (it ρ) fun p =>
  if noOwn p.2 vs = true then Out.bind (lcLoop (lcBody pin g c f vs) p.1 (wipeE p.2 vs)) fun q => if q.1.length ≤ SZ then .ok (.new (.lst q.1), unwipe p.2 q.2 vs) else .stuck else .stuck
/-- a clause's tests: none or one -/
inductive PTo (X : Cx) : List Expr → Option (ES → Out (R × ES)) → Prop where
  | none : PTo X [] none
  | some {c : Expr} {f : ES → Out (R × ES)} : PT X c (TTof X.K f) → PTo X [c] (some f)
def TTo (K : PySem.W.Frag) (c : Option (ES → Out (R × ES))) : TT := fun σ H Q => ∃ (Λ : Addr → Prop) (ρ : ES) (b : Bool) (ρ' : ES), Rel K Λ ρ σ H ∧ evTst c ρ = .ok (b, ρ') ∧
  ∀ (H' : Hp) (Λf : Addr → Prop), Aft K Λ Λf ρ ρ' σ H H' → Q b H'
theorem PTo.pts {c : Option (ES → Out (R × ES))} (h : PTo X ifs c) : PTs X ifs (TTo X.K c) := by
  cases h with
  | none =>
    refine ⟨fun pins s σ H Q I hq => pts_nil.run pins s σ H Q I ?_⟩
    obtain ⟨Λ, ρ, b, ρ', hr, ee, k⟩ := hq
    cases ee
    exact k _ _ (Aft.refl hr)
  | some h =>
    refine ⟨fun pins s σ H Q I hq => (pts_one h).run pins s σ H Q I ?_⟩
    obtain ⟨Λ, ρ, b, ρ', hr, ee, k⟩ := hq
    obtain ⟨⟨r, ρ1⟩, e1, ee⟩ := bind_eq ee
    obtain ⟨b1, e2, ee⟩ := bind_eq ee
    cases ee
    have e3 := asBool_val e2
    simp only at e3
    subst e3
    exact ⟨Λ, ρ, b, ρ1, hr, e1, fun H' Λf af => k H' Λf af⟩
theorem wipe_wipe {σ σ2 : St} {vs : List Nat} (o : Out1 S (wipe σ vs) σ2) (hS : ∀ j ∈ S, j ∈ vs) : wipe σ2 vs = wipe σ vs := by
  refine List.ext_getElem? fun j => ?_
  by_cases m : j ∈ vs
  · by_cases l : j < σ.length
    · rw [wipe_in m l, wipe_in m (by rw [o.1, wipe_length]; exact l)]
    · rw [List.getElem?_eq_none (by rw [wipe_length, o.1, wipe_length]; omega), List.getElem?_eq_none (by rw [wipe_length]; omega)]
  · rw [wipe_out m]
    exact o.2 j fun z => m (hS j z)
theorem lc_to {it : ES → Out (List D × ES)} {g : R → ES → Out ES} {c : Option (ES → Out (R × ES))} {K : PySem.W.Frag} (ht : Tame vs g) (hS : ∀ j ∈ S, j ∈ vs) : ∀ σ H Q, TEof K (evLc pin it g c f vs) σ H Q → tLc (TIof K it) (TGof K pin S g) (TTo K c) (TEof K f) vs σ H Q := by
  rintro σ H Q ⟨Λ, ρ, r, ρ', hr, ee, k⟩
  obtain ⟨⟨ds, ρ1⟩, e1, ee⟩ := bind_eq ee
  simp only at ee
  split at ee
  rotate_left
  · cases ee
  rename_i hn
  obtain ⟨⟨zs, ρ2⟩, e2, ee⟩ := bind_eq ee
  have hz : zs.length ≤ SZ := by
    refine Classical.byContradiction fun h => ?_
    rw [if_neg h] at ee; cases ee
  rw [if_pos hz] at ee
  cases ee
  refine ⟨Λ, ρ, ds, ρ1, hr, e1, fun J H1 a1 iw A hA => ?_⟩
  have hr1 := a1.rel
  have hrw := hr1.wipe vs
  -- the new list hidden
  have a0 : Aft K Λ (fun b => Λ b ∨ b = A) (wipeE ρ1 vs) (wipeE ρ1 vs) (wipe σ vs) H1 (upd H1 A (.lst [])) := Aft.new hrw (Aft.refl hrw) hA
  refine ⟨fun i m H' => m = ds.length - i ∧ i ≤ ds.length ∧ ∃ (ρi : ES) (acc : List V) (ys rest : List D), Aft K Λ (fun b => Λ b ∨ b = A) (wipeE ρ1 vs) ρi (wipe σ vs) H1 H' ∧ H' A = some (.lst acc) ∧ DAs K (Hid (fun b => Λ b ∨ b = A) ρi (wipe σ vs)) H' acc ys ∧
    lcLoop (lcBody pin g c f vs) (ds.drop i) ρi = .ok (rest, ρ2) ∧ ys ++ rest = zs, ⟨ds.length, rfl, Nat.zero_le _, wipeE ρ1 vs, [], [], zs, a0, upd_same, .nil, e2, rfl⟩, ?_⟩
  rintro i m H' ⟨rfl, hi, ρi, acc, ys, rest, ai, hacc, qacc, ei, ezs⟩
  have st := ai.still hrw
  obtain ⟨go, stop, yld⟩ := iw H' fun a o n e => (st a o (fun z => n (z.elim .inl fun q => .inr (ownA_wipe q))) e).2
  by_cases hlt : i < ds.length
  · rw [List.drop_eq_getElem_cons hlt] at ei
    obtain ⟨⟨y, ρ5⟩, e3, ei⟩ := bind_eq ei
    obtain ⟨⟨rest', ρ6⟩, e4, ei⟩ := bind_eq ei
    have hrest : ρ6 = ρ2 := by cases ei; rfl
    subst hrest
    obtain ⟨ρt, e5, e3⟩ := bind_eq e3
    obtain ⟨⟨b, ρc⟩, e6, e3⟩ := bind_eq e3
    refine .inr ⟨go i hlt, fun H2 => ∃ (ρj : ES) (acc : List V) (ys rest : List D), Aft K Λ (fun b => Λ b ∨ b = A) (wipeE ρ1 vs) ρj (wipe σ vs) H1 H2 ∧ H2 A = some (.lst acc) ∧ DAs K (Hid (fun b => Λ b ∨ b = A) ρj (wipe σ vs)) H2 acc ys ∧
      lcLoop (lcBody pin g c f vs) (ds.drop (i + 1)) ρj = .ok (rest, ρ6) ∧ ys ++ rest = zs,
      fun H2 q => ⟨ds.length - (i + 1), by omega, rfl, hlt, q⟩, fun x H2 yx => ?_⟩
    obtain ⟨hh, dx⟩ := yld i x H2 hlt yx
    obtain ⟨d, hd, qd⟩ := dx (Hid (fun b => Λ b ∨ b = A) ρi (wipe σ vs)) (fun a o n e => (st a o (fun z => n (z.elim .inl fun q => .inr (ownA_wipe q))) e).1) fun a z => ai.rel.hidThere z
    rw [List.getElem?_eq_getElem hlt] at hd
    cases hd
    have ri2 := ai.rel.grow hh
    have g2 : Aft K (fun b => Λ b ∨ b = A) (fun b => Λ b ∨ b = A) ρi ρi (wipe σ vs) H' H2 := ⟨Ext.refl _ _, ri2, fun a o e _ => hh a o e, Sub.refl _, fun a q => let ⟨o, e⟩ := (ai.rel.ownThere q).2; ⟨o, hh a o e⟩⟩
    refine ⟨_, ρi, H2, _, ρi, .val _, ρt, ri2, Aft.refl ri2, qd, e5, fun σ3 H3 m3 o3 => ?_⟩
    have hw3 := wipe_wipe o3 hS
    refine ⟨hw3, _, ρt, b, ρc, m3.rel, e6, fun H4 Λ4 a4 => ?_⟩
    obtain ⟨tl, to⟩ := ht _ _ _ e5
    -- a turn's end, by what its last part leaves
    have fin : ∀ {ρy : ES} {H5 : Hp}, Aft K (fun b => Λ b ∨ b = A) (fun b => Λ b ∨ b = A) ρt ρy σ3 H3 H5 → Aft K (fun b => Λ b ∨ b = A) (fun b => Λ b ∨ b = A) ρi (wipeE ρy vs) (wipe σ vs) H' H5 := fun {ρy H5} a5 => by
      refine g2.trans ai.rel ((m3.trans ri2 a5.mid).wipe (vs := vs) hw3 fun j => ?_)
      by_cases mj : j ∈ vs
      · have hb : ∀ ρz : ES, (∃ ρv, ρz = wipeE ρv vs) → ρz[j]? = none ∨ ρz[j]? = some none := fun ρz ⟨ρv, e⟩ => by
          subst e
          by_cases l : j < ρv.length
          · exact .inr (wipeE_in mj l)
          · exact .inl (List.getElem?_eq_none (by rw [wipeE_length]; omega))
        have l5 : ρy.length = ρi.length := by rw [a5.sub.len, tl]
        have hsub := ai.sub j
        by_cases l : j < ρy.length
        · rw [wipeE_in mj l]
          rw [wipeE_in mj (by rw [← wipeE_length ρ1 vs, ← ai.sub.len, ← l5]; exact l)] at hsub
          rcases hz2 : ρi[j]? with _ | _ | ⟨d⟩ | ⟨o⟩ <;> rw [hz2] at hsub <;> simp [SubB] at hsub ⊢
        · rw [List.getElem?_eq_none (by rw [wipeE_length]; omega), List.getElem?_eq_none (by omega)]
          exact SubB.refl _
      · rw [wipeE_out mj, ← to j mj]
        exact a5.sub j
    have keepA : ∀ {ρj : ES} {H5 : Hp}, Aft K (fun b => Λ b ∨ b = A) (fun b => Λ b ∨ b = A) ρi ρj (wipe σ vs) H' H5 → H5 A = some (.lst acc) ∧ DAs K (Hid (fun b => Λ b ∨ b = A) ρj (wipe σ vs)) H5 acc ys := fun {ρj H5} a5 =>
      ⟨a5.fr A _ hacc fun q => (ai.rel.ownThere q).1 (.inr rfl), qacc.keep (a5.still ai.rel)⟩
    cases b with
    | false =>
      show (if false = true then _ else _)
      rw [if_neg Bool.false_ne_true]
      simp only [if_neg Bool.false_ne_true] at e3
      cases e3
      have a5 := fin a4.low
      obtain ⟨k1, k2⟩ := keepA a5
      cases ei
      exact ⟨wipeE ρc vs, acc, ys, rest', ai.trans hrw a5, k1, k2, e4, ezs⟩
    | true =>
      show (if true = true then _ else _)
      rw [if_pos rfl]
      simp only [if_pos rfl] at e3
      obtain ⟨⟨r7, ρ7⟩, e7, e3⟩ := bind_eq e3
      obtain ⟨⟨d8, ρ8⟩, e8, e3⟩ := bind_eq e3
      cases e3
      refine ⟨_, ρc, r7, ρ7, a4.rel.mono a4.ext.1, e7, fun w H5 Λ5 a5 q5 => ?_⟩
      obtain ⟨b1, b2, q8⟩ := q5.let_go (a4.rel.mono a4.ext.1) a5 e8
      have a6 := fin (a4.low.trans m3.rel b1)
      obtain ⟨k1, k2⟩ := keepA a6
      have hlen : acc.length < SZ := by
        have h1 := congrArg List.length ezs
        cases ei
        have hz' : zs.length ≤ SZ := hz
        simp only [List.length_append, List.length_cons] at h1
        rw [qacc.length]
        have h2 : ys.length + (rest'.length + 1) = zs.length := h1
        omega
      refine ⟨acc, k1, by rw [sizeLine_eq]; exact hlen, wipeE ρ8 vs, acc ++ [w], ys ++ [d8], rest', (ai.trans hrw a6).hidPut hA (.inr rfl), upd_same, ?_, e4, ?_⟩
      · have q8' : DA K (Hid (fun b => Λ b ∨ b = A) (wipeE ρ8 vs) (wipe σ vs)) H5 w d8 := q8.less fun b z => by
          rw [← hw3] at z
          exact z.elim .inl fun q => .inr (ownA_wipe q)
        exact DAs.keep (fun b o n e => ⟨n, by rw [upd_ne fun z => n (.inl (.inr z))]; exact e⟩) (k2.append (.cons q8' .nil))
      · cases ei
        rw [← ezs, List.append_assoc]; rfl
  · have e : i = ds.length := by omega
    subst e
    rw [List.drop_length] at ei
    cases ei
    rw [List.append_nil] at ezs
    subst ezs
    have a9 := (ai.leave hr1 hn)
    refine .inl ⟨stop, k _ _ _ (a1.trans hr a9) ⟨A, rfl, ?_, .inr rfl, acc, hacc, ?_⟩⟩
    · exact a1.gone hr A hA
    · exact qacc.less fun b z => z.elim .inl fun q => .inr (ownA_unwipe hn hr1.len (by rw [ai.sub.len, wipeE_length]) q)
theorem pe_lcD {it : ES → Out (List D × ES)} {g : R → ES → Out ES} {c : Option (ES → Out (R × ES))} (hc : X.calm = true) (hN : X.N.Nodup) (hi : PI X tg iter (TIof X.K it)) (ok : BlkOk X.N X.env.scope scope own)
    (hg : ∀ (s : Shared) (H : Hp) (C : Addr) (cl : List (Str × Addr)) (fp : List Addr), PG (X.blk s H scope (compEnvC scope cl C X.env) fp) tg (TGof X.K pin (own.map (·.2)) g)) (ht : ∀ (s : Shared) (H : Hp) (C : Addr) (cl : List (Str × Addr)) (fp : List Addr), PTo (X.blk s H scope (compEnvC scope cl C X.env) fp) ifs c)
    (he : ∀ (s : Shared) (H : Hp) (C : Addr) (cl : List (Str × Addr)) (fp : List Addr), PE (X.blk s H scope (compEnvC scope cl C X.env) fp) elt (TEof X.K f)) (hs : ∀ x, foldedSetIterable iter X.env x = pure x) (tm : Tame (own.map (·.2)) g) :
    PE X (.ListComp elt [⟨tg, iter, ifs, 0⟩] scope pos) (TEof X.K (evLc pin it g c f (own.map (·.2)))) :=
  pe_of (pe_lc (tt := TTo X.K c) hc hN hi ok hg (fun s H C cl fp => (ht s H C cl fp).pts) he hs) (lc_to tm fun _ z => z)
theorem ps_setLcD {y : Str} {py spos : Pos} {it : ES → Out (List D × ES)} {g : R → ES → Out ES} {c : Option (ES → Out (R × ES))} (hc : X.calm = true) (hN : X.N.Nodup) (hy : X.N[i]? = some y) (hyl : X.env.scope.names.lookup y = some .local)
    (hsw : swapsWith (.ListComp elt [⟨tg, iter, ifs, 0⟩] scope pos) (some (.Name y py)) spos.line X.env = pure true) (hi : PI X tg iter (TIof X.K it)) (ok : BlkOk X.N X.env.scope scope own)
    (hg : ∀ (s : Shared) (H : Hp) (C : Addr) (cl : List (Str × Addr)) (fp : List Addr), PG (X.blk s H scope (compEnvC scope cl C X.env) fp) tg (TGof X.K pin (own.map (·.2)) g)) (ht : ∀ (s : Shared) (H : Hp) (C : Addr) (cl : List (Str × Addr)) (fp : List Addr), PTo (X.blk s H scope (compEnvC scope cl C X.env) fp) ifs c)
    (he : ∀ (s : Shared) (H : Hp) (C : Addr) (cl : List (Str × Addr)) (fp : List Addr), PE (X.blk s H scope (compEnvC scope cl C X.env) fp) elt (TEof X.K f)) (hs : ∀ x, foldedSetIterable iter X.env x = pure x) (tm : Tame (own.map (·.2)) g) :
    PS X (.Assign [.Name y py] (.ListComp elt [⟨tg, iter, ifs, 0⟩] scope pos) spos) (TSof X.K pin (exAsg (evLc pin it g c f (own.map (·.2))) (setv pin i))) := by
  refine ps_of (ps_setLc (tt := TTo X.K c) hc hN hy hyl hsw hi ok hg (fun s H C cl fp => (ht s H C cl fp).pts) he hs) ?_
  rintro D σ H ⟨Λ, ρ, fl, ρ', hr, ee, k⟩
  obtain ⟨⟨r, ρ1⟩, e1, ee⟩ := bind_eq ee
  obtain ⟨ρ2, e2, ee⟩ := bind_eq ee
  cases ee
  refine lc_to tm (fun _ z => z) σ H _ ⟨Λ, ρ, r, ρ1, hr, e1, fun v H1 Λ1 a1 q1 => ?_⟩
  exact name_to _ _ _ _ ⟨Λ, ρ, H, Λ1, ρ1, r, ρ', hr, a1, q1, e2, fun σ' H' m _ => k _ _ m⟩
end
end DI
end

section
set_option maxRecDepth 100000
/-! KK: defs and their calls. -/
namespace DI
open PySem PySem.Spec PyProof.Rows L2

/-- what a def promises, the stack of guards empty -/
structure FnG (P : Program) (w : World) (K : PySem.W.Frag) (mg : Str → Option Value) (base : Heap) (CX : CXT) (k : Nat) (f : Addr) (fd : FuncData) (ps : List Str) (sp : Sp) : Prop where
  len : ∀ vs H Q E, sp vs H Q E → vs.length = ps.length
  run : ∀ (A : Around) (outer : List Env) (s : Shared) (H : Hp) (args : Args) (us : List Value) (vs : List V) (Q : VK) (E : XK), Room k A → A.guards = some [] → Env0 P w K mg base A outer s H → BindsTo s fd args (ps.zip us) → Vals vs us →
    sp vs H Q E → codeAny (model P w) A (.call (.ref f) args) (CR CX outer P w H s Q E) s
section
variable {P : Program} {w : World} {K : PySem.W.Frag} {mg : Str → Option Value} {base : Heap} {CX : CXT} {k : Nat}
theorem FnG.mono {j : Nat} {f : Addr} {fd : FuncData} {ps : List Str} {sp : Sp} (F : FnG P w K mg base CX j f fd ps sp) (h : j ≤ k) : FnG P w K mg base CX k f fd ps sp :=
  ⟨F.len, fun A o s H a us vs Q E r => F.run A o s H a us vs Q E (r.mono h)⟩
/-- a def by its body -/
theorem fn_ofG {f : Addr} {name qual : Str} {params : Arguments} {body : List Stmt} {scope : Scope} {dV kV doc pm cdv ct oc : Value} {an od : Option Addr} {osl : Array (Option Value)} {N ps : List Str} {sp : Sp}
    (lk : K.lookup f = some ⟨oc, od, .func (PySem.W.fnOf name qual params body scope dV kV doc pm an cdv ct), osl⟩) (hcd : PySem.W.codeIn K cdv qual = true) (S : FnScope N ps scope) (len : ∀ vs H Q E, sp vs H Q E → vs.length = ps.length)
    (hbody : ∀ (A : Around) (outer : List Env) (s : Shared) (H : Hp) (vs : List V) (Q : VK) (E : XK), Room k (A.deeper (envOfC qual scope s.heap.objs.size f cdv)) → (A.deeper (envOfC qual scope s.heap.objs.size f cdv)).guards = some [] → sp vs H Q E →
      ∃ t, PSs (cxOf CX P w K mg base N qual scope f cdv A outer s H E) body t ∧ t { nx := fun _ H' => Q .non H', rt := Q } (start N vs) H) :
    FnG P w K mg base CX (k + 1) f (PySem.W.fnOf name qual params body scope dV kV doc pm an cdv ct) ps sp := by
  constructor
  · exact len
  intro A outer s H args us vs Q E hr hgd e0 hb r hsp
  have hl := len _ _ _ _ hsp
  have KX : K.In s.heap := e0.mod.kin.keeps fun b o e => (e0.bs b o e).1
  have lim := e0.mod.nolimit.keeps fun b o e => (e0.bs b o e).1
  have hkind : ∀ y ∈ ps.zip us, scope.names.lookup y.1 = some .local ∨ (scope.names.lookup y.1 = some .cell ∧ ((cellsFrom (s.heap.objs.size + 1) scope.names []).lookup y.1).isSome = true) := by
    rintro ⟨n, v⟩ hy
    exact (S.par n (List.of_mem_zip hy).1).imp_right fun q => ⟨q, PySem.W.cellsFrom_some _ _ _ (.inl q)⟩
  refine codeAny_call_function hr.depth (KX _ _ lk) rfl S.co S.gen rfl (PySem.W.codeRec_of KX hcd) (hb _ _ _ _ (wpAny_newFunctionEnv_cells S.kind hkind ?_))
  rintro env rfl s1 x
  obtain ⟨t, ht, hq⟩ := hbody A outer s H vs Q E (hr.deeper _) hgd hsp
  refine ⟨lim.keeps x.toInCall.keep, codeAny_func (wpAny_mono (ht.run [] s1 (start N vs) H _ (inv_start S hr.hd e0 hl r x) hq) ?_ fun e s' hs => hs)⟩
  intro fl s' hs
  cases fl with
  | ret u =>
    obtain ⟨v, σ', H', J, rv, q⟩ := hs
    exact ⟨v, H', J.os, J.bare, J.base, J.hok, rv, q⟩
  | next =>
    obtain ⟨σ', H', J, q⟩ := hs
    exact ⟨V.non, H', J.os, J.bare, J.base, J.hok, rfl, q⟩
  | brk => exact hs.elim fun _ ⟨_, _, q⟩ => q.elim
  | cont => exact hs.elim fun _ ⟨_, _, q⟩ => q.elim
end

section
variable {X : Cx} {CX : CXT} {k : Nat} {f : Addr} {fd : FuncData} {ps ks : List Str} {sp : Sp} {E : XK} {x : Str} {p pos : Pos} {e : Expr} {es : List Expr} {kws : List Keyword} {t tk : TA}
theorem run_G {pins : List (Addr × Obj)} {σ : L2.St} {H : Hp} {s : Shared} {Q : VK} {args : Args} {us : List Value} {vs : List V} (F : FnG X.prog X.w X.K X.mg X.base CX k f fd ps sp) (hr : Room k X.A) (hgd : X.A.guards = some []) (hx : Passes CX X E) (I : Inv X pins σ H s)
    (hb : BindsTo s fd args (ps.zip us)) (r : Vals vs us) (h : sp vs H Q E) : codeAny (model X.prog X.w) X.A (.call (.ref f) args) (fun r s' => match r with | .ok (.ret u) => EP X pins σ Q u s' | .ok _ => False | .error e => X.xe e s') s := by
  refine codeAny_mono (F.run X.A X.stack s H args us vs Q E hr hgd I.env0 hb r h) fun r s' hq => ?_
  cases r with
  | error e => exact hx pins σ H s e s' I hq
  | ok fl => cases fl with
    | ret u => exact I.after hq
    | _ => exact hq
theorem wp_call {A : Around} {M : Model} {f : Value} {us : List Value} {kw : List (Str × Value)} {Q : Value → Shared → Prop} {E : Value → Shared → Prop} {s : Shared} (h : codeAny M A (.call f ⟨us, kw⟩) (fun r s' => match r with | .ok (.ret u) => Q u s' | .ok _ => False | .error e => E e s') s) : wpAny M A (call f us kw) Q E s := by
  refine wpAny_call (codeAny_mono h fun r s' hq => ?_)
  cases r with
  | error e => exact hq
  | ok fl => cases fl with
    | ret u => exact hq
    | _ => exact hq.elim
/-- all the arguments are bound, written in a row -/
def BindAll (fd : FuncData) (ps : List Str) : Prop := ∀ us : List Value, us.length = ps.length → bindArgs fd ⟨us, []⟩ = pure (ps.zip us)
/-- .. by their names ks -/
def BindKs (fd : FuncData) (ps ks : List Str) : Prop := ∀ us : List Value, us.length = ps.length → bindArgs fd ⟨[], ks.zip us⟩ = pure (ps.zip us)
theorem pe_callG (F : FnG X.prog X.w X.K X.mg X.base CX k f fd ps sp) (hr : Room k X.A) (hgd : X.A.guards = some []) (hg : Gl X x) (hm : X.mg x = some (.ref f)) (hk : PySem.W.keepIn X.K (.ref f) = true) (hb : BindAll fd ps) (hx : Passes CX X E)
    (ha : PA X (e :: es) t) (hdb : (x == ("__debug__" : Str)) = false) (he : starEach (e :: es) X.env = (false, eval e X.env) :: starEach es X.env) (hpl : (backTo pos (starEach es X.env)).any (·.1) = false) :
    PE X (.Call (.Name x p) (e :: es) [] pos) (tCall sp [] E t) := by
  refine ⟨fun pins s σ H Q I h => wpAny_Call_Name_kw (ld_glob I hg hm ?_ hdb)⟩
  refine PySem.W.callWith_K (h₀ := X.base) I.ok.mod.kin hk (thn (ha.run pos pins s σ H _ I h) ?_) he hpl
  rintro us s1 ⟨vs, H1, I1, r, q⟩
  rw [List.append_nil] at q
  exact ⟨I1.kIn, wp_call (run_G F hr hgd hx I1 (.of_eq (hb us (r.length.symm.trans (F.len _ _ _ _ q)))) r q)⟩
theorem pe_callG0 (F : FnG X.prog X.w X.K X.mg X.base CX k f fd ps sp) (hr : Room k X.A) (hgd : X.A.guards = some []) (hg : Gl X x) (hm : X.mg x = some (.ref f)) (hk : PySem.W.keepIn X.K (.ref f) = true) (hb : BindAll fd ps) (hx : Passes CX X E)
    (hdb : (x == ("__debug__" : Str)) = false) : PE X (.Call (.Name x p) [] [] pos) (tCall sp [] E tNil) := by
  refine ⟨fun pins s σ H Q I h => wpAny_Call_Name_kw (ld_glob I hg hm ?_ hdb)⟩
  exact PySem.W.callWith_K0 I.kIn hk (wp_call (run_G (us := []) F hr hgd hx I (.of_eq (hb [] (F.len _ _ _ _ h))) .nil h))
/-- f(k = v, ..) -/
theorem pe_callGk (F : FnG X.prog X.w X.K X.mg X.base CX k f fd ps sp) (hr : Room k X.A) (hgd : X.A.guards = some []) (hg : Gl X x) (hm : X.mg x = some (.ref f)) (hk : PySem.W.keepIn X.K (.ref f) = true) (hb : BindKs fd ps ks) (hx : Passes CX X E)
    (hkw : PK X kws tk) (hall : (backToKw pos (keywordEach kws X.env)).all (·.1.isSome) = true) (hks : (backToKw pos (keywordEach kws X.env)).filterMap (·.1) = ks)
    (hdb : (x == ("__debug__" : Str)) = false) (hpl : (backToKw pos (keywordEach kws X.env)).any (·.1.isNone) = false) :
    PE X (.Call (.Name x p) [] kws pos) (tCall sp [] E tk) := by
  refine ⟨fun pins s σ H Q I h => wpAny_Call_Name_kw (ld_glob I hg hm ?_ hdb)⟩
  refine PySem.W.callWith_KW0 (h₀ := X.base) I.ok.mod.kin hk hall (thn (hkw.run pos pins s σ H _ I h) ?_) (by rw [hpl]; rfl)
  rintro us s1 ⟨vs, H1, I1, r, q⟩
  rw [List.append_nil] at q
  rw [hks]
  exact ⟨I1.kIn, wp_call (run_G F hr hgd hx I1 (.of_eq (hb us (r.length.symm.trans (F.len _ _ _ _ q)))) r q)⟩
end

/-! ### promises by the core language's meaning -/
def ArgsOk (K : PySem.W.Frag) (Z : Addr → Prop) (H : Hp) (mx : Option Nat) : Nat → List V → List B → Prop
  | _, [], [] => True
  | k, v :: vs, b :: bs => (match b with
      | .val d => mx ≠ some k ∧ DA K Z H v d
      | .own o => mx = some k ∧ ∃ l, v = .ref l ∧ Z l ∧ MOk K Z H l o) ∧ ArgsOk K Z H mx (k + 1) vs bs
  | _, _, _ => False
structure PostOk (K : PySem.W.Frag) (Z : Addr → Prop) (H H' : Hp) (mx : Option Nat) (vs : List V) (r : R) (o : Option MO) (v : V) (Zf : Addr → Prop) : Prop where
  fr : ∀ a u, H a = some u → (∀ k, mx = some k → vs[k]? ≠ some (.ref a)) → H' a = some u
  up : ∀ a, Z a → Zf a
  dn : ∀ a, Zf a → Z a ∨ H a = none
  lam : ∀ a, Zf a → ∃ u, H' a = some u
  res : match r with
    | .val d => DA K Zf H' v d
    | .new m => ∃ p, v = .ref p ∧ H p = none ∧ Zf p ∧ MOk K Zf H' p m
    | .slot _ => False
  mu : ∀ k, mx = some k → ∃ l m, vs[k]? = some (.ref l) ∧ o = some m ∧ MOk K Zf H' l m
def SpI (K : PySem.W.Frag) (F : FI) (n : Nat) : Sp := fun vs H Q _ => ∃ (Z : Addr → Prop) (bs : List B) (r : R) (o : Option MO), vs.length = n ∧ (∀ a, Z a → ∃ u, H a = some u) ∧ ArgsOk K Z H F.mx 0 vs bs ∧ F.sem bs = .ok (r, o) ∧
  ∀ (v : V) (H' : Hp) (Zf : Addr → Prop), PostOk K Z H H' F.mx vs r o v Zf → Q v H'
end DI
end

section
set_option maxRecDepth 100000
/-! KL: a def's body keeps its promise; the caller's side. -/
namespace DI
open PySem L2

section
variable {K : PySem.W.Frag} {Z Z' : Addr → Prop} {H H' H0 H1 : Hp} {mx m pin : Option Nat} {vs : List V} {bs : List B} {k i : Nat} {Λ Λb Λ1 Λf : Addr → Prop} {ρ ρ1 ρ2 ρ3 : ES} {σ : St}
theorem ArgsOk.length : ∀ {k : Nat} {vs : List V} {bs : List B}, ArgsOk K Z H mx k vs bs → vs.length = bs.length
  | _, [], [], _ => rfl
  | _, v :: vs, b :: bs, h => by simp [ArgsOk.length h.2]
  | _, [], _ :: _, h => h.elim
  | _, _ :: _, [], h => h.elim
theorem ArgsOk.val : ∀ {k : Nat} {vs : List V} {bs : List B} {i : Nat} {d : D}, ArgsOk K Z H mx k vs bs → bs[i]? = some (.val d) → ∃ v, vs[i]? = some v ∧ mx ≠ some (k + i) ∧ DA K Z H v d
  | _, [], [], _, _, _, e => by simp at e
  | k, v :: vs, b :: bs, 0, d, h, e => by
    simp at e; subst e
    exact ⟨v, rfl, h.1.1, h.1.2⟩
  | k, v :: vs, b :: bs, i + 1, d, h, e => by
    obtain ⟨w, e1, e2, q⟩ := ArgsOk.val (i := i) (d := d) h.2 (by simpa using e)
    exact ⟨w, by simpa using e1, by rw [show k + (i + 1) = k + 1 + i by omega]; exact e2, q⟩
  | _, [], _ :: _, _, _, h, _ => h.elim
  | _, _ :: _, [], _, _, h, _ => h.elim
theorem ArgsOk.own : ∀ {k : Nat} {vs : List V} {bs : List B} {i : Nat} {o : MO}, ArgsOk K Z H mx k vs bs → bs[i]? = some (.own o) → ∃ l, vs[i]? = some (.ref l) ∧ mx = some (k + i) ∧ Z l ∧ MOk K Z H l o
  | _, [], [], _, _, _, e => by simp at e
  | k, v :: vs, b :: bs, 0, o, h, e => by
    simp at e; subst e
    obtain ⟨h1, l, h2, h3, h4⟩ := h.1
    exact ⟨l, by rw [h2]; rfl, h1, h3, h4⟩
  | k, v :: vs, b :: bs, i + 1, o, h, e => by
    obtain ⟨w, e1, e2, q⟩ := ArgsOk.own (i := i) (o := o) h.2 (by simpa using e)
    exact ⟨w, by simpa using e1, by rw [show k + (i + 1) = k + 1 + i by omega]; exact e2, q⟩
  | _, [], _ :: _, _, _, h, _ => h.elim
  | _, _ :: _, [], _, _, h, _ => h.elim

/-- the slots at a def's start -/
def rho0 (bs : List B) (n : Nat) : ES := bs.map some ++ List.replicate n none
theorem rho0_get {n : Nat} {b : B} (h : (rho0 bs n)[i]? = some (some b)) : bs[i]? = some b := by
  unfold rho0 at h
  by_cases hi : i < bs.length
  · rw [List.getElem?_append_left (by simpa using hi), List.getElem?_map] at h
    cases e : bs[i]? with
    | none => rw [e] at h; cases h
    | some a => rw [e] at h; cases h; rfl
  · rw [List.getElem?_append_right (by simpa using hi), List.getElem?_replicate] at h
    split at h <;> cases h
theorem start_get {N : List Str} {v : V} (h : vs[i]? = some v) : (start N vs)[i]? = some (some v) := by
  have hi := (List.getElem?_eq_some_iff.mp h).1
  unfold L2.start
  rw [List.getElem?_append_left (by simpa using hi), List.getElem?_map, h]
  rfl
theorem start_rel {N : List Str} (a : ArgsOk K Z H mx 0 vs bs) (hz : ∀ b, Z b → ∃ u, H b = some u) (hn : vs.length ≤ N.length) :
    Rel K (fun b => Z b ∧ ∀ k, mx = some k → vs[k]? ≠ some (.ref b)) (rho0 bs (N.length - vs.length)) (start N vs) H ∧ (∀ b, OwnA (rho0 bs (N.length - vs.length)) (start N vs) b → Z b ∧ ∃ k, mx = some k ∧ vs[k]? = some (.ref b)) := by
  have hl := a.length
  have own : ∀ b, OwnA (rho0 bs (N.length - vs.length)) (start N vs) b → Z b ∧ ∃ k, mx = some k ∧ vs[k]? = some (.ref b) := fun b ⟨i, o, e1, e2⟩ => by
    obtain ⟨l, h1, h2, h3, _⟩ := a.own (rho0_get e1)
    rw [start_get h1] at e2
    cases e2
    exact ⟨h3, i, by rw [h2, Nat.zero_add], h1⟩
  have hid : ∀ b, Hid (fun b => Z b ∧ ∀ k, mx = some k → vs[k]? ≠ some (.ref b)) (rho0 bs (N.length - vs.length)) (start N vs) b → Z b := fun b z => z.elim (fun q => q.1) fun q => (own b q).1
  refine ⟨⟨?_, fun i d e => ?_, fun i o e => ?_, fun i j o o' b e1 e2 _ _ => ?_, fun b z => hz b z.1⟩, own⟩
  · simp [rho0, L2.start, hl]
  · obtain ⟨v, h1, h2, h3⟩ := a.val (rho0_get e)
    exact ⟨v, start_get h1, h3.less hid⟩
  · obtain ⟨l, h1, h2, h3, h4⟩ := a.own (rho0_get e)
    refine ⟨l, start_get h1, fun z => z.2 i (by rw [h2, Nat.zero_add]) h1, h4.keep (fun _ e => e) fun b u nb eb => ⟨fun z => nb (hid b z), eb⟩⟩
  · obtain ⟨l, h1, h2, _⟩ := a.own (rho0_get e1)
    obtain ⟨l', h1', h2', _⟩ := a.own (rho0_get e2)
    rw [h2] at h2'
    simpa using h2'
/-- a def's end -/
theorem end_ok {N : List Str} {r : R} {o : Option MO} {fl : Fl} {ρ' : ES} {Q : VK} (a : ArgsOk K Z H pin 0 vs bs) (hz : ∀ b, Z b → ∃ u, H b = some u) (hn : vs.length ≤ N.length) (hpin : okPin pin vs.length = true) (ho : endO pin ρ' = .ok o) (he : endR pin fl ρ' = .ok r)
    (k : ∀ (v : V) (H' : Hp) (Zf : Addr → Prop), PostOk K Z H H' pin vs r o v Zf → Q v H') : EndsOk K pin (fun b => Z b ∧ ∀ k, pin = some k → vs[k]? ≠ some (.ref b)) (rho0 bs (N.length - vs.length)) (start N vs) H ρ' { nx := fun _ H' => Q .non H', rt := Q } fl := by
  obtain ⟨hr, hown⟩ := start_rel a hz hn
  -- what any end gives
  have base : ∀ {σ' : St} {H' : Hp} {Λf : Addr → Prop}, Mid K pin (fun b => Z b ∧ ∀ k, pin = some k → vs[k]? ≠ some (.ref b)) Λf (rho0 bs (N.length - vs.length)) (start N vs) H ρ' σ' H' →
      (∀ b, Z b → Hid Λf ρ' σ' b) ∧ (∀ b u, H b = some u → (∀ k, pin = some k → vs[k]? ≠ some (.ref b)) → H' b = some u) ∧ (∀ k, pin = some k → ∃ l m, vs[k]? = some (.ref l) ∧ o = some m ∧ ρ'[k]? = some (some (.own m)) ∧ σ'[k]? = some (some (.ref l)) ∧ MOk K (Hid Λf ρ' σ') H' l m) := by
    intro σ' H' Λf mid
    have mu : ∀ k, pin = some k → ∃ l m, vs[k]? = some (.ref l) ∧ o = some m ∧ ρ'[k]? = some (some (.own m)) ∧ σ'[k]? = some (some (.ref l)) ∧ MOk K (Hid Λf ρ' σ') H' l m := fun t ht => by
      subst ht
      simp only [endO] at ho
      split at ho <;> cases ho
      rename_i m hm
      have hlt : t < vs.length := by simpa [okPin] using hpin
      obtain ⟨v, hv⟩ : ∃ v, vs[t]? = some v := ⟨_, List.getElem?_eq_getElem hlt⟩
      obtain ⟨l, h1, _, h4⟩ := mid.rel.own t m hm
      have h2 := mid.pin t rfl
      rw [start_get hv, h1] at h2
      cases h2
      exact ⟨l, m, hv, rfl, hm, h1, h4⟩
    refine ⟨fun b z => ?_, fun b u e n => mid.fr b u e fun q => ?_, mu⟩
    · by_cases q : ∀ k, pin = some k → vs[k]? ≠ some (.ref b)
      · exact .inl (mid.ext.1 b ⟨z, q⟩)
      · obtain ⟨k, hk⟩ := Classical.not_forall.mp q
        obtain ⟨hk, hv⟩ := Classical.not_imp.mp hk
        have hv := Classical.not_not.mp hv
        obtain ⟨l, m, h1, _, h3, h4, _⟩ := mu k hk
        rw [hv] at h1; cases h1
        exact .inr ⟨k, m, h3, h4⟩
    · obtain ⟨_, k, hk, hv⟩ := hown b q
      exact n k hk hv
  have post : ∀ {σ' : St} {H' : Hp} {Λf : Addr → Prop} {v : V} {d : D}, Mid K pin (fun b => Z b ∧ ∀ k, pin = some k → vs[k]? ≠ some (.ref b)) Λf (rho0 bs (N.length - vs.length)) (start N vs) H ρ' σ' H' → DA K (Hid Λf ρ' σ') H' v d → PostOk K Z H H' pin vs (.val d) o v Z := by
    intro σ' H' Λf v d mid q
    obtain ⟨h1, h2, h3⟩ := base mid
    refine ⟨h2, fun _ z => z, fun _ z => .inl z, fun b z => mid.rel.hidThere (h1 b z), q.less h1, fun k hk => ?_⟩
    obtain ⟨l, m, g1, g2, _, _, g3⟩ := h3 k hk
    exact ⟨l, m, g1, g2, g3.keep (fun _ e => e) fun b u nb eb => ⟨fun z => nb (h1 b z), eb⟩⟩
  have postN : ∀ {σ' : St} {H' : Hp} {Λf : Addr → Prop} {p : Addr} {m : MO}, Mid K pin (fun b => Z b ∧ ∀ k, pin = some k → vs[k]? ≠ some (.ref b)) Λf (rho0 bs (N.length - vs.length)) (start N vs) H ρ' σ' H' → H p = none → Hid Λf ρ' σ' p → MOk K (Hid Λf ρ' σ') H' p m → PostOk K Z H H' pin vs (.new m) o (.ref p) (fun b => Z b ∨ b = p) := by
    intro σ' H' Λf p m mid hp hpl q
    obtain ⟨h1, h2, h3⟩ := base mid
    have up : ∀ b, (Z b ∨ b = p) → Hid Λf ρ' σ' b := fun b z => z.elim (h1 b) fun e => by rw [e]; exact hpl
    refine ⟨h2, fun _ z => .inl z, fun b z => z.imp (fun q => q) fun e => by rw [e]; exact hp, fun b z => mid.rel.hidThere (up b z), ⟨p, rfl, hp, .inr rfl, q.keep (fun _ e => e) fun b u nb eb => ⟨fun z => nb (up b z), eb⟩⟩, fun k hk => ?_⟩
    obtain ⟨l, m, g1, g2, _, _, g3⟩ := h3 k hk
    exact ⟨l, m, g1, g2, g3.keep (fun _ e => e) fun b u nb eb => ⟨fun z => nb (up b z), eb⟩⟩
  cases fl with
  | next =>
    cases he
    exact fun σ' H' mid => k _ _ _ (post mid DA.non)
  | brk => cases he
  | cont => cases he
  | ret r1 =>
    intro v σ' H' Λf mid q
    cases r1 with
    | val d => cases he; exact k _ _ _ (post mid q)
    | new m =>
      cases he
      obtain ⟨p, rfl, n, l, mm⟩ := q
      exact k _ _ _ (postN mid n (.inl l) mm)
    | slot i =>
      simp only [endR] at he
      obtain ⟨ev, b, eb⟩ := q
      split at he
      · cases he
      · rename_i np
        rw [eb] at he
        cases b with
        | val d =>
          cases he
          obtain ⟨w, ew, qq⟩ := mid.rel.val i d eb
          rw [ev] at ew; cases ew
          exact k _ _ _ (post mid qq)
        | own m =>
          cases he
          obtain ⟨p, ew, nl, qq⟩ := mid.rel.own i m eb
          rw [ev] at ew; cases ew
          have oa : OwnA ρ' σ' p := ⟨i, m, eb, ev⟩
          refine k _ _ _ (postN mid ?_ (.inr oa) qq)
          rcases mid.own p oa with z | z
          · obtain ⟨_, j, hj, hv⟩ := hown p z
            obtain ⟨l, m', g1, _, g3, g4, _⟩ := (base mid).2.2 j hj
            rw [hv] at g1; cases g1
            exact absurd (by rw [hj, mid.rel.dis i j m m' p eb g3 ev g4] : pin = some i) np
          · exact z
end
/-- THE BODY: what a def promises by its core -/
theorem body_ok {X : Cx} {G : Ge} {C : CF} {st : List Stmt} {vs : List V} {H : Hp} {Q : VK} {E : XK} {FF : FI} {pn : List Str} (hF : FF = ⟨run G C, pn, C.pin⟩) (hN : X.N.length = C.n) (hb : PSs X st (TSof X.K C.pin (exs G C.pin C.body))) (h : SpI X.K FF C.ps vs H Q E) :
    ∃ t, PSs X st t ∧ t { nx := fun _ H' => Q .non H', rt := Q } (start X.N vs) H := by
  subst hF
  refine ⟨_, hb, ?_⟩
  obtain ⟨Z, bs, r, o, hl, hz, a, e, k⟩ := h
  simp only [run] at e
  split at e
  · rename_i hc
    obtain ⟨⟨fl, ρ'⟩, e1, e⟩ := bind_eq e
    obtain ⟨o', e2, e⟩ := bind_eq e
    obtain ⟨r', e3, e⟩ := bind_eq e
    cases e
    have hle : vs.length ≤ X.N.length := by rw [hl, hN]; exact hc.2.1
    have hpin : okPin C.pin vs.length = true := by rw [hl]; exact hc.2.2
    refine ⟨_, rho0 bs (X.N.length - vs.length), fl, ρ', (start_rel a hz hle).1, ?_, end_ok a hz hle hpin e2 e3 k⟩
    rw [hN, hl]
    exact e1
  · cases e
end DI
end

section
set_option maxRecDepth 100000
/-! KM: the caller's side. -/
namespace DI
open PySem L2

section
variable {K : PySem.W.Frag} {Z Zf : Addr → Prop} {H H' H0 H1 : Hp} {mx m pin : Option Nat} {vs : List V} {bs : List B} {k i : Nat} {Λ Λb Λ1 Λf : Addr → Prop} {ρ ρ1 ρ2 ρ3 : ES} {σ : St}
/-- a result that may be let go over the base Λb -/
def AR (K : PySem.W.Frag) (Λb Λ1 : Addr → Prop) (ρ : ES) (σ : St) (H : Hp) : R → V → Prop
  | .val d, v => DA K (Hid Λ1 ρ σ) H v d
  | .new o, v => ∃ p, v = .ref p ∧ Λ1 p ∧ ¬ Λb p ∧ MOk K (Hid Λ1 ρ σ) H p o
  | .slot i, v => σ[i]? = some (some v) ∧ ∃ b : B, ρ[i]? = some (some b)
theorem AR.let_go (h : Rel K Λ1 ρ1 σ H1) (up : ∀ b, Λb b → Λ1 b) {r : R} {v : V} {d : D} {ρ2 : ES} (q : AR K Λb Λ1 ρ1 σ H1 r v) (e : still pin ρ1 r = .ok (d, ρ2)) : Aft K Λ1 Λ1 ρ1 ρ2 σ H1 H1 ∧ DA K (Hid Λb ρ2 σ) H1 v d := by
  cases r with
  | val d' =>
    cases e
    exact ⟨Aft.refl h, DA.less (fun b z => Hid.less up (fun _ q => q) z) q⟩
  | new o =>
    cases e
    obtain ⟨p, rfl, l, n, m⟩ := q
    refine ⟨Aft.refl h, m.da (fun z => ?_) fun b z => Hid.less up (fun _ q => q) z⟩
    rcases z with z | z
    · exact n z
    · exact (h.ownThere z).1 l
  | slot i =>
    have q' : RV K Λ1 ρ1 σ H1 H1 (.slot i) v := q
    obtain ⟨b1, b2, q3⟩ := q'.let_go h (Aft.refl h) e
    exact ⟨b2, q3.less fun b z => Hid.less up (fun _ q => q) z⟩
theorem AR.keep (h : Rel K Λ1 ρ1 σ H1) (a : Aft K Λ1 Λ1 ρ1 ρ2 σ H1 H1) {r : R} {v : V} (q : AR K Λb Λ1 ρ1 σ H1 r v) : AR K Λb Λ1 ρ2 σ H1 r v := by
  cases r with
  | val d => exact DA.keep (a.still h) q
  | new o =>
    obtain ⟨p, e, l, n, m⟩ := q
    exact ⟨p, e, l, n, m.keep (fun u e => e) (a.still h)⟩
  | slot i =>
    obtain ⟨e, b, e2⟩ := q
    obtain ⟨b', e3⟩ := a.sub.some_ e2
    exact ⟨e, b', e3⟩
/-- .. all but the m-th -/
def ARs (K : PySem.W.Frag) (Λb Λ1 : Addr → Prop) (ρ : ES) (σ : St) (H : Hp) (m : Option Nat) : Nat → List R → List V → Prop
  | _, [], [] => True
  | k, r :: rs, v :: vs => (m ≠ some k → AR K Λb Λ1 ρ σ H r v) ∧ ARs K Λb Λ1 ρ σ H m (k + 1) rs vs
  | _, _, _ => False
theorem ARs.keep (h : Rel K Λ1 ρ1 σ H1) (a : Aft K Λ1 Λ1 ρ1 ρ2 σ H1 H1) : ∀ {k : Nat} {rs : List R} {vs : List V}, ARs K Λb Λ1 ρ1 σ H1 m k rs vs → ARs K Λb Λ1 ρ2 σ H1 m k rs vs
  | _, [], [], _ => trivial
  | _, r :: rs, v :: vs, q => ⟨fun n => (q.1 n).keep h a, ARs.keep h a q.2⟩
  | _, [], _ :: _, q => q.elim
  | _, _ :: _, [], q => q.elim
/-- the arguments as a callee sees them; o at the m-th place -/
theorem argB_ok : ∀ {rs : List R} {vs : List V} {k : Nat} {ρ1 ρ2 : ES} {ds : List (Option D)}, Rel K Λ1 ρ1 σ H1 → (∀ b, Λb b → Λ1 b) → ARs K Λb Λ1 ρ1 σ H1 m k rs vs → argB m pin k rs ρ1 = .ok (ds, ρ2) →
    Aft K Λ1 Λ1 ρ1 ρ2 σ H1 H1 ∧ ∀ (o : Option MO), (∀ (i : Nat), m = some (k + i) → i < vs.length → ∃ l o', vs[i]? = some (.ref l) ∧ o = some o' ∧ Hid Λb ρ2 σ l ∧ MOk K (Hid Λb ρ2 σ) H1 l o') → ArgsOk K (Hid Λb ρ2 σ) H1 m k vs (fill o ds)
  | [], [], _, _, _, _, h, up, q, e => by cases e; exact ⟨Aft.refl h, fun o _ => trivial⟩
  | r :: rs, v :: vs, k, ρ1, ρ2, ds, h, up, q, e => by
    simp only [argB] at e
    split at e
    · rename_i hm
      obtain ⟨⟨ds', ρ3⟩, e1, e⟩ := bind_eq e
      cases e
      obtain ⟨a1, k1⟩ := argB_ok h up q.2 e1
      refine ⟨a1, fun o ho => ⟨?_, k1 o fun i hi hl => ?_⟩⟩
      · obtain ⟨l, o', h1, h2, h3, h4⟩ := ho 0 (by rw [hm, Nat.add_zero]) (by simp)
        subst h2
        exact ⟨hm, l, by simpa using h1, h3, h4⟩
      · obtain ⟨l, o', h1, h2⟩ := ho (i + 1) (by rw [hi]; congr 1; omega) (by simpa using hl)
        exact ⟨l, o', by simpa using h1, h2⟩
    · rename_i hm
      obtain ⟨⟨d, ρ3⟩, e1, e⟩ := bind_eq e
      obtain ⟨⟨ds', ρ4⟩, e2, e⟩ := bind_eq e
      cases e
      obtain ⟨a1, q1⟩ := (q.1 hm).let_go h up e1
      obtain ⟨a2, k2⟩ := argB_ok a1.rel up (ARs.keep h a1 q.2) e2
      refine ⟨a1.trans h a2, fun o ho => ⟨⟨hm, q1.less fun b z => Hid.less (fun _ z => z) (fun x z => a2.sub.ownA z) z⟩, k2 o fun i hi hl => ?_⟩⟩
      obtain ⟨l, o', h1, h2⟩ := ho (i + 1) (by rw [hi]; congr 1; omega) (by simpa using hl)
      exact ⟨l, o', by simpa using h1, h2⟩
  | [], _ :: _, _, _, _, _, _, _, q, _ => q.elim
  | _ :: _, [], _, _, _, _, _, _, q, _ => q.elim
/-- behind a call: ρ3 the slots, the changed object put back -/
theorem call_after {r : R} {o : Option MO} {v : V} (h : Rel K Λ ρ σ H) (a2 : Aft K Λ Λb ρ ρ2 σ H H1) (P : PostOk K (Hid Λb ρ2 σ) H1 H' mx vs r o v Zf)
    (hm : (ρ3 = ρ2 ∧ ∀ k, mx = some k → ∃ l, vs[k]? = some (.ref l) ∧ Λb l ∧ H l = none) ∨
      ∃ (k : Nat) (l : Addr) (j : Nat) (o' m : MO), mx = some k ∧ vs[k]? = some (.ref l) ∧ ρ2[j]? = some (some (.own o')) ∧ σ[j]? = some (some (.ref l)) ∧ ρ3 = ρ2.set j (some (.own m)) ∧ MOk K Zf H' l m) :
    ∃ Λf, Aft K Λ Λf ρ ρ3 σ H H' ∧ RV K Λf ρ3 σ H H' r v := by
  have sub32 : Sub ρ3 ρ2 := by
    rcases hm with ⟨e, _⟩ | ⟨k, l, j, o', m, _, _, h3, _, e, _⟩
    · rw [e]; exact Sub.refl _
    · intro i
      rw [e]
      by_cases n : j = i
      · subst n
        rw [List.getElem?_set_self (List.getElem?_eq_some_iff.mp h3).1, h3]
        trivial
      · rw [List.getElem?_set_ne n]; exact SubB.refl _
  have hid : ∀ b, Hid (fun b => Λb b ∨ (Zf b ∧ ¬ Hid Λb ρ2 σ b)) ρ3 σ b → Zf b := fun b z => by
    rcases z with (z | z) | z
    · exact P.up b (.inl z)
    · exact z.1
    · exact P.up b (.inr (sub32.ownA z))
  have hidn : ∀ (b : Addr) (u : HO), ¬ Hid Λb ρ2 σ b → H1 b = some u → ¬ Hid (fun b => Λb b ∨ (Zf b ∧ ¬ Hid Λb ρ2 σ b)) ρ3 σ b ∧ H' b = some u := fun b u n e => by
    refine ⟨fun z => ?_, P.fr b u e fun k hk hv => ?_⟩
    · rcases P.dn b (hid b z) with w | w
      · exact n w
      · rw [w] at e; cases e
    · rcases hm with ⟨_, g⟩ | ⟨k', l, j, o', m, g1, g2, g3, g4, _⟩
      · obtain ⟨l, g1, g2, _⟩ := g k hk
        rw [hv] at g1; cases g1
        exact n (.inl g2)
      · rw [hk] at g1; cases g1
        rw [hv] at g2; cases g2
        exact n (.inr ⟨j, o', g3, g4⟩)
  -- an owned object that the call did not change
  have keepO : ∀ {b : Addr} {u : HO} {i : Nat} {oi : MO}, ρ2[i]? = some (some (.own oi)) → σ[i]? = some (some (.ref b)) → (∀ (k : Nat), mx = some k → vs[k]? ≠ some (.ref b)) → MOk K (Hid Λb ρ2 σ) H1 b oi → MOk K (Hid (fun b => Λb b ∨ (Zf b ∧ ¬ Hid Λb ρ2 σ b)) ρ3 σ) H' b oi := fun {b u i oi} _ _ n mm =>
    mm.keep (fun w ew => P.fr b w ew n) hidn
  refine ⟨fun b => Λb b ∨ (Zf b ∧ ¬ Hid Λb ρ2 σ b), ⟨⟨fun b z => .inl (a2.ext.1 b z), fun b z => ?_⟩, ⟨?_, fun i d e => ?_, fun i oi e => ?_, fun i j o1 o2 b e1 e2 s1 s2 => ?_, fun b z => P.lam b (hid b (.inl z))⟩, fun b u e n => ?_, sub32.trans a2.sub, fun b q => ?_⟩, ?_⟩
  · rcases z with z | z
    · exact a2.ext.2 b z
    · rcases P.dn b z.1 with w | w
      · exact absurd w z.2
      · exact .inr (a2.gone h b w)
  · rw [sub32.len, a2.rel.len]
  · have e2 : ρ2[i]? = some (some (.val d)) := by
      rcases hm with ⟨g, _⟩ | ⟨k, l, j, o', m, _, _, _, _, g, _⟩
      · rw [← g]; exact e
      · rw [g] at e
        rcases set_get e with ⟨_, z⟩ | ⟨_, z⟩
        · cases z
        · exact z
    obtain ⟨w, ew, q⟩ := a2.rel.val i d e2
    exact ⟨w, ew, q.keep hidn⟩
  · rcases hm with ⟨g, g'⟩ | ⟨k, l, j, o', m, g1, g2, g3, g4, g, g6⟩
    · rw [g] at e
      obtain ⟨b, eb, nb, mm⟩ := a2.rel.own i oi e
      refine ⟨b, eb, fun z => ?_, keepO (u := .lst []) e eb (fun k hk hv => ?_) mm⟩
      · rcases z with z | z
        · exact nb z
        · exact z.2 (.inr ⟨i, oi, e, eb⟩)
      · obtain ⟨l, q1, q2, _⟩ := g' k hk
        rw [hv] at q1; cases q1
        exact nb q2
    · rw [g] at e
      rcases set_get e with ⟨n, z⟩ | ⟨n, z⟩
      · subst n; cases z
        obtain ⟨b, eb, nb, _⟩ := a2.rel.own j o' g3
        rw [g4] at eb; cases eb
        refine ⟨l, g4, fun z => ?_, g6.keep (fun _ e => e) fun b u nb eb => ⟨fun z => nb (hid b z), eb⟩⟩
        rcases z with z | z
        · exact nb z
        · exact z.2 (.inr ⟨j, o', g3, g4⟩)
      · obtain ⟨b, eb, nb, mm⟩ := a2.rel.own i oi z
        refine ⟨b, eb, fun w => ?_, keepO (u := .lst []) z eb (fun k' hk hv => ?_) mm⟩
        · rcases w with w | w
          · exact nb w
          · exact w.2 (.inr ⟨i, oi, z, eb⟩)
        · rw [hk] at g1; cases g1
          rw [hv] at g2; cases g2
          exact n (a2.rel.dis j i o' oi _ g3 z g4 eb)
  · obtain ⟨o1', f1⟩ := sub32.own e1
    obtain ⟨o2', f2⟩ := sub32.own e2
    exact a2.rel.dis i j o1' o2' b f1 f2 s1 s2
  · refine P.fr b u (a2.fr b u e n) fun k hk hv => ?_
    rcases hm with ⟨_, g⟩ | ⟨k', l, j, o', m, g1, g2, g3, g4, _⟩
    · obtain ⟨l, g1, _, g2⟩ := g k hk
      rw [hv] at g1; cases g1
      rw [g2] at e; cases e
    · rw [hk] at g1; cases g1
      rw [hv] at g2; cases g2
      exact n (a2.sub.ownA ⟨j, o', g3, g4⟩)
  · obtain ⟨u, e⟩ := a2.own b q
    rcases Classical.em (∃ k, mx = some k ∧ vs[k]? = some (.ref b)) with ⟨k, hk, hv⟩ | n
    · rcases hm with ⟨_, g⟩ | ⟨k', l, j, o', m, g1, g2, g3, g4, _, g6⟩
      · obtain ⟨l, g1, g2, _⟩ := g k hk
        rw [hv] at g1; cases g1
        exact P.lam _ (P.up _ (.inl g2))
      · rw [hk] at g1; cases g1
        rw [hv] at g2; cases g2
        exact g6.there
    · exact ⟨u, P.fr b u e fun k hk hv => n ⟨k, hk, hv⟩⟩
  · have pr := P.res
    cases r with
    | val d => exact DA.less hid pr
    | new m =>
      obtain ⟨p, rfl, n, l, mm⟩ := pr
      refine ⟨p, rfl, a2.gone h p n, .inr ⟨l, fun z => ?_⟩, mm.keep (fun _ e => e) fun b u nb eb => ⟨fun z => nb (hid b z), eb⟩⟩
      obtain ⟨u, eu⟩ := a2.rel.hidThere z
      rw [n] at eu; cases eu
    | slot i => exact pr.elim
theorem ars_of (a : Aft K Λ Λ1 ρ ρ1 σ H H1) (h : Rel K Λ ρ σ H) : ∀ {k : Nat} {rs : List R} {vs : List V}, RVs K Λ1 ρ1 σ H H1 rs vs → ARs K Λ Λ1 ρ1 σ H1 m k rs vs
  | _, _, _, .nil => trivial
  | _, r :: rs, _, .cons q t => ⟨fun _ => by
      cases r with
      | val d => exact q
      | new o =>
        obtain ⟨p, e, n, l, mm⟩ := q
        have hp : ¬ Λ p := fun z => by
          obtain ⟨u, eu⟩ := h.lam p z
          rw [n] at eu; cases eu
        exact ⟨p, e, l, hp, mm⟩
      | slot i => exact q, ars_of a h t⟩
/-- no new object but at the m-th place -/
theorem ars_new : ∀ {k : Nat} {rs : List R} {vs : List V}, RVs K Λ1 ρ1 σ H H1 rs vs → (∀ i o, rs[i]? = some (.new o) → m = some (k + i)) → ARs K Λ1 Λ1 ρ1 σ H1 m k rs vs
  | _, _, _, .nil, _ => trivial
  | k, r :: rs, _, .cons q t, hn => ⟨fun ne => by
      cases r with
      | val d => exact q
      | new o => exact absurd (hn 0 o rfl) ne
      | slot i => exact q, ars_new t fun i o e => by rw [hn (i + 1) o (by simpa using e)]; congr 1; omega⟩
theorem news_one : ∀ {rs : List R} {i j : Nat} {o o' : MO}, news rs ≤ 1 → rs[i]? = some (.new o) → rs[j]? = some (.new o') → i = j := by
  have pos : ∀ {rs : List R} {i : Nat} {o : MO}, rs[i]? = some (.new o) → 1 ≤ news rs := by
    intro rs
    induction rs with
    | nil => intro i o e; simp at e
    | cons r rs ih =>
      intro i o e
      cases i with
      | zero => simp at e; subst e; simp [news]
      | succ i =>
        have := ih (i := i) (o := o) (by simpa using e)
        cases r <;> simp [news] <;> omega
  intro rs
  induction rs with
  | nil => intro i j o o' _ e; simp at e
  | cons r rs ih =>
    intro i j o o' hn e1 e2
    cases i with
    | zero =>
      cases j with
      | zero => rfl
      | succ j =>
        simp at e1; subst e1
        have := pos (rs := rs) (i := j) (o := o') (by simpa using e2)
        simp [news] at hn; omega
    | succ i =>
      cases j with
      | zero =>
        simp at e2; subst e2
        have := pos (rs := rs) (i := i) (o := o) (by simpa using e1)
        simp [news] at hn; omega
      | succ j =>
        rw [ih (i := i) (j := j) (by cases r <;> simp [news] at hn ⊢ <;> omega) (by simpa using e1) (by simpa using e2)]
theorem RVs.get : ∀ {rs : List R} {vs : List V} {i : Nat} {r : R}, RVs K Λ ρ σ H0 H rs vs → rs[i]? = some r → ∃ v, vs[i]? = some v ∧ RV K Λ ρ σ H0 H r v
  | _, _, _, _, .nil, e => by simp at e
  | _, _, 0, _, .cons q t, e => by simp at e; subst e; exact ⟨_, rfl, q⟩
  | _, _, i + 1, r, .cons q t, e => by
    obtain ⟨v, h1, h2⟩ := RVs.get (i := i) (r := r) t (by simpa using e)
    exact ⟨v, by simpa using h1, h2⟩
/-- a call, by the core's meaning -/
theorem callF_ok {G : Ge} {f : Str} {F : FI} {rs : List R} {r : R} {Q : VK} {E : XK} (hF : G.fns f = some F) (h : Rel K Λ ρ σ H) (a : Aft K Λ Λ1 ρ ρ1 σ H H1) (q : RVs K Λ1 ρ1 σ H H1 rs vs) (e : callF G pin f rs ρ1 = .ok (r, ρ3))
    (k : ∀ (v : V) (H' : Hp) (Λf : Addr → Prop), Aft K Λ Λf ρ ρ3 σ H H' → RV K Λf ρ3 σ H H' r v → Q v H') : SpI K F F.ps.length vs H1 Q E := by
  simp only [callF, hF] at e
  have l1 := q.length
  have hn : vs.length = F.ps.length := by
    rw [← l1]
    refine Classical.byContradiction fun z => ?_
    rw [if_neg z] at e; cases e
  rw [if_pos (l1.trans hn)] at e
  obtain ⟨⟨ds, ρ2⟩, e1, e⟩ := bind_eq e
  obtain ⟨o, e2, e⟩ := bind_eq e
  obtain ⟨⟨r', o'⟩, e3, e⟩ := bind_eq e
  obtain ⟨ρ4, e4, e⟩ := bind_eq e
  cases e
  simp only at e2 e3 e4
  have main : ∀ {Λb : Addr → Prop}, (∀ b, Λ b → Λb b) → (∀ b, Λb b → Λ1 b) → ARs K Λb Λ1 ρ1 σ H1 F.mx 0 rs vs → Aft K Λ Λb ρ ρ2 σ H H1 →
      (∀ (i : Nat), F.mx = some i → i < vs.length → ∃ l o1, vs[i]? = some (.ref l) ∧ o = some o1 ∧ Hid Λb ρ2 σ l ∧ MOk K (Hid Λb ρ2 σ) H1 l o1) →
      (∀ (Zf : Addr → Prop) (H' : Hp) (v : V), PostOk K (Hid Λb ρ2 σ) H1 H' F.mx vs r' o' v Zf → (ρ3 = ρ2 ∧ ∀ k, F.mx = some k → ∃ l, vs[k]? = some (.ref l) ∧ Λb l ∧ H l = none) ∨
        ∃ (k : Nat) (l : Addr) (j : Nat) (o' m : MO), F.mx = some k ∧ vs[k]? = some (.ref l) ∧ ρ2[j]? = some (some (.own o')) ∧ σ[j]? = some (some (.ref l)) ∧ ρ3 = ρ2.set j (some (.own m)) ∧ MOk K Zf H' l m) → SpI K F F.ps.length vs H1 Q E := by
    intro Λb hb1 hb2 ars a2 harg hput
    obtain ⟨_, kb⟩ := argB_ok a.rel hb2 ars e1
    refine ⟨Hid Λb ρ2 σ, fill o ds, r', o', hn, fun b z => a2.rel.hidThere z, kb o (fun i hi hl => harg i (by rw [hi, Nat.zero_add]) hl), e3, fun v H' Zf P => ?_⟩
    obtain ⟨Λf, a3, q3⟩ := call_after h a2 P (hput Zf H' v P)
    exact k v H' Λf a3 q3
  have aft2 : ∀ {Λb : Addr → Prop}, (∀ b, Λb b → Λ1 b) → ARs K Λb Λ1 ρ1 σ H1 F.mx 0 rs vs → Aft K Λ Λ1 ρ ρ2 σ H H1 := fun hb ars => a.trans h (argB_ok a.rel hb ars e1).1
  cases hmx : F.mx with
  | none =>
    have ars := ars_of (m := F.mx) (k := 0) a h q
    refine main (fun _ z => z) a.ext.1 ars (aft2 a.ext.1 ars).low (fun i hi => by rw [hmx] at hi; cases hi) fun Zf H' v P => .inl ⟨?_, fun k hk => by rw [hmx] at hk; cases hk⟩
    simp only [putBack, hmx] at e4
    cases e4; rfl
  | some t =>
    simp only [theB, putBack, hmx] at e2 e4
    split at e2
    · rename_i j hj
      split at e2 <;> cases e2
      rename_i o1 ho1
      rw [hj] at e4
      have ars := ars_of (m := F.mx) (k := 0) a h q
      have a2 := aft2 a.ext.1 ars
      obtain ⟨v, hv, qv⟩ := q.get hj
      obtain ⟨l, el, nl, mm⟩ := a2.rel.own j o1 ho1
      rw [qv.1] at el; cases el
      refine main (fun _ z => z) a.ext.1 ars a2.low (fun i hi hl => ?_) fun Zf H' v P => .inr ?_
      · rw [hmx] at hi; cases hi
        exact ⟨l, o1, hv, rfl, .inr ⟨j, o1, ho1, qv.1⟩, mm.keep (fun _ e => e) fun b u nb eb => ⟨fun z => nb (Hid.less a.ext.1 (fun _ z => z) z), eb⟩⟩
      · obtain ⟨l', m, g1, g2, g3⟩ := P.mu t hmx
        rw [hv] at g1; cases g1
        subst g2
        simp only at e4
        cases e4
        exact ⟨t, l, j, o1, m, hmx, hv, ho1, qv.1, rfl, g3⟩
    · rename_i o1 hj
      split at e2 <;> cases e2
      rename_i hnew
      rw [hj] at e4
      have ars := ars_new (m := F.mx) (k := 0) q fun i o2 e => by rw [hmx, Nat.zero_add, news_one hnew hj e]
      have a2 := aft2 (fun _ z => z) ars
      obtain ⟨v, hv, p, rfl, pn, pl, mm⟩ := q.get hj
      have b2 := (argB_ok a.rel (fun _ z => z) ars e1).1
      refine main a.ext.1 (fun _ z => z) ars a2 (fun i hi hl => ?_) fun Zf H' v P => .inl ⟨?_, fun k hk => ?_⟩
      · rw [hmx] at hi; cases hi
        exact ⟨p, o1, hv, rfl, .inl pl, mm.keep (fun _ e => e) (b2.still a.rel)⟩
      · obtain ⟨l', m, g1, g2, g3⟩ := P.mu t hmx
        subst g2
        simp only at e4
        cases e4; rfl
      · rw [hmx] at hk; cases hk
        exact ⟨p, hv, pl, pn⟩
    · cases e2
def evFn (G : Ge) (pin : Option Nat) (f : Str) (fs : ES → Out (List R × ES)) : ES → Out (R × ES) := fun ρ => Out.bind (fs ρ) fun p => callF G pin f p.1 p.2
theorem evFn_to {G : Ge} {f : Str} {F : FI} {fs : ES → Out (List R × ES)} {E : XK} (hF : G.fns f = some F) : ∀ σ H Q, TEof K (evFn G pin f fs) σ H Q → tCall (SpI K F F.ps.length) [] E (TAof K fs) σ H Q := by
  rintro σ H Q ⟨Λ, ρ, r, ρ', hr, ee, k⟩
  obtain ⟨⟨rs, ρ1⟩, e1, ee⟩ := bind_eq ee
  refine ⟨Λ, ρ, rs, ρ1, hr, e1, fun vs H1 Λ1 a1 q1 => ?_⟩
  show SpI K F F.ps.length (vs ++ []) H1 Q E
  rw [List.append_nil]
  exact callF_ok hF hr a1 q1 ee k
end
end DI
end

section
set_option maxRecDepth 100000
/-! KN: which Python text a core term stands for. -/
namespace DI
open PySem L2

def notComp : Expr → Bool
  | .ListComp .. => false | .SetComp .. => false | .DictComp .. => false | _ => true
def notSet : Expr → Bool
  | .Set .. => false | _ => true
def notStar : Expr → Bool
  | .Starred .. => false | _ => true
def notSlice : Expr → Bool
  | .Slice .. => false | _ => true
/-- a receiver whose attribute is not super()'s -/
def plainBase : Expr → Bool
  | .Call (.Name _ _) [] [] _ => false
  | _ => true
def plainT : Expr → Bool
  | .UnaryOp .Not _ _ => false | .BoolOp .. => false | .IfExp .. => false | .Compare .. => false | _ => true
/-- core terms whose truth is asked in their own way -/
def spec : CE → Bool
  | .not _ => true | .and .. => true | .or .. => true | .cmp .. => true | .chain .. => true | .ite .. => true | _ => false
def tOk (c : CE) (e : Expr) : Bool := spec c || plainT e
def visC (sc : Scope) (x : Str) : Bool := match sc.names.lookup x with
  | some .local => true | some .cell => true | some .free => true | _ => false
/-- may x be stored? so: the scope as it is written -/
def locC (sc so : Scope) (x : Str) : Bool := match sc.names.lookup x with
  | some .local => true | some .cell => decide (so.names.lookup x = some .cell) | _ => false
def glC (sc : Scope) (x : Str) : Bool := decide (sc.names.lookup x = some .globalImplicit)
def varC (N : List Str) (sc : Scope) (i : Nat) (x : Str) : Bool := decide (N[i]? = some x) && visC sc x && !(x == ("__debug__" : Str)) && !(x == ("__classdict__" : Str))
def litC : Const → D → Bool
  | .none, .none => true
  | .bool b, .bool c => b == c
  | .int i, .int j => decide (i = j)
  | .str s, .str t => decide (s = t)
  | _, _ => false
def dbg (x : Str) : Bool := !(x == ("__debug__" : Str))
def tyC (T : String) : Bool := T == "int" || T == "bool" || T == "str" || T == "tuple" || T == "list"
/-- would name = [comprehension] be stored within the block? -/
def swC (sc scope : Scope) (x : Str) (pl vl : Nat) : Bool := decide (sc.names.lookup x = some .local) && (pl == vl) && !(scope.names.any fun (n, k) => n == x && (k == .local || k == .cell))
mutual
def chkE (N : List Str) (sc : Scope) : CE → Expr → Bool
  | .var i, e => match e with
    | .Name x _ => varC N sc i x
    | _ => false
  | .lit d, e => match e with
    | .Constant c _ _ => litC c d
    | _ => false
  | .glob y, e => match e with
    | .Name x _ => decide (x = y) && glC sc x && dbg x
    | _ => false
  | .bin op a b, e => match e with
    | .BinOp a' o b' _ => decide (opB o = some op) && chkE N sc a a' && chkE N sc b b'
    | _ => false
  | .neg a, e => match e with
    | .UnaryOp .USub a' _ => chkE N sc a a'
    | _ => false
  | .cmp op a b, e => match e with
    | .Compare a' [o] [b'] _ => decide (o = coOp op) && notSet b' && chkE N sc a a' && chkE N sc b b'
    | _ => false
  | .chain op op' a b c, e => match e with
    | .Compare a' [o, o'] [b', c'] _ => decide (o = coOp op) && decide (o' = coOp op') && notSet c' && chkE N sc a a' && chkE N sc b b' && chkE N sc c c'
    | _ => false
  | .and a b, e => match e with
    | .BoolOp .And [a', b'] _ => chkE N sc a a' && chkE N sc b b' && tOk a a' && tOk b b'
    | .BoolOp .And (a' :: b' :: c' :: r) p => chkE N sc a a' && chkE N sc b (.BoolOp .And (b' :: c' :: r) p) && tOk a a' && spec b
    | _ => false
  | .or a b, e => match e with
    | .BoolOp .Or [a', b'] _ => chkE N sc a a' && chkE N sc b b' && tOk a a' && tOk b b'
    | .BoolOp .Or (a' :: b' :: c' :: r) p => chkE N sc a a' && chkE N sc b (.BoolOp .Or (b' :: c' :: r) p) && tOk a a' && spec b
    | _ => false
  | .not a, e => match e with
    | .UnaryOp .Not a' _ => chkE N sc a a' && tOk a a'
    | _ => false
  | .ite c a b, e => match e with
    | .IfExp c' a' b' _ => chkE N sc c c' && chkE N sc a a' && chkE N sc b b' && tOk c c' && tOk a a' && tOk b b'
    | _ => false
  | .call f args, e => match e with
    | .Call (.Name x _) (e1 :: es) [] _ => decide (x = biName f) && glC sc x && chkA N sc args (e1 :: es)
    | _ => false
  | .isi a T, e => match e with
    | .Call (.Name x _) [a', .Name t _] [] _ => decide (x = "isinstance") && decide (t = Str.ofString T) && tyC T && glC sc x && glC sc t && chkE N sc a a'
    | _ => false
  | .fn f args, e => match e with
    | .Call (.Name x _) es [] _ => decide (x = f) && glC sc x && dbg x && chkA N sc args es
    | _ => false
  | .fnk f ks args, e => match e with
    | .Call (.Name x _) [] (k :: kws) _ => decide (x = f) && glC sc x && dbg x && chkK N sc ks args (k :: kws)
    | _ => false
  | .meth m o args, e => match e with
    | .Call (.Attribute o' at_ apos) [e1] [] pos => (apos.endLine == pos.line) && plainBase o' && chkA N sc args [e1] && (match m with
      | .split => decide (at_ = "split") && chkE N sc o o'
      | .join => decide (at_ = "join") && chkE N sc o o'
      | .index => decide (at_ = "index") && (match o, o' with
        | .glob y, .Name x _ => decide (x = y) && glC sc x && dbg x
        | _, _ => false))
    | _ => false
  | .app o a, e => match e with
    | .Call (.Attribute o' at_ apos) [e1] [] pos => (apos.endLine == pos.line) && plainBase o' && decide (at_ = "append") && chkE N sc o o' && chkE N sc a e1
    | _ => false
  | .tup es, e => match e with
    | .Tuple es' _ _ => decide (es'.length ≤ 1000) && chkA N sc es es'
    | _ => false
  | .lst es, e => match e with
    | .List es' _ => decide (es'.length ≤ 1000) && chkA N sc es es'
    | _ => false
  | .idx a b, e => match e with
    | .Subscript a' b' _ => notSlice b' && chkE N sc a a' && chkE N sc b b'
    | _ => false
  | .bnd _, _ => false
  | .slc a lo hi, e => match e with
    | .Subscript a' (.Slice lo' hi' none _) _ => chkE N sc a a' && chkB N sc lo lo' && chkB N sc hi hi'
    | _ => false
  | .rev a, e => match e with
    | .Subscript a' (.Slice none none (some (.UnaryOp .USub (.Constant (.int 1) _ _) _)) _) _ => chkE N sc a a'
    | _ => false
  | .lc own t it tst elt, e => match e with
    | .ListComp elt' [⟨tg, iter, ifs, 0⟩] scope _ => notSet iter && blkC N sc scope own && chkI N sc it tg iter && chkT N (relS scope sc) scope (own.map (·.2)) t tg && tame t && chkE N (relS scope sc) elt elt' && (match tst, ifs with
      | none, [] => true
      | some c, [c'] => chkE N (relS scope sc) c c' && tOk c c'
      | _, _ => false)
    | _ => false
def chkB (N : List Str) (sc : Scope) : CE → Option Expr → Bool
  | .bnd a, e => match e with
    | some e => chkE N sc a e
    | none => false
  | .lit .none, e => match e with
    | none => true
    | some _ => false
  | _, _ => false
def chkA (N : List Str) (sc : Scope) : CL → List Expr → Bool
  | .nil, es => match es with
    | [] => true
    | _ => false
  | .cons a r, es => match es with
    | e :: es => notStar e && chkE N sc a e && chkA N sc r es
    | _ => false
def chkK (N : List Str) (sc : Scope) : List Str → CL → List Keyword → Bool
  | ks, .nil, kws => match ks, kws with
    | [], [] => true
    | _, _ => false
  | ks, .cons a r, kws => match ks, kws with
    | k :: ks, ⟨some n, e, _⟩ :: kws => decide (n = k) && chkE N sc a e && chkK N sc ks r kws
    | _, _ => false
def tame : CT → Bool
  | .name _ => true
  | .sub _ _ => false
  | .tup ts => tames ts
def tames : CTs → Bool
  | .nil => true
  | .cons t r => tame t && tames r
def chkT (N : List Str) (sc so : Scope) (S : List Nat) : CT → Expr → Bool
  | .name i, e => match e with
    | .Name x _ => decide (N[i]? = some x) && locC sc so x && decide (i ∈ S)
    | _ => false
  | .tup ts, e => match e with
    | .Tuple es _ _ => chkTs N sc so S ts es
    | _ => false
  | .sub o i, e => match e with
    | .Subscript a b _ => notSlice b && chkE N sc o a && chkE N sc i b
    | _ => false
def chkTs (N : List Str) (sc so : Scope) (S : List Nat) : CTs → List Expr → Bool
  | .nil, es => match es with
    | [] => true
    | _ => false
  | .cons t r, es => match es with
    | e :: es => notStar e && chkT N sc so S t e && chkTs N sc so S r es
    | _ => false
def chkI (N : List Str) (sc : Scope) : CI → Expr → Expr → Bool
  | .seq a, _, e => chkE N sc a e
  | .rng1 a, _, e => match e with
    | .Call (.Name x _) [a'] [] _ => decide (x = "range") && glC sc x && notStar a' && chkE N sc a a'
    | _ => false
  | .rng2 a b, _, e => match e with
    | .Call (.Name x _) [a', b'] [] _ => decide (x = "range") && glC sc x && notStar a' && notStar b' && chkE N sc a a' && chkE N sc b b'
    | _ => false
  | .enm a, tg, e => match tg, e with
    | .Tuple _ _ _, .Call (.Name x _) [a'] [] _ => decide (x = "enumerate") && glC sc x && notStar a' && chkE N sc a a'
    | _, _ => false
  | .zip a b, tg, e => match tg, e with
    | .Tuple _ _ _, .Call (.Name x _) [a', b'] [] _ => decide (x = "zip") && glC sc x && notStar a' && notStar b' && chkE N sc a a' && chkE N sc b b'
    | _, _ => false
end
/-- a tuple stored part by part, as a tuple -/
def noSwap : Expr → Expr → Bool
  | .Tuple ts _ _, .Tuple vs _ _ => !(ts.length == 2 || ts.length == 3) || vs.length != ts.length
  | .List _ _, _ => false
  | _, _ => true
/-- not all are plain local names: stored from the left, by the tuple -/
def noSw (sc : Scope) (xs : List Str) : Bool := !xs.all fun x => decide (sc.names.lookup x = some .local)
mutual
def chkS (N : List Str) (sc : Scope) : CS → Stmt → Bool
  | .asg t e, st => match st with
    | .Assign [tg] v pos => chkE N sc e v && (match t, tg with
      | .name i, .Name x p => decide (N[i]? = some x) && locC sc sc x && (match v with
        | .ListComp _ _ scope vp => swC sc scope x p.line vp.line || !(swC sc scope x p.line vp.line)
        | _ => notComp v)
      | t, tg => (match t with | .name _ => false | _ => true) && notComp v && noSwap tg v && chkT N sc sc (List.range N.length) t tg)
    | _ => false
  | .par is es, st => match st with
    | .Assign [.Tuple [.Name x px, .Name y py] _ _] (.Tuple [a, b] _ _) _ => (match is with
      | [i, j] => decide (N[i]? = some x) && decide (N[j]? = some y) && chkA N sc es [a, b] && ((decide (i ≠ j) && decide (sc.names.lookup x = some .local) && decide (sc.names.lookup y = some .local) && (px.line == py.line) && !(([a, b] : List Expr).all (foldedForSure 8)) && !(([a, b] : List Expr).all (constantsAlone 8))) || (locC sc sc x && locC sc sc y && noSw sc [x, y]))
      | _ => false)
    | .Assign [.Tuple [.Name x px, .Name y py, .Name z pz] _ _] (.Tuple [a, b, c] _ _) _ => (match is with
      | [i, j, l] => decide (N[i]? = some x) && decide (N[j]? = some y) && decide (N[l]? = some z) && chkA N sc es [a, b, c] && ((decide (i ≠ j) && decide (i ≠ l) && decide (j ≠ l) && decide (sc.names.lookup x = some .local) && decide (sc.names.lookup y = some .local) && decide (sc.names.lookup z = some .local) && (px.line == py.line) && (px.line == pz.line) && !(([a, b, c] : List Expr).all (foldedForSure 8)) && !(([a, b, c] : List Expr).all (constantsAlone 8))) || (locC sc sc x && locC sc sc y && locC sc sc z && noSw sc [x, y, z]))
      | _ => false)
    | _ => false
  | .expr e, st => match st with
    | .Expr v _ => notComp v && chkE N sc e v
    | _ => false
  | .ret e, st => match st with
    | .Return (some v) _ => chkE N sc e v
    | _ => false
  | .retN, st => match st with
    | .Return none _ => true
    | _ => false
  | .ite c a b, st => match st with
    | .If c' a' b' _ => chkE N sc c c' && tOk c c' && chkSs N sc a a' && chkSs N sc b b'
    | _ => false
  | .fore t it b, st => match st with
    | .For tg iter body [] _ => notSet iter && chkI N sc it tg iter && chkT N sc sc (List.range N.length) t tg && chkSs N sc b body
    | _ => false
  | .pass, st => match st with
    | .Pass _ => true
    | _ => false
  | .brk, st => match st with
    | .Break _ => true
    | _ => false
  | .cont, st => match st with
    | .Continue _ => true
    | _ => false
  | .doc, st => match st with
    | .Expr (.Constant (.str _) _ _) _ => true
    | _ => false
  | .never, _ => true
def chkSs (N : List Str) (sc : Scope) : CB → List Stmt → Bool
  | .nil, st => match st with
    | [] => true
    | _ => false
  | .cons s r, st => match st with
    | s' :: r' => chkS N sc s s' && chkSs N sc r r'
    | _ => false
end
end DI
end

section
set_option maxRecDepth 100000
set_option maxHeartbeats 4000000
/-! KO: a text that stands for a core term computes what the term means: expressions. -/
namespace DI
open PySem L2

/-- a def that may be called -/
def CalG (P : Program) (w : World) (K : PySem.W.Frag) (mg : Str → Option Value) (base : Heap) (A : Around) (f : Str) (F : FI) : Prop :=
  ∃ (k : Nat) (fa : Addr) (fd : FuncData), FnG P w K mg base CX0 k fa fd F.ps (SpI K F F.ps.length) ∧ Room k A ∧ mg f = some (.ref fa) ∧ PySem.W.keepIn K (.ref fa) = true ∧ BindAll fd F.ps ∧ BindKs fd F.ps F.ps
def bltNames : List Str := ["len", "all", "any", "int", "str", "tuple", "list", "abs", "max", "min", "divmod", "repr", "sum", "isinstance", "range", "enumerate", "zip", "bool", "dict", "sorted", "set"]
structure GeOk (G : Ge) (P : Program) (w : World) (K : PySem.W.Frag) (mg : Str → Option Value) (base : Heap) (A : Around) : Prop where
  fns : ∀ f F, G.fns f = some F → CalG P w K mg base A f F
  cst : ∀ x d, G.cst x = some d → ∃ v u, mg x = some u ∧ RelV v u ∧ DA K (fun _ => True) (fun _ => none) v d
  blt : ∀ x ∈ bltNames, mg x = none
structure CxOk (G : Ge) (N : List Str) (sc so : Scope) (X : Cx) : Prop where
  nm : X.N = N
  scp : X.env.scope = sc
  calm : X.calm = true
  nd : X.N.Nodup
  gd : X.A.guards = some []
  un : X.A.units + 70 < cLine
  fnc : ∀ x, so.names.lookup x = some .cell → X.fn x = true
  ge : GeOk G X.prog X.w X.K X.mg X.base X.A
section
variable {G : Ge} {N : List Str} {sc so : Scope} {X : Cx} {pin : Option Nat} {S : List Nat}
theorem CxOk.blk (h : CxOk G N sc so X) (scope : Scope) (s : Shared) (H : Hp) (C : Addr) (cl : List (Str × Addr)) (fp : List Addr) : CxOk G N (relS scope sc) scope (X.blk s H scope (compEnvC scope cl C X.env) fp) :=
  ⟨h.nm, by rw [← h.scp]; rfl, h.calm, h.nd, h.gd, h.un, fun x e => by show (scope.names.lookup x == some .cell) = true; rw [e]; rfl, h.ge⟩
theorem CxOk.vis (h : CxOk G N sc so X) {x : Str} (v : visC sc x = true) : Vis X.env.scope x := by
  rw [h.scp]
  unfold visC at v
  split at v
  · exact .inl (by assumption)
  · exact .inr (.inl (by assumption))
  · exact .inr (.inr (by assumption))
  · cases v
theorem CxOk.loc (h : CxOk G N sc so X) {x : Str} (v : locC sc so x = true) : Loc X.env.scope x ∧ (X.fn x = true ∨ X.env.scope.names.lookup x = some .local) := by
  rw [h.scp]
  unfold locC at v
  split at v
  · exact ⟨.inl (by assumption), .inr (by assumption)⟩
  · exact ⟨.inr (by assumption), .inl (h.fnc x (by simpa using v))⟩
  · cases v
theorem CxOk.gl (h : CxOk G N sc so X) {x : Str} (v : glC sc x = true) : Gl X x := by
  show X.env.scope.names.lookup x = _
  rw [h.scp]
  simpa [glC] using v
theorem dbg_ok {x : Str} (v : dbg x = true) : (x == ("__debug__" : Str)) = false := by simpa [dbg] using v
theorem CxOk.none (h : CxOk G N sc so X) {x : Str} (m : bltNames.contains x = true) : X.mg x = none := h.ge.blt x (by simpa using m)
theorem star_ok {e : Expr} {es : List Expr} {env : Env} (h : notStar e = true) : starEach (e :: es) env = (false, eval e env) :: starEach es env := by
  cases e <;> first | rfl | cases h
theorem asg_ok {e : Expr} {es : List Expr} {env : Env} (h : notStar e = true) : assignEach (e :: es) env = (false, assign e env) :: assignEach es env := by
  cases e <;> first | rfl | cases h
theorem base_ok {o : Expr} {at_ : Str} {env : Env} (h : plainBase o = true) : attributeBase o at_ env (eval o env) = eval o env := by
  unfold plainBase at h
  split at h
  · cases h
  · rename_i hn
    unfold attributeBase
    split
    · rename_i id p1 pos
      exact absurd rfl (hn id p1 pos)
    · rfl
theorem set_ok {e : Expr} {env : Env} (h : notSet e = true) (x : Value) : foldedSetIterable e env x = pure x := by
  cases e <;> first | rfl | cases h
theorem marks_ok {o : CmpOp} {e : Expr} (h : notSet e = true) : behindInMarks o e = false := by
  cases e <;> first | rfl | cases h
theorem plain_ok {e : Expr} {env : Env} (h : plainT e = true) (whole : Sem Value) : isTrue e env whole = (do let v ← whole; standAt e.pos; holding [v] (truthy v)) := by
  cases e with
  | UnaryOp op a p => cases op <;> first | rfl | cases h
  | _ => first | rfl | cases h
theorem slice_ok {b : Expr} (h : notSlice b = true) : PlainIx b := by
  intro o i
  cases b <;> first | rfl | cases h
theorem pe_stuck {e : Expr} : PE X e (TEof X.K fun _ => .stuck) := ⟨fun pins s σ H Q I ⟨Λ, ρ, r, ρ', hr, ee, k⟩ => by cases ee⟩
theorem pe_eq {e : Expr} {f g : ES → Out (R × ES)} (h : PE X e (TEof X.K f)) (i : g = f) : PE X e (TEof X.K g) := i ▸ h
theorem litC_ok {c : Const} {d : D} (h : litC c d = true) : constD c = some d := by
  unfold litC at h
  split at h <;> simp_all [constD]
theorem bind_assoc' {α β γ : Type} (x : Out α) (f : α → Out β) (g : β → Out γ) : Out.bind (Out.bind x f) g = Out.bind x fun a => Out.bind (f a) g := by cases x <;> rfl
theorem bind_stuck {α β : Type} (x : Out α) : Out.bind x (fun _ => (Out.stuck : Out β)) = .stuck := by cases x <;> rfl
theorem evs_len : ∀ {args : CL} {ρ : ES} {rs : List R} {ρ' : ES}, evs G pin args ρ = .ok (rs, ρ') → ∀ {es : List Expr}, chkA N sc args es = true → rs.length = es.length
  | .nil, _, _, _, e, es, h => by
    cases es with
    | nil => simp only [evs] at e; cases e; rfl
    | cons _ _ => simp [chkA] at h
  | .cons a r, _, _, _, e, es, h => by
    cases es with
    | nil => simp [chkA] at h
    | cons x xs =>
      simp only [evs] at e
      obtain ⟨⟨r1, ρ1⟩, e1, e⟩ := bind_eq e
      obtain ⟨⟨r2, ρ2⟩, e2, e⟩ := bind_eq e
      cases e
      simp only [chkA, Bool.and_eq_true] at h
      simp [evs_len e2 h.2]
theorem plainArgs : ∀ {args : CL} {es : List Expr} {pos : Pos} {env : Env}, chkA N sc args es = true → (backTo pos (starEach es env)).any (·.1) = false
  | .nil, es, pos, env, h => by
    cases es with
    | nil => rfl
    | cons _ _ => simp [chkA] at h
  | .cons a r, es, pos, env, h => by
    cases es with
    | nil => simp [chkA] at h
    | cons x xs =>
      simp only [chkA, Bool.and_eq_true] at h
      rw [star_ok h.1.1]
      show (false || (backTo pos (starEach xs env)).any (·.1)) = false
      rw [plainArgs h.2]; rfl
theorem kw_ok : ∀ {args : CL} {ks : List Str} {kws : List Keyword} {pos : Pos} {env : Env}, chkK N sc ks args kws = true → (backToKw pos (keywordEach kws env)).all (·.1.isSome) = true ∧ (backToKw pos (keywordEach kws env)).filterMap (·.1) = ks ∧ (backToKw pos (keywordEach kws env)).any (·.1.isNone) = false
  | .nil, ks, kws, pos, env, h => by
    cases ks <;> cases kws <;> first | exact ⟨rfl, rfl, rfl⟩ | (simp [chkK] at h)
  | .cons a r, ks, kws, pos, env, h => by
    cases ks with
    | nil => simp [chkK] at h
    | cons k ks =>
      cases kws with
      | nil => simp [chkK] at h
      | cons kw kws =>
        obtain ⟨n, e, p⟩ := kw
        cases n with
        | none => simp [chkK] at h
        | some n =>
          simp only [chkK, Bool.and_eq_true, decide_eq_true_eq] at h
          obtain ⟨⟨rfl, _⟩, h3⟩ := h
          obtain ⟨g1, g2, g3⟩ := kw_ok (pos := pos) (env := env) h3
          refine ⟨?_, ?_, ?_⟩
          · show (true && (backToKw pos (keywordEach kws env)).all (·.1.isSome)) = true
            rw [g1]; rfl
          · show n :: (backToKw pos (keywordEach kws env)).filterMap (·.1) = n :: ks
            rw [g2]
          · show (false || (backToKw pos (keywordEach kws env)).any (·.1.isNone)) = false
            rw [g3]; rfl
/-- keywords' values -/
theorem pk_nilD : PK X [] (TAof X.K evNil) := ⟨fun pos pins s σ H Q I ⟨Λ, ρ, rs, ρ', hr, ee, k⟩ => by
  cases ee
  exact pk_nil.run pos pins s σ H Q I (k [] H Λ (Aft.refl hr) .nil)⟩
theorem pk_consD {e : Expr} {kws : List Keyword} {f : ES → Out (R × ES)} {fs : ES → Out (List R × ES)} {nm : Option Str} {kpos : Pos} (ha : PE X e (TEof X.K f)) (hr : PK X kws (TAof X.K fs)) : PK X (⟨nm, e, kpos⟩ :: kws) (TAof X.K (evCons f fs)) := by
  refine ⟨fun pos pins s σ H Q I ⟨Λ, ρ, rs, ρ', hr', ee, k⟩ => (pk_cons ha hr).run pos pins s σ H Q I ?_⟩
  obtain ⟨⟨r1, ρ1⟩, e1, ee⟩ := bind_eq ee
  obtain ⟨⟨r2, ρ2⟩, e2, ee⟩ := bind_eq ee
  cases ee
  refine ⟨Λ, ρ, r1, ρ1, hr', e1, fun v H1 Λ1 a1 q1 => ⟨Λ1, ρ1, r2, ρ2, a1.rel, e2, fun vs H2 Λ2 a2 q2 => ?_⟩⟩
  exact k _ H2 Λ2 (a1.trans hr' a2) (.cons (q1.keep a1.rel a2) (q2.from_ (a1.gone hr')))
/-- a bound that is written -/
def evBnd (f : ES → Out (R × ES)) : ES → Out (R × ES) := fun ρ => Out.bind (f ρ) fun p => match p.1 with
    | .val (.int i) => .ok (.val (.int i), p.2)
    | _ => .stuck
theorem po_bndD {e : Expr} {f : ES → Out (R × ES)} (he : PE X e (TEof X.K f)) : PO X (some e) (TOof X.K (evBnd f)) := by
  refine po_someD (pe_of he ?_) ?_
  · rintro σ H Q ⟨Λ, ρ, r, ρ', hr, ee, k⟩
    obtain ⟨⟨r1, ρ1⟩, e1, ee⟩ := bind_eq ee
    split at ee <;> cases ee
    rename_i i hi
    simp only at hi
    subst hi
    exact ⟨Λ, ρ, _, ρ1, hr, e1, k⟩
  · intro ρ ρ' e
    obtain ⟨⟨r1, ρ1⟩, e1, e⟩ := bind_eq e
    split at e <;> cases e
theorem callG_ok {f : Str} {F : FI} {p pos : Pos} {es : List Expr} {args : CL} (h : CxOk G N sc so X) (hg : Gl X f) (hd : dbg f = true) (hF : G.fns f = some F) (hc : chkA N sc args es = true) (ha : PA X es (TAof X.K (evs G pin args))) : PE X (.Call (.Name f p) es [] pos) (TEof X.K (evFn G pin f (evs G pin args))) := by
  obtain ⟨k, fa, fd, F1, hr, hm, hk, hb, _⟩ := h.ge.fns f F hF
  have hx : Passes CX0 X (fun _ _ _ => False) := fun _ _ _ _ _ _ _ z => z.elim
  cases es with
  | nil =>
    cases args with
    | cons a r => simp [chkA] at hc
    | nil =>
      refine pe_of (pe_callG0 F1 hr h.gd hg hm hk hb hx (dbg_ok hd)) ?_
      rintro σ H Q ⟨Λ, ρ, r, ρ', hr', ee, kk⟩
      obtain ⟨⟨rs, ρ1⟩, e1, ee⟩ := bind_eq ee
      simp only [evs] at e1
      cases e1
      exact callF_ok (E := fun _ _ _ => False) hF hr' (Aft.refl hr') .nil ee kk
  | cons e es =>
    have hs : notStar e = true := by
      cases args with
      | nil => simp [chkA] at hc
      | cons a r => simp only [chkA, Bool.and_eq_true] at hc; exact hc.1.1
    have hpl : (backTo pos (starEach es X.env)).any (·.1) = false := by
      cases args with
      | nil => simp [chkA] at hc
      | cons a r => simp only [chkA, Bool.and_eq_true] at hc; exact plainArgs hc.2
    exact pe_of (pe_callG F1 hr h.gd hg hm hk hb hx ha (dbg_ok hd) (star_ok hs) hpl) (evFn_to hF)
theorem callK_ok {f : Str} {F : FI} {p pos : Pos} {kws : List Keyword} {args : CL} (h : CxOk G N sc so X) (hg : Gl X f) (hd : dbg f = true) (hF : G.fns f = some F) (hc : chkK N sc F.ps args kws = true) (ha : PK X kws (TAof X.K (evs G pin args))) : PE X (.Call (.Name f p) [] kws pos) (TEof X.K (evFn G pin f (evs G pin args))) := by
  obtain ⟨k, fa, fd, F1, hr, hm, hk, _, hb⟩ := h.ge.fns f F hF
  have hx : Passes CX0 X (fun _ _ _ => False) := fun _ _ _ _ _ _ _ z => z.elim
  obtain ⟨g1, g2, g3⟩ := kw_ok (pos := pos) (env := X.env) hc
  exact pe_of (pe_callGk F1 hr h.gd hg hm hk hb hx ha g1 g2 (dbg_ok hd) g3) (evFn_to hF)

/-! ### the meaning, form by form -/
variable {op op' : BO} {a b c t : CE} {es args : CL} {i : Nat}
theorem ev_var : ev G pin (.var i) = evVar i := by funext ρ; simp only [ev, evVar] <;> rfl
theorem ev_bin : ev G pin (.bin op a b) = evBin op (ev G pin a) (ev G pin b) := by funext ρ; simp only [ev, evBin] <;> rfl
theorem ev_neg : ev G pin (.neg a) = evNeg (ev G pin a) := by funext ρ; simp only [ev, evNeg] <;> rfl
theorem ev_cmp {op : CO} : ev G pin (.cmp op a b) = evCmp op (ev G pin a) (ev G pin b) := by funext ρ; simp only [ev, evCmp] <;> rfl
theorem ev_chain {op op' : CO} : ev G pin (.chain op op' a b c) = evChain op op' (ev G pin a) (ev G pin b) (ev G pin c) := by funext ρ; simp only [ev, evChain] <;> rfl
theorem ev_and : ev G pin (.and a b) = evAnd (ev G pin a) (ev G pin b) := by funext ρ; simp only [ev, evAnd] <;> rfl
theorem ev_or : ev G pin (.or a b) = evOr (ev G pin a) (ev G pin b) := by funext ρ; simp only [ev, evOr] <;> rfl
theorem ev_not : ev G pin (.not a) = evNot (ev G pin a) := by funext ρ; simp only [ev, evNot] <;> rfl
theorem ev_ite : ev G pin (.ite c a b) = evIte (ev G pin c) (ev G pin a) (ev G pin b) := by funext ρ; simp only [ev, evIte] <;> rfl
theorem ev_call {f : BI} : ev G pin (.call f args) = evBI f (evs G pin args) := by funext ρ; simp only [ev, evBI] <;> rfl
theorem ev_isi {T : String} : ev G pin (.isi a T) = evIsi T (ev G pin a) := by funext ρ; simp only [ev, evIsi] <;> rfl
theorem ev_fn {f : Str} : ev G pin (.fn f args) = evFn G pin f (evs G pin args) := by funext ρ; simp only [ev, evFn] <;> rfl
theorem ev_meth {m : MT} : ev G pin (.meth m a args) = evMeth m (ev G pin a) (evs G pin args) := by funext ρ; simp only [ev, evMeth] <;> rfl
theorem ev_app : ev G pin (.app a b) = evApp pin (ev G pin a) (ev G pin b) := by funext ρ; simp only [ev, evApp] <;> rfl
theorem ev_tup : ev G pin (.tup es) = evTup pin (evs G pin es) := by funext ρ; simp only [ev, evTup] <;> rfl
theorem ev_lst : ev G pin (.lst es) = evLst pin (evs G pin es) := by funext ρ; simp only [ev, evLst] <;> rfl
theorem ev_idx : ev G pin (.idx a b) = evIdx (ev G pin a) (ev G pin b) := by funext ρ; simp only [ev, evIdx] <;> rfl
theorem ev_slc : ev G pin (.slc a b c) = evSlc (ev G pin a) (ev G pin b) (ev G pin c) := by funext ρ; simp only [ev, evSlc] <;> rfl
theorem ev_bnd : ev G pin (.bnd a) = evBnd (ev G pin a) := by funext ρ; simp only [ev, evBnd] <;> rfl
theorem ev_rev : ev G pin (.rev a) = evRev (ev G pin a) := by funext ρ; simp only [ev, evRev] <;> rfl
theorem evs_cons : evs G pin (.cons a args) = evCons (ev G pin a) (evs G pin args) := by funext ρ; simp only [evs, evCons] <;> rfl
theorem evs_nil : evs G pin .nil = evNil := by funext ρ; simp only [evs, evNil] <;> rfl
theorem ev_lc {own : List (Str × Nat)} {t : CT} {it : CI} {tst : Option CE} : ev G pin (.lc own t it tst a) = evLc pin (evI G pin it) (asgE G pin t) (tst.map (ev G pin)) (ev G pin a) (own.map (·.2)) := by
  funext ρ
  simp only [ev, evLc]
  have : (fun d ρ => Out.bind (asgE G pin t (.val d) ρ) fun ρ1 =>
            match tst with
            | none => Out.bind (ev G pin a ρ1) fun q => Out.bind (still pin q.2 q.1) fun y => .ok (some y.1, wipeE y.2 (own.map (·.2)))
            | some c => Out.bind (ev G pin c ρ1) fun q => Out.bind (asBool q.1) fun b => if b = true then Out.bind (ev G pin a q.2) fun q => Out.bind (still pin q.2 q.1) fun y => .ok (some y.1, wipeE y.2 (own.map (·.2))) else .ok (none, wipeE q.2 (own.map (·.2)))) = lcBody pin (asgE G pin t) (tst.map (ev G pin)) (ev G pin a) (own.map (·.2)) := by
    funext d ρ
    unfold lcBody evTst
    congr 1
    funext ρ1
    cases tst with
    | none => rfl
    | some c => simp only [Option.map, bind_assoc']; rfl
  cases tst <;> rw [← this]
theorem asgE_name : asgE G pin (.name i) = setv pin i := by funext r ρ; simp only [asgE] <;> rfl
theorem asgE_tup {ts : CTs} : asgE G pin (.tup ts) = asTup (asgEs G pin ts) := by funext r ρ; simp only [asgE, asTup] <;> rfl
theorem asgE_sub : asgE G pin (.sub a b) = asSub pin (ev G pin a) (ev G pin b) := by funext r ρ; simp only [asgE, asSub] <;> rfl
theorem asgEs_nil : asgEs G pin .nil = asNil := by funext ds ρ; cases ds <;> simp only [asgEs, asNil] <;> rfl
theorem asgEs_cons {t : CT} {ts : CTs} : asgEs G pin (.cons t ts) = asCons (asgE G pin t) (asgEs G pin ts) := by funext ds ρ; cases ds <;> simp only [asgEs, asCons] <;> rfl
theorem asgEs_len : ∀ {ts : CTs} {ds : List D} {ρ ρ' : ES} {es : List Expr} {S : List Nat}, asgEs G pin ts ds ρ = .ok ρ' → chkTs N sc so S ts es = true → ds.length = es.length
  | .nil, ds, _, _, es, _, e, h => by
    cases es with
    | cons _ _ => simp [chkTs] at h
    | nil =>
      cases ds with
      | nil => rfl
      | cons _ _ => simp [asgEs] at e
  | .cons t r, ds, _, _, es, _, e, h => by
    cases es with
    | nil => simp [chkTs] at h
    | cons x xs =>
      cases ds with
      | nil => simp [asgEs] at e
      | cons d ds =>
        simp only [asgEs] at e
        obtain ⟨ρ1, e1, e⟩ := bind_eq e
        simp only [chkTs, Bool.and_eq_true] at h
        simp [asgEs_len e h.2]
theorem asgs_plain : ∀ {ts : CTs} {es : List Expr} {env : Env} {S : List Nat}, chkTs N sc so S ts es = true → (assignEach es env).length = es.length ∧ (assignEach es env).findIdx? (·.1) = none
  | .nil, es, env, S, h => by
    cases es with
    | cons _ _ => simp [chkTs] at h
    | nil => exact ⟨rfl, rfl⟩
  | .cons t r, es, env, S, h => by
    cases es with
    | nil => simp [chkTs] at h
    | cons x xs =>
      simp only [chkTs, Bool.and_eq_true] at h
      obtain ⟨g1, g2⟩ := asgs_plain (env := env) h.2
      rw [asg_ok h.1.1]
      refine ⟨by simp [g1], ?_⟩
      rw [List.findIdx?_cons]
      simp [g2]
theorem settle_len {rs rs' : List R} {ρ ρ' : ES} (h : settle pin rs ρ = .ok (rs', ρ')) : ρ'.length = ρ.length := by
  induction rs generalizing rs' ρ ρ' with
  | nil => cases h; rfl
  | cons r rs ih =>
    cases r with
    | val d => obtain ⟨⟨l, ρ4⟩, e2, h⟩ := bind_eq h; cases h; exact ih e2
    | new d => obtain ⟨⟨l, ρ4⟩, e2, h⟩ := bind_eq h; cases h; exact ih e2
    | slot j =>
      obtain ⟨⟨d, ρ3⟩, e1, h⟩ := bind_eq h
      obtain ⟨⟨l, ρ4⟩, e2, h⟩ := bind_eq h; cases h
      rw [ih e2]
      simp only [still] at e1
      split at e1
      · cases e1; rfl
      · split at e1 <;> cases e1
        simp
      · cases e1
theorem setv_tame {d : D} {ρ ρ' : ES} (h : setv pin i (.val d) ρ = .ok ρ') : ρ'.length = ρ.length ∧ ∀ j, j ≠ i → ρ'[j]? = ρ[j]? := by
  have e : setv pin i (.val d) ρ = if pin = some i then .stuck else if i < ρ.length then .ok (ρ.set i (some (.val d))) else .stuck := rfl
  rw [e] at h
  split at h
  · cases h
  · split at h <;> cases h
    exact ⟨by simp, fun j n => List.getElem?_set_ne fun z => n z.symm⟩
mutual
theorem tame_ok : ∀ {t : CT} {e : Expr} {S : List Nat}, tame t = true → chkT N sc so S t e = true → Tame S (asgE G pin t)
  | .name i, e, S, _, h => by
    intro d ρ ρ' q
    rw [asgE_name] at q
    obtain ⟨h1, h2⟩ := setv_tame q
    refine ⟨h1, fun j n => h2 j fun z => n ?_⟩
    simp only [chkT] at h
    split at h
    · simp only [Bool.and_eq_true, decide_eq_true_eq] at h
      rw [z]; exact h.2
    · cases h
  | .sub _ _, _, _, z, _ => by simp [tame] at z
  | .tup ts, e, S, z, h => by
    intro d ρ ρ' q
    simp only [chkT] at h
    split at h
    · rw [asgE_tup] at q
      obtain ⟨d1, e1, q⟩ := bind_eq q
      split at q
      · exact tames_ok (by simpa [tame] using z) h q
      · cases q
    · cases h
theorem tames_ok : ∀ {ts : CTs} {es : List Expr} {S : List Nat}, tames ts = true → chkTs N sc so S ts es = true → ∀ {ds : List D} {ρ ρ' : ES}, asgEs G pin ts ds ρ = .ok ρ' → ρ'.length = ρ.length ∧ ∀ j, j ∉ S → ρ'[j]? = ρ[j]?
  | .nil, es, S, _, _, ds, ρ, ρ', q => by
    cases ds with
    | nil => simp only [asgEs] at q; cases q; exact ⟨rfl, fun _ _ => rfl⟩
    | cons _ _ => simp [asgEs] at q
  | .cons t r, es, S, z, h, ds, ρ, ρ', q => by
    simp only [tames, Bool.and_eq_true] at z
    cases es with
    | nil => simp [chkTs] at h
    | cons x xs =>
      simp only [chkTs, Bool.and_eq_true] at h
      cases ds with
      | nil => simp [asgEs] at q
      | cons d ds =>
        simp only [asgEs] at q
        obtain ⟨ρ1, e1, q⟩ := bind_eq q
        obtain ⟨g1, g2⟩ := tame_ok z.1 h.1.2 d ρ ρ1 e1
        obtain ⟨k1, k2⟩ := tames_ok z.2 h.2 q
        exact ⟨k1.trans g1, fun j n => (k2 j n).trans (g2 j n)⟩
end
end
end DI
end

section
set_option maxRecDepth 100000
set_option maxHeartbeats 8000000
/-! KP: the soundness of the core: expressions, targets, walks. -/
namespace DI
open PySem L2

variable {G : Ge} {N : List Str} {pin : Option Nat}
theorem h_star : ∀ (c : CE) {sc : Scope} {e : Expr}, chkE N sc c e = true → notStar e = true := fun c sc e hc => by
  cases e with
  | Starred a p => cases c <;> simp [chkE] at hc
  | _ => rfl
/-- an expression's value, and its truth in its own way -/
def Both (G : Ge) (pin : Option Nat) (X : Cx) (c : CE) (e : Expr) : Prop := PE X e (TEof X.K (ev G pin c)) ∧ (tOk c e = true → PT X e (TTof X.K (ev G pin c)))
theorem both {X : Cx} {c : CE} {e : Expr} (hs : spec c = false) (h : PE X e (TEof X.K (ev G pin c))) : Both G pin X c e :=
  ⟨h, fun ht => pt_plain h (plain_ok (by simpa [tOk, hs] using ht))⟩
theorem spec_ok {c : CE} {e : Expr} (h : spec c = true) : tOk c e = true := by simp [tOk, h]
mutual
theorem sE : ∀ (c : CE) {sc so : Scope} {X : Cx} {e : Expr}, CxOk G N sc so X → chkE N sc c e = true → Both G pin X c e
  | .var i, sc, so, X, e, h, hc => by
    refine both rfl ?_
    unfold chkE at hc; split at hc
    · simp only [varC, Bool.and_eq_true, decide_eq_true_eq, Bool.not_eq_true'] at hc
      rw [ev_var]
      exact pe_varD (by rw [h.nm]; exact hc.1.1.1) (h.vis hc.1.1.2) hc.1.2 hc.2
    · cases hc
  | .lit d, sc, so, X, e, h, hc => by
    refine both rfl ?_
    unfold chkE at hc; split at hc
    · exact pe_eq (pe_litD (litC_ok hc)) (by funext ρ; simp only [ev, evLit])
    · cases hc
  | .glob y, sc, so, X, e, h, hc => by
    refine both rfl ?_
    unfold chkE at hc; split at hc
    · simp only [Bool.and_eq_true, decide_eq_true_eq] at hc
      rename_i y pos
      obtain ⟨⟨rfl, h2⟩, h3⟩ := hc
      cases hk : G.cst y with
      | none => exact pe_eq pe_stuck (by funext ρ; simp only [ev, hk])
      | some d =>
        obtain ⟨v, u, h4, h5, h6⟩ := h.ge.cst y d hk
        exact pe_eq (pe_globD (h.gl h2) h4 h5 h6 (dbg_ok h3)) (by funext ρ; simp only [ev, evLit, hk])
    · cases hc
  | .bin op a b, sc, so, X, e, h, hc => by
    refine both rfl ?_
    unfold chkE at hc; split at hc
    · simp only [Bool.and_eq_true, decide_eq_true_eq] at hc
      rw [ev_bin]
      exact pe_bin hc.1.1 (sE a h hc.1.2).1 (sE b h hc.2).1
    · cases hc
  | .neg a, sc, so, X, e, h, hc => by
    refine both rfl ?_
    unfold chkE at hc; split at hc
    · rw [ev_neg]; exact pe_negD (sE a h hc).1
    · cases hc
  | .cmp op a b, sc, so, X, e, h, hc => by
    unfold chkE at hc; split at hc
    · simp only [Bool.and_eq_true, decide_eq_true_eq] at hc
      obtain ⟨⟨⟨rfl, h2⟩, h3⟩, h4⟩ := hc
      exact ⟨by rw [ev_cmp]; exact pe_cmpD (Nat.lt_of_le_of_lt (by omega) h.un) (sE a h h3).1 (sE b h h4).1 (marks_ok h2), fun _ => by rw [ev_cmp]; exact pt_cmpD (Nat.lt_of_le_of_lt (by omega) h.un) (sE a h h3).1 (sE b h h4).1 (marks_ok h2)⟩
    · cases hc
  | .chain op op' a b c, sc, so, X, e, h, hc => by
    unfold chkE at hc; split at hc
    · simp only [Bool.and_eq_true, decide_eq_true_eq] at hc
      obtain ⟨⟨⟨⟨⟨rfl, rfl⟩, h2⟩, h3⟩, h4⟩, h5⟩ := hc
      exact ⟨by rw [ev_chain]; exact pe_chainD (Nat.lt_of_le_of_lt (by omega) h.un) (sE a h h3).1 (sE b h h4).1 (sE c h h5).1 (marks_ok h2), fun _ => by rw [ev_chain]; exact pt_chainD (Nat.lt_of_le_of_lt (by omega) h.un) (sE a h h3).1 (sE b h h4).1 (sE c h h5).1 (marks_ok h2)⟩
    · cases hc
  | .and a b, sc, so, X, e, h, hc => by
    unfold chkE at hc; split at hc
    · simp only [Bool.and_eq_true] at hc
      obtain ⟨⟨⟨h1, h2⟩, h3⟩, h4⟩ := hc
      exact ⟨by rw [ev_and]; exact pe_andD (sE a h h1).1 (pe_one (sE b h h2).1), fun _ => by rw [ev_and]; exact pt_andD ((sE a h h1).2 h3) (pw_and1 ((sE b h h2).2 h4))⟩
    · simp only [Bool.and_eq_true] at hc
      obtain ⟨⟨⟨h1, h2⟩, h3⟩, h4⟩ := hc
      exact ⟨by rw [ev_and]; exact pe_andD (sE a h h1).1 (sE b h h2).1, fun _ => by rw [ev_and]; exact pt_andD ((sE a h h1).2 h3) (DI.PT.pw ((sE b h h2).2 (spec_ok h4)))⟩
    · cases hc
  | .or a b, sc, so, X, e, h, hc => by
    unfold chkE at hc; split at hc
    · simp only [Bool.and_eq_true] at hc
      obtain ⟨⟨⟨h1, h2⟩, h3⟩, h4⟩ := hc
      exact ⟨by rw [ev_or]; exact pe_orD (sE a h h1).1 (pe_one (sE b h h2).1), fun _ => by rw [ev_or]; exact pt_orD ((sE a h h1).2 h3) (pw_or1 ((sE b h h2).2 h4))⟩
    · simp only [Bool.and_eq_true] at hc
      obtain ⟨⟨⟨h1, h2⟩, h3⟩, h4⟩ := hc
      exact ⟨by rw [ev_or]; exact pe_orD (sE a h h1).1 (sE b h h2).1, fun _ => by rw [ev_or]; exact pt_orD ((sE a h h1).2 h3) (DI.PT.pw ((sE b h h2).2 (spec_ok h4)))⟩
    · cases hc
  | .not a, sc, so, X, e, h, hc => by
    unfold chkE at hc; split at hc
    · simp only [Bool.and_eq_true] at hc
      exact ⟨by rw [ev_not]; exact pe_notD (sE a h hc.1).1, fun _ => by rw [ev_not]; exact pt_notD ((sE a h hc.1).2 hc.2)⟩
    · cases hc
  | .ite c a b, sc, so, X, e, h, hc => by
    unfold chkE at hc; split at hc
    · simp only [Bool.and_eq_true] at hc
      obtain ⟨⟨⟨⟨⟨h1, h2⟩, h3⟩, h4⟩, h5⟩, h6⟩ := hc
      exact ⟨by rw [ev_ite]; exact pe_iteD ((sE c h h1).2 h4) (sE a h h2).1 (sE b h h3).1, fun _ => by rw [ev_ite]; exact pt_iteD ((sE c h h1).2 h4) ((sE a h h2).2 h5) ((sE b h h3).2 h6)⟩
    · cases hc
  | .call f args, sc, so, X, e, h, hc => by
    refine both rfl ?_
    unfold chkE at hc; split at hc
    · rename_i x p e1 es pos
      simp only [Bool.and_eq_true, decide_eq_true_eq] at hc
      obtain ⟨⟨rfl, h2⟩, h3⟩ := hc
      rw [ev_call]
      have hs : notStar e1 = true ∧ (backTo pos (starEach es X.env)).any (·.1) = false := by
        cases args with
        | nil => simp [chkA] at h3
        | cons a r => simp only [chkA, Bool.and_eq_true] at h3; exact ⟨h3.1.1, plainArgs h3.2⟩
      exact pe_biD h.calm h.un h.gd (h.gl h2) (h.none (by cases f <;> decide)) (sA args h h3) (star_ok hs.1) hs.2
    · cases hc
  | .isi a T, sc, so, X, e, h, hc => by
    refine both rfl ?_
    unfold chkE at hc; split at hc
    · simp only [Bool.and_eq_true, decide_eq_true_eq] at hc
      obtain ⟨⟨⟨⟨⟨rfl, rfl⟩, h3⟩, h4⟩, h5⟩, h6⟩ := hc
      have hT : T = "int" ∨ T = "bool" ∨ T = "str" ∨ T = "tuple" ∨ T = "list" := by
        simpa [tyC, or_assoc] using h3
      have hst : notStar _ = true := h_star a h6
      rw [ev_isi]
      refine pe_isiD hT (h.gl h4) (h.none (by decide)) (h.gl h5) (h.none ?_) (sE a h h6).1 (star_ok hst)
      rcases hT with rfl | rfl | rfl | rfl | rfl <;> decide
    · cases hc
  | .fn f args, sc, so, X, e, h, hc => by
    refine both rfl ?_
    unfold chkE at hc; split at hc
    · simp only [Bool.and_eq_true, decide_eq_true_eq] at hc
      obtain ⟨⟨⟨rfl, h2⟩, h3⟩, h4⟩ := hc
      rename_i x p es pos
      cases hF : G.fns x with
      | none => exact pe_eq pe_stuck (by funext ρ; simp only [ev, callF, hF, bind_stuck])
      | some F => rw [ev_fn]; exact callG_ok h (h.gl h2) h3 hF h4 (sA args h h4)
    · cases hc
  | .fnk f ks args, sc, so, X, e, h, hc => by
    refine both rfl ?_
    unfold chkE at hc; split at hc
    · simp only [Bool.and_eq_true, decide_eq_true_eq] at hc
      obtain ⟨⟨⟨rfl, h2⟩, h3⟩, h4⟩ := hc
      rename_i x p k kws pos
      cases hF : G.fns x with
      | none => exact pe_eq pe_stuck (by funext ρ; simp only [ev, namesAll, hF]; rfl)
      | some F =>
        by_cases hk : F.ps = ks
        · subst hk
          exact pe_eq (callK_ok h (h.gl h2) h3 hF h4 (sK F.ps args h h4)) (by funext ρ; simp only [ev, namesAll, hF, decide_true, if_true]; rfl)
        · exact pe_eq pe_stuck (by funext ρ; simp only [ev, namesAll, hF, hk, decide_false]; rfl)
    · cases hc
  | .meth m o args, sc, so, X, e, h, hc => by
    refine both rfl ?_
    unfold chkE at hc; split at hc
    · rename_i o' at_ apos e1 pos
      simp only [Bool.and_eq_true] at hc
      obtain ⟨⟨⟨h1, h2⟩, h3⟩, h4⟩ := hc
      cases args with
      | nil => simp [chkA] at h3
      | cons a r =>
        cases r with
        | cons _ _ => simp [chkA] at h3
        | nil =>
          simp only [chkA, Bool.and_eq_true] at h3
          have he := (sE a h h3.1.2).1
          have hs := star_ok (es := []) (env := X.env) h3.1.1
          have em : ev G pin (.meth m o (.cons a .nil)) = evMeth m (ev G pin o) (evCons (ev G pin a) evNil) := by rw [ev_meth, evs_cons, evs_nil]
          rw [em]
          cases m with
          | split =>
            simp only [Bool.and_eq_true, decide_eq_true_eq] at h4
            obtain ⟨rfl, h5⟩ := h4
            exact pe_splitD (sE o h h5).1 he hs (base_ok h2) h1
          | join =>
            simp only [Bool.and_eq_true, decide_eq_true_eq] at h4
            obtain ⟨rfl, h5⟩ := h4
            exact pe_joinD (sE o h h5).1 he hs (base_ok h2) h1
          | index =>
            simp only [Bool.and_eq_true, decide_eq_true_eq] at h4
            obtain ⟨rfl, h5⟩ := h4
            split at h5
            · simp only [Bool.and_eq_true, decide_eq_true_eq] at h5
              obtain ⟨⟨rfl, h6⟩, h7⟩ := h5
              rename_i y p
              cases hk : G.cst y with
              | none => exact pe_eq pe_stuck (by funext ρ; simp only [evMeth, ev, hk, Out.bind])
              | some d =>
                obtain ⟨v, u, g4, g5, g6⟩ := h.ge.cst y d hk
                refine pe_eq (pe_indexD (h.gl h6) g4 g5 g6 (dbg_ok h7) he hs h1 (base_ok h2) ?_) (by funext ρ; simp only [evMeth, ev, evLit, hk])
                rw [hs]; rfl
            · cases h5
    · cases hc
  | .app o a, sc, so, X, e, h, hc => by
    refine both rfl ?_
    unfold chkE at hc; split at hc
    · simp only [Bool.and_eq_true, decide_eq_true_eq] at hc
      obtain ⟨⟨⟨⟨h1, h2⟩, rfl⟩, h4⟩, h5⟩ := hc
      have hs := star_ok (es := []) (env := X.env) (h_star a h5)
      rw [ev_app]
      exact pe_appD (sE o h h4).1 (sE a h h5).1 hs (base_ok h2) h1 (by rw [hs]; rfl)
    · cases hc
  | .tup es, sc, so, X, e, h, hc => by
    refine both rfl ?_
    unfold chkE at hc; split at hc
    · simp only [Bool.and_eq_true, decide_eq_true_eq] at hc
      rw [ev_tup]
      exact pe_tupD (sA es h hc.2) fun ρ rs ρ' q => by rw [evs_len q hc.2]; exact hc.1
    · cases hc
  | .lst es, sc, so, X, e, h, hc => by
    refine both rfl ?_
    unfold chkE at hc; split at hc
    · simp only [Bool.and_eq_true, decide_eq_true_eq] at hc
      rw [ev_lst]
      exact pe_lstD (sA es h hc.2) fun ρ rs ρ' q => by rw [evs_len q hc.2]; exact hc.1
    · cases hc
  | .idx a b, sc, so, X, e, h, hc => by
    refine both rfl ?_
    unfold chkE at hc; split at hc
    · simp only [Bool.and_eq_true] at hc
      rw [ev_idx]
      exact pe_idxD (sE a h hc.1.2).1 (sE b h hc.2).1 (slice_ok hc.1.1)
    · cases hc
  | .bnd a, sc, so, X, e, h, hc => by
    unfold chkE at hc; cases hc
  | .slc a lo hi, sc, so, X, e, h, hc => by
    refine both rfl ?_
    unfold chkE at hc; split at hc
    · simp only [Bool.and_eq_true] at hc
      rw [ev_slc]
      exact pe_slcD (sE a h hc.1.1).1 (sB lo h hc.1.2) (sB hi h hc.2)
    · cases hc
  | .rev a, sc, so, X, e, h, hc => by
    refine both rfl ?_
    unfold chkE at hc; split at hc
    · rw [ev_rev]; exact pe_revD (sE a h hc).1
    · cases hc
  | .lc own t it tst elt, sc, so, X, e, h, hc => by
    refine both rfl ?_
    unfold chkE at hc; split at hc
    · simp only [Bool.and_eq_true] at hc
      obtain ⟨⟨⟨⟨⟨⟨h1, h2⟩, h3⟩, h4⟩, h5⟩, h6⟩, h7⟩ := hc
      rw [ev_lc]
      refine pe_lcD h.calm h.nd (sI it h h3) (by rw [h.nm, h.scp]; exact blkOk_by h2) (fun s H C cl fp => sG t (h.blk _ s H C cl fp) h4) (fun s H C cl fp => ?_) (fun s H C cl fp => (sE elt (h.blk _ s H C cl fp) h6).1) (set_ok h1) (tame_ok h5 h4)
      split at h7
      · exact .none
      · simp only [Bool.and_eq_true] at h7
        exact .some ((sE _ (h.blk _ s H C cl fp) h7.1).2 h7.2)
      · cases h7
    · cases hc
theorem sA : ∀ (c : CL) {sc so : Scope} {X : Cx} {es : List Expr}, CxOk G N sc so X → chkA N sc c es = true → PA X es (TAof X.K (evs G pin c))
  | .nil, sc, so, X, es, h, hc => by
    cases es with
    | nil => rw [evs_nil]; exact pa_nilD
    | cons _ _ => simp [chkA] at hc
  | .cons a r, sc, so, X, es, h, hc => by
    cases es with
    | nil => simp [chkA] at hc
    | cons e es =>
      simp only [chkA, Bool.and_eq_true] at hc
      rw [evs_cons]
      exact pa_consD (sE a h hc.1.2).1 (sA r h hc.2) (star_ok hc.1.1)
theorem sK : ∀ (ks : List Str) (c : CL) {sc so : Scope} {X : Cx} {kws : List Keyword}, CxOk G N sc so X → chkK N sc ks c kws = true → PK X kws (TAof X.K (evs G pin c))
  | ks, .nil, sc, so, X, kws, h, hc => by
    cases ks <;> cases kws <;> first | (rw [evs_nil]; exact pk_nilD) | (simp [chkK] at hc)
  | ks, .cons a r, sc, so, X, kws, h, hc => by
    cases ks with
    | nil => simp [chkK] at hc
    | cons k ks =>
      cases kws with
      | nil => simp [chkK] at hc
      | cons kw kws =>
        obtain ⟨n, e, p⟩ := kw
        cases n with
        | none => simp [chkK] at hc
        | some n =>
          simp only [chkK, Bool.and_eq_true] at hc
          rw [evs_cons]
          exact pk_consD (sE a h hc.1.2).1 (sK ks r h hc.2)
theorem sB : ∀ (c : CE) {sc so : Scope} {X : Cx} {e : Option Expr}, CxOk G N sc so X → chkB N sc c e = true → PO X e (TOof X.K (ev G pin c))
  | .bnd a, sc, so, X, e, h, hc => by
    cases e with
    | none => simp [chkB] at hc
    | some e =>
      rw [ev_bnd]
      exact po_bndD (sE a h (by simpa [chkB] using hc)).1
  | .lit d, sc, so, X, e, h, hc => by
    have hd : d = .none := by cases d <;> first | rfl | (simp [chkB] at hc)
    subst hd
    cases e with
    | some e => simp [chkB] at hc
    | none =>
      have : ev G pin (.lit .none) = evLit .none := by funext ρ; simp only [ev, evLit]
      rw [this]
      exact po_noneD
  | .var _, _, _, _, _, _, hc => by simp [chkB] at hc
  | .glob _, _, _, _, _, _, hc => by simp [chkB] at hc
  | .bin _ _ _, _, _, _, _, _, hc => by simp [chkB] at hc
  | .neg _, _, _, _, _, _, hc => by simp [chkB] at hc
  | .cmp _ _ _, _, _, _, _, _, hc => by simp [chkB] at hc
  | .chain _ _ _ _ _, _, _, _, _, _, hc => by simp [chkB] at hc
  | .and _ _, _, _, _, _, _, hc => by simp [chkB] at hc
  | .or _ _, _, _, _, _, _, hc => by simp [chkB] at hc
  | .not _, _, _, _, _, _, hc => by simp [chkB] at hc
  | .ite _ _ _, _, _, _, _, _, hc => by simp [chkB] at hc
  | .call _ _, _, _, _, _, _, hc => by simp [chkB] at hc
  | .isi _ _, _, _, _, _, _, hc => by simp [chkB] at hc
  | .fn _ _, _, _, _, _, _, hc => by simp [chkB] at hc
  | .fnk _ _ _, _, _, _, _, _, hc => by simp [chkB] at hc
  | .meth _ _ _, _, _, _, _, _, hc => by simp [chkB] at hc
  | .app _ _, _, _, _, _, _, hc => by simp [chkB] at hc
  | .tup _, _, _, _, _, _, hc => by simp [chkB] at hc
  | .lst _, _, _, _, _, _, hc => by simp [chkB] at hc
  | .idx _ _, _, _, _, _, _, hc => by simp [chkB] at hc
  | .slc _ _ _, _, _, _, _, _, hc => by simp [chkB] at hc
  | .rev _, _, _, _, _, _, hc => by simp [chkB] at hc
  | .lc _ _ _ _ _, _, _, _, _, _, hc => by simp [chkB] at hc
theorem sG : ∀ (t : CT) {sc so : Scope} {X : Cx} {e : Expr} {S : List Nat}, CxOk G N sc so X → chkT N sc so S t e = true → PG X e (TGof X.K pin S (asgE G pin t))
  | .name i, sc, so, X, e, S, h, hc => by
    unfold chkT at hc; split at hc
    · simp only [Bool.and_eq_true, decide_eq_true_eq] at hc
      obtain ⟨g1, g2⟩ := h.loc hc.1.2
      rw [asgE_name]
      exact pg_nameD h.nd (by rw [h.nm]; exact hc.1.1) g1 g2 hc.2
    · cases hc
  | .tup ts, sc, so, X, e, S, h, hc => by
    unfold chkT at hc; split at hc
    · obtain ⟨g1, g2⟩ := asgs_plain (env := X.env) hc
      rw [asgE_tup]
      exact pg_tupD h.calm (sGs ts h hc) g1 g2 fun ds ρ ρ' q => asgEs_len q hc
    · cases hc
  | .sub o i, sc, so, X, e, S, h, hc => by
    unfold chkT at hc; split at hc
    · simp only [Bool.and_eq_true] at hc
      rw [asgE_sub]
      rename_i a' b' pos
      refine pg_subD (sE o h hc.1.2).1 (sE i h hc.2).1 fun v => ?_
      have hb := hc.1.1
      cases b' <;> first | rfl | cases hb
    · cases hc
theorem sGs : ∀ (t : CTs) {sc so : Scope} {X : Cx} {es : List Expr} {S : List Nat}, CxOk G N sc so X → chkTs N sc so S t es = true → PGs X es (TGsof X.K pin S (asgEs G pin t))
  | .nil, sc, so, X, es, S, h, hc => by
    cases es with
    | nil => rw [asgEs_nil]; exact pgs_nilD
    | cons _ _ => simp [chkTs] at hc
  | .cons t r, sc, so, X, es, S, h, hc => by
    cases es with
    | nil => simp [chkTs] at hc
    | cons e es =>
      simp only [chkTs, Bool.and_eq_true] at hc
      rw [asgEs_cons]
      exact pgs_consD (sG t h hc.1.2) (sGs r h hc.2) (by rw [asg_ok hc.1.1]; rfl)
theorem sI : ∀ (it : CI) {sc so : Scope} {X : Cx} {tg e : Expr}, CxOk G N sc so X → chkI N sc it tg e = true → PI X tg e (TIof X.K (evI G pin it))
  | .seq a, sc, so, X, tg, e, h, hc => by
    have : evI G pin (.seq a) = itSeq pin (ev G pin a) := by funext ρ; simp only [evI, itSeq] <;> rfl
    rw [this]
    exact pi_seqD (sE a h (by simpa [chkI] using hc)).1
  | .rng1 a, sc, so, X, tg, e, h, hc => by
    have : evI G pin (.rng1 a) = itR1 (ev G pin a) := by funext ρ; simp only [evI, itR1] <;> rfl
    rw [this]
    unfold chkI at hc; split at hc
    · simp only [Bool.and_eq_true, decide_eq_true_eq] at hc
      obtain ⟨⟨⟨rfl, h2⟩, h3⟩, h4⟩ := hc
      exact pi_rng1D (h.gl h2) (h.none (by decide)) (sE a h h4).1 (star_ok h3)
    · cases hc
  | .rng2 a b, sc, so, X, tg, e, h, hc => by
    have : evI G pin (.rng2 a b) = itR2 (ev G pin a) (ev G pin b) := by funext ρ; simp only [evI, itR2] <;> rfl
    rw [this]
    unfold chkI at hc; split at hc
    · simp only [Bool.and_eq_true, decide_eq_true_eq] at hc
      obtain ⟨⟨⟨⟨⟨rfl, h2⟩, h3⟩, h4⟩, h5⟩, h6⟩ := hc
      exact pi_rng2D (h.gl h2) (h.none (by decide)) (sE a h h5).1 (sE b h h6).1 (star_ok h3) (star_ok h4)
    · cases hc
  | .enm a, sc, so, X, tg, e, h, hc => by
    have : evI G pin (.enm a) = itEn pin (ev G pin a) := by funext ρ; simp only [evI, itEn] <;> rfl
    rw [this]
    unfold chkI at hc; split at hc
    · simp only [Bool.and_eq_true, decide_eq_true_eq] at hc
      obtain ⟨⟨⟨rfl, h2⟩, h3⟩, h4⟩ := hc
      exact pi_enmD (h.gl h2) (h.none (by decide)) (sE a h h4).1 (star_ok h3)
    · cases hc
  | .zip a b, sc, so, X, tg, e, h, hc => by
    have : evI G pin (.zip a b) = itZp pin (ev G pin a) (ev G pin b) := by funext ρ; simp only [evI, itZp] <;> rfl
    rw [this]
    unfold chkI at hc; split at hc
    · simp only [Bool.and_eq_true, decide_eq_true_eq] at hc
      obtain ⟨⟨⟨⟨⟨rfl, h2⟩, h3⟩, h4⟩, h5⟩, h6⟩ := hc
      refine pi_zipD (h.gl h2) (h.none (by decide)) (sE a h h5).1 (sE b h h6).1 (star_ok h3) (star_ok h4) ?_
      rw [star_ok h4]; rfl
    · cases hc
end
end DI
end

section
set_option maxRecDepth 100000
set_option maxHeartbeats 8000000
/-! KQ: the soundness of the core: statements. -/
namespace DI
open PySem L2

variable {G : Ge} {N : List Str} {pin : Option Nat}
theorem sw_none {v : Expr} {tg : Option Expr} {l : Nat} {env : Env} (h : notComp v = true) : swapsWith v tg l env = pure false := by
  cases v <;> first | rfl | cases h
theorem blk_fun {env : Env} (h : env.scope.kind = .function) : env.blockKind = .function := by
  unfold Env.blockKind; rw [h]; rfl
theorem sw_lc {elt : Expr} {gs : List Comprehension} {scope : Scope} {vp p : Pos} {x : Str} {l : Nat} {env : Env} (hk : env.scope.kind = .function) : swapsWith (.ListComp elt gs scope vp) (some (.Name x p)) l env = pure (swC env.scope scope x p.line vp.line) := by
  unfold swapsWith swC
  have hb := blk_fun hk
  simp only [hb, Env.kindOf, Expr.pos]
  have : (env.scope.names.lookup x == some NameKind.local) = decide (env.scope.names.lookup x = some .local) := by
    by_cases h : env.scope.names.lookup x = some .local
    · simp [h]
    · simp [h]
  rw [this]
  rfl
theorem noSwap_ok {tg v : Expr} {env : Env} (h : noSwap tg v = true) : swappedStores [tg] v env = pure none := by
  cases tg with
  | Tuple ts k p =>
    cases v with
    | Tuple vs k2 p2 =>
      have h' : (!(ts.length == 2 || ts.length == 3) || vs.length != ts.length) = true := h
      unfold swappedStores
      simp only [h', Bool.true_or, if_true]
    | _ => rfl
  | List ts p => cases h
  | _ => rfl
theorem sw2 {x y : Str} {px py pt pt2 : Pos} {kt k2 : Nat} {a b : Expr} {env : Env} (hk : env.scope.kind = .function) (hx : env.scope.names.lookup x = some .local) (hy : env.scope.names.lookup y = some .local) (hl : (px.line == py.line) = true) (hxy : x ≠ y) (ha : notStar a = true) (hb : notStar b = true)
    (h1 : (([a, b] : List Expr).all (foldedForSure 8)) = false) (h2 : (([a, b] : List Expr).all (constantsAlone 8)) = false) : swappedStores [.Tuple [.Name x px, .Name y py] kt pt] (.Tuple [a, b] k2 pt2) env = pure (some [x, y]) := by
  have hb' := blk_fun hk
  have e := beq_iff_eq.mp hl
  unfold swappedStores
  simp only [h1, h2, hb', Env.kindOf, hx, hy, Expr.pos, e]
  simp [hx, hy, Env.kindOf, e, Expr.pos, List.eraseDups_cons, hxy, Ne.symm hxy]
  rintro (z | z) <;> exfalso
  · cases a <;> first | (cases ha; done) | (cases z; done)
  · cases b <;> first | (cases hb; done) | (cases z; done)
theorem sw3 {x y z : Str} {px py pz pt pt2 : Pos} {kt k2 : Nat} {a b c : Expr} {env : Env} (hk : env.scope.kind = .function) (hx : env.scope.names.lookup x = some .local) (hy : env.scope.names.lookup y = some .local) (hz : env.scope.names.lookup z = some .local) (hl : (px.line == py.line) = true) (hl2 : (px.line == pz.line) = true)
    (hxy : x ≠ y) (hxz : x ≠ z) (hyz : y ≠ z) (ha : notStar a = true) (hb : notStar b = true) (hc : notStar c = true)
    (h1 : (([a, b, c] : List Expr).all (foldedForSure 8)) = false) (h2 : (([a, b, c] : List Expr).all (constantsAlone 8)) = false) : swappedStores [.Tuple [.Name x px, .Name y py, .Name z pz] kt pt] (.Tuple [a, b, c] k2 pt2) env = pure (some [x, y, z]) := by
  have hb' := blk_fun hk
  have e := beq_iff_eq.mp hl
  have e2 := beq_iff_eq.mp hl2
  unfold swappedStores
  simp only [h1, h2, hb', Env.kindOf, hx, hy, hz, Expr.pos, e]
  simp [hx, hy, hz, Env.kindOf, e, e2, ← e2, Expr.pos, List.eraseDups_cons, hxy, Ne.symm hxy, hxz, Ne.symm hxz, hyz, Ne.symm hyz]
  rintro (z | z | z) <;> exfalso
  · cases a <;> first | (cases ha; done) | (cases z; done)
  · cases b <;> first | (cases hb; done) | (cases z; done)
  · cases c <;> first | (cases hc; done) | (cases z; done)
theorem sw2n {x y : Str} {px py pt pt2 : Pos} {kt k2 : Nat} {a b : Expr} {env : Env} (h : noSw env.scope [x, y] = true) : swappedStores [.Tuple [.Name x px, .Name y py] kt pt] (.Tuple [a, b] k2 pt2) env = pure none := by
  simp only [noSw, List.all_cons, List.all_nil, Bool.and_true, Bool.not_eq_true', Bool.and_eq_false_iff, decide_eq_false_iff_not] at h
  unfold swappedStores
  by_cases hx : List.lookup x env.scope.names = some .local <;> by_cases hy : List.lookup y env.scope.names = some .local <;> by_cases hl : py.line = px.line <;> simp_all [Env.kindOf, Expr.pos]
theorem sw3n {x y z : Str} {px py pz pt pt2 : Pos} {kt k2 : Nat} {a b c : Expr} {env : Env} (h : noSw env.scope [x, y, z] = true) : swappedStores [.Tuple [.Name x px, .Name y py, .Name z pz] kt pt] (.Tuple [a, b, c] k2 pt2) env = pure none := by
  simp only [noSw, List.all_cons, List.all_nil, Bool.and_true, Bool.not_eq_true', Bool.and_eq_false_iff, decide_eq_false_iff_not] at h
  unfold swappedStores
  by_cases hx : List.lookup x env.scope.names = some .local <;> by_cases hy : List.lookup y env.scope.names = some .local <;> by_cases hz : List.lookup z env.scope.names = some .local <;> by_cases hl : py.line = px.line <;> by_cases hm : pz.line = px.line <;> simp_all [Env.kindOf, Expr.pos]
theorem nodup_ne {N : List Str} {i j : Nat} {x y : Str} (h : N.Nodup) (hi : N[i]? = some x) (hj : N[j]? = some y) (n : i ≠ j) : x ≠ y := by
  rintro rfl
  exact n ((List.getElem?_inj (List.getElem?_eq_some_iff.mp hi).1 h).mp (hi.trans hj.symm))
theorem chkA_star {sc : Scope} : ∀ {args : CL} {es : List Expr}, chkA N sc args es = true → ∀ e ∈ es, notStar e = true
  | .nil, es, h, e, m => by
    cases es with
    | nil => cases m
    | cons _ _ => simp [chkA] at h
  | .cons a r, es, h, e, m => by
    cases es with
    | nil => cases m
    | cons x xs =>
      simp only [chkA, Bool.and_eq_true] at h
      rcases List.mem_cons.mp m with z | z
      · rw [z]; exact h.1.1
      · exact chkA_star h.2 e z
theorem exs_nil : exs G pin .nil = exNil := by funext ρ; simp only [exs, exNil]
theorem exs_cons {s : CS} {r : CB} : exs G pin (.cons s r) = exSeq (ex G pin s) (exs G pin r) := by funext ρ; simp only [exs, exSeq] <;> rfl
mutual
theorem sS : ∀ (c : CS) {sc : Scope} {X : Cx} {st : Stmt}, CxOk G N sc sc X → sc.kind = .function → PassesOwn (model X.prog X.w) X.A X.env X.xe → chkS N sc c st = true → PS X st (TSof X.K pin (ex G pin c))
  | .asg t e, sc, X, st, h, hk, hp, hc => by
    have em : ex G pin (.asg t e) = exAsg (ev G pin e) (asgE G pin t) := by funext ρ; simp only [ex, exAsg]
    rw [em]
    unfold chkS at hc; split at hc
    · rename_i tg v pos
      simp only [Bool.and_eq_true] at hc
      obtain ⟨h1, h2⟩ := hc
      split at h2
      · rename_i i x p
        simp only [Bool.and_eq_true, decide_eq_true_eq] at h2
        obtain ⟨⟨h3, h4⟩, h5⟩ := h2
        obtain ⟨g1, g2⟩ := h.loc h4
        rw [asgE_name]
        split at h5
        · rename_i elt gs scope vp
          have hsw := sw_lc (elt := elt) (gs := gs) (scope := scope) (vp := vp) (p := p) (x := x) (l := pos.line) (env := X.env) (by rw [h.scp]; exact hk)
          cases hb : swC X.env.scope scope x p.line vp.line with
          | false =>
            rw [hb] at hsw
            exact ps_setD h.nd (by rw [h.nm]; exact h3) g1 (sE e h h1).1 hsw g2
          | true =>
            rw [hb] at hsw
            have hy : X.env.scope.names.lookup x = some .local := by
              simp only [swC, Bool.and_eq_true, decide_eq_true_eq] at hb
              exact hb.1.1
            cases e with
            | lc own t it tst elt =>
              unfold chkE at h1; split at h1
              · rename_i heq
                cases heq
                simp only [Bool.and_eq_true] at h1
                obtain ⟨⟨⟨⟨⟨⟨k1, k2⟩, k3⟩, k4⟩, k5⟩, k6⟩, k7⟩ := h1
                rw [ev_lc]
                refine ps_setLcD h.calm h.nd (by rw [h.nm]; exact h3) hy hsw (sI it h k3) (by rw [h.nm, h.scp]; exact blkOk_by k2) (fun s H C cl fp => sG t (h.blk _ s H C cl fp) k4) (fun s H C cl fp => ?_) (fun s H C cl fp => (sE elt (h.blk _ s H C cl fp) k6).1) (set_ok k1) (tame_ok k5 k4)
                split at k7
                · exact .none
                · simp only [Bool.and_eq_true] at k7
                  exact .some ((sE _ (h.blk _ s H C cl fp) k7.1).2 k7.2)
                · cases k7
              · cases h1
            | _ => simp [chkE] at h1
        · exact ps_setD h.nd (by rw [h.nm]; exact h3) g1 (sE e h h1).1 (sw_none h5) g2
      · simp only [Bool.and_eq_true] at h2
        obtain ⟨⟨⟨h3, h4⟩, h5⟩, h6⟩ := h2
        have hst : notStar tg = true := by
          cases tg with
          | Starred _ _ => cases t <;> simp [chkT] at h6
          | _ => rfl
        exact ps_asgD (sE e h h1).1 (sG t h h6) (sw_none h4) (noSwap_ok h5) (by rw [asg_ok hst]; rfl)
    · cases hc
  | .par is es, sc, X, st, h, hk, hp, hc => by
    have em : ex G pin (.par is es) = exPar pin is (evs G pin es) := by funext ρ; simp only [ex, exPar]
    rw [em]
    have hk' : X.env.scope.kind = .function := by rw [h.scp]; exact hk
    unfold chkS at hc; split at hc
    · split at hc
      · simp only [Bool.and_eq_true, decide_eq_true_eq, Bool.or_eq_true] at hc
        obtain ⟨⟨⟨h1, h2⟩, h9⟩, alt⟩ := hc
        have hs := chkA_star h9
        have nd := h.nd; rw [h.nm] at nd
        rcases alt with ⟨⟨⟨⟨⟨h3, h4⟩, h5⟩, h6⟩, h7⟩, h8⟩ | ⟨⟨h3, h4⟩, h5⟩
        · simp only [Bool.not_eq_true'] at h7 h8
          exact ps_parD h.calm h.nd (by rw [h.nm]; exact h1) (by rw [h.nm]; exact h2) h3 (by rw [h.scp]; exact h4) (by rw [h.scp]; exact h5) (sA es h h9) (sw2 hk' (by rw [h.scp]; exact h4) (by rw [h.scp]; exact h5) h6 (nodup_ne nd h1 h2 h3) (hs _ (by simp)) (hs _ (by simp)) h7 h8) rfl
        · obtain ⟨a1, a2⟩ := h.loc h3
          obtain ⟨b1, b2⟩ := h.loc h4
          exact ps_parT h.calm h.nd (.cons (by rw [h.nm]; exact h1) a1 a2 (.cons (by rw [h.nm]; exact h2) b1 b2 .nil)) (sA es h h9) (by simp) (sw2n (by rw [h.scp]; exact h5)) rfl
      · cases hc
    · split at hc
      · simp only [Bool.and_eq_true, decide_eq_true_eq, Bool.or_eq_true] at hc
        obtain ⟨⟨⟨⟨h1, h2⟩, h3⟩, h14⟩, alt⟩ := hc
        have hs := chkA_star h14
        have nd := h.nd; rw [h.nm] at nd
        rcases alt with ⟨⟨⟨⟨⟨⟨⟨⟨⟨h4, h5⟩, h6⟩, h7⟩, h8⟩, h9⟩, h10⟩, h11⟩, h12⟩, h13⟩ | ⟨⟨⟨h4, h5⟩, h6⟩, h7⟩
        · simp only [Bool.not_eq_true'] at h12 h13
          exact ps_par3D h.calm h.nd (by rw [h.nm]; exact h1) (by rw [h.nm]; exact h2) (by rw [h.nm]; exact h3) h4 h5 h6 (by rw [h.scp]; exact h7) (by rw [h.scp]; exact h8) (by rw [h.scp]; exact h9) (sA es h h14)
            (sw3 hk' (by rw [h.scp]; exact h7) (by rw [h.scp]; exact h8) (by rw [h.scp]; exact h9) h10 h11 (nodup_ne nd h1 h2 h4) (nodup_ne nd h1 h3 h5) (nodup_ne nd h2 h3 h6) (hs _ (by simp)) (hs _ (by simp)) (hs _ (by simp)) h12 h13) rfl
        · obtain ⟨a1, a2⟩ := h.loc h4
          obtain ⟨b1, b2⟩ := h.loc h5
          obtain ⟨c1, c2⟩ := h.loc h6
          exact ps_parT h.calm h.nd (.cons (by rw [h.nm]; exact h1) a1 a2 (.cons (by rw [h.nm]; exact h2) b1 b2 (.cons (by rw [h.nm]; exact h3) c1 c2 .nil))) (sA es h h14) (by simp) (sw3n (by rw [h.scp]; exact h7)) rfl
      · cases hc
    · cases hc
  | .expr e, sc, X, st, h, hk, hp, hc => by
    have em : ex G pin (.expr e) = exExpr (ev G pin e) := by funext ρ; simp only [ex, exExpr]
    rw [em]
    unfold chkS at hc; split at hc
    · simp only [Bool.and_eq_true] at hc
      exact ps_exprD (sE e h hc.2).1 (sw_none hc.1)
    · cases hc
  | .ret e, sc, X, st, h, hk, hp, hc => by
    have em : ex G pin (.ret e) = exRet (ev G pin e) := by funext ρ; simp only [ex, exRet]
    rw [em]
    unfold chkS at hc; split at hc
    · exact ps_retD (sE e h hc).1
    · cases hc
  | .retN, sc, X, st, h, hk, hp, hc => by
    have em : ex G pin .retN = exFl (.ret (.val .none)) := by funext ρ; simp only [ex, exFl]
    rw [em]
    unfold chkS at hc; split at hc
    · exact ps_retND
    · cases hc
  | .ite c a b, sc, X, st, h, hk, hp, hc => by
    have em : ex G pin (.ite c a b) = exIf (ev G pin c) (exs G pin a) (exs G pin b) := by funext ρ; simp only [ex, exIf]
    rw [em]
    unfold chkS at hc; split at hc
    · simp only [Bool.and_eq_true] at hc
      exact ps_ifD ((sE c h hc.1.1.1).2 hc.1.1.2) (sSs a h hk hp hc.1.2) (sSs b h hk hp hc.2)
    · cases hc
  | .fore t it b, sc, X, st, h, hk, hp, hc => by
    have em : ex G pin (.fore t it b) = exFor (evI G pin it) (asgE G pin t) (exs G pin b) := by funext ρ; simp only [ex, exFor]
    rw [em]
    unfold chkS at hc; split at hc
    · simp only [Bool.and_eq_true] at hc
      exact ps_forD hp h.calm (sI it h hc.1.1.2) (sG t h hc.1.2) (sSs b h hk hp hc.2) (set_ok hc.1.1.1)
    · cases hc
  | .pass, sc, X, st, h, hk, hp, hc => by
    have em : ex G pin .pass = exFl .next := by funext ρ; simp only [ex, exFl]
    rw [em]
    unfold chkS at hc; split at hc
    · exact ps_passD
    · cases hc
  | .brk, sc, X, st, h, hk, hp, hc => by
    have em : ex G pin .brk = exFl .brk := by funext ρ; simp only [ex, exFl]
    rw [em]
    unfold chkS at hc; split at hc
    · exact ps_brkD
    · cases hc
  | .cont, sc, X, st, h, hk, hp, hc => by
    have em : ex G pin .cont = exFl .cont := by funext ρ; simp only [ex, exFl]
    rw [em]
    unfold chkS at hc; split at hc
    · exact ps_contD
    · cases hc
  | .doc, sc, X, st, h, hk, hp, hc => by
    have em : ex G pin .doc = exFl .next := by funext ρ; simp only [ex, exFl]
    rw [em]
    unfold chkS at hc; split at hc
    · exact ps_docD
    · cases hc
  | .never, sc, X, st, h, hk, hp, hc => by
    have em : ex G pin .never = exStuck := by funext ρ; simp only [ex, exStuck]
    rw [em]
    exact ps_neverD
theorem sSs : ∀ (c : CB) {sc : Scope} {X : Cx} {st : List Stmt}, CxOk G N sc sc X → sc.kind = .function → PassesOwn (model X.prog X.w) X.A X.env X.xe → chkSs N sc c st = true → PSs X st (TSof X.K pin (exs G pin c))
  | .nil, sc, X, st, h, hk, hp, hc => by
    cases st with
    | nil => rw [exs_nil]; exact pss_nilD
    | cons _ _ => simp [chkSs] at hc
  | .cons s r, sc, X, st, h, hk, hp, hc => by
    cases st with
    | nil => simp [chkSs] at hc
    | cons s' r' =>
      simp only [chkSs, Bool.and_eq_true] at hc
      rw [exs_cons]
      exact pss_consD (sS s h hk hp hc.1) (sSs r h hk hp hc.2)
end
end DI
end

section
set_option maxRecDepth 100000
/-! KR: a law's end. -/
namespace DI
open PySem PySem.Spec PyProof.Rows L2

theorem das_ints {K : PySem.W.Frag} {Z : Addr → Prop} {H : Hp} : ∀ ns : List Int, DAs K Z H (ns.map V.int) (ns.map PyData.int)
  | [] => .nil
  | n :: ns => .cons (.int n) (das_ints ns)
section
variable {P : Program} {w : World} {K : PySem.W.Frag} {mg mb : Str → Option Value} {k : Nat} {fa a : Addr} {fd : FuncData} {x : Str} {F : FI} {s₁ : Shared} {vs : List Value} {ns : List Int}
theorem law_end (KX : K.In s₁.heap) (hns : s₁.heap.Ns mainGlobals mg) (hb : s₁.heap.Ns builtinsNs mb) (hbb : ∀ x : Str, x ≠ "__name__" → mb x = bootBuiltins x) (hlim : s₁.heap.NoLimit) (hg : s₁.gens = #[])
    (ha : s₁.heap.get? a = some { cls := .type "list", data := .seq vs.toArray }) (hi : IntsAre vs ns) (hl : ns.length ≤ sizeLine) (hr : Room k callerA)
    (FG : ∀ base : Heap, K.In base → base.Ns mainGlobals mg → FnG P w K mg base CX0 k fa fd [x] (SpI K F 1)) (hbind : ∀ (s : Shared) (u : Value), BindsTo s fd ⟨[u], []⟩ [(x, u)])
    (hmx : F.mx = none) (hsem : F.sem [.val (scr (ns.map PyData.int))] = .ok (.val (.bool true), none)) :
    codeAny (model P w) callerA (.call (.ref fa) ⟨[.ref a], []⟩) (fun r s' => r = .ok (.ret (.bool true)) ∧ OldK s₁.heap s'.heap ∧ s'.os = s₁.os ∧ AllBare s'.gens) s₁ := by
  have rv := vals_ints hi
  have lenV := hi.length
  -- over a heap in which at most the script stands
  have main : ∀ H : Hp, (∀ b, H b = none ∨ (b = a ∧ K.lookup a = none ∧ ∃ ob xs, H b = some (.frz ob (.lst xs)))) → DA K (fun _ => False) H (.ref a) (scr (ns.map PyData.int)) → HOk P w H s₁.heap →
      codeAny (model P w) callerA (.call (.ref fa) ⟨[.ref a], []⟩) (fun r s' => r = .ok (.ret (.bool true)) ∧ OldK s₁.heap s'.heap ∧ s'.os = s₁.os ∧ AllBare s'.gens) s₁ := by
    intro H only hd ok
    have offDict : ∀ {b : Addr} {o : Obj} {es : Array DictEntry} {ep : Nat}, s₁.heap.get? b = some o → o.data = .dict es ep → H b = none := by
      intro b o es ep e d
      rcases only b with z | ⟨rfl, _⟩
      · exact z
      · rw [ha] at e; cases e; cases (show Data.seq vs.toArray _ = Data.dict es ep from d)
    have ns2 : ∀ {b : Addr} {m : Str → Option Value}, s₁.heap.Ns b m → (hidT s₁.heap H).Ns b m := by
      rintro b m ⟨o, es, ep, e, d, r⟩
      exact ⟨o, es, ep, hidT_get e (offDict e d), d, r⟩
    have KH : K.In (hidT s₁.heap H) := fun b o e => hidT_get (KX b o e) ((only b).elim (fun z => z) fun ⟨hb, hn, _⟩ => by rw [hb, hn] at e; cases e)
    have MH : Mod K mg (hidT s₁.heap H) := ⟨KH, ns2 hns, ⟨mb, ns2 hb, hbb⟩, hlim.elim fun mc h => ⟨mc, ns2 h.1, h.2⟩⟩
    have env : Env0 P w K mg (hidT s₁.heap H) callerA [] s₁ H := ⟨rfl, MH, fun b o e => of_hidT e, Nat.le_of_eq (hidT_size _ _), trivial, nofun, ok, .of_eq hg⟩
    have prom : SpI K F 1 [.ref a] H (fun v _ => v = .bl true) (fun _ _ _ => False) := by
      refine ⟨fun _ => False, [.val (scr (ns.map PyData.int))], .val (.bool true), none, rfl, fun _ z => z.elim, ⟨⟨by rw [hmx]; nofun, hd⟩, trivial⟩, hsem, fun v H' Zf post => ?_⟩
      have q := post.res
      cases q
      rfl
    refine codeAny_mono ((FG _ KH (ns2 hns)).run callerA [] s₁ H ⟨[.ref a], []⟩ [.ref a] [.ref a] _ _ hr rfl env (hbind s₁ (.ref a)) (.cons rfl .nil) prom) ?_
    intro r s' h
    cases r with
    | error e => exact h.elim
    | ok fl => cases fl with
      | ret u =>
        obtain ⟨v, H', os, bare, un, ok', rr, q⟩ := h
        subst q
        obtain rfl : u = Value.bool true := rr
        refine ⟨rfl, OldK.of_keep ?_, os, bare⟩
        intro b o e
        rcases only b with z | ⟨_, _, ob, xs, z⟩
        · exact un.keep b o e z nofun nofun
        · have g1 := (ok b _ z).1
          have g2 := (ok' b _ (un.frzs b ob _ z)).1
          rw [e] at g1; cases g1
          exact g2
      | _ => exact h.elim
  cases hk : K.lookup a with
  | some o =>
    have e := KX a o hk
    rw [ha] at e; cases e
    exact main (fun _ => none) (fun _ => .inl rfl) (.scrK ⟨_, vs.toArray, _, hk, rfl, rfl, rfl, by rw [List.size_toArray, lenV]; exact hl, by simpa using rv⟩ (das_ints ns)) nofun
  | none =>
    refine main (fun b => if b = a then some (.frz { cls := .type "list", data := .seq vs.toArray } (.lst (ns.map V.int))) else none) ?_ (.scrF id (if_pos rfl) (das_ints ns)) ?_
    · intro b
      by_cases q : b = a
      · exact .inr ⟨q, hk, _, _, if_pos q⟩
      · exact .inl (if_neg q)
    · intro b u z
      dsimp only at z
      by_cases q : b = a
      · subst q
        rw [if_pos rfl] at z; cases z
        exact ⟨ha, by rw [List.length_map]; exact hl, vs, _, rv, ha⟩
      · rw [if_neg q] at z; cases z
end
/-- the goal that the head leaves, by the core's meaning -/
theorem walk_end {l : PySem.W.OpenLaw} {n k : Nat} {q : Program} {loose : List Str} {XP : (Str → Option Value) → Heap → Prop} {YP : World → Heap → Prop} {d : DefRec} {x : Str}
    (hn : l.most = some n) (hn2 : n ≤ sizeLine) (hdf : d.params.defaults = []) (hr : Room k callerA)
    (W : ∀ (w : World) (mg : Str → Option Value) (fa : Addr) (h : Heap), YP w h → h.Ns mainGlobals mg → mg d.name = some (.ref fa) →
      ∃ (K : PySem.W.Frag) (fd : FuncData) (F : FI), K.In h ∧ (∀ (s : Shared) (u : Value), BindsTo s fd ⟨[u], []⟩ [(x, u)]) ∧ F.mx = none ∧ (∀ ns : List Int, ns.length ≤ n → F.sem [.val (scr (ns.map PyData.int))] = .ok (.val (.bool true), none)) ∧
        ∀ base : Heap, K.In base → base.Ns mainGlobals mg → FnG l.prog w K mg base CX0 k fa fd [x] (SpI K F 1)) :
    PySem.W.WalkO q loose XP YP l.row.toRowW d [] (fun f vs => PySem.call f vs) := by
  refine Att.attach_call hn hdf ?_
  intro w s₀ s₁ mg mb fa o pm cd doc a vs ns G Y ho hd hcd hmg hobj hints hlen hg
  obtain ⟨K, fd, F, KX, hb, hmx, hsem, hF⟩ := W w mg fa _ Y G.T.g hmg
  exact law_end KX G.T.g G.T.b G.T.builtins G.T.nolimit hg hobj hints (Nat.le_trans hlen hn2) hr hF hb hmx (hsem ns hlen)
end DI
end

section
set_option maxRecDepth 100000
/-! KS: the head's facts, turned to the core. -/
namespace DI
open PySem PySem.Spec PyProof.Rows L2

/-! ### constants of the module -/
/-- the value u of the written part is the data d (tuples, depth n) -/
def relD (K : PySem.W.Frag) : Nat → Value → D → Bool
  | _, .none, .none => true
  | _, .bool a, .bool b => a == b
  | _, .int i _, .int j => decide (i = j)
  | _, .str x _, .str y => decide (x = y)
  | n + 1, .ref a, .tuple ds => match K.lookup a with
    | some ⟨.type c, none, .seq its _, _⟩ => decide (c = "tuple") && decide (its.size ≤ sizeLine) && (its.toList.length == ds.length) && (its.toList.zip ds).all fun q => relD K n q.1 q.2
    | _ => false
  | _, _, _ => false
theorem das_zip {K : PySem.W.Frag} {n : Nat} (ih : ∀ u d, relD K n u d = true → ∃ v, RelV v u ∧ DA K (fun _ => True) (fun _ => none) v d) : ∀ {us : List Value} {ds : List D}, (us.length == ds.length) = true → ((us.zip ds).all fun q => relD K n q.1 q.2) = true → ∃ vs, Vals vs us ∧ DAs K (fun _ => True) (fun _ => none) vs ds
  | [], [], _, _ => ⟨[], .nil, .nil⟩
  | [], _ :: _, h, _ => by simp at h
  | _ :: _, [], h, _ => by simp at h
  | u :: us, d :: ds, h, g => by
    simp only [List.zip_cons_cons, List.all_cons, Bool.and_eq_true] at g
    obtain ⟨v, r, q⟩ := ih u d g.1
    obtain ⟨vs, rs, qs⟩ := das_zip ih (by simpa using h) g.2
    exact ⟨v :: vs, .cons r rs, .cons q qs⟩
theorem relD_ok {K : PySem.W.Frag} : ∀ (n : Nat) (u : Value) (d : D), relD K n u d = true → ∃ v, RelV v u ∧ DA K (fun _ => True) (fun _ => none) v d := by
  intro n
  induction n with
  | zero =>
    intro u d h
    unfold relD at h
    split at h
    · exact ⟨.non, rfl, .non⟩
    · rename_i a b
      have e : a = b := by simpa using h
      subst e
      exact ⟨.bl a, rfl, .bl a⟩
    · rename_i i t j
      have e : i = j := by simpa using h
      subst e
      exact ⟨.int i, ⟨t, rfl⟩, .int i⟩
    · rename_i x t y
      have e : x = y := by simpa using h
      subst e
      exact ⟨.str x, ⟨t, rfl⟩, .str x⟩
    · rename_i e; cases e
    · cases h
  | succ n ih =>
    intro u d h
    unfold relD at h
    split at h
    · exact ⟨.non, rfl, .non⟩
    · rename_i a b
      have e : a = b := by simpa using h
      subst e
      exact ⟨.bl a, rfl, .bl a⟩
    · rename_i i t j
      have e : i = j := by simpa using h
      subst e
      exact ⟨.int i, ⟨t, rfl⟩, .int i⟩
    · rename_i x t y
      have e : x = y := by simpa using h
      subst e
      exact ⟨.str x, ⟨t, rfl⟩, .str x⟩
    · rename_i m a ds e
      cases e
      split at h
      · rename_i c its k sl hk
        simp only [Bool.and_eq_true, decide_eq_true_eq] at h
        obtain ⟨⟨⟨rfl, h2⟩, h3⟩, h4⟩ := h
        obtain ⟨vs, rs, qs⟩ := das_zip ih h3 h4
        exact ⟨.ref a, rfl, .tupK ⟨_, its, k, hk, rfl, rfl, rfl, h2, rs⟩ qs⟩
      · cases h
    · cases h
/-- the module's name x stands for d -/
def cstB (K : PySem.W.Frag) (q : Str × D) : Bool := match PySem.W.nsIn K mainGlobals q.1 with
  | some (some u) => relD K 8 u q.2
  | _ => false

/-! ### the Hook -/
abbrev AlG : Type := He.AlD × Bool
def obsX (fa : List He.Fa) (fn : List He.DefD) (cs : List (Str × D)) (ex : List (PySem.W.Frag → Bool)) (K : PySem.W.Frag) : AlG := (He.obsD fa fn K, cs.all (cstB K) && ex.all fun f => f K)
def obsG (n : Nat) (fa : List He.Fa) (fn : List He.DefD) (cs : List (Str × D)) (ex : List (PySem.W.Frag → Bool)) (g : Addr → Option Obj) : AlG := obsX fa fn cs ex (He.frG g (He.asD g n))
def SaysG (fa : List He.Fa) (fn : List He.DefD) (cs : List (Str × D)) (ex : List (PySem.W.Frag → Bool)) (K : PySem.W.Frag) : Prop := obsX fa fn cs ex K = (He.valD fn, true)
def hookG (n : Nat) (fa : List He.Fa) (fn : List He.DefD) (cs : List (Str × D)) (ex : List (PySem.W.Frag → Bool)) : PySem.W.Hook where
  α := AlG
  obs := fun s => obsG n fa fn cs ex s.heap.get?
  val := fun _ => (He.valD fn, true)
  says := fun _ h => ∃ K : PySem.W.Frag, K.In h ∧ SaysG fa fn cs ex K
  of := fun _ _ e => ⟨_, He.frG_in, e⟩
  keeps := fun _ _ _ ⟨K, i, c⟩ k => ⟨K, PySem.W.Frag.In.keeps i k, c⟩
theorem obsG_eq {n : Nat} {fa : List He.Fa} {fn : List He.DefD} {cs : List (Str × D)} {ex : List (PySem.W.Frag → Bool)} {g : Addr → Option Obj} {s : Shared} (h : ∀ a, g a = s.heap.get? a) : obsG n fa fn cs ex g = (hookG n fa fn cs ex).obs s := by
  obtain rfl : g = s.heap.get? := funext h
  rfl

/-! ### defs of the core -/
def Ge.of (l : List (Str × FI)) (c : List (Str × D)) : Ge := ⟨fun f => l.lookup f, fun x => c.lookup x⟩
section
variable {P : Program} {w : World} {K : PySem.W.Frag} {mg : Str → Option Value} {base : Heap} {k j : Nat}
/-- a def of the module, by its meaning; k: how deep it calls -/
def CalK (P : Program) (w : World) (K : PySem.W.Frag) (mg : Str → Option Value) (base : Heap) (k : Nat) (f : Str) (F : FI) : Prop :=
  ∃ (fa : Addr) (fd : FuncData), FnG P w K mg base CX0 k fa fd F.ps (SpI K F F.ps.length) ∧ mg f = some (.ref fa) ∧ PySem.W.keepIn K (.ref fa) = true ∧ BindAll fd F.ps ∧ BindKs fd F.ps F.ps
theorem CalK.mono {f : Str} {F : FI} (h : CalK P w K mg base j f F) (l : j ≤ k) : CalK P w K mg base k f F := let ⟨fa, fd, F1, r⟩ := h; ⟨fa, fd, F1.mono l, r⟩
inductive Cals (P : Program) (w : World) (K : PySem.W.Frag) (mg : Str → Option Value) (base : Heap) (k : Nat) : List (Str × FI) → Prop where
  | nil : Cals P w K mg base k []
  | cons {f : Str} {F : FI} {l : List (Str × FI)} {j : Nat} : CalK P w K mg base j f F → j ≤ k → Cals P w K mg base k l → Cals P w K mg base k ((f, F) :: l)
theorem Cals.get : ∀ {l : List (Str × FI)} {f : Str} {F : FI}, Cals P w K mg base k l → l.lookup f = some F → CalK P w K mg base k f F
  | _, f, F, .nil, e => by cases e
  | (g, G) :: l, f, F, .cons h le t, e => by
    by_cases q : f = g
    · subst q
      simp at e
      subst e
      exact h.mono le
    · rw [List.lookup_cons, show (f == g) = false from by simpa using q] at e
      exact t.get e
/-- what the module's own part says: constants, free names -/
structure ModG (K : PySem.W.Frag) (mg : Str → Option Value) (cs : List (Str × D)) : Prop where
  cst : ∀ x d, cs.lookup x = some d → ∃ v u, mg x = some u ∧ RelV v u ∧ DA K (fun _ => True) (fun _ => none) v d
  blt : ∀ x ∈ bltNames, mg x = none
theorem lookup_mem {α : Type} {x : Str} {y : α} : ∀ {l : List (Str × α)}, l.lookup x = some y → (x, y) ∈ l
  | [], h => by cases h
  | (z, w) :: l, h => by
    by_cases q : x = z
    · subst q
      simp at h
      subst h
      exact List.mem_cons_self
    · rw [List.lookup_cons, show (x == z) = false from by simpa using q] at h
      exact List.mem_cons_of_mem _ (lookup_mem h)
theorem modG {h : Heap} {fa : List He.Fa} {fn : List He.DefD} {cs : List (Str × D)} {ex : List (PySem.W.Frag → Bool)} (X : K.In h) (G : h.Ns mainGlobals mg) (c : SaysG fa fn cs ex K) (hf : ∀ x ∈ bltNames, He.Fa.free x ∈ fa) : ModG K mg cs := by
  have c1 : He.obsD fa fn K = He.valD fn := congrArg Prod.fst c
  have c2 : (cs.all (cstB K) && ex.all fun f => f K) = true := congrArg Prod.snd c
  rw [Bool.and_eq_true] at c2
  refine ⟨fun x d e => ?_, fun x hx => ?_⟩
  · have q := List.all_eq_true.mp c2.1 _ (lookup_mem e)
    unfold cstB at q
    split at q
    · rename_i u hu
      obtain ⟨v, r, dd⟩ := relD_ok 8 u d q
      exact ⟨v, u, PySem.W.mg_of X G hu, r, dd⟩
    · cases q
  · have q := (He.ba (congrArg Prod.fst c1)).1
    exact He.free_ok X G (List.all_eq_true.mp q _ (hf x hx))
theorem Says.def_ {fa : List He.Fa} {fn : List He.DefD} {cs : List (Str × D)} {ex : List (PySem.W.Frag → Bool)} (c : SaysG fa fn cs ex K) : He.SaysD fa fn K := congrArg Prod.fst c
def scG (N ps : List Str) (sc : Scope) : Bool := decide (sc.kind = .function ∧ sc.isCoroutine = false ∧ sc.isGenerator = false ∧ N.Nodup ∧ N.take ps.length = ps ∧ (∀ x ∈ ps, sc.names.lookup x = some .local ∨ sc.names.lookup x = some .cell) ∧ ∀ y ∈ sc.names, y.2 ≠ .free)
theorem scG_ok {N ps : List Str} {sc : Scope} (h : scG N ps sc = true) : FnScope N ps sc :=
  let ⟨a, b, c, d, e, f, g⟩ := of_decide_eq_true h
  ⟨a, b, c, d, e, f, g⟩
/-- THE DEF: by its core -/
theorem mkFn {G : Ge} {l : List (Str × FI)} {cs : List (Str × D)} {C : CF} {N ps : List Str} {x : Str} {params : Arguments} {body : List Stmt} {scope : Scope} {f : Addr} {fd : FuncData} (hG : G = Ge.of l cs) (F : FunD K x x params body scope [] [] f fd)
    (M : ModG K mg cs) (L : Cals P w K mg base k l) (hS : scG N ps scope = true) (hn : N.length = C.n) (hp : ps.length = C.ps) (hc : chkSs N scope C.body body = true) :
    FnG P w K mg base CX0 (k + 1) f fd ps (SpI K ⟨run G C, ps, C.pin⟩ ps.length) := by
  obtain ⟨oc, od, dV, kV, doc, pm, an, cdv, ct, osl, rfl, lk, hcd, hD, hK⟩ := F.ex
  have S := scG_ok hS
  refine fn_ofG lk hcd S (fun vs H Q E h => ?_) ?_
  · obtain ⟨_, _, _, _, hl, _⟩ := h
    exact hl
  · intro A outer s H vs Q E hr hgd hsp
    have ok : CxOk G N scope scope (cxOf CX0 P w K mg base N x scope f cdv A outer s H E) := by
      refine ⟨rfl, rfl, rfl, S.nd, hgd, ?_, fun _ _ => rfl, ?_⟩
      · have := hr.un
        show (A.deeper (envOfC x scope s.heap.objs.size f cdv)).units + 70 < cLine
        omega
      · subst hG
        refine ⟨fun g Fg hg => ?_, M.cst, M.blt⟩
        obtain ⟨fa, fd, F1, r1, r2, r3, r4⟩ := L.get hg
        exact ⟨k, fa, fd, F1, hr, r1, r2, r3, r4⟩
    have hb := sSs (pin := C.pin) C.body ok S.kind (passes_of rfl) hc
    exact body_ok (X := cxOf CX0 P w K mg base N x scope f cdv A outer s H E) rfl hn hb (by rw [← hp]; exact hsp)
theorem FunD.noDefaults {x : Str} {params : Arguments} {body : List Stmt} {scope : Scope} {f : Addr} {fd : FuncData} (F : FunD K x x params body scope [] [] f fd) : ∃ (kV doc pm : Value) (an : Option Addr) (cdv ct : Value), fd = PySem.W.fnOf x x params body scope .none kV doc pm an cdv ct := by
  obtain ⟨oc, od, dV, kV, doc, pm, an, cdv, ct, osl, rfl, lk, hcd, hD, hK⟩ := F.ex
  rcases hD with ⟨_, e⟩ | ⟨e, _⟩
  · exact ⟨kV, doc, pm, an, cdv, ct, by rw [e]⟩
  · exact absurd rfl e
theorem mkCal {G : Ge} {l : List (Str × FI)} {cs : List (Str × D)} {C : CF} {N ps : List Str} {x : Str} {params : Arguments} {body : List Stmt} {scope : Scope} {f : Addr} {fd : FuncData} (hG : G = Ge.of l cs) (F : FunD K x x params body scope [] [] f fd) (hm : mg x = some (.ref f))
    (M : ModG K mg cs) (L : Cals P w K mg base k l) (hS : scG N ps scope = true) (hn : N.length = C.n) (hp : ps.length = C.ps) (hc : chkSs N scope C.body body = true)
    (hb : ∀ (kV doc pm : Value) (an : Option Addr) (cdv ct : Value) (us : List Value), us.length = ps.length → bindArgs (PySem.W.fnOf x x params body scope .none kV doc pm an cdv ct) ⟨us, []⟩ = pure (ps.zip us))
    (hbk : ∀ (kV doc pm : Value) (an : Option Addr) (cdv ct : Value) (us : List Value), us.length = ps.length → bindArgs (PySem.W.fnOf x x params body scope .none kV doc pm an cdv ct) ⟨[], ps.zip us⟩ = pure (ps.zip us)) :
    CalK P w K mg base (k + 1) x ⟨run G C, ps, C.pin⟩ := by
  refine ⟨f, fd, mkFn hG F M L hS hn hp hc, hm, F.kp, ?_⟩
  obtain ⟨kV, doc, pm, an, cdv, ct, rfl⟩ := FunD.noDefaults F
  exact ⟨fun us hl => hb _ _ _ _ _ _ us hl, fun us hl => hbk _ _ _ _ _ _ us hl⟩
end
end DI
end

section
set_option maxRecDepth 100000
/-! KT: loops of the core in plain terms. -/
namespace DI
open PySem L2

/-- a comprehension whose turns leave the slots as they are -/
theorem lcLoop_map {f : D → ES → Out (Option D × ES)} {ρ : ES} {g : D → D} : ∀ {ds : List D}, (∀ d ∈ ds, f d ρ = .ok (some (g d), ρ)) → lcLoop f ds ρ = .ok (ds.map g, ρ)
  | [], _ => rfl
  | d :: ds, h => by
    have h1 := h d List.mem_cons_self
    have h2 := lcLoop_map fun x m => h x (List.mem_cons_of_mem _ m)
    simp only [lcLoop, h1, h2, Out.bind, List.map_cons]
theorem lcLoop_filterMap {f : D → ES → Out (Option D × ES)} {ρ : ES} {g : D → Option D} : ∀ {ds : List D}, (∀ d ∈ ds, f d ρ = .ok (g d, ρ)) → lcLoop f ds ρ = .ok (ds.filterMap g, ρ)
  | [], _ => rfl
  | d :: ds, h => by
    have h1 := h d List.mem_cons_self
    have h2 := lcLoop_filterMap fun x m => h x (List.mem_cons_of_mem _ m)
    simp only [lcLoop, h1, h2, Out.bind, List.filterMap_cons]
    cases g d <;> rfl
inductive All2 {α β : Type} (P : α → β → Prop) : List α → List β → Prop where
  | nil : All2 P [] []
  | cons {a : α} {b : β} {as : List α} {bs : List β} : P a b → All2 P as bs → All2 P (a :: as) (b :: bs)
theorem All2.length {α β : Type} {P : α → β → Prop} : ∀ {as : List α} {bs : List β}, All2 P as bs → bs.length = as.length
  | _, _, .nil => rfl
  | _, _, .cons _ t => by simp [t.length]
theorem All2.right {α β : Type} {P : α → β → Prop} : ∀ {as : List α} {bs : List β}, All2 P as bs → ∀ b ∈ bs, ∃ a ∈ as, P a b
  | _, _, .nil, b, m => by cases m
  | _, _, .cons (a := x) h t, b, m => by
    rcases List.mem_cons.mp m with e | m
    · subst e; exact ⟨x, List.mem_cons_self, h⟩
    · obtain ⟨a, ha, p⟩ := t.right b m
      exact ⟨a, List.mem_cons_of_mem _ ha, p⟩
/-- a comprehension whose turns change the slots: I stays, P is known of each item -/
theorem lcLoop_inv {f : D → ES → Out (Option D × ES)} (I : ES → Prop) (P : D → D → Prop) : ∀ {ds : List D} {ρ : ES}, (∀ d ∈ ds, ∀ ρ, I ρ → ∃ y ρ', f d ρ = .ok (some y, ρ') ∧ I ρ' ∧ P d y) → I ρ → ∃ ys ρ', lcLoop f ds ρ = .ok (ys, ρ') ∧ I ρ' ∧ All2 P ds ys
  | [], ρ, _, i => ⟨[], ρ, rfl, i, .nil⟩
  | d :: ds, ρ, h, i => by
    obtain ⟨y, ρ1, h1, i1, p1⟩ := h d List.mem_cons_self ρ i
    obtain ⟨ys, ρ2, h2, i2, p2⟩ := lcLoop_inv I P (fun x m => h x (List.mem_cons_of_mem _ m)) i1
    exact ⟨y :: ys, ρ2, by simp only [lcLoop, h1, h2, Out.bind], i2, .cons p1 p2⟩
/-- a loop that goes on or returns r -/
theorem for_all {f : D → ES → Out (Fl × ES)} (I : ES → Prop) (p : D → Bool) (r : R) : ∀ {ds : List D} {ρ : ES}, (∀ d ∈ ds, ∀ ρ, I ρ → ∃ ρ', I ρ' ∧ f d ρ = .ok (if p d = true then .next else .ret r, ρ')) → I ρ → ∃ ρ', I ρ' ∧ forLoop f ds ρ = .ok (if ds.all p = true then .next else .ret r, ρ')
  | [], ρ, _, i => ⟨ρ, i, rfl⟩
  | d :: ds, ρ, h, i => by
    obtain ⟨ρ1, i1, h1⟩ := h d List.mem_cons_self ρ i
    cases hp : p d with
    | false =>
      refine ⟨ρ1, i1, ?_⟩
      simp only [forLoop, h1, hp, Out.bind, List.all_cons, Bool.false_and, Bool.false_eq_true, if_false]
    | true =>
      obtain ⟨ρ2, i2, h2⟩ := for_all I p r (fun x m => h x (List.mem_cons_of_mem _ m)) i1
      refine ⟨ρ2, i2, ?_⟩
      simp only [forLoop, h1, hp, Out.bind, List.all_cons, Bool.true_and, if_true]
      exact h2
/-- a loop that only goes on, by a fold -/
theorem for_fold {f : D → ES → Out (Fl × ES)} {α : Type} (I : α → ES → Prop) (g : α → D → α) : ∀ {ds : List D} {ρ : ES} {a : α}, (∀ d ∈ ds, ∀ a ρ, I a ρ → ∃ ρ', I (g a d) ρ' ∧ f d ρ = .ok (.next, ρ')) → I a ρ → ∃ ρ', I (ds.foldl g a) ρ' ∧ forLoop f ds ρ = .ok (.next, ρ')
  | [], ρ, a, _, i => ⟨ρ, i, rfl⟩
  | d :: ds, ρ, a, h, i => by
    obtain ⟨ρ1, i1, h1⟩ := h d List.mem_cons_self a ρ i
    obtain ⟨ρ2, i2, h2⟩ := for_fold I g (fun x m => h x (List.mem_cons_of_mem _ m)) i1
    exact ⟨ρ2, i2, by simp only [forLoop, h1, Out.bind, h2]⟩
@[simp] theorem t_ok {α β : Type} (a : α) (f : α → Out β) : Out.bind (.ok a) f = f a := Eq.trans rfl rfl
@[simp] theorem t_stuck {α β : Type} (f : α → Out β) : Out.bind .stuck f = .stuck := Eq.trans rfl rfl
@[simp] theorem t_ite {α β : Type} (c : Prop) [Decidable c] (x y : Out α) (f : α → Out β) : Out.bind (if c then x else y) f = if c then Out.bind x f else Out.bind y f := by split <;> rfl
theorem shaped_int (i : Int) : SeqAt.shaped (.int i) = true := rfl
@[simp] theorem co_eq_int (i j : Int) : co .eq (.int i) (.int j) = .ok (decide (i = j)) := by
  simp [co, shaped_int, PyData.eqv]
  by_cases h : i = j <;> simp [h]
@[simp] theorem co_ne_int (i j : Int) : co .ne (.int i) (.int j) = .ok (!decide (i = j)) := by
  simp [co, shaped_int, PyData.eqv]
  by_cases h : i = j <;> simp [h]
@[simp] theorem co_eq_str (i j : Str) : co .eq (.str i) (.str j) = .ok (decide (i = j)) := Eq.trans rfl rfl
@[simp] theorem co_ne_str (i j : Str) : co .ne (.str i) (.str j) = .ok (!decide (i = j)) := Eq.trans rfl rfl
@[simp] theorem co_lt_int (i j : Int) : co .lt (.int i) (.int j) = .ok (decide (i < j)) := Eq.trans rfl rfl
@[simp] theorem co_le_int (i j : Int) : co .le (.int i) (.int j) = .ok (decide (i ≤ j)) := Eq.trans rfl rfl
@[simp] theorem co_gt_int (i j : Int) : co .gt (.int i) (.int j) = .ok (decide (j < i)) := Eq.trans rfl rfl
@[simp] theorem co_ge_int (i j : Int) : co .ge (.int i) (.int j) = .ok (decide (j ≤ i)) := Eq.trans rfl rfl
@[simp] theorem co_isN (d : D) : co .isN d .none = .ok (isNon d) := by cases d <;> rfl
@[simp] theorem co_notN (d : D) : co .notN d .none = .ok (!isNon d) := by cases d <;> rfl
@[simp] theorem co_isB (a b : Bool) : co .isB (.bool a) (.bool b) = .ok (decide (a = b)) := Eq.trans rfl rfl
@[simp] theorem co_in_list (d : D) (xs : List D) (h : (SeqAt.shaped d && SeqAt.shaped (.list xs)) = true) : co .inn d (.list xs) = .ok (xs.any fun z => PyData.eqv z d) := by simp only [co, inD, h, if_true]
@[simp] theorem co_in_tup (d : D) (xs : List D) (h : (flatD d && xs.all flatD) = true) : co .inn d (.tuple xs) = .ok (xs.any fun z => PyData.eqv z d) := by simp only [co, inD, h, if_true]
@[simp] theorem co_nin_tup (d : D) (xs : List D) (h : (flatD d && xs.all flatD) = true) : co .nin d (.tuple xs) = .ok (!xs.any fun z => PyData.eqv z d) := by simp only [co, inD, h, if_true]
@[simp] theorem bools_map (f : D → Bool) : ∀ ds : List D, bools? (ds.map fun d => .bool (f d)) = some (ds.map f)
  | [] => rfl
  | d :: ds => by simp [bools?, bools_map f ds]
@[simp] theorem all_id (bs : List Bool) : bs.all id = bs.all fun b => b := Eq.trans rfl rfl
@[simp] theorem ints_map {α : Type} (f : α → Int) : ∀ ds : List α, ints? (ds.map fun d => .int (f d)) = some (ds.map f)
  | [] => rfl
  | d :: ds => by simp [ints?, ints_map f ds]
@[simp] theorem strs_map {α : Type} (f : α → Str) : ∀ ds : List α, strs? (ds.map fun d => .str (f d)) = some (ds.map f)
  | [] => rfl
  | d :: ds => by simp [strs?, strs_map f ds]
/-! ### the meaning's small steps, each at a known shape -/
section
variable {ρ : ES} {pin : Option Nat} {i j : Nat} {d e : D} {o : MO} {b c : Bool} {x y : Str} {n m : Int} {xs ys : List D}
@[simp] theorem small64_eq (n : Int) : small64 n = (decide (-18446744073709551616 < n) && decide (n < 18446744073709551616)) := Eq.trans rfl rfl
@[simp] theorem s_cont_val : cont ρ (.val d) = .ok d := Eq.trans rfl rfl
@[simp] theorem s_cont_new : cont ρ (.new o) = .ok o.d := Eq.trans rfl rfl
@[simp] theorem s_cont_own (h : ρ[i]? = some (some (.own o))) : cont ρ (.slot i) = .ok o.d := by simp only [cont, h]; rfl
@[simp] theorem s_lst_d : (MO.lst xs).d = .list xs := Eq.trans rfl rfl
@[simp] theorem s_conts_nil : conts ρ [] = .ok [] := Eq.trans rfl rfl
@[simp] theorem s_conts_cons (r : R) (rs : List R) : conts ρ (r :: rs) = Out.bind (cont ρ r) fun d => Out.bind (conts ρ rs) fun ds => .ok (d :: ds) := Eq.trans rfl rfl
@[simp] theorem s_still_val : still pin ρ (.val d) = .ok (d, ρ) := Eq.trans rfl rfl
@[simp] theorem s_still_new : still pin ρ (.new o) = .ok (o.d, ρ) := Eq.trans rfl rfl
@[simp] theorem s_still_own (h : ρ[i]? = some (some (.own o))) (hp : pin ≠ some i) : still pin ρ (.slot i) = .ok (o.d, ρ.set i (some (.val o.d))) := by simp only [still, h, if_neg hp]
@[simp] theorem s_stills_nil : stills pin [] ρ = .ok ([], ρ) := Eq.trans rfl rfl
@[simp] theorem s_stills_cons (r : R) (rs : List R) : stills pin (r :: rs) ρ = Out.bind (still pin ρ r) fun p => Out.bind (stills pin rs p.2) fun q => .ok (p.1 :: q.1, q.2) := Eq.trans rfl rfl
@[simp] theorem s_asBool : asBool (.val (.bool b)) = .ok b := Eq.trans rfl rfl
@[simp] theorem s_asVal : asVal (.val d) = .ok d := Eq.trans rfl rfl
@[simp] theorem s_setv_val (hp : pin ≠ some i) (hi : i < ρ.length) : setv pin i (.val d) ρ = .ok (ρ.set i (some (.val d))) := by
  show (if pin = some i then Out.stuck else if i < ρ.length then Out.ok (ρ.set i (some (.val d))) else .stuck) = _
  rw [if_neg hp, if_pos hi]
@[simp] theorem s_setv_new (hp : pin ≠ some i) (hi : i < ρ.length) : setv pin i (.new o) ρ = .ok (ρ.set i (some (.own o))) := by
  show (if pin = some i then Out.stuck else if i < ρ.length then Out.ok (ρ.set i (some (.own o))) else .stuck) = _
  rw [if_neg hp, if_pos hi]
@[simp] theorem s_len_list : bi .len [.list xs] = .ok (.val (.int xs.length)) := Eq.trans rfl rfl
@[simp] theorem s_len_tuple : bi .len [.tuple xs] = .ok (.val (.int xs.length)) := Eq.trans rfl rfl
@[simp] theorem s_len_scr : bi .len [scr xs] = .ok (.val (.int xs.length)) := Eq.trans rfl rfl
@[simp] theorem s_len_str (h : x.length ≤ SZ) : bi .len [.str x] = .ok (.val (.int x.length)) := by simp only [bi, if_pos h]
theorem s_all {bs : List Bool} (h : bools? xs = some bs) : bi .all [.list xs] = .ok (.val (.bool (bs.all id))) := by simp only [bi, h]
theorem s_any {bs : List Bool} (h : bools? xs = some bs) : bi .any [.list xs] = .ok (.val (.bool (bs.any id))) := by simp only [bi, h]
@[simp] theorem s_all_map (f : D → Bool) : bi .all [.list (xs.map fun d => .bool (f d))] = .ok (.val (.bool (xs.all f))) := by
  rw [s_all (bools_map f xs)]; simp
@[simp] theorem s_any_map (f : D → Bool) : bi .any [.list (xs.map fun d => .bool (f d))] = .ok (.val (.bool (xs.any f))) := by
  rw [s_any (bools_map f xs)]; simp
@[simp] theorem s_int : bi .int [.int n] = .ok (.val (.int n)) := Eq.trans rfl rfl
@[simp] theorem s_tuple_list : bi .tuple [.list xs] = .ok (.val (.tuple xs)) := Eq.trans rfl rfl
@[simp] theorem s_tuple_tuple : bi .tuple [.tuple xs] = .ok (.val (.tuple xs)) := Eq.trans rfl rfl
@[simp] theorem s_list_list : bi .list [.list xs] = .ok (.new (.lst xs)) := Eq.trans rfl rfl
@[simp] theorem s_list_tuple : bi .list [.tuple xs] = .ok (.new (.lst xs)) := Eq.trans rfl rfl
@[simp] theorem s_abs : bi .abs [.int n] = .ok (.val (.int (if n < 0 then -n else n))) := Eq.trans rfl rfl
@[simp] theorem s_max2 : bi .max [.int n, .int m] = .ok (.val (.int (if m > n then m else n))) := Eq.trans rfl rfl
@[simp] theorem s_min2 : bi .min [.int n, .int m] = .ok (.val (.int (if m < n then m else n))) := Eq.trans rfl rfl
@[simp] theorem s_divmod (h : 0 < m ∧ m < 1073741824) : bi .divmod [.int n, .int m] = .ok (.val (.tuple [.int (n / m), .int (n % m)])) := by simp only [bi, if_pos h]
@[simp] theorem s_ix_list {k : D} (h : atI xs n = some k) : ix (.list xs) (.int n) = .ok k := by simp only [ix, h]
@[simp] theorem s_ix_tuple {k : D} (h : atI xs n = some k) : ix (.tuple xs) (.int n) = .ok k := by simp only [ix, h]
@[simp] theorem s_ix_scr {k : D} (h : atI xs n = some k) : ix (scr xs) (.int n) = .ok k := by simp only [ix, scr, h]
theorem atI_nat {α : Type} (zs : List α) (k : Nat) : atI zs (k : Int) = zs[k]? := by
  unfold atI ixN
  by_cases h : k < zs.length
  · rw [if_pos (by omega), if_pos (by omega)]
    simp
  · rw [if_pos (by omega), if_neg (by omega), List.getElem?_eq_none (by omega)]
    rfl
@[simp] theorem s_ix_tup0 (z : D) : ix (.tuple (z :: xs)) (.int 0) = .ok z := s_ix_tuple (atI_nat (z :: xs) 0)
@[simp] theorem s_ix_tup1 (z w : D) : ix (.tuple (z :: w :: xs)) (.int 1) = .ok w := s_ix_tuple (atI_nat (z :: w :: xs) 1)
@[simp] theorem s_ix_lst0 (z : D) : ix (.list (z :: xs)) (.int 0) = .ok z := s_ix_list (atI_nat (z :: xs) 0)
@[simp] theorem s_ix_lst1 (z w : D) : ix (.list (z :: w :: xs)) (.int 1) = .ok w := s_ix_list (atI_nat (z :: w :: xs) 1)
@[simp] theorem s_add_int : bo .add (.int n) (.int m) = .ok (.val (.int (n + m))) := Eq.trans rfl rfl
@[simp] theorem s_sub_int : bo .sub (.int n) (.int m) = .ok (.val (.int (n - m))) := Eq.trans rfl rfl
@[simp] theorem s_mul_int (h : (small64 n || small64 m) = true) : bo .mul (.int n) (.int m) = .ok (.val (.int (n * m))) := by simp only [bo, if_pos h]
@[simp] theorem s_fdiv_int (h : 0 < m ∧ m < 1073741824) : bo .fdiv (.int n) (.int m) = .ok (.val (.int (n / m))) := by simp only [bo, if_pos h]
@[simp] theorem s_mod_int (h : 0 < m) : bo .mod (.int n) (.int m) = .ok (.val (.int (n % m))) := by simp only [bo, if_pos h]
@[simp] theorem s_pow_int (h : 0 ≤ m ∧ m ≤ 1000000 ∧ small64 n) : bo .pow (.int n) (.int m) = .ok (.val (.int (n ^ m.toNat))) := by simp only [bo, if_pos h]
@[simp] theorem s_add_str (h : x.length + y.length ≤ SZ) : bo .add (.str x) (.str y) = .ok (.val (.str (x ++ y))) := by simp only [bo, if_pos h]
@[simp] theorem s_add_list (h : xs.length + ys.length ≤ SZ) : bo .add (.list xs) (.list ys) = .ok (.new (.lst (xs ++ ys))) := by simp only [bo, if_pos h]
@[simp] theorem s_add_tuple (h : xs.length + ys.length ≤ SZ) : bo .add (.tuple xs) (.tuple ys) = .ok (.val (.tuple (xs ++ ys))) := by simp only [bo, if_pos h]
@[simp] theorem s_slc_list {lo hi : Option Int} : slc (.list xs) lo hi = .ok (.new (.lst (cutD xs lo hi))) := Eq.trans rfl rfl
@[simp] theorem s_slc_tuple {lo hi : Option Int} : slc (.tuple xs) lo hi = .ok (.val (.tuple (cutD xs lo hi))) := Eq.trans rfl rfl
@[simp] theorem s_slc_str {lo hi : Option Int} (h : x.length ≤ SZ) : slc (.str x) lo hi = .ok (.val (.str (cutS x lo hi))) := by simp only [slc, if_pos h]
@[simp] theorem s_part_none : part .none = some none := Eq.trans rfl rfl
@[simp] theorem s_part_int : part (.int n) = some (some n) := Eq.trans rfl rfl
@[simp] theorem s_rvs_list : rvs (.list xs) = .ok (.new (.lst xs.reverse)) := Eq.trans rfl rfl
@[simp] theorem s_rvs_tuple : rvs (.tuple xs) = .ok (.val (.tuple xs.reverse)) := Eq.trans rfl rfl
@[simp] theorem s_items_list : items (.list xs) = .ok xs := Eq.trans rfl rfl
@[simp] theorem s_items_tuple : items (.tuple xs) = .ok xs := Eq.trans rfl rfl
@[simp] theorem s_items_str : items (.str x) = .ok (x.cps.toList.map fun c => .str ⟨#[c]⟩) := Eq.trans rfl rfl
@[simp] theorem s_isi_none_int : isi .none "int" = some false := Eq.trans rfl rfl
@[simp] theorem s_isi_none_bool : isi .none "bool" = some false := Eq.trans rfl rfl
@[simp] theorem s_isi_none_str : isi .none "str" = some false := Eq.trans rfl rfl
@[simp] theorem s_isi_none_tuple : isi .none "tuple" = some false := Eq.trans rfl rfl
@[simp] theorem s_isi_none_list : isi .none "list" = some false := Eq.trans rfl rfl
@[simp] theorem s_isi_bool_int : isi (.bool b) "int" = some true := Eq.trans rfl rfl
@[simp] theorem s_isi_bool_bool : isi (.bool b) "bool" = some true := Eq.trans rfl rfl
@[simp] theorem s_isi_bool_str : isi (.bool b) "str" = some false := Eq.trans rfl rfl
@[simp] theorem s_isi_bool_tuple : isi (.bool b) "tuple" = some false := Eq.trans rfl rfl
@[simp] theorem s_isi_bool_list : isi (.bool b) "list" = some false := Eq.trans rfl rfl
@[simp] theorem s_isi_int_int : isi (.int n) "int" = some true := Eq.trans rfl rfl
@[simp] theorem s_isi_int_bool : isi (.int n) "bool" = some false := Eq.trans rfl rfl
@[simp] theorem s_isi_int_str : isi (.int n) "str" = some false := Eq.trans rfl rfl
@[simp] theorem s_isi_int_tuple : isi (.int n) "tuple" = some false := Eq.trans rfl rfl
@[simp] theorem s_isi_int_list : isi (.int n) "list" = some false := Eq.trans rfl rfl
@[simp] theorem s_isi_str_int : isi (.str x) "int" = some false := Eq.trans rfl rfl
@[simp] theorem s_isi_str_bool : isi (.str x) "bool" = some false := Eq.trans rfl rfl
@[simp] theorem s_isi_str_str : isi (.str x) "str" = some true := Eq.trans rfl rfl
@[simp] theorem s_isi_str_tuple : isi (.str x) "tuple" = some false := Eq.trans rfl rfl
@[simp] theorem s_isi_str_list : isi (.str x) "list" = some false := Eq.trans rfl rfl
@[simp] theorem s_isi_list_int : isi (.list xs) "int" = some false := Eq.trans rfl rfl
@[simp] theorem s_isi_list_bool : isi (.list xs) "bool" = some false := Eq.trans rfl rfl
@[simp] theorem s_isi_list_str : isi (.list xs) "str" = some false := Eq.trans rfl rfl
@[simp] theorem s_isi_list_tuple : isi (.list xs) "tuple" = some false := Eq.trans rfl rfl
@[simp] theorem s_isi_list_list : isi (.list xs) "list" = some true := Eq.trans rfl rfl
@[simp] theorem s_isi_tuple_int : isi (.tuple xs) "int" = some false := Eq.trans rfl rfl
@[simp] theorem s_isi_tuple_bool : isi (.tuple xs) "bool" = some false := Eq.trans rfl rfl
@[simp] theorem s_isi_tuple_str : isi (.tuple xs) "str" = some false := Eq.trans rfl rfl
@[simp] theorem s_isi_tuple_tuple : isi (.tuple xs) "tuple" = some true := Eq.trans rfl rfl
@[simp] theorem s_isi_tuple_list : isi (.tuple xs) "list" = some false := Eq.trans rfl rfl
@[simp] theorem s_endO_none : endO none ρ = .ok none := Eq.trans rfl rfl
@[simp] theorem s_endO_some (h : ρ[i]? = some (some (.own o))) : endO (some i) ρ = .ok (some o) := by simp only [endO, h]
@[simp] theorem s_endR_next : endR pin .next ρ = .ok (.val .none) := Eq.trans rfl rfl
@[simp] theorem s_endR_val : endR pin (.ret (.val d)) ρ = .ok (.val d) := Eq.trans rfl rfl
@[simp] theorem s_endR_new : endR pin (.ret (.new o)) ρ = .ok (.new o) := Eq.trans rfl rfl
@[simp] theorem s_endR_own (hp : pin ≠ some i) (h : ρ[i]? = some (some (.own o))) : endR pin (.ret (.slot i)) ρ = .ok (.new o) := by simp only [endR, if_neg hp, h]
@[simp] theorem s_okPin_none : okPin none i = true := Eq.trans rfl rfl
@[simp] theorem s_okPin_some : okPin (some i) j = decide (i < j) := Eq.trans rfl rfl
@[simp] theorem s_argB_nil {m : Option Nat} {k : Nat} : argB m pin k [] ρ = .ok ([], ρ) := Eq.trans rfl rfl
@[simp] theorem s_argB_cons {m : Option Nat} {k : Nat} {r : R} {rs : List R} (h : m ≠ some k) : argB m pin k (r :: rs) ρ = Out.bind (still pin ρ r) fun p => Out.bind (argB m pin (k + 1) rs p.2) fun q => .ok (some p.1 :: q.1, q.2) := by simp only [argB, if_neg h]
@[simp] theorem s_argB_mx {k : Nat} {r : R} {rs : List R} : argB (some k) pin k (r :: rs) ρ = Out.bind (argB (some k) pin (k + 1) rs ρ) fun q => .ok (none :: q.1, q.2) := by simp only [argB, if_true]
@[simp] theorem s_theB_none {rs : List R} : theB none rs ρ = .ok none := Eq.trans rfl rfl
theorem s_theB_own {rs : List R} (h : rs[i]? = some (.slot j)) (g : ρ[j]? = some (some (.own o))) : theB (some i) rs ρ = .ok (some o) := by simp only [theB, h, g]
theorem s_theB_new {rs : List R} (h : rs[i]? = some (.new o)) (g : news rs ≤ 1) : theB (some i) rs ρ = .ok (some o) := by simp only [theB, h, if_pos g]
@[simp] theorem s_fill_nil {q : Option MO} : fill q [] = [] := Eq.trans rfl rfl
@[simp] theorem s_fill_some {q : Option MO} {ds : List (Option D)} : fill q (some d :: ds) = .val d :: fill q ds := Eq.trans rfl rfl
@[simp] theorem s_fill_none {ds : List (Option D)} : fill (some o) (none :: ds) = .own o :: fill (some o) ds := Eq.trans rfl rfl
@[simp] theorem s_putBack_none {rs : List R} {q : Option MO} : putBack none rs q ρ = .ok ρ := Eq.trans rfl rfl
theorem s_putBack_own {rs : List R} (h : rs[i]? = some (.slot j)) : putBack (some i) rs (some o) ρ = .ok (ρ.set j (some (.own o))) := by simp only [putBack, h]
theorem s_putBack_new {rs : List R} {p : MO} (h : rs[i]? = some (.new p)) : putBack (some i) rs (some o) ρ = .ok ρ := by simp only [putBack, h]
/-- a call that changes nothing -/
theorem s_call {G : Ge} {f : Str} {F : FI} {rs : List R} {ds : List (Option D)} {ρ' : ES} {r : R} {q : Option MO} (h : G.fns f = some F) (hl : rs.length = F.ps.length) (hm : F.mx = none) (ha : argB none pin 0 rs ρ = .ok (ds, ρ')) (hs : F.sem (fill none ds) = .ok (r, q)) : callF G pin f rs ρ = .ok (r, ρ') := by
  simp only [callF, h, if_pos hl, hm, ha, t_ok, s_theB_none, hs, s_putBack_none]
end
end DI
end

section
set_option maxRecDepth 100000
/-! KU: the meaning of each form, the loops kept apart (printed from KB by a program). -/
namespace DI
open PySem L2
/-- a for loop; a comprehension's loop -/
def loopC (G : Ge) (pin : Option Nat) (t : CT) (b : CB) (ds : List D) (ρ : ES) : Out (Fl × ES) := forLoop (fun d ρ => Out.bind (asgE G pin t (.val d) ρ) fun ρ1 => exs G pin b ρ1) ds ρ
def compB (G : Ge) (pin : Option Nat) (t : CT) (tst : Option CE) (elt : CE) (vs : List Nat) (d : D) (ρ : ES) : Out (Option D × ES) := Out.bind (asgE G pin t (.val d) ρ) fun ρ1 =>
  match tst with
  | none => Out.bind (ev G pin elt ρ1) fun q => Out.bind (still pin q.2 q.1) fun y => .ok (some y.1, wipeE y.2 vs)
  | some c => Out.bind (ev G pin c ρ1) fun q => Out.bind (asBool q.1) fun b => if b = true then Out.bind (ev G pin elt q.2) fun q => Out.bind (still pin q.2 q.1) fun y => .ok (some y.1, wipeE y.2 vs) else .ok (none, wipeE q.2 vs)
def compC (G : Ge) (pin : Option Nat) (t : CT) (tst : Option CE) (elt : CE) (vs : List Nat) (ds : List D) (ρ : ES) : Out (List D × ES) := lcLoop (compB G pin t tst elt vs) ds ρ
section
variable {G : Ge} {pin : Option Nat} {ρ : ES}
@[simp] theorem x_fore {t : CT} {it : CI} {b : CB} : ex G pin (.fore t it b) ρ = Out.bind (evI G pin it ρ) fun p => loopC G pin t b p.1 p.2 := by simp only [ex] <;> rfl
@[simp] theorem x_lc {own : List (Str × Nat)} {t : CT} {it : CI} {tst : Option CE} {elt : CE} : ev G pin (.lc own t it tst elt) ρ = Out.bind (evI G pin it ρ) fun p =>
      if noOwn p.2 (own.map (·.2)) = true then Out.bind (compC G pin t tst elt (own.map (·.2)) p.1 (wipeE p.2 (own.map (·.2)))) fun q => if q.1.length ≤ SZ then .ok (.new (.lst q.1), unwipe p.2 q.2 (own.map (·.2))) else .stuck
      else .stuck := by
  cases tst <;> simp only [ev] <;> rfl

@[simp] theorem x1_ev : ev G pin (.var i) (ρ) = (match ρ[i]? with
    | some (some (.val d)) => .ok (.val d, ρ)
    | some (some (.own _)) => .ok (.slot i, ρ)
    | _ => .stuck) := by simp only [ev] <;> rfl
@[simp] theorem x2_ev : ev G pin (.lit d) (ρ) = (.ok (.val d, ρ)) := by simp only [ev] <;> rfl
@[simp] theorem x3_ev : ev G pin (.glob x) (ρ) = (match G.cst x with
    | some d => .ok (.val d, ρ)
    | none => .stuck) := by simp only [ev] <;> rfl
@[simp] theorem x4_ev : ev G pin (.bin op a b) (ρ) = (Out.bind (ev G pin a ρ) fun p => Out.bind (ev G pin b p.2) fun q => Out.bind (cont q.2 p.1) fun x => Out.bind (cont q.2 q.1) fun y => Out.bind (bo op x y) fun r => .ok (r, q.2)) := by simp only [ev] <;> rfl
@[simp] theorem x5_ev : ev G pin (.neg a) (ρ) = (Out.bind (ev G pin a ρ) fun p => match p.1 with
    | .val (.int i) => .ok (.val (.int (-i)), p.2)
    | _ => .stuck) := by simp only [ev] <;> rfl
@[simp] theorem x6_ev : ev G pin (.cmp op a b) (ρ) = (Out.bind (ev G pin a ρ) fun p => Out.bind (ev G pin b p.2) fun q => Out.bind (cont q.2 p.1) fun x => Out.bind (cont q.2 q.1) fun y => Out.bind (co op x y) fun r => .ok (.val (.bool r), q.2)) := by simp only [ev] <;> rfl
@[simp] theorem x7_ev : ev G pin (.chain op op' a b c) (ρ) = (Out.bind (ev G pin a ρ) fun p => Out.bind (ev G pin b p.2) fun q => Out.bind (cont q.2 p.1) fun x => Out.bind (asVal q.1) fun y => Out.bind (co op x y) fun r =>
      if r = true then Out.bind (ev G pin c q.2) fun s => Out.bind (cont s.2 s.1) fun z => Out.bind (co op' y z) fun t => .ok (.val (.bool t), s.2) else .ok (.val (.bool false), q.2)) := by simp only [ev] <;> rfl
@[simp] theorem x8_ev : ev G pin (.and a b) (ρ) = (Out.bind (ev G pin a ρ) fun p => Out.bind (asBool p.1) fun c => if c = true then ev G pin b p.2 else .ok (.val (.bool false), p.2)) := by simp only [ev] <;> rfl
@[simp] theorem x9_ev : ev G pin (.or a b) (ρ) = (Out.bind (ev G pin a ρ) fun p => Out.bind (asBool p.1) fun c => if c = true then .ok (.val (.bool true), p.2) else ev G pin b p.2) := by simp only [ev] <;> rfl
@[simp] theorem x10_ev : ev G pin (.not a) (ρ) = (Out.bind (ev G pin a ρ) fun p => Out.bind (asBool p.1) fun c => .ok (.val (.bool (!c)), p.2)) := by simp only [ev] <;> rfl
@[simp] theorem x11_ev : ev G pin (.ite c a b) (ρ) = (Out.bind (ev G pin c ρ) fun p => Out.bind (asBool p.1) fun c => if c = true then ev G pin a p.2 else ev G pin b p.2) := by simp only [ev] <;> rfl
@[simp] theorem x12_ev : ev G pin (.call f args) (ρ) = (Out.bind (evs G pin args ρ) fun p => Out.bind (conts p.2 p.1) fun ds => Out.bind (bi f ds) fun r => .ok (r, p.2)) := by simp only [ev] <;> rfl
@[simp] theorem x13_ev : ev G pin (.isi a T) (ρ) = (Out.bind (ev G pin a ρ) fun p => Out.bind (cont p.2 p.1) fun d => match isi d T with
    | some b => .ok (.val (.bool b), p.2)
    | none => .stuck) := by simp only [ev] <;> rfl
@[simp] theorem x14_ev : ev G pin (.fn f args) (ρ) = (Out.bind (evs G pin args ρ) fun p => callF G pin f p.1 p.2) := by simp only [ev] <;> rfl
@[simp] theorem x15_ev : ev G pin (.fnk f ks args) (ρ) = (if namesAll G f ks = true then Out.bind (evs G pin args ρ) fun p => callF G pin f p.1 p.2 else .stuck) := by simp only [ev] <;> rfl
@[simp] theorem x16_ev : ev G pin (.meth m o args) (ρ) = (Out.bind (ev G pin o ρ) fun p => Out.bind (evs G pin args p.2) fun q => Out.bind (asVal p.1) fun d => Out.bind (conts q.2 q.1) fun ds => Out.bind (mt m d ds) fun r => .ok (r, q.2)) := by simp only [ev] <;> rfl
@[simp] theorem x17_ev : ev G pin (.app o a) (ρ) = (Out.bind (ev G pin o ρ) fun p => match p.1 with
    | .slot i => if isL p.2 i = true then Out.bind (ev G pin a p.2) fun q => Out.bind (still pin q.2 q.1) fun x => (match x.2[i]? with
        | some (some (.own (.lst xs))) => if xs.length < SZ then .ok (.val .none, x.2.set i (some (.own (.lst (xs ++ [x.1]))))) else .stuck
        | _ => .stuck) else .stuck
    | _ => .stuck) := by simp only [ev] <;> rfl
@[simp] theorem x18_ev : ev G pin (.tup es) (ρ) = (Out.bind (evs G pin es ρ) fun p => Out.bind (stills pin p.1 p.2) fun q => .ok (.val (.tuple q.1), q.2)) := by simp only [ev] <;> rfl
@[simp] theorem x19_ev : ev G pin (.lst es) (ρ) = (Out.bind (evs G pin es ρ) fun p => Out.bind (stills pin p.1 p.2) fun q => .ok (.new (.lst q.1), q.2)) := by simp only [ev] <;> rfl
@[simp] theorem x20_ev : ev G pin (.idx a b) (ρ) = (Out.bind (ev G pin a ρ) fun p => Out.bind (ev G pin b p.2) fun q => Out.bind (cont q.2 p.1) fun x => Out.bind (cont q.2 q.1) fun y => Out.bind (ix x y) fun r => .ok (.val r, q.2)) := by simp only [ev] <;> rfl
@[simp] theorem x21_ev : ev G pin (.bnd a) (ρ) = (Out.bind (ev G pin a ρ) fun p => match p.1 with
    | .val (.int i) => .ok (.val (.int i), p.2)
    | _ => .stuck) := by simp only [ev] <;> rfl
@[simp] theorem x22_ev : ev G pin (.slc a lo hi) (ρ) = (Out.bind (ev G pin a ρ) fun p => Out.bind (ev G pin lo p.2) fun q => Out.bind (ev G pin hi q.2) fun s => Out.bind (cont s.2 p.1) fun x => Out.bind (asVal q.1) fun y => Out.bind (asVal s.1) fun z =>
      match part y, part z with
      | some l, some h => Out.bind (slc x l h) fun r => .ok (r, s.2)
      | _, _ => .stuck) := by simp only [ev] <;> rfl
@[simp] theorem x23_ev : ev G pin (.rev a) (ρ) = (Out.bind (ev G pin a ρ) fun p => Out.bind (cont p.2 p.1) fun x => Out.bind (rvs x) fun r => .ok (r, p.2)) := by simp only [ev] <;> rfl
@[simp] theorem x24_evs : evs G pin (.nil) (ρ) = (.ok ([], ρ)) := by simp only [evs] <;> rfl
@[simp] theorem x25_evs : evs G pin (.cons a r) (ρ) = (Out.bind (ev G pin a ρ) fun p => Out.bind (evs G pin r p.2) fun q => .ok (p.1 :: q.1, q.2)) := by simp only [evs] <;> rfl
@[simp] theorem x26_asgE : asgE G pin (.name i) (r) (ρ) = (setv pin i r ρ) := by simp only [asgE] <;> rfl
@[simp] theorem x27_asgE : asgE G pin (.sub o i) (r) (ρ) = (Out.bind (still pin ρ r) fun x => Out.bind (ev G pin o x.2) fun p => Out.bind (ev G pin i p.2) fun q => match p.1, q.1 with
    | .slot j, .val (.int k) => (match q.2[j]? with
      | some (some (.own (.lst xs))) => (match ixN xs.length k with
        | some n => .ok (q.2.set j (some (.own (.lst (xs.set n x.1)))))
        | none => .stuck)
      | _ => .stuck)
    | _, _ => .stuck) := by simp only [asgE] <;> rfl
@[simp] theorem x28_asgE : asgE G pin (.tup ts) (r) (ρ) = (Out.bind (cont ρ r) fun d => match d with
    | .tuple xs => asgEs G pin ts xs ρ
    | _ => .stuck) := by simp only [asgE] <;> rfl
@[simp] theorem x29_asgEs : asgEs G pin (.nil) ([]) (ρ) = (.ok ρ) := by simp only [asgEs] <;> rfl
@[simp] theorem x30_asgEs : asgEs G pin (.cons t ts) (x :: xs) (ρ) = (Out.bind (asgE G pin t (.val x) ρ) fun ρ' => asgEs G pin ts xs ρ') := by simp only [asgEs] <;> rfl
@[simp] theorem x31_evI : evI G pin (.seq e) (ρ) = (Out.bind (ev G pin e ρ) fun p => Out.bind (still pin p.2 p.1) fun x => Out.bind (items x.1) fun l => .ok (l, x.2)) := by simp only [evI] <;> rfl
@[simp] theorem x32_evI : evI G pin (.rng1 b) (ρ) = (Out.bind (ev G pin b ρ) fun p => match p.1 with
    | .val (.int j) => if bnd62 j = true then .ok (rngL 0 j.toNat, p.2) else .stuck
    | _ => .stuck) := by simp only [evI] <;> rfl
@[simp] theorem x33_evI : evI G pin (.rng2 a b) (ρ) = (Out.bind (ev G pin a ρ) fun p => Out.bind (ev G pin b p.2) fun q => match p.1, q.1 with
    | .val (.int i), .val (.int j) => if (bnd62 i && bnd62 j) = true then .ok (rngL i (j - i).toNat, q.2) else .stuck
    | _, _ => .stuck) := by simp only [evI] <;> rfl
@[simp] theorem x34_evI : evI G pin (.enm e) (ρ) = (Out.bind (ev G pin e ρ) fun p => Out.bind (still pin p.2 p.1) fun x => match x.1 with
    | .list xs => .ok (enmL 0 xs, x.2)
    | _ => .stuck) := by simp only [evI] <;> rfl
@[simp] theorem x35_evI : evI G pin (.zip a b) (ρ) = (Out.bind (ev G pin a ρ) fun p => Out.bind (ev G pin b p.2) fun q => Out.bind (stills pin [p.1, q.1] q.2) fun x => match x.1 with
    | [.list xs, .list ys] => .ok (List.zipWith (fun a b => .tuple [a, b]) xs ys, x.2)
    | [.tuple xs, .tuple ys] => .ok (List.zipWith (fun a b => .tuple [a, b]) xs ys, x.2)
    | _ => .stuck) := by simp only [evI] <;> rfl
@[simp] theorem x36_ex : ex G pin (.asg t e) (ρ) = (Out.bind (ev G pin e ρ) fun p => Out.bind (asgE G pin t p.1 p.2) fun ρ' => .ok (.next, ρ')) := by simp only [ex] <;> rfl
@[simp] theorem x37_ex : ex G pin (.par is es) (ρ) = (Out.bind (evs G pin es ρ) fun p => Out.bind (setvs pin is p.1 p.2) fun ρ' => .ok (.next, ρ')) := by simp only [ex] <;> rfl
@[simp] theorem x38_ex : ex G pin (.expr e) (ρ) = (Out.bind (ev G pin e ρ) fun p => .ok (.next, p.2)) := by simp only [ex] <;> rfl
@[simp] theorem x39_ex : ex G pin (.ret e) (ρ) = (Out.bind (ev G pin e ρ) fun p => .ok (.ret p.1, p.2)) := by simp only [ex] <;> rfl
@[simp] theorem x40_ex : ex G pin (.retN) (ρ) = (.ok (.ret (.val .none), ρ)) := by simp only [ex] <;> rfl
@[simp] theorem x41_ex : ex G pin (.ite c a b) (ρ) = (Out.bind (ev G pin c ρ) fun p => Out.bind (asBool p.1) fun c => if c = true then exs G pin a p.2 else exs G pin b p.2) := by simp only [ex] <;> rfl
@[simp] theorem x42_ex : ex G pin (.pass) (ρ) = (.ok (.next, ρ)) := by simp only [ex] <;> rfl
@[simp] theorem x43_ex : ex G pin (.doc) (ρ) = (.ok (.next, ρ)) := by simp only [ex] <;> rfl
@[simp] theorem x44_ex : ex G pin (.brk) (ρ) = (.ok (.brk, ρ)) := by simp only [ex] <;> rfl
@[simp] theorem x45_ex : ex G pin (.cont) (ρ) = (.ok (.cont, ρ)) := by simp only [ex] <;> rfl
@[simp] theorem x46_ex : ex G pin (.never) (ρ) = (.stuck) := by simp only [ex] <;> rfl
@[simp] theorem x47_exs : exs G pin (.nil) (ρ) = (.ok (.next, ρ)) := by simp only [exs] <;> rfl
@[simp] theorem x48_exs : exs G pin (.cons s r) (ρ) = (Out.bind (ex G pin s ρ) fun p => match p.1 with
    | .next => exs G pin r p.2
    | fl => .ok (fl, p.2)) := by simp only [exs] <;> rfl
end
/-! ### loops by their bodies -/
section
variable {G : Ge} {pin : Option Nat} {t : CT} {b : CB} {tst : Option CE} {elt : CE} {vs : List Nat} {ds : List D} {ρ : ES}
theorem loop_all {L : Out (Fl × ES)} (hL : loopC G pin t b ds ρ = L) (I : ES → Prop) (p : D → Bool) (r : R) (h : ∀ d ∈ ds, ∀ ρ, I ρ → ∃ ρ', I ρ' ∧ (Out.bind (asgE G pin t (.val d) ρ) fun ρ1 => exs G pin b ρ1) = .ok (if p d = true then .next else .ret r, ρ')) (i : I ρ) :
    ∃ ρ', I ρ' ∧ L = .ok (if ds.all p = true then .next else .ret r, ρ') := by
  subst hL
  exact for_all I p r h i
theorem loop_fold {α : Type} {L : Out (Fl × ES)} (hL : loopC G pin t b ds ρ = L) (I : α → ES → Prop) (g : α → D → α) (a : α) (h : ∀ d ∈ ds, ∀ a ρ, I a ρ → ∃ ρ', I (g a d) ρ' ∧ (Out.bind (asgE G pin t (.val d) ρ) fun ρ1 => exs G pin b ρ1) = .ok (.next, ρ')) (i : I a ρ) :
    ∃ ρ', I (ds.foldl g a) ρ' ∧ L = .ok (.next, ρ') := by
  subst hL
  exact for_fold I g h i
theorem comp_map {L : Out (List D × ES)} (hL : compC G pin t tst elt vs ds ρ = L) (g : D → D) (h : ∀ d ∈ ds, compB G pin t tst elt vs d ρ = .ok (some (g d), ρ)) : L = .ok (ds.map g, ρ) := by
  subst hL
  exact lcLoop_map h
theorem comp_inv {L : Out (List D × ES)} (hL : compC G pin t tst elt vs ds ρ = L) (I : ES → Prop) (P : D → D → Prop) (h : ∀ d ∈ ds, ∀ ρ, I ρ → ∃ y ρ', compB G pin t tst elt vs d ρ = .ok (some y, ρ') ∧ I ρ' ∧ P d y) (i : I ρ) : ∃ ys ρ', L = .ok (ys, ρ') ∧ I ρ' ∧ All2 P ds ys := by
  subst hL
  exact lcLoop_inv I P h i
end
end DI
end

section
set_option maxRecDepth 100000
/-! KV: texts in plain terms: split at one sign, join, numbers' texts. -/
namespace DI
open PySem L2 SX

/-- split at one sign -/
def sp (c : Nat) : List Nat → List (List Nat)
  | [] => [[]]
  | d :: r => if d = c then [] :: sp c r else match sp c r with
    | h :: t => (d :: h) :: t
    | [] => [[d]]
theorem sp_ne (c : Nat) : ∀ l, sp c l ≠ []
  | [], h => by cases h
  | d :: r, h => by
    unfold sp at h
    split at h
    · cases h
    · split at h <;> cases h
/-- more signs at the head of the first part -/
def hd (p : List Nat) : List (List Nat) → List (List Nat)
  | [] => []
  | h :: t => (p ++ h) :: t
theorem spl_sp (c : Nat) : ∀ (l acc : List Nat), TL.spl [c] 0 acc l = hd acc (sp c l)
  | [], acc => by simp [TL.spl, sp, hd]
  | d :: r, acc => by
    unfold sp
    by_cases h : d = c
    · subst h
      rw [TL.spl_hit (by simp [TL.pre]), if_pos rfl]
      show acc :: TL.spl [d] 0 [] r = _
      rw [spl_sp d r []]
      cases e : sp d r with
      | nil => exact absurd e (sp_ne d r)
      | cons a b => simp [hd]
    · rw [TL.spl_miss (by simp [TL.pre, h]), if_neg h, spl_sp c r (acc ++ [d])]
      cases e : sp c r with
      | nil => exact absurd e (sp_ne c r)
      | cons a b => simp [hd]
theorem split_sp {c : Nat} (h : c < 256) (a : List Nat) : Txt.split (S a) (S [c]) = (sp c a).map S := by
  rw [split_S (by simp) (by simpa using h), spl_sp]
  cases e : sp c a with
  | nil => rfl
  | cons a b => simp [hd]
/-- a part without the sign, then the sign -/
theorem sp_part {c : Nat} : ∀ {p : List Nat} (r : List Nat), c ∉ p → sp c (p ++ c :: r) = p :: sp c r
  | [], r, _ => by simp [sp]
  | d :: p, r, h => by
    have h1 : d ≠ c := fun e => h (by simp [e])
    have h2 : c ∉ p := fun e => h (by simp [e])
    simp [sp, h1, sp_part r h2]
theorem sp_last {c : Nat} : ∀ {p : List Nat}, c ∉ p → sp c p = [p]
  | [], _ => rfl
  | d :: p, h => by
    have h1 : d ≠ c := fun e => h (by simp [e])
    have h2 : c ∉ p := fun e => h (by simp [e])
    simp [sp, h1, sp_last h2]
/-- parts, each with the sign behind it -/
theorem sp_lines {c : Nat} : ∀ {ps : List (List Nat)}, (∀ p ∈ ps, c ∉ p) → sp c (ps.flatMap fun p => p ++ [c]) = ps ++ [[]]
  | [], _ => rfl
  | p :: ps, h => by
    have e : (p :: ps).flatMap (fun p => p ++ [c]) = p ++ c :: ps.flatMap (fun p => p ++ [c]) := by simp
    rw [e, sp_part _ (h p List.mem_cons_self), sp_lines fun q m => h q (List.mem_cons_of_mem _ m)]
    rfl
theorem sp_join {c : Nat} {ps : List (List Nat)} (hn : ps ≠ []) (h : ∀ p ∈ ps, c ∉ p) : sp c (TL.joinL [c] ps) = ps := by
  have e := TL.spl_join (s := c) (S := []) hn h
  rw [spl_sp] at e
  cases g : sp c (TL.joinL [c] ps) with
  | nil => exact absurd g (sp_ne _ _)
  | cons a b => rw [g] at e; simpa [hd] using e
theorem sp_free {c : Nat} : ∀ {l p : List Nat}, p ∈ sp c l → c ∉ p
  | [], p, h => by simp [sp] at h; subst h; simp
  | d :: r, p, h => by
    unfold sp at h
    by_cases hd : d = c
    · rw [if_pos hd] at h
      rcases List.mem_cons.mp h with e | m
      · subst e; simp
      · exact sp_free m
    · rw [if_neg hd] at h
      cases e : sp c r with
      | nil => exact absurd e (sp_ne c r)
      | cons a b =>
        rw [e] at h
        rcases List.mem_cons.mp h with e2 | m
        · subst e2
          have := sp_free (c := c) (l := r) (p := a) (by rw [e]; simp)
          simp [this, Ne.symm hd]
        · exact sp_free (by rw [e]; exact List.mem_cons_of_mem _ m)
theorem sp_length (c : Nat) : ∀ l : List Nat, (sp c l).length ≤ l.length + 1
  | [] => by simp [sp]
  | d :: r => by
    have := sp_length c r
    unfold sp
    split
    · simp; omega
    · split
      · rename_i e; rw [e] at this; simp at this ⊢; omega
      · simp
/-- the parts are within -/
theorem sp_mem_len {c : Nat} : ∀ {l p : List Nat}, p ∈ sp c l → p.length ≤ l.length
  | [], p, h => by simp [sp] at h; subst h; simp
  | d :: r, p, h => by
    unfold sp at h
    by_cases hd : d = c
    · rw [if_pos hd] at h
      rcases List.mem_cons.mp h with e | m
      · subst e; simp
      · have := sp_mem_len m; simp; omega
    · rw [if_neg hd] at h
      cases e : sp c r with
      | nil => exact absurd e (sp_ne c r)
      | cons a b =>
        rw [e] at h
        rcases List.mem_cons.mp h with e2 | m
        · subst e2
          have := sp_mem_len (c := c) (l := r) (p := a) (by rw [e]; simp)
          simp; omega
        · have := sp_mem_len (c := c) (l := r) (p := p) (by rw [e]; exact List.mem_cons_of_mem _ m)
          simp; omega
theorem sp_mem_mem {c : Nat} : ∀ {l p : List Nat}, p ∈ sp c l → ∀ x ∈ p, x ∈ l
  | [], p, h, x, m => by simp [sp] at h; subst h; simp at m
  | d :: r, p, h, x, m => by
    unfold sp at h
    by_cases hd : d = c
    · rw [if_pos hd] at h
      rcases List.mem_cons.mp h with e | g
      · subst e; simp at m
      · exact List.mem_cons_of_mem _ (sp_mem_mem g x m)
    · rw [if_neg hd] at h
      cases e : sp c r with
      | nil => exact absurd e (sp_ne c r)
      | cons a b =>
        rw [e] at h
        rcases List.mem_cons.mp h with e2 | g
        · subst e2
          rcases List.mem_cons.mp m with e3 | m
          · simp [e3]
          · exact List.mem_cons_of_mem _ (sp_mem_mem (c := c) (l := r) (p := a) (by rw [e]; simp) x m)
        · exact List.mem_cons_of_mem _ (sp_mem_mem (c := c) (l := r) (p := p) (by rw [e]; exact List.mem_cons_of_mem _ g) x m)
/-! ### runs: no longer ones than k without a sign of the separators -/
def Runs (sep : List Nat) (k : Nat) (l : List Nat) : Prop := ∀ u v w : List Nat, l = u ++ v ++ w → (∀ x ∈ v, x ∉ sep) → v.length ≤ k
theorem Runs.mono {sep : List Nat} {k j : Nat} {l : List Nat} (h : Runs sep k l) (g : k ≤ j) : Runs sep j l := fun u v w e f => Nat.le_trans (h u v w e f) g
theorem Runs.short {sep : List Nat} {k : Nat} {l : List Nat} (h : l.length ≤ k) : Runs sep k l := fun u v w e _ => by
  have := congrArg List.length e
  simp only [List.length_append] at this
  omega
theorem app3 {a b u v w : List Nat} (e : a ++ b = u ++ v ++ w) : ∃ v1 v2, v = v1 ++ v2 ∧ (∃ u' w', a = u' ++ v1 ++ w') ∧ (∃ u' w', b = u' ++ v2 ++ w') := by
  rw [List.append_assoc] at e
  rcases List.append_eq_append_iff.mp e with ⟨s, h1, h2⟩ | ⟨s, h1, h2⟩
  · -- u = a ++ s, b = s ++ (v ++ w)
    exact ⟨[], v, rfl, ⟨a, [], by simp⟩, ⟨s, w, by rw [h2]; simp⟩⟩
  · -- a = u ++ s, v ++ w = s ++ b
    rcases List.append_eq_append_iff.mp h2 with ⟨t, g1, g2⟩ | ⟨t, g1, g2⟩
    · exact ⟨v, [], by simp, ⟨u, t, by rw [h1, g1]; simp⟩, ⟨[], b, by simp⟩⟩
    · exact ⟨s, t, g1, ⟨u, [], by rw [h1]; simp⟩, ⟨[], w, by rw [g2]; simp⟩⟩
theorem Runs.app {sep : List Nat} {k j : Nat} {a b : List Nat} (h : Runs sep k a) (g : Runs sep j b) : Runs sep (k + j) (a ++ b) := fun u v w e f => by
  obtain ⟨v1, v2, rfl, ⟨u1, w1, e1⟩, ⟨u2, w2, e2⟩⟩ := app3 e
  have h1 := h u1 v1 w1 e1 fun x m => f x (List.mem_append_left _ m)
  have h2 := g u2 v2 w2 e2 fun x m => f x (List.mem_append_right _ m)
  rw [List.length_append]
  omega
theorem Runs.sub {sep : List Nat} {k : Nat} {l a b c : List Nat} (h : Runs sep k l) (e : l = a ++ b ++ c) : Runs sep k b := fun u v w e2 f => h (a ++ u) v (w ++ c) (by rw [e, e2]; simp) f
theorem Runs.take {sep : List Nat} {k n : Nat} {l : List Nat} (h : Runs sep k l) : Runs sep k (l.take n) := h.sub (a := []) (c := l.drop n) (by simp)
theorem Runs.drop {sep : List Nat} {k n : Nat} {l : List Nat} (h : Runs sep k l) : Runs sep k (l.drop n) := h.sub (a := l.take n) (c := []) (by simp)
/-- a separator parts -/
theorem Runs.part {sep : List Nat} {k : Nat} {a b : List Nat} {c : Nat} (hc : c ∈ sep) (h : Runs sep k a) (g : Runs sep k b) : Runs sep k (a ++ c :: b) := fun u v w e f => by
  rw [List.append_assoc] at e
  rcases List.append_eq_append_iff.mp e with ⟨s, h1, h2⟩ | ⟨s, h1, h2⟩
  · cases s with
    | nil =>
      cases v with
      | nil => simp
      | cons y v =>
        have : c = y := by simpa using congrArg List.head? h2
        exact absurd hc (by rw [this]; exact f y (by simp))
    | cons y s =>
      simp only [List.cons_append] at h2
      injection h2 with _ h3
      exact g s v w (by rw [h3]; simp) f
  · rcases List.append_eq_append_iff.mp h2 with ⟨t, g1, g2⟩ | ⟨t, g1, g2⟩
    · exact h u v t (by rw [h1, g1]; simp) f
    · cases t with
      | nil => exact h u v [] (by rw [h1, g1]; simp) f
      | cons y t =>
        have : c = y := by simpa using congrArg List.head? g2
        exact absurd hc (by rw [this]; exact f y (by rw [g1]; simp))
theorem join_runs {sep : List Nat} {k : Nat} {c : Nat} (hc : c ∈ sep) : ∀ {ps : List (List Nat)}, (∀ p ∈ ps, Runs sep k p) → Runs sep k (TL.joinL [c] ps)
  | [], _ => Runs.short (Nat.zero_le _)
  | [p], h => h p List.mem_cons_self
  | p :: q :: r, h => by
    have := join_runs hc fun z m => h z (List.mem_cons_of_mem p m)
    exact Runs.part hc (h p List.mem_cons_self) this
/-! ### numbers' texts -/
open NumText
def dg (m : Nat) : List Nat := (Nat.toDigits 10 m).map Char.toNat
theorem num_S (m : Nat) : Str.ofString (toString (m : Int)) = S (dg m) := TL.ext_tl (PySem.W.KIN.signs_num m)
theorem dg_digits (m : Nat) : AllDigits (dg m) := by
  intro c hc
  obtain ⟨ch, hch, e⟩ := List.mem_map.mp hc
  have r := PyProof.Rows.digit_range (Nat.isDigit_of_mem_toDigits (by decide) (by decide) hch)
  rw [← e]
  exact r
theorem dg_val (m : Nat) : digitsVal (dg m) = m := PySem.W.KIN.val_back m
theorem dg_ne (m : Nat) : dg m ≠ [] := by
  intro e
  have h := toDigits_len_ge 10 m
  rw [List.map_eq_nil_iff.mp e] at h
  exact absurd h (by decide)
theorem fold_pow : ∀ (cs : List Nat) (a : Nat), a * 10 ^ cs.length ≤ cs.foldl (fun acc c => acc * 10 + (c - 48)) a
  | [], a => by simp
  | c :: cs, a => by
    have h := fold_pow cs (a * 10 + (c - 48))
    have e : a * 10 ^ (c :: cs).length = a * 10 * 10 ^ cs.length := by rw [List.length_cons, Nat.pow_succ, Nat.mul_assoc, Nat.mul_comm 10]
    rw [e]
    exact Nat.le_trans (Nat.mul_le_mul_right _ (Nat.le_add_right _ _)) h
theorem val_ge {c : Nat} {cs : List Nat} (h : 49 ≤ c) : 10 ^ cs.length ≤ digitsVal (c :: cs) := by
  have g := fold_pow cs (0 * 10 + (c - 48))
  refine Nat.le_trans ?_ g
  have : 1 ≤ 0 * 10 + (c - 48) := by omega
  calc 10 ^ cs.length = 1 * 10 ^ cs.length := (Nat.one_mul _).symm
    _ ≤ _ := Nat.mul_le_mul_right _ this
def digB (t : List Nat) : Bool := t.all fun c => decide (48 ≤ c) && decide (c ≤ 57)
theorem digB_iff {t : List Nat} : digB t = true ↔ AllDigits t := by
  unfold digB AllDigits
  simp [List.all_eq_true]
/-- told as numbers are told -/
def canon (t : List Nat) : Bool := digB t && (decide (t ≠ []) && (decide (t = [48]) || decide (t.head? ≠ some 48)))
theorem canon_val {t : List Nat} (h : canon t = true) : dg (digitsVal t) = t := by
  simp only [canon, Bool.and_eq_true, Bool.or_eq_true, decide_eq_true_eq] at h
  obtain ⟨h1, h2, h3⟩ := h
  have hd := digB_iff.mp h1
  have back : ∀ l : List Nat, AllDigits l → (l.map Char.ofNat).map Char.toNat = l := by
    intro l
    induction l with
    | nil => intro _; rfl
    | cons c l ih =>
      intro h
      have hc := h.head
      rw [List.map_cons, List.map_cons, ih h.tail]
      congr 1
      have : c.isValidChar := by left; omega
      simp [Char.ofNat, this, Char.toNat, Char.ofNatAux]
  unfold dg
  rcases h3 with rfl | h3
  · decide
  · cases t with
    | nil => exact absurd rfl h2
    | cons c t =>
      have hc : c ≠ 48 := fun e => h3 (by rw [e]; rfl)
      rw [toDigits_all _ hd, List.dropWhile_cons, if_neg (by rw [beq_iff_eq]; exact hc)]
      exact back _ hd
theorem dropWhile_len {p : Nat → Bool} : ∀ l : List Nat, (l.dropWhile p).length ≤ l.length
  | [] => Nat.le_refl _
  | c :: l => by
    rw [List.dropWhile_cons]
    split
    · have := dropWhile_len (p := p) l
      simp; omega
    · exact Nat.le_refl _
theorem canon_dg (m : Nat) : canon (dg m) = true := by
  simp only [canon, Bool.and_eq_true, Bool.or_eq_true, decide_eq_true_eq]
  refine ⟨digB_iff.mpr (dg_digits m), dg_ne m, ?_⟩
  by_cases h : (dg m).head? = some 48
  · left
    cases e : dg m with
    | nil => exact absurd e (dg_ne m)
    | cons c r =>
      rw [e] at h
      have hc : c = 48 := by simpa using h
      subst hc
      cases r with
      | nil => rfl
      | cons d r =>
        exfalso
        have hd : AllDigits (d :: r) := by
          have := dg_digits m
          rw [e] at this
          exact this.tail
        have v : digitsVal (d :: r) = m := by
          have := dg_val m
          rw [e] at this
          rw [← this]
          rfl
        have q := toDigits_all (d :: r) hd
        rw [v] at q
        have q2 : (dg m).length = (Nat.toDigits 10 m).length := by simp [dg]
        rw [e, q] at q2
        have hl := dropWhile_len (p := (· == 48)) (d :: r)
        generalize (d :: r).dropWhile (· == 48) = z at q2 hl
        cases z with
        | nil => simp at q2
        | cons x z => simp at q2 hl; omega
  · exact .inr h
theorem dg_len {m k : Nat} (hk : 1 ≤ k) (h : m < 10 ^ k) : (dg m).length ≤ k := by
  have hc := canon_dg m
  simp only [canon, Bool.and_eq_true, Bool.or_eq_true, decide_eq_true_eq] at hc
  obtain ⟨h1, h2, h3⟩ := hc
  rcases h3 with h3 | h3
  · rw [h3]; exact hk
  · have hd := digB_iff.mp h1
    have v := dg_val m
    cases e : dg m with
    | nil => exact absurd e h2
    | cons c r =>
      rw [e] at hd v h3
      have hc := hd.head
      have hc2 : c ≠ 48 := fun e => h3 (by rw [e]; rfl)
      have g := val_ge (c := c) (cs := r) (by omega)
      rw [v] at g
      have : 10 ^ r.length < 10 ^ k := Nat.lt_of_le_of_lt g h
      have := (Nat.pow_lt_pow_iff_right (by decide : 1 < 10)).mp this
      simp only [List.length_cons]
      omega
theorem canon_big {t : List Nat} (h : canon t = true) (hl : 10 ≤ t.length) : 1000000000 ≤ digitsVal t := by
  simp only [canon, Bool.and_eq_true, Bool.or_eq_true, decide_eq_true_eq] at h
  obtain ⟨h1, h2, h3⟩ := h
  rcases h3 with rfl | h3
  · simp at hl
  · cases t with
    | nil => exact absurd rfl h2
    | cons c r =>
      have hd := digB_iff.mp h1
      have hc := hd.head
      have hc2 : c ≠ 48 := fun e => h3 (by rw [e]; rfl)
      have g := val_ge (c := c) (cs := r) (by omega)
      have : 10 ^ 9 ≤ 10 ^ r.length := Nat.pow_le_pow_right (by decide) (by simp at hl; omega)
      exact Nat.le_trans this g
theorem intText_canon {t : List Nat} (h : digB t = true) (h1 : t ≠ []) (h2 : t.length ≤ 4300) : PySem.intText? (S t) = some ((digitsVal t : Nat) : Int) :=
  intText_digits (x := S t) (digB_iff.mp h) h1 (by rw [S_len]; exact h2)
/-! ### loops over lists that are told by a function -/
section
variable {G : Ge} {pin : Option Nat} {t : CT} {b : CB} {tst : Option CE} {elt : CE} {vs : List Nat} {ρ : ES} {α σ : Type}
theorem comp_mapL {L : Out (List D × ES)} {ts : List α} {f : α → D} (hL : compC G pin t tst elt vs (ts.map f) ρ = L) (g : α → D) (h : ∀ a ∈ ts, compB G pin t tst elt vs (f a) ρ = .ok (some (g a), ρ)) : L = .ok (ts.map g, ρ) := by
  subst hL
  show lcLoop _ _ _ = _
  induction ts with
  | nil => rfl
  | cons a ts ih =>
    have h1 := h a List.mem_cons_self
    have h2 := ih fun x m => h x (List.mem_cons_of_mem _ m)
    simp only [List.map_cons, lcLoop, h1, h2, Out.bind]
theorem comp_filterL {L : Out (List D × ES)} {ts : List α} {f : α → D} (hL : compC G pin t tst elt vs (ts.map f) ρ = L) (g : α → Option D) (h : ∀ a ∈ ts, compB G pin t tst elt vs (f a) ρ = .ok (g a, ρ)) : L = .ok (ts.filterMap g, ρ) := by
  subst hL
  show lcLoop _ _ _ = _
  induction ts with
  | nil => rfl
  | cons a ts ih =>
    have h1 := h a List.mem_cons_self
    have h2 := ih fun x m => h x (List.mem_cons_of_mem _ m)
    simp only [List.map_cons, lcLoop, h1, h2, Out.bind, List.filterMap_cons]
    cases g a <;> rfl
/-- what a loop comes to, by a step of plain states: the state behind it, or what it returns -/
def walk (step : σ → α → Sum σ R) : σ → List α → Sum σ R
  | s, [] => .inl s
  | s, d :: ds => match step s d with
    | .inl s' => walk step s' ds
    | .inr r => .inr r
/-- .. told of the slots -/
def WalkTo (I : σ → ES → Prop) (L : Out (Fl × ES)) : Sum σ R → Prop
  | .inl s => ∃ ρ', I s ρ' ∧ L = .ok (.next, ρ')
  | .inr r => ∃ ρ', L = .ok (.ret r, ρ')
theorem loop_walk {L : Out (Fl × ES)} {ts : List α} {f : α → D} (hL : loopC G pin t b (ts.map f) ρ = L) (I : σ → ES → Prop) (step : σ → α → Sum σ R) (s : σ)
    (h : ∀ a ∈ ts, ∀ s ρ, I s ρ → WalkTo I (Out.bind (asgE G pin t (.val (f a)) ρ) fun ρ1 => exs G pin b ρ1) (step s a)) (i : I s ρ) : WalkTo I L (walk step s ts) := by
  subst hL
  show WalkTo I (forLoop _ _ _) _
  induction ts generalizing s ρ with
  | nil => exact ⟨ρ, i, rfl⟩
  | cons a ts ih =>
    have h1 := h a List.mem_cons_self s ρ i
    unfold walk
    cases e : step s a with
    | inl s' =>
      rw [e] at h1
      obtain ⟨ρ1, i1, h1⟩ := h1
      have h2 := ih s' (fun x m => h x (List.mem_cons_of_mem _ m)) i1
      simp only [List.map_cons, forLoop, h1, bind_ok]
      exact h2
    | inr r =>
      rw [e] at h1
      obtain ⟨ρ1, h1⟩ := h1
      exact ⟨ρ1, by simp only [List.map_cons, forLoop, h1, bind_ok]⟩
theorem loop_preL {L : Out (Fl × ES)} {ts : List α} {f : α → D} (hL : loopC G pin t b (ts.map f) ρ = L) (I : List α → ES → Prop)
    (h : ∀ pre a rest ρ, ts = pre ++ a :: rest → I pre ρ → ∃ ρ', I (pre ++ [a]) ρ' ∧ (Out.bind (asgE G pin t (.val (f a)) ρ) fun ρ1 => exs G pin b ρ1) = .ok (.next, ρ')) (i : I [] ρ) : ∃ ρ', I ts ρ' ∧ L = .ok (.next, ρ') := by
  subst hL
  show ∃ ρ', I ts ρ' ∧ forLoop _ _ _ = _
  have key : ∀ (rest done : List α) (ρ : ES), ts = done ++ rest → I done ρ → ∃ ρ', I ts ρ' ∧ forLoop (fun d ρ => Out.bind (asgE G pin t (.val d) ρ) fun ρ1 => exs G pin b ρ1) (rest.map f) ρ = .ok (.next, ρ') := by
    intro rest
    induction rest with
    | nil => intro done ρ e i; rw [List.append_nil] at e; subst e; exact ⟨ρ, i, rfl⟩
    | cons a rest ih =>
      intro done ρ e i
      obtain ⟨ρ1, i1, h1⟩ := h done a rest ρ e i
      obtain ⟨ρ2, i2, h2⟩ := ih (done ++ [a]) ρ1 (by rw [e]; simp) i1
      exact ⟨ρ2, i2, by simp only [List.map_cons, forLoop, h1, bind_ok, h2]⟩
  exact key ts [] ρ rfl i
end
theorem all_mapB {α : Type} (p : α → Bool) (ts : List α) : bi .all [.list (ts.map fun a => .bool (p a))] = .ok (.val (.bool (ts.all p))) := by
  have h : bools? (ts.map fun a => PyData.bool (p a)) = some (ts.map p) := by
    induction ts with
    | nil => rfl
    | cons a ts ih => simp [bools?, ih]
  simp only [bi, h]
  congr 3
  induction ts with
  | nil => rfl
  | cons a ts ih => simp
theorem any_mapB {α : Type} (p : α → Bool) (ts : List α) : bi .any [.list (ts.map fun a => .bool (p a))] = .ok (.val (.bool (ts.any p))) := by
  have h : bools? (ts.map fun a => PyData.bool (p a)) = some (ts.map p) := by
    induction ts with
    | nil => rfl
    | cons a ts ih => simp [bools?, ih]
  simp only [bi, h]
  congr 3
  induction ts with
  | nil => rfl
  | cons a ts ih => simp
theorem shaped_bool (x : Bool) : SeqAt.shaped (.bool x) = true := rfl
theorem shaped_none : SeqAt.shaped .none = true := rfl
@[simp] theorem ex_val (d : D) : (∃ x : Option D, some (B.val d) = Option.map B.val x) = True := eq_true ⟨some d, rfl⟩
@[simp] theorem ex_map (y : Option D) : (∃ x : Option D, Option.map B.val y = Option.map B.val x) = True := eq_true ⟨y, rfl⟩
@[simp] theorem ex_none : (∃ x : Option D, (none : Option B) = Option.map B.val x) = True := eq_true ⟨none, rfl⟩
theorem s_str {i : Int} (h : i.natAbs < 2 ^ 1900) : DI.bi .str [.int i] = .ok (.val (.str (toString i))) := by simp only [DI.bi, if_pos h]
theorem s_join {a : Str} {xs : List D} {ys : List Str} (h : strs? xs = some ys) (hz : (ys.map (·.length)).sum + ys.length * a.length ≤ SZ) : DI.mt .join (.str a) [.list xs] = .ok (.val (.str (Txt.join a ys))) := by simp only [DI.mt, h, if_pos hz]
/-- a loop that only goes on, by what is done -/
theorem for_pre {f : D → ES → Out (Fl × ES)} (I : List D → ES → Prop) : ∀ {ds done : List D} {ρ : ES}, (∀ pre d rest ρ, done ++ ds = pre ++ d :: rest → I pre ρ → ∃ ρ', I (pre ++ [d]) ρ' ∧ f d ρ = .ok (.next, ρ')) → I done ρ → ∃ ρ', I (done ++ ds) ρ' ∧ forLoop f ds ρ = .ok (.next, ρ')
  | [], done, ρ, _, i => ⟨ρ, by rw [List.append_nil]; exact i, rfl⟩
  | d :: ds, done, ρ, h, i => by
    obtain ⟨ρ1, i1, h1⟩ := h done d ds ρ rfl i
    have e : done ++ d :: ds = (done ++ [d]) ++ ds := by simp
    obtain ⟨ρ2, i2, h2⟩ := for_pre I (ds := ds) (done := done ++ [d]) (fun pre x rest ρ q => h pre x rest ρ (e.trans q)) i1
    exact ⟨ρ2, by rw [e]; exact i2, by simp only [forLoop, h1, Out.bind, h2]⟩
theorem loop_pre {G : Ge} {pin : Option Nat} {t : CT} {b : CB} {ds : List D} {ρ : ES} {L : Out (Fl × ES)} (hL : loopC G pin t b ds ρ = L) (I : List D → ES → Prop) (h : ∀ pre d rest ρ, ds = pre ++ d :: rest → I pre ρ → ∃ ρ', I (pre ++ [d]) ρ' ∧ (Out.bind (asgE G pin t (.val d) ρ) fun ρ1 => exs G pin b ρ1) = .ok (.next, ρ')) (i : I [] ρ) : ∃ ρ', I ds ρ' ∧ L = .ok (.next, ρ') := by
  subst hL
  exact for_pre I (done := []) h i
end DI
end

section
set_option maxRecDepth 100000
set_option maxHeartbeats 2000000
/-! KX: own errors with one field, over any built-in base (turned from the kit's worked proof of an own error). -/
namespace PySem
namespace OwnX
open PySem.W PySem.Calls PyProof.Rows PySem.HandSPX Builtin Builtin.ObjectAttr
def iA (f : Str) (p1 p2 : Pos) : Arguments := { posonlyargs := [], args := [{ arg := "self", annotation := none, pos := p1 }, { arg := f, annotation := none, pos := p2 }], vararg := none, kwonlyargs := [], kw_defaults := [], kwarg := none, defaults := [] }
def iB (f : Str) (q1 q2 q3 q4 : Pos) : List Stmt := [.Assign [.Attribute (.Name "self" q1) f q2] (.Name f q3) q4]
def iS (f : Str) : Scope := { kind := .function, names := [(PySem.Str.ofString "self", .local), (f, .local)], isGenerator := false, isCoroutine := false, more := [] }
/-- what the written part says of the class x, at C, and of its __init__, at fI -/
structure OwnTxt (K : Frag) (mg : Str → Option Value) (x f q : Str) (bmB : List Value) (newId : String) (C fI : Addr) : Prop where
  gC : mg x = some (.ref C)
  cls : excInitIn K C bmB newId = true
  dic : (clsIn K C).any (fun cd => cd.hasDict && excTail bmB cd.mro) = true
  sa : findIn K (.ref C) "__setattr__" = some (some (.builtin "object.__setattr__"))
  ga : findIn K (.ref C) "__getattribute__" = some (some (.builtin "BaseException.__getattribute__"))
  gg : findIn K (.ref C) "__getattr__" = some none
  noN : findIn K (.ref C) f = some none
  iC : findIn K (.ref C) "__init__" = some (some (.ref fI))
  tC : typeIn K (.ref fI) = some (.type "function")
  kC : keepIn K (.ref C) = true
  exC : subIn K (.ref C) (.type "BaseException") = some true
  tyC : typeIn K (.ref C) = some (.type "type")
  hdC : hasDictIn K C = true
  te : exmOne K (.ref C) (.ref C) = some true
  fn : ∃ (oc : Value) (od : Option Addr) (kV doc pm : Value) (an : Option Addr) (cdv ct : Value) (osl : Array (Option Value)) (p1 p2 q1 q2 q3 q4 : Pos),
    K.lookup fI = some ⟨oc, od, .func (fnOf "__init__" q (iA f p1 p2) (iB f q1 q2 q3 q4) (iS f) .none kV doc pm an cdv ct), osl⟩ ∧ codeIn K cdv q = true
theorem one_size (v : Value) : [v].length ≤ sizeLine := by
  rw [sizeLine_eq]
  exact (by decide : 1 ≤ 16777216)
theorem excTail_ne {bmB : List Value} (hb : bmB ≠ []) {l : List Value} (e : excTail bmB l = true) : l.isEmpty = false := by
  cases l with
  | nil => exact absurd (beq_iff_eq.mp (show (([] : List Value) == bmB) = true from e)).symm hb
  | cons _ _ => rfl
section
variable {prog : Program} {w : World} {A : Around} {E : Value → Shared → Prop} {R : Result → Shared → Prop} {hp : Heap} {g : Array GenState} {d : Drawn} {t : Nat} {os : OsState}
theorem osa_any {B : String} {bmB : List Value} (SB : StoreFacts B bmB "object.__setattr__" "object") (hob : bmB.contains (.type "object") = true) (hne : bmB ≠ []) {K : W.Frag} {name : Str} {tk : Tok} {v : Value} {x C : Addr} {fv : Array Value} {cd : ClassData}
    (X : K.In hp) (hx : hp.get? x = some { cls := .ref C, data := .fields fv }) (hcd : W.clsIn K C = some cd) (hm : excTail bmB cd.mro = true) (hh : cd.hasDict = true) (ha : W.findIn K (.ref C) name = some none)
    (hq : ∀ h' tk' dx, (∀ b o, b ≠ x → hp.get? b = some o → h'.get? b = some o) → hp.objs.size ≤ dx → dx ≠ x → h'.get? x = some { cls := .ref C, dict := some dx, data := .fields fv } →
      h'.Ns1 dx (fun y => if y = name then some v else none) → R (.ok (.ret .none)) ⟨h', g, d, tk', os⟩) :
    codeAny (model prog w) A (.call (.builtin "object.__setattr__") ⟨[.ref x, .str name tk, v], []⟩) R ⟨hp, g, d, t, os⟩ := by
  have I : W.InstAt hp x { cls := .ref C, data := .fields fv } C none := ⟨hx, rfl, rfl, trivial⟩
  have SF := F.store_object
  have ne := excTail_ne hne hm
  have hob : cd.mro.contains (.type "object") = true := (excTail_contains "object" _ hm).trans hob
  have hxs : x ≠ hp.objs.size := Nat.ne_of_lt (Heap.lt_size hx)
  have sub : W.Looks (model prog w) hp (isInstance (.ref x) (.type "object")) true := I.type.andThen (W.looks_mroIn X (by unfold W.mroIn; rw [hcd, Option.bind_some, if_neg (by rw [ne]; decide), hob]))
  refine codeAny_call_builtin SF.slot.plain SF.entry (@W.check_slot (model prog w) _ _ ⟨hp, g, d, t, os⟩ "object.__setattr__" "object" "__setattr__" (.ref x) [.str name tk, v] [] _ SF.kind SF.split sub (SF.args (.ref x) (.str name tk) v) ?_)
  have hmr : W.Looks (model prog w) hp (mroOf (.ref C)) cd.mro := (W.looks_clsIn X hcd).andThen .now
  have L3 : W.Looks (model prog w) hp (storeTaker? none) none := .now
  have hcls : W.Looks (model prog w) hp (classData C) cd := W.looks_clsIn X hcd
  rw [W.osa_eq, refuse_eq]
  refine wpAny_bind (wpAny_bind (I.type.at (wpAny_bind (hmr.at ?_))))
  rw [excTail_pass _ (SB.passes _) _ hm]
  refine wpAny_pure (wpAny_bind (I.type.at (wpAny_bind ((W.looks_findIn X ha).at (wpAny_bind (L3.at ?_))))))
  show wpAny _ _ (storeInOwnDict (.ref x) (.ref C) (.str name tk) name v false) _ _ _
  obtain ⟨nm, bs, mro, ns, qn, hd, sn, sb, ab, col, del⟩ := cd
  dsimp only at hh
  subst hh
  unfold storeInOwnDict ownDictForStores
  repeat (first | with_reducible refine store_in_new ?_ ?_ | with_reducible refine wpAny_loadPart_at hx ?_ | with_reducible refine hcls.at ?_ | wp_step)
  · exact ⟨_, #[], _, (Heap.get?_update_ne _ _ _ _ hxs.symm).trans (Heap.get?_push_at rfl rfl), rfl, fun e he => absurd he (by simp), fun _ => rfl⟩
  · intro h' tk' hn' hs
    have hx₁ : (hp.push { cls := .type "dict", data := .dict #[] }).get? x = some { cls := .ref C, data := .fields fv } := Heap.get?_push_of_some _ hx
    refine hq h' tk' hp.objs.size (fun b o hb ho => ?_) (Nat.le_refl _) hxs.symm ?_ hn'
    · exact (hs.2 b (Nat.ne_of_lt (Heap.lt_size ho))).trans ((Heap.get?_update_ne _ _ _ _ hb).trans (Heap.get?_push_of_some _ ho))
    · exact (hs.2 x hxs).trans (Heap.get?_update_self _ hx₁ rfl)
end
theorem ldC {M : Model} {s : Shared} {name : Str} {scope : Scope} {L a : Addr} {cd : Value} {m : Str → Option Value} {x : Str} {pos : Pos} {v : Value} {Q : Value → Shared → Prop} {A : Around} {E : Value → Shared → Prop} (hn : s.heap.Ns L m) (hv : m x = some v) (h : Q v s)
    (hk : scope.kind = .function) (hl : (envOfC name scope L a cd).kindOf x = some .local) (hd : (x == ("__debug__" : Str)) = false) :
    wpAny M A (eval (.Name x pos) (envOfC name scope L a cd)) Q E s := wpAny_Name (wpAny_loadName_local hk hl hn hv h) hd
/-- what __init__ leaves of a fresh exception at x -/
structure InitEnd (f : Str) (h h' : Heap) (x C dx t1 : Addr) (v : Value) : Prop where
  keep : ∀ b o, b ≠ x → h.get? b = some o → h'.get? b = some o
  obj : h'.get? x = some { cls := .ref C, dict := some dx, data := .fields #[.ref t1, .none, .none, .none, .bool false, .none] }
  dbig : h.objs.size ≤ dx
  dne : dx ≠ x
  ns : h'.Ns1 dx (fun y => if y = f then some v else none)
/-- a made error -/
structure OwnMade (f : Str) (h h' : Heap) (e C d : Addr) (v : Value) : Prop where
  keep : ∀ b o, h.get? b = some o → h'.get? b = some o
  new : h.objs.size ≤ e
  obj : ∃ oe vs, h'.get? e = some oe ∧ oe.cls = .ref C ∧ oe.dict = some d ∧ oe.data = .fields vs ∧ vs[1]? = some .none
  dbig : h.objs.size ≤ d
  dne : d ≠ e
  ns : h'.Ns1 d (fun y => if y = f then some v else none)
/-- a name for a field -/
structure FieldOk (f : Str) : Prop where
  ns : f ≠ "self"
  dbg : (f == ("__debug__" : Str)) = false
section
variable {prog : Program} {w : World} {A : Around} {E : Value → Shared → Prop} {R : Result → Shared → Prop} {s : Shared} {K : Frag} {mg : Str → Option Value} {x f q : Str} {B newId initId : String} {bmB : List Value} {C fI : Addr}
theorem own_init (SB : StoreFacts B bmB "object.__setattr__" "object") (hob : bmB.contains (.type "object") = true) (hne : bmB ≠ []) (T : OwnTxt K mg x f q bmB newId C fI) (hf : f = "line" ∨ f = "value") {e t0 : Addr} {v : Value} (X : K.In s.heap) (hlim : s.heap.NoLimit) (hx : s.heap.get? e = some (excO C t0)) (hnx : K.lookup e = none) (hroom : A.depth < recursionLimit)
    (hq : ∀ h' tk dx, InitEnd f s.heap h' e C dx t0 v → R (.ok (.ret .none)) { s with heap := h', toks := tk }) :
    codeAny (model prog w) A (.call (.ref fI) ⟨[.ref e, v], []⟩) R s := by
  obtain ⟨oc, od, kV, doc, pm, an, cdv, ct, osl, p1, p2, q1, q2, q3, q4, ho, hcd⟩ := T.fn
  obtain ⟨cd, hcl, hcd2⟩ : ∃ cd, clsIn K C = some cd ∧ (cd.hasDict && excTail bmB cd.mro) = true := by
    have := T.dic
    cases h : clsIn K C with
    | none => rw [h] at this; cases this
    | some cd => rw [h] at this; exact ⟨cd, rfl, this⟩
  rw [Bool.and_eq_true] at hcd2
  rcases hf with rfl | rfl
  all_goals
    refine Att.call_fn (binds := [("self", .ref e), (_, v)]) X hlim ho hcd hroom (BindsTo.of_eq (by first | rfl | with_unfolding_all rfl)) (by first | rfl | decide | with_unfolding_all rfl) (fun s₁ IC => ?_) rfl rfl rfl
    obtain ⟨h₁, tk₁, rfl⟩ := IC.toInCall.same
    have k : ∀ b o, s.heap.get? b = some o → h₁.get? b = some o := IC.toInCall.keep
    have hn := IC.toInCall.ns
    have hxL : s.heap.objs.size ≠ e := Nat.ne_of_gt (Heap.lt_size hx)
    have X₁ : K.In h₁ := X.keeps k
    have hx₁ := k _ _ hx
    show wpAny _ _ (execs _ _) _ _ _
    refine wpAny_execs_cons (plainObj_wpAny_Assign_Attribute ?_)
    refine ldC (v := v) hn (by first | rfl | with_unfolding_all rfl | kernel_rfl) (ldC (v := .ref e) hn (by first | rfl | with_unfolding_all rfl | kernel_rfl) ?_ (by rfl) (by rfl) (by decide)) (by rfl) (by rfl) (by decide)
    refine set_plain X₁ (ox := excO C t0) (od := none) ⟨hx₁, rfl, rfl, trivial⟩ T.sa ?_
    refine osa_any SB hob hne X₁ hx₁ hcl hcd2.2 hcd2.1 T.noN (fun h₃ tk₃ dx k₃ dn dne hx₃ hn₃ => ?_)
    show wpAny _ _ (execs _ _) _ _ _
    have z : s.heap.objs.size < h₁.objs.size := hn.lt
    exact wpAny_execs_nil (hq h₃ tk₃ dx ⟨fun b o hb eo => k₃ b o hb (k b o eo), hx₃, Nat.le_of_lt (Nat.lt_of_lt_of_le z dn), dne, hn₃⟩)
theorem own_made (FB : ExcBaseFacts B newId initId bmB) (SB : StoreFacts B bmB "object.__setattr__" "object") (hob : bmB.contains (.type "object") = true) (hne : bmB ≠ []) (T : OwnTxt K mg x f q bmB newId C fI) (hf : f = "line" ∨ f = "value") {v : Value} (X : K.In s.heap) (hlim : s.heap.NoLimit) (hroom : A.depth + 1 < recursionLimit)
    (hq : ∀ h' tk e d, OwnMade f s.heap h' e C d v → R (.ok (.ret (.ref e))) { s with heap := h', toks := tk }) :
    codeAny (model prog w) A (.call (.ref C) ⟨[v], []⟩) R s := by
  obtain ⟨nm, N', qn, bs, bm, hdct, sn, sub, ab, col, dd, k0, k1, k2, k3, k5, hC, hT⟩ := excInit_of X T.cls
  obtain ⟨hp, g, dr, tk, os⟩ := s
  have k : ∀ b o, hp.get? b = some o → ((hp.push (kdv_tup [v])).push (excO C hp.objs.size)).get? b = some o := fun b o e => Heap.get?_push_of_some _ (Heap.get?_push_of_some _ e)
  have hget : ((hp.push (kdv_tup [v])).push (excO C hp.objs.size)).get? (hp.objs.size + 1) = some (excO C hp.objs.size) := by heap_get
  have hnx : K.lookup (hp.objs.size + 1) = none := by
    cases e : K.lookup (hp.objs.size + 1) with
    | none => rfl
    | some o =>
      have z : hp.get? (hp.objs.size + 1) = some o := X _ _ e
      exact absurd (Nat.lt_of_succ_lt (Heap.lt_size z)) (Nat.lt_irrefl _)
  refine call_own FB hT hC (looks_findIn X T.iC) (fun self => bind_fn X self T.tC) (one_size v) ?_
  refine own_init (s := ⟨(hp.push (kdv_tup [v])).push (excO C hp.objs.size), g, dr, tk, os⟩) SB hob hne T hf (X.keeps k) (hlim.keeps k) hget hnx ?_ fun h' tk' dx ⟨k', hx, dn, dne, hns⟩ => ?_
  · show A.depth + 1 < recursionLimit
    exact hroom
  · have old : ∀ b o, hp.get? b = some o → h'.get? b = some o := fun b o e => k' b o (Nat.ne_of_lt (Nat.lt_succ_of_lt (Heap.lt_size e))) (k b o e)
    have z : hp.objs.size + 1 + 1 ≤ dx := by
      first
        | (simpa only [Heap.size_push] using dn)
        | exact dn
        | (have q := dn; rw [Heap.size_push, Heap.size_push] at q; exact q)
    exact ⟨rfl, hq h' tk' (hp.objs.size + 1) dx ⟨old, Nat.le_succ _, ⟨_, _, hx, rfl, rfl, rfl, rfl⟩, Nat.le_trans (Nat.le_trans (Nat.le_succ _) (Nat.le_succ _)) z, dne, hns⟩⟩
end
end OwnX
end PySem
end

section
set_option maxRecDepth 100000
set_option maxHeartbeats 2000000
/-! KX2: own errors with one field: made, raised, read; a call that may let one out. -/
namespace DI
open PySem PySem.Spec PyProof.Rows L2
/-- .. as facts of the written part -/
def excOk (x f : Str) (bmB : List Value) (newId : String) (K : PySem.W.Frag) : Bool :=
  PySem.W.excInitIn K (He.ga K x) bmB newId && ((PySem.W.clsIn K (He.ga K x)).any (fun cd => cd.hasDict && PySem.W.excTail bmB cd.mro) && (He.eqO (PySem.W.findIn K (.ref (He.ga K x)) "__setattr__") (some (some (.builtin "object.__setattr__"))) &&
  (He.eqO (PySem.W.findIn K (.ref (He.ga K x)) "__getattribute__") (some (some (.builtin "BaseException.__getattribute__"))) && (He.eqO (PySem.W.findIn K (.ref (He.ga K x)) "__getattr__") (some none) && (He.eqO (PySem.W.findIn K (.ref (He.ga K x)) f) (some none) &&
  (He.eqO (PySem.W.findIn K (.ref (He.ga K x)) "__init__") (some (some (.ref (He.fAd K (x, some "__init__"))))) && (decide (PySem.W.typeIn K (.ref (He.fAd K (x, some "__init__"))) = some (.type "function")) && (PySem.W.keepIn K (.ref (He.ga K x)) &&
  (decide (PySem.W.subIn K (.ref (He.ga K x)) (.type "BaseException") = some true) && (decide (PySem.W.typeIn K (.ref (He.ga K x)) = some (.type "type")) && (PySem.W.hasDictIn K (He.ga K x) && decide (PySem.W.exmOne K (.ref (He.ga K x)) (.ref (He.ga K x)) = some true))))))))))))
theorem exc_txt {K : PySem.W.Frag} {mg : Str → Option Value} {x f q : Str} {bmB : List Value} {newId : String} (g : mg x = some (.ref (He.ga K x))) (h : excOk x f bmB newId K = true)
    (fn : ∃ (oc : Value) (od : Option Addr) (kV doc pm : Value) (an : Option Addr) (cdv ct : Value) (osl : Array (Option Value)) (p1 p2 q1 q2 q3 q4 : Pos),
      K.lookup (He.fAd K (x, some "__init__")) = some ⟨oc, od, .func (PySem.W.fnOf "__init__" q (PySem.OwnX.iA f p1 p2) (PySem.OwnX.iB f q1 q2 q3 q4) (PySem.OwnX.iS f) .none kV doc pm an cdv ct), osl⟩ ∧ PySem.W.codeIn K cdv q = true) :
    PySem.OwnX.OwnTxt K mg x f q bmB newId (He.ga K x) (He.fAd K (x, some "__init__")) := by
  unfold excOk at h
  simp only [Bool.and_eq_true, decide_eq_true_eq] at h
  obtain ⟨h1, h2, h3, h4, h5, h6, h7, h8, h9, h10, h11, h12, h13⟩ := h
  exact ⟨g, h1, h2, He.eqO_ok h3, He.eqO_ok h4, He.eqO_ok h5, He.eqO_ok h6, He.eqO_ok h7, h8, h9, h10, h11, h12, h13, fn⟩
theorem relO_fld {f0 : Str} {v : V} {v' : Value} (r : RelV v v') (f : Str) : RelO (List.lookup f [(f0, v)]) (if f = f0 then some v' else none) := by
  by_cases hw : f = f0
  · subst hw
    rw [if_pos rfl]
    have q : List.lookup f [(f, v)] = some v := by simp [List.lookup]
    rw [q]
    exact r
  · rw [if_neg hw]
    have qw : (f == f0) = false := by simpa using hw
    have q2 : List.lookup f [(f0, v)] = none := by simp [List.lookup, qw]
    rw [q2]
    trivial
section
variable {X : Cx} {x f q : Str} {B newId initId : String} {bmB : List Value} {C fI : Addr}
/-- x(e) -/
def tMkE (C : Addr) (f : Str) (ta : TA) : L2.St → Hp → XK → Prop := fun σ H Q => ta σ H fun vs H1 => ∃ v, vs = [v] ∧ ∀ d, H1 d = none → Q (.ref C) (some d) (upd H1 d (.xd [(f, v)]))
theorem pmk_E {a : Expr} {ta : TA} {p pos : Pos} {k : Nat} (FB : ExcBaseFacts B newId initId bmB) (SB : StoreFacts B bmB "object.__setattr__" "object") (hob : bmB.contains (.type "object") = true) (hne : bmB ≠ []) (T : PySem.OwnX.OwnTxt X.K X.mg x f q bmB newId C fI) (hf : f = "line" ∨ f = "value")
    (hr : Room k X.A) (ha : PA X [a] ta) (hg : Gl X x) (hdb : (x == ("__debug__" : Str)) = false)
    (he : starEach (a :: []) X.env = (false, eval a X.env) :: starEach [] X.env := by rfl) (hpl : (backTo pos (starEach [] X.env)).any (·.1) = false := by rfl) :
    PMk X (.Call (.Name x p) [a] [] pos) (tMkE C f ta) := by
  intro pins s σ H Q I h
  refine wpAny_Call_Name_kw (ld_glob I hg T.gC ?_ hdb)
  refine PySem.W.callWith_K (h₀ := X.base) I.ok.mod.kin T.kC (thn (ha.run pos pins s σ H _ I h) fun us s1 hh => ?_) he hpl
  obtain ⟨vs, H1, I1, r1, v, ev, q1⟩ := hh
  subst ev
  refine ⟨I1.kIn, ?_⟩
  cases r1 with
  | cons rv rn =>
    rename_i v' us'
    cases rn
    show wpAny _ _ (call (.ref C) [v']) _ _ _
    have hlim := I1.nolimit
    obtain ⟨hp, g, dr, tk, os⟩ := s1
    refine wpAny_call (PySem.OwnX.own_made FB SB hob hne T hf I1.kIn hlim (by have := hr.dp; omega) fun h' tk' e d M => ?_)
    show MkP X pins σ Q (.ref e) ⟨h', g, dr, tk', os⟩
    obtain ⟨oe, fv, hoe, hc, hd, hdat, h1⟩ := M.obj
    have hns := M.ns
    obtain ⟨G', g1, g2⟩ := restrict h' fun b => decide (b ≠ e)
    have gk : ∀ b, b ≠ e → G'.get? b = h'.get? b := fun b hb => g1 b (decide_eq_true hb)
    have ge : G'.get? e = none := g2 e (by simp)
    have old : ∀ b o, hp.get? b = some o → G'.get? b = some o := fun b o q => (gk b (Nat.ne_of_lt (Nat.lt_of_lt_of_le (Heap.lt_size q) M.new))).trans (M.keep b o q)
    have ob : ObjOk X.prog X.w (upd H1 d (.xd [(f, v)])) G' d (.xd [(f, v)]) :=
      ⟨_, hns.at (fun o q => (gk d M.dne).trans q), fun f' => relO_fld rv f'⟩
    have J : Inv X pins σ (upd H1 d (.xd [(f, v)])) ⟨G', g, dr, tk', os⟩ := I1.laid (t' := tk') old M.dbig ob
    refine ⟨e, oe, fv, ⟨G', g, dr, tk', os⟩, _, .ref C, some d, rfl, J, fun b o q => ?_, ge, hoe, ⟨hc, hd⟩, hdat, h1, ?_, rfl, I1.bare, raises_own T.exC T.tyC, q1 d (I1.hok.fresh M.dbig)⟩
    · by_cases hb : b = e
      · have q' : G'.get? b = some o := q
        rw [hb, ge] at q'; cases q'
      · exact (gk b hb).symm.trans q
    · rw [upd_ne (Ne.symm M.dne)]
      exact I1.hok.fresh M.new
/-- raise x(e) -/
def tRaiseE (C : Addr) (f : Str) (W : WX) (ta : TA) : TS := fun _ σ H => tMkE C f ta σ H fun cls d H' => W cls d σ H'
theorem ps_raiseE {a : Expr} {ta : TA} {W : WX} {p pos pos2 : Pos} {k : Nat} (hc : X.calm = true) (FB : ExcBaseFacts B newId initId bmB) (SB : StoreFacts B bmB "object.__setattr__" "object") (hob : bmB.contains (.type "object") = true) (hne : bmB ≠ []) (T : PySem.OwnX.OwnTxt X.K X.mg x f q bmB newId C fI) (hf : f = "line" ∨ f = "value") (hr : Room k X.A) (tk : Takes X W) (ha : PA X [a] ta) (hg : Gl X x) (hdb : (x == ("__debug__" : Str)) = false)
    (he : starEach (a :: []) X.env = (false, eval a X.env) :: starEach [] X.env := by rfl) (hpl : (backTo pos (starEach [] X.env)).any (·.1) = false := by rfl) :
    PS X (.Raise (some (.Call (.Name x p) [a] [] pos)) none pos2) (tRaiseE C f W ta) := ps_raise hc tk (pmk_E FB SB hob hne T hf hr ha hg hdb he hpl)
/-- e.f, e the exception that the suite holds (at a; its class cls, its dict d) -/
def tFld (C : Addr) (f : Str) (a : Addr) (cls : Value) (d : Option Addr) (te : TE) : TE := fun σ H Q => te σ H fun x H1 => x = .ref a ∧ cls = .ref C ∧ ∃ (dd : Addr) (v : V), d = some dd ∧ H1 dd = some (.xd [(f, v)]) ∧ Q v H1
theorem pe_fld {a : Addr} {oe : Obj} {cls : Value} {d : Option Addr} {pn : List (Addr × Obj)} {e : Expr} {te : TE} {pos : Pos} (T : PySem.OwnX.OwnTxt X.K X.mg x f q bmB newId C fI) (hz : Zc cls d oe) (hf : ∃ vs, oe.data = .fields vs) (he : PE (X.suite a ((a, oe) :: pn)) e te)
    (hb : attributeBase e f X.env (eval e X.env) = eval e X.env := by rfl) :
    PE (X.suite a ((a, oe) :: pn)) (.Attribute e f pos) (tFld C f a cls d te) := by
  refine ⟨fun pins s σ H Q I h => ?_⟩
  refine attr_of hb (thn (he.run pins s σ H _ I h) fun u s1 hh => ?_)
  obtain ⟨x, H1, I1, rx, ex, ec, dd, v, ed, ea, q⟩ := hh
  subst ex
  obtain rfl : u = Value.ref a := rx
  subst ec
  subst ed
  obtain ⟨ha, _⟩ := I1.pin (a, oe) (List.mem_append_left _ List.mem_cons_self)
  obtain ⟨vs, hd⟩ := hf
  have hx : ObjOk X.prog X.w H1 s1.heap dd (.xd [(f, v)]) := I1.hok dd _ ea
  obtain ⟨mA, hns, hr⟩ := hx
  obtain ⟨od, ho, hl⟩ := lookIn_ns hns
  have l : List.lookup f [(f, v)] = some v := by simp [List.lookup]
  obtain ⟨u, hu, ru⟩ := RelO.some_of (v := v) (o := mA f) (by rw [← l]; exact hr f)
  have J : PySem.W.InstAt s1.heap a oe C (some od) := ⟨ha, hz.1, by unfold PySem.W.notCls; rw [hd] <;> rfl, by rw [hz.2]; exact ho⟩
  exact HandSPX.exc_get I1.kIn J T.ga T.gg T.exC (PySem.W.findObj_own T.hdC T.noN rfl (by rw [hl, hu])) (handed_of ru) ⟨v, H1, I1.tok _, ru, q⟩
end
section
variable {X : Cx} {CX : CXT} {k : Nat} {f : Addr} {fd : FuncData} {ps : List Str} {sp : Sp} {E : L2.St → XK} {x : Str} {p pos : Pos} {e : Expr} {es : List Expr} {t : TA}
theorem run_GS {pins : List (Addr × Obj)} {σ : L2.St} {H : Hp} {s : Shared} {Q : VK} {us : List Value} {vs : List V} (F : FnG X.prog X.w X.K X.mg X.base CX k f fd ps sp) (hr : Room k X.A) (hgd : X.A.guards = some []) (hx : PassesAt CX X σ (E σ))
    (I : Inv X pins σ H s) (hb : BindAll fd ps) (r : Vals vs us) (h : sp vs H Q (E σ)) : wpAny (model X.prog X.w) X.A (call (.ref f) us) (EP X pins σ Q) X.xe s := by
  have hl : us.length = ps.length := r.length.symm.trans (F.len _ _ _ _ h)
  refine wpAny_call (codeAny_mono (F.run X.A X.stack s H ⟨us, []⟩ us vs Q (E σ) hr hgd I.env0 (.of_eq (hb us hl)) r h) fun r s' hq => ?_)
  cases r with
  | error e => exact hx pins H s e s' I hq
  | ok fl =>
    cases fl with
    | ret u => exact I.after hq
    | next => exact False.elim hq
    | brk => exact False.elim hq
    | cont => exact False.elim hq
/-- f(e, ..) that may let an error out -/
theorem pe_callGS (F : FnG X.prog X.w X.K X.mg X.base CX k f fd ps sp) (hr : Room k X.A) (hgd : X.A.guards = some []) (hg : Gl X x) (hm : X.mg x = some (.ref f)) (hk : PySem.W.keepIn X.K (.ref f) = true) (hb : BindAll fd ps) (hx : ∀ σ, PassesAt CX X σ (E σ))
    (ha : PA X (e :: es) t) (hdb : (x == ("__debug__" : Str)) = false) (he : starEach (e :: es) X.env = (false, eval e X.env) :: starEach es X.env := by rfl) (hpl : (backTo pos (starEach es X.env)).any (·.1) = false := by rfl) :
    PE X (.Call (.Name x p) (e :: es) [] pos) (tCallS sp E t) := by
  refine ⟨fun pins s σ H Q I h => ?_⟩
  refine wpAny_Call_Name_kw (ld_glob I hg hm ?_ hdb)
  refine PySem.W.callWith_K (h₀ := X.base) I.ok.mod.kin hk (thn (ha.run pos pins s σ H _ I h) fun us s1 ⟨vs, H1, I1, r, q⟩ => ⟨I1.kIn, ?_⟩) he hpl
  exact run_GS F hr hgd (hx σ) I1 hb r q
theorem pss_or {sts : List Stmt} {t u : TS} (h : PSs X sts t) (g : PSs X sts u) : PSs X sts (fun D σ H => t D σ H ∨ u D σ H) := ⟨fun pins s σ H D I hq => hq.elim (h.run pins s σ H D I) (g.run pins s σ H D I)⟩
end
end DI
end

section
set_option maxRecDepth 100000
/-! the defs of anypicks_k76_any_value_as_code_or_text as core terms (printed by gen.py) -/
namespace K76
open PySem PySem.Spec PyProof.Rows L2 DI
def top (i : Nat) : Stmt := PySem.Challenge.pw_anypicks_k76_any_value_as_code_or_text.main.body.getD i (.Pass ⟨0, 0, 0, 0⟩)
def cs : List (Str × D) := [("MOST_TABLES", PyData.int 6), ("MOST_VECTORS", PyData.int 3000), ("WORDS", PyData.tuple [.str "bad", .str "good"])]
def C_is_integer : CF := ⟨1, 1, none,
  (.cons (.ret (.and (.isi (.var 0) "int") (.not (.isi (.var 0) "bool"))))
  .nil)⟩
def L_is_integer : List (Str × FI) := []
def F_is_integer : FI := ⟨run (Ge.of L_is_integer cs) C_is_integer, ["value"], C_is_integer.pin⟩
def C_is_within : CF := ⟨3, 3, none,
  (.cons (.ret (.and (.fn "is_integer" (.cons (.var 0) .nil)) (.chain .le .le (.var 1) (.var 0) (.var 2))))
  .nil)⟩
def L_is_within : List (Str × FI) := [("is_integer", F_is_integer)]
def F_is_within : FI := ⟨run (Ge.of L_is_within cs) C_is_within, ["value", "least", "most"], C_is_within.pin⟩
def C_is_tuple : CF := ⟨2, 2, none,
  (.cons (.ret (.and (.isi (.var 0) "tuple") (.cmp .eq (.call .len (.cons (.var 0) .nil)) (.var 1))))
  .nil)⟩
def L_is_tuple : List (Str × FI) := []
def F_is_tuple : FI := ⟨run (Ge.of L_is_tuple cs) C_is_tuple, ["value", "many"], C_is_tuple.pin⟩
def C_want_text : CF := ⟨1, 1, none,
  (.cons (.ite (.not (.isi (.var 0) "str")) (.cons .never
  .nil) .nil)
  .nil)⟩
def L_want_text : List (Str × FI) := []
def F_want_text : FI := ⟨run (Ge.of L_want_text cs) C_want_text, ["text"], C_want_text.pin⟩
def C_is_code_value : CF := ⟨4, 1, none,
  (.cons (.ite (.or (.not (.fn "is_tuple" (.cons (.var 0) (.cons (.lit (.int 2)) .nil)))) (.or (.not (.isi (.idx (.var 0) (.lit (.int 0))) "tuple")) (.not (.chain .le .le (.lit (.int 1)) (.call .len (.cons (.idx (.var 0) (.lit (.int 0))) .nil)) (.glob "MOST_VECTORS"))))) (.cons (.ret (.lit (.bool false)))
  .nil) .nil)
  (.cons (.asg (.name 1) (.call .len (.cons (.idx (.var 0) (.lit (.int 0))) .nil)))
  (.cons (.ite (.or (.not (.isi (.idx (.idx (.var 0) (.lit (.int 0))) (.lit (.int 0))) "tuple")) (.not (.chain .le .le (.lit (.int 1)) (.call .len (.cons (.idx (.idx (.var 0) (.lit (.int 0))) (.lit (.int 0))) .nil)) (.glob "MOST_TABLES")))) (.cons (.ret (.lit (.bool false)))
  .nil) .nil)
  (.cons (.fore (.name 2) (.seq (.idx (.var 0) (.lit (.int 0)))) (.cons (.ite (.or (.not (.fn "is_tuple" (.cons (.var 2) (.cons (.call .len (.cons (.idx (.idx (.var 0) (.lit (.int 0))) (.lit (.int 0))) .nil)) .nil)))) (.not (.call .all (.cons (.lc [("one", 3)] (.name 3) (.seq (.var 2)) none (.fn "is_within" (.cons (.var 3) (.cons (.lit (.int 0)) (.cons (.bin .sub (.var 1) (.lit (.int 1))) .nil))))) .nil)))) (.cons (.ret (.lit (.bool false)))
  .nil) .nil)
  .nil))
  (.cons (.ret (.and (.fn "is_tuple" (.cons (.idx (.var 0) (.lit (.int 1))) (.cons (.var 1) .nil))) (.call .all (.cons (.lc [("one", 3)] (.name 3) (.seq (.idx (.var 0) (.lit (.int 1)))) none (.fn "is_within" (.cons (.var 3) (.cons (.lit (.int 0)) (.cons (.lit (.int 1)) .nil))))) .nil))))
  .nil)))))⟩
def L_is_code_value : List (Str × FI) := [("is_within", F_is_within), ("is_tuple", F_is_tuple)]
def F_is_code_value : FI := ⟨run (Ge.of L_is_code_value cs) C_is_code_value, ["value"], C_is_code_value.pin⟩
def C_text_by : CF := ⟨6, 1, none,
  (.cons (.asg (.name 1) (.lst (.cons (.bin .add (.lit (.str "code ")) (.call .str (.cons (.call .len (.cons (.idx (.idx (.var 0) (.lit (.int 0))) (.lit (.int 0))) .nil)) .nil))) .nil)))
  (.cons (.fore (.tup (.cons (.name 2) (.cons (.name 3) .nil))) (.zip (.idx (.var 0) (.lit (.int 0))) (.idx (.var 0) (.lit (.int 1)))) (.cons (.expr (.app (.var 1) (.meth .join (.lit (.str " ")) (.cons (.bin .add (.lst (.cons (.idx (.glob "WORDS") (.var 3)) .nil)) (.lc [("one", 4)] (.name 4) (.seq (.var 2)) none (.call .str (.cons (.var 4) .nil)))) .nil))))
  .nil))
  (.cons (.ret (.meth .join (.lit (.str "")) (.cons (.lc [("line", 5)] (.name 5) (.seq (.var 1)) none (.bin .add (.var 5) (.lit (.str "\n")))) .nil)))
  .nil)))⟩
def L_text_by : List (Str × FI) := []
def F_text_by : FI := ⟨run (Ge.of L_text_by cs) C_text_by, ["code"], C_text_by.pin⟩
def C_number_of : CF := ⟨2, 1, none,
  (.cons (.ite (.or (.cmp .eq (.var 0) (.lit (.str ""))) (.or (.not (.call .all (.cons (.lc [("sign", 1)] (.name 1) (.seq (.var 0)) none (.cmp .inn (.var 1) (.lit (.str "0123456789")))) .nil))) (.and (.cmp .ne (.var 0) (.lit (.str "0"))) (.cmp .eq (.idx (.var 0) (.lit (.int 0))) (.lit (.str "0")))))) (.cons (.ret (.lit .none))
  .nil) .nil)
  (.cons (.ret (.ite (.cmp .lt (.call .len (.cons (.var 0) .nil)) (.lit (.int 10))) (.call .int (.cons (.var 0) .nil)) (.bin .pow (.lit (.int 10)) (.lit (.int 9)))))
  .nil))⟩
def L_number_of : List (Str × FI) := []
def F_number_of : FI := ⟨run (Ge.of L_number_of cs) C_number_of, ["token"], C_number_of.pin⟩
def C_row_of_line : CF := ⟨5, 2, none,
  (.cons (.asg (.name 2) (.meth .split (.var 0) (.cons (.lit (.str " ")) .nil)))
  (.cons (.asg (.name 3) (.lc [("token", 4)] (.name 4) (.seq (.slc (.var 2) (.bnd (.lit (.int 1))) (.lit .none))) none (.fn "number_of" (.cons (.var 4) .nil))))
  (.cons (.ite (.or (.cmp .nin (.idx (.var 2) (.lit (.int 0))) (.glob "WORDS")) (.or (.cmp .ne (.call .len (.cons (.var 3) .nil)) (.var 1)) (.cmp .inn (.lit .none) (.var 3)))) (.cons (.ret (.lit .none))
  .nil) .nil)
  (.cons (.ret (.tup (.cons (.meth .index (.glob "WORDS") (.cons (.idx (.var 2) (.lit (.int 0))) .nil)) (.cons (.call .tuple (.cons (.var 3) .nil)) .nil))))
  .nil))))⟩
def L_row_of_line : List (Str × FI) := [("number_of", F_number_of)]
def F_row_of_line : FI := ⟨run (Ge.of L_row_of_line cs) C_row_of_line, ["line", "tables"], C_row_of_line.pin⟩
def C_tables_of_line : CF := ⟨3, 1, none,
  (.cons (.asg (.name 1) (.meth .split (.var 0) (.cons (.lit (.str " ")) .nil)))
  (.cons (.asg (.name 2) (.ite (.and (.cmp .eq (.call .len (.cons (.var 1) .nil)) (.lit (.int 2))) (.cmp .eq (.idx (.var 1) (.lit (.int 0))) (.lit (.str "code")))) (.fn "number_of" (.cons (.idx (.var 1) (.lit (.int 1))) .nil)) (.lit .none)))
  (.cons (.ret (.ite (.and (.cmp .notN (.var 2) (.lit .none)) (.chain .le .le (.lit (.int 1)) (.var 2) (.glob "MOST_TABLES"))) (.var 2) (.lit .none)))
  .nil)))⟩
def L_tables_of_line : List (Str × FI) := [("number_of", F_number_of)]
def F_tables_of_line : FI := ⟨run (Ge.of L_tables_of_line cs) C_tables_of_line, ["line"], C_tables_of_line.pin⟩
def C_code_or_line : CF := ⟨8, 1, none,
  (.cons (.asg (.name 1) (.meth .split (.var 0) (.cons (.lit (.str "\n")) .nil)))
  (.cons (.par [2, 3] (.cons (.fn "tables_of_line" (.cons (.idx (.var 1) (.lit (.int 0))) .nil)) (.cons (.lst .nil) .nil)))
  (.cons (.ite (.cmp .isN (.var 2) (.lit .none)) (.cons (.ret (.tup (.cons (.lit .none) (.cons (.lit (.int 0)) .nil))))
  .nil) .nil)
  (.cons (.fore (.tup (.cons (.name 4) (.cons (.name 5) .nil))) (.enm (.slc (.var 1) (.bnd (.lit (.int 1))) (.bnd (.neg (.lit (.int 1)))))) (.cons (.asg (.name 6) (.fn "row_of_line" (.cons (.var 5) (.cons (.var 2) .nil))))
  (.cons (.ite (.or (.cmp .isN (.var 6) (.lit .none)) (.cmp .eq (.call .len (.cons (.var 3) .nil)) (.glob "MOST_VECTORS"))) (.cons (.ret (.tup (.cons (.lit .none) (.cons (.bin .add (.var 4) (.lit (.int 1))) .nil))))
  .nil) .nil)
  (.cons (.expr (.app (.var 3) (.var 6)))
  .nil))))
  (.cons (.ite (.or (.cmp .ne (.idx (.var 1) (.neg (.lit (.int 1)))) (.lit (.str ""))) (.cmp .lt (.call .len (.cons (.var 1) .nil)) (.lit (.int 3)))) (.cons (.ret (.tup (.cons (.lit .none) (.cons (.bin .sub (.call .len (.cons (.var 1) .nil)) (.lit (.int 1))) .nil))))
  .nil) .nil)
  (.cons (.fore (.tup (.cons (.name 4) (.cons (.name 6) .nil))) (.enm (.var 3)) (.cons (.ite (.call .any (.cons (.lc [("one", 7)] (.name 7) (.seq (.idx (.var 6) (.lit (.int 1)))) none (.cmp .ge (.var 7) (.call .len (.cons (.var 3) .nil)))) .nil)) (.cons (.ret (.tup (.cons (.lit .none) (.cons (.bin .add (.var 4) (.lit (.int 1))) .nil))))
  .nil) .nil)
  .nil))
  (.cons (.ret (.tup (.cons (.tup (.cons (.call .tuple (.cons (.lc [("row", 6)] (.name 6) (.seq (.var 3)) none (.idx (.var 6) (.lit (.int 1)))) .nil)) (.cons (.call .tuple (.cons (.lc [("row", 6)] (.name 6) (.seq (.var 3)) none (.idx (.var 6) (.lit (.int 0)))) .nil)) .nil))) (.cons (.lit .none) .nil))))
  .nil)))))))⟩
def L_code_or_line : List (Str × FI) := [("row_of_line", F_row_of_line), ("tables_of_line", F_tables_of_line)]
def F_code_or_line : FI := ⟨run (Ge.of L_code_or_line cs) C_code_or_line, ["text"], C_code_or_line.pin⟩
def C_want_code : CF := ⟨1, 1, none,
  (.cons (.ite (.not (.fn "is_code_value" (.cons (.var 0) .nil))) (.cons .never
  .nil) .nil)
  .nil)⟩
def L_want_code : List (Str × FI) := [("is_code_value", F_is_code_value)]
def F_want_code : FI := ⟨run (Ge.of L_want_code cs) C_want_code, ["code"], C_want_code.pin⟩
def C_is_code : CF := ⟨1, 1, none,
  (.cons (.ret (.fn "is_code_value" (.cons (.var 0) .nil)))
  .nil)⟩
def L_is_code : List (Str × FI) := [("is_code_value", F_is_code_value)]
def F_is_code : FI := ⟨run (Ge.of L_is_code cs) C_is_code, ["value"], C_is_code.pin⟩
def C_code_text : CF := ⟨1, 1, none,
  (.cons (.expr (.fn "want_code" (.cons (.var 0) .nil)))
  (.cons (.ret (.fn "text_by" (.cons (.var 0) .nil)))
  .nil))⟩
def L_code_text : List (Str × FI) := [("text_by", F_text_by), ("want_code", F_want_code)]
def F_code_text : FI := ⟨run (Ge.of L_code_text cs) C_code_text, ["code"], C_code_text.pin⟩
def C_read_code : CF := ⟨3, 1, none,
  (.cons (.expr (.fn "want_text" (.cons (.var 0) .nil)))
  (.cons (.asg (.tup (.cons (.name 1) (.cons (.name 2) .nil))) (.fn "code_or_line" (.cons (.var 0) .nil)))
  (.cons (.ite (.cmp .isN (.var 1) (.lit .none)) (.cons .never
  .nil) .nil)
  (.cons (.ret (.var 1))
  .nil))))⟩
def L_read_code : List (Str × FI) := [("code_or_line", F_code_or_line), ("want_text", F_want_text)]
def F_read_code : FI := ⟨run (Ge.of L_read_code cs) C_read_code, ["text"], C_read_code.pin⟩
def C__law_pot : CF := ⟨3, 2, none,
  (.cons (.asg (.name 2) (.ite (.cmp .lt (.var 1) (.call .len (.cons (.var 0) .nil))) (.call .abs (.cons (.idx (.var 0) (.var 1)) .nil)) (.bin .add (.bin .mul (.lit (.int 4812)) (.var 1)) (.lit (.int 7029)))))
  (.cons (.ret (.lst (.cons (.call .max (.cons (.lit (.int 0)) (.cons (.bin .sub (.var 2) (.bin .pow (.lit (.int 10)) (.lit (.int 18)))) .nil))) (.cons (.bin .add (.bin .mod (.call .int (.cons (.bin .add (.bin .add (.bin .mul (.bin .mod (.call .int (.cons (.var 2) .nil)) (.lit (.int 2147483549))) (.lit (.int 48374))) (.bin .mul (.lit (.int 4812)) (.var 1))) (.lit (.int 3631))) .nil)) (.lit (.int 2147483579))) (.lit (.int 1))) .nil))))
  .nil))⟩
def L__law_pot : List (Str × FI) := []
def F__law_pot : FI := ⟨run (Ge.of L__law_pot cs) C__law_pot, ["script", "k"], C__law_pot.pin⟩
def C__law_draw : CF := ⟨3, 2, some 0,
  (.cons (.ite (.cmp .gt (.idx (.var 0) (.lit (.int 0))) (.lit (.int 0))) (.cons (.asg (.tup (.cons (.sub (.var 0) (.lit (.int 0))) (.cons (.name 2) .nil))) (.call .divmod (.cons (.idx (.var 0) (.lit (.int 0))) (.cons (.var 1) .nil))))
  (.cons (.ret (.var 2))
  .nil)) .nil)
  (.cons (.asg (.sub (.var 0) (.lit (.int 1))) (.bin .mod (.call .int (.cons (.bin .add (.bin .mul (.idx (.var 0) (.lit (.int 1))) (.lit (.int 48374))) (.lit (.int 3631))) .nil)) (.lit (.int 2147483587))))
  (.cons (.ret (.bin .mod (.call .int (.cons (.bin .fdiv (.bin .mod (.call .int (.cons (.bin .mul (.idx (.var 0) (.lit (.int 1))) (.idx (.var 0) (.lit (.int 1)))) .nil)) (.lit (.int 2147483563))) (.lit (.int 19))) .nil)) (.var 1)))
  .nil)))⟩
def L__law_draw : List (Str × FI) := []
def F__law_draw : FI := ⟨run (Ge.of L__law_draw cs) C__law_draw, ["pot", "many"], C__law_draw.pin⟩
def C__law_pick : CF := ⟨2, 2, some 0,
  (.cons (.ret (.idx (.var 1) (.fn "_law_draw" (.cons (.var 0) (.cons (.call .len (.cons (.var 1) .nil)) .nil)))))
  .nil)⟩
def L__law_pick : List (Str × FI) := [("_law_draw", F__law_draw)]
def F__law_pick : FI := ⟨run (Ge.of L__law_pick cs) C__law_pick, ["pot", "some"], C__law_pick.pin⟩
def C__law_code : CF := ⟨6, 1, some 0,
  (.cons (.par [1, 2] (.cons (.bin .add (.lit (.int 1)) (.fn "_law_draw" (.cons (.var 0) (.cons (.lit (.int 9)) .nil)))) (.cons (.bin .add (.lit (.int 1)) (.fn "_law_draw" (.cons (.var 0) (.cons (.lit (.int 3)) .nil)))) .nil)))
  (.cons (.asg (.name 3) (.call .tuple (.cons (.lc [("number", 4)] (.name 4) (.rng1 (.var 1)) none (.call .tuple (.cons (.lc [("at", 5)] (.name 5) (.rng1 (.var 2)) none (.fn "_law_draw" (.cons (.var 0) (.cons (.var 1) .nil)))) .nil))) .nil)))
  (.cons (.ret (.tup (.cons (.var 3) (.cons (.call .tuple (.cons (.lc [("number", 4)] (.name 4) (.rng1 (.var 1)) none (.fn "_law_draw" (.cons (.var 0) (.cons (.lit (.int 2)) .nil)))) .nil)) .nil))))
  .nil)))⟩
def L__law_code : List (Str × FI) := [("_law_draw", F__law_draw)]
def F__law_code : FI := ⟨run (Ge.of L__law_code cs) C__law_code, ["pot"], C__law_code.pin⟩
def C__law_is_number : CF := ⟨2, 2, none,
  (.cons (.ret (.and (.isi (.var 0) "int") (.and (.not (.isi (.var 0) "bool")) (.chain .le .lt (.lit (.int 0)) (.var 0) (.var 1)))))
  .nil)⟩
def L__law_is_number : List (Str × FI) := []
def F__law_is_number : FI := ⟨run (Ge.of L__law_is_number cs) C__law_is_number, ["value", "many"], C__law_is_number.pin⟩
def C__law_is_code : CF := ⟨4, 1, none,
  (.cons (.ite (.or (.not (.isi (.var 0) "tuple")) (.or (.cmp .ne (.call .len (.cons (.var 0) .nil)) (.lit (.int 2))) (.or (.not (.isi (.idx (.var 0) (.lit (.int 0))) "tuple")) (.not (.isi (.idx (.var 0) (.lit (.int 1))) "tuple"))))) (.cons (.ret (.lit (.bool false)))
  .nil) .nil)
  (.cons (.asg (.name 1) (.call .len (.cons (.idx (.var 0) (.lit (.int 0))) .nil)))
  (.cons (.ite (.or (.not (.chain .le .le (.lit (.int 1)) (.var 1) (.lit (.int 3000)))) (.or (.cmp .ne (.call .len (.cons (.idx (.var 0) (.lit (.int 1))) .nil)) (.var 1)) (.not (.call .all (.cons (.lc [("row", 2)] (.name 2) (.seq (.idx (.var 0) (.lit (.int 0)))) none (.isi (.var 2) "tuple")) .nil))))) (.cons (.ret (.lit (.bool false)))
  .nil) .nil)
  (.cons (.ite (.or (.not (.chain .le .le (.lit (.int 1)) (.call .len (.cons (.idx (.idx (.var 0) (.lit (.int 0))) (.lit (.int 0))) .nil)) (.lit (.int 6)))) (.not (.call .all (.cons (.lc [("row", 2)] (.name 2) (.seq (.idx (.var 0) (.lit (.int 0)))) none (.cmp .eq (.call .len (.cons (.var 2) .nil)) (.call .len (.cons (.idx (.idx (.var 0) (.lit (.int 0))) (.lit (.int 0))) .nil)))) .nil)))) (.cons (.ret (.lit (.bool false)))
  .nil) .nil)
  (.cons (.ret (.and (.call .all (.cons (.lc [("row", 2)] (.name 2) (.seq (.idx (.var 0) (.lit (.int 0)))) none (.call .all (.cons (.lc [("one", 3)] (.name 3) (.seq (.var 2)) none (.fn "_law_is_number" (.cons (.var 3) (.cons (.var 1) .nil)))) .nil))) .nil)) (.call .all (.cons (.lc [("one", 3)] (.name 3) (.seq (.idx (.var 0) (.lit (.int 1)))) none (.fn "_law_is_number" (.cons (.var 3) (.cons (.lit (.int 2)) .nil)))) .nil))))
  .nil)))))⟩
def L__law_is_code : List (Str × FI) := [("_law_is_number", F__law_is_number)]
def F__law_is_code : FI := ⟨run (Ge.of L__law_is_code cs) C__law_is_code, ["value"], C__law_is_code.pin⟩
def C__law_text : CF := ⟨6, 1, none,
  (.cons (.asg (.name 1) (.bin .add (.lst (.cons (.bin .add (.lit (.str "code ")) (.call .str (.cons (.call .len (.cons (.idx (.idx (.var 0) (.lit (.int 0))) (.lit (.int 0))) .nil)) .nil))) .nil)) (.lc [("row", 2), ("good", 3)] (.tup (.cons (.name 2) (.cons (.name 3) .nil))) (.zip (.idx (.var 0) (.lit (.int 0))) (.idx (.var 0) (.lit (.int 1)))) none (.meth .join (.lit (.str " ")) (.cons (.bin .add (.lst (.cons (.ite (.cmp .eq (.var 3) (.lit (.int 1))) (.lit (.str "good")) (.lit (.str "bad"))) .nil)) (.lc [("one", 4)] (.name 4) (.seq (.var 2)) none (.call .str (.cons (.var 4) .nil)))) .nil)))))
  (.cons (.ret (.meth .join (.lit (.str "")) (.cons (.lc [("line", 5)] (.name 5) (.seq (.var 1)) none (.bin .add (.var 5) (.lit (.str "\n")))) .nil)))
  .nil))⟩
def L__law_text : List (Str × FI) := []
def F__law_text : FI := ⟨run (Ge.of L__law_text cs) C__law_text, ["code"], C__law_text.pin⟩
def C__law_count : CF := ⟨3, 1, none,
  (.cons (.asg (.name 1) (.and (.cmp .ne (.var 0) (.lit (.str ""))) (.and (.cmp .lt (.call .len (.cons (.var 0) .nil)) (.lit (.int 30))) (.call .all (.cons (.lc [("sign", 2)] (.name 2) (.seq (.var 0)) none (.cmp .inn (.var 2) (.lit (.str "0123456789")))) .nil)))))
  (.cons (.ret (.ite (.and (.var 1) (.cmp .eq (.call .str (.cons (.call .int (.cons (.var 0) .nil)) .nil)) (.var 0))) (.call .int (.cons (.var 0) .nil)) (.lit .none)))
  .nil))⟩
def L__law_count : List (Str × FI) := []
def F__law_count : FI := ⟨run (Ge.of L__law_count cs) C__law_count, ["token"], C__law_count.pin⟩
def C__law_read : CF := ⟨10, 1, none,
  (.cons (.asg (.name 1) (.meth .split (.var 0) (.cons (.lit (.str "\n")) .nil)))
  (.cons (.asg (.name 2) (.meth .split (.idx (.var 1) (.lit (.int 0))) (.cons (.lit (.str " ")) .nil)))
  (.cons (.ite (.or (.cmp .ne (.call .len (.cons (.var 2) .nil)) (.lit (.int 2))) (.or (.cmp .ne (.idx (.var 2) (.lit (.int 0))) (.lit (.str "code"))) (.cmp .nin (.idx (.var 2) (.lit (.int 1))) (.tup (.cons (.lit (.str "1")) (.cons (.lit (.str "2")) (.cons (.lit (.str "3")) (.cons (.lit (.str "4")) (.cons (.lit (.str "5")) (.cons (.lit (.str "6")) .nil)))))))))) (.cons (.ret (.tup (.cons (.lit .none) (.cons (.lit (.int 0)) .nil))))
  .nil) .nil)
  (.cons (.asg (.name 3) (.lst .nil))
  (.cons (.fore (.name 4) (.rng2 (.lit (.int 1)) (.bin .sub (.call .len (.cons (.var 1) .nil)) (.lit (.int 1)))) (.cons (.asg (.name 5) (.meth .split (.idx (.var 1) (.var 4)) (.cons (.lit (.str " ")) .nil)))
  (.cons (.asg (.name 6) (.lc [("token", 7)] (.name 7) (.seq (.slc (.var 5) (.bnd (.lit (.int 1))) (.lit .none))) none (.fn "_law_count" (.cons (.var 7) .nil))))
  (.cons (.ite (.or (.cmp .nin (.idx (.var 5) (.lit (.int 0))) (.tup (.cons (.lit (.str "good")) (.cons (.lit (.str "bad")) .nil)))) (.or (.cmp .ne (.call .len (.cons (.var 6) .nil)) (.call .int (.cons (.idx (.var 2) (.lit (.int 1))) .nil))) (.or (.cmp .inn (.lit .none) (.var 6)) (.cmp .eq (.call .len (.cons (.var 3) .nil)) (.lit (.int 3000)))))) (.cons (.ret (.tup (.cons (.lit .none) (.cons (.var 4) .nil))))
  .nil) .nil)
  (.cons (.expr (.app (.var 3) (.tup (.cons (.call .tuple (.cons (.var 6) .nil)) (.cons (.ite (.cmp .eq (.idx (.var 5) (.lit (.int 0))) (.lit (.str "good"))) (.lit (.int 1)) (.lit (.int 0))) .nil)))))
  .nil)))))
  (.cons (.ite (.or (.cmp .ne (.idx (.var 1) (.neg (.lit (.int 1)))) (.lit (.str ""))) (.cmp .eq (.var 3) (.lst .nil))) (.cons (.ret (.tup (.cons (.lit .none) (.cons (.bin .sub (.call .len (.cons (.var 1) .nil)) (.lit (.int 1))) .nil))))
  .nil) .nil)
  (.cons (.asg (.name 8) (.lc [("at", 4), ("row", 9)] (.tup (.cons (.name 4) (.cons (.name 9) .nil))) (.enm (.var 3)) (some (.cmp .ge (.call .max (.cons (.idx (.var 9) (.lit (.int 0))) .nil)) (.call .len (.cons (.var 3) .nil)))) (.var 4)))
  (.cons (.ret (.ite (.cmp .ne (.var 8) (.lst .nil)) (.tup (.cons (.lit .none) (.cons (.bin .add (.idx (.var 8) (.lit (.int 0))) (.lit (.int 1))) .nil))) (.tup (.cons (.tup (.cons (.call .tuple (.cons (.lc [("row", 9)] (.name 9) (.seq (.var 3)) none (.idx (.var 9) (.lit (.int 0)))) .nil)) (.cons (.call .tuple (.cons (.lc [("row", 9)] (.name 9) (.seq (.var 3)) none (.idx (.var 9) (.lit (.int 1)))) .nil)) .nil))) (.cons (.lit .none) .nil)))))
  .nil))))))))⟩
def L__law_read : List (Str × FI) := [("_law_count", F__law_count)]
def F__law_read : FI := ⟨run (Ge.of L__law_read cs) C__law_read, ["text"], C__law_read.pin⟩
def C__law_bent : CF := ⟨9, 2, some 0,
  (.cons (.par [2, 3] (.cons (.lst .nil) (.cons (.var 1) .nil)))
  (.cons (.fore (.name 4) (.rng1 (.fn "_law_draw" (.cons (.var 0) (.cons (.lit (.int 4)) .nil)))) (.cons (.ite (.and (.isi (.var 3) "tuple") (.cmp .ne (.var 3) (.tup .nil))) (.cons (.expr (.app (.var 2) (.tup (.cons (.var 3) (.cons (.fn "_law_draw" (.cons (.var 0) (.cons (.call .len (.cons (.var 3) .nil)) .nil))) .nil)))))
  (.cons (.asg (.name 3) (.idx (.var 3) (.idx (.idx (.var 2) (.neg (.lit (.int 1)))) (.lit (.int 1)))))
  .nil)) .nil)
  .nil))
  (.cons (.asg (.name 5) (.lst (.cons (.lit .none) (.cons (.lit (.int 0)) (.cons (.lit (.int 1)) (.cons (.lit (.int 2)) (.cons (.lit (.int 9)) (.cons (.neg (.lit (.int 1))) (.cons (.lit (.bool true)) (.cons (.lit (.str "0")) (.cons (.tup .nil) (.cons (.lst (.cons (.var 3) .nil)) (.cons (.tup (.cons (.var 3) .nil)) (.cons (.tup (.cons (.lit (.int 0)) .nil)) (.cons (.tup (.cons (.lit (.int 0)) (.cons (.lit (.int 0)) .nil))) .nil)))))))))))))))
  (.cons (.asg (.name 6) (.fn "_law_pick" (.cons (.var 0) (.cons (.bin .add (.var 5) (.ite (.isi (.var 3) "tuple") (.lst (.cons (.call .list (.cons (.var 3) .nil)) (.cons (.slc (.var 3) (.lit .none) (.bnd (.neg (.lit (.int 1))))) (.cons (.bin .add (.var 3) (.slc (.var 3) (.bnd (.neg (.lit (.int 1)))) (.lit .none))) (.cons (.rev (.var 3)) .nil))))) (.lst .nil))) .nil))))
  (.cons (.fore (.tup (.cons (.name 7) (.cons (.name 8) .nil))) (.seq (.rev (.var 2))) (.cons (.asg (.name 6) (.bin .add (.bin .add (.slc (.var 7) (.lit .none) (.bnd (.var 8))) (.tup (.cons (.var 6) .nil))) (.slc (.var 7) (.bnd (.bin .add (.var 8) (.lit (.int 1)))) (.lit .none))))
  .nil))
  (.cons (.ret (.var 6))
  .nil))))))⟩
def L__law_bent : List (Str × FI) := [("_law_pick", F__law_pick), ("_law_draw", F__law_draw)]
def F__law_bent : FI := ⟨run (Ge.of L__law_bent cs) C__law_bent, ["pot", "value"], C__law_bent.pin⟩
def C__law_spoilt : CF := ⟨9, 2, some 0,
  (.cons (.asg (.name 2) (.meth .split (.var 1) (.cons (.lit (.str "\n")) .nil)))
  (.cons (.par [3, 4] (.cons (.fn "_law_draw" (.cons (.var 0) (.cons (.call .len (.cons (.var 2) .nil)) .nil))) (.cons (.fn "_law_draw" (.cons (.var 0) (.cons (.call .len (.cons (.var 1) .nil)) .nil))) .nil)))
  (.cons (.asg (.name 5) (.fn "_law_pick" (.cons (.var 0) (.cons (.lst (.cons (.lit (.str "good 0")) (.cons (.lit (.str "bad")) (.cons (.lit (.str "good")) (.cons (.lit (.str "code 1")) (.cons (.lit (.str "code 7")) (.cons (.lit (.str "code 0")) (.cons (.lit (.str "good 00")) (.cons (.lit (.str "good 0 0")) (.cons (.lit (.str "bad 9")) (.cons (.lit (.str "bad 99999999999")) (.cons (.lit (.str "")) (.cons (.lit (.str " ")) (.cons (.lit (.str "good  0")) (.cons (.lit (.str "Good 0")) (.cons (.lit (.str "good 0 ")) (.cons (.lit (.str "bad -1")) (.cons (.lit (.str "x")) .nil)))))))))))))))))) .nil))))
  (.cons (.asg (.name 6) (.fn "_law_pick" (.cons (.var 0) (.cons (.lst (.cons (.lit (.str "0")) (.cons (.lit (.str "1")) (.cons (.lit (.str "9")) (.cons (.lit (.str " ")) (.cons (.lit (.str "\n")) (.cons (.lit (.str "x")) (.cons (.lit (.str "")) (.cons (.lit (.str "00")) .nil))))))))) .nil))))
  (.cons (.asg (.name 7) (.lst (.cons (.bin .add (.bin .add (.slc (.var 2) (.lit .none) (.bnd (.var 3))) (.lst (.cons (.var 5) .nil))) (.slc (.var 2) (.bnd (.var 3)) (.lit .none))) (.cons (.bin .add (.bin .add (.slc (.var 2) (.lit .none) (.bnd (.var 3))) (.lst (.cons (.var 5) .nil))) (.slc (.var 2) (.bnd (.bin .add (.var 3) (.lit (.int 1)))) (.lit .none))) (.cons (.bin .add (.slc (.var 2) (.lit .none) (.bnd (.var 3))) (.slc (.var 2) (.bnd (.bin .add (.var 3) (.lit (.int 1)))) (.lit .none))) (.cons (.bin .add (.slc (.var 2) (.lit .none) (.bnd (.bin .add (.var 3) (.lit (.int 1))))) (.slc (.var 2) (.bnd (.var 3)) (.lit .none))) (.cons (.rev (.var 2)) (.cons (.slc (.var 2) (.lit .none) (.bnd (.neg (.lit (.int 1))))) .nil))))))))
  (.cons (.ret (.fn "_law_pick" (.cons (.var 0) (.cons (.bin .add (.lc [("one", 8)] (.name 8) (.seq (.var 7)) none (.meth .join (.lit (.str "\n")) (.cons (.var 8) .nil))) (.lst (.cons (.bin .add (.bin .add (.slc (.var 1) (.lit .none) (.bnd (.var 4))) (.var 6)) (.slc (.var 1) (.bnd (.bin .add (.var 4) (.lit (.int 1)))) (.lit .none))) (.cons (.slc (.var 1) (.lit .none) (.bnd (.var 4))) (.cons (.bin .add (.var 1) (.var 5)) .nil))))) .nil))))
  .nil))))))⟩
def L__law_spoilt : List (Str × FI) := [("_law_pick", F__law_pick), ("_law_draw", F__law_draw)]
def F__law_spoilt : FI := ⟨run (Ge.of L__law_spoilt cs) C__law_spoilt, ["pot", "text"], C__law_spoilt.pin⟩
def C__law_string_right : CF := ⟨3, 1, none,
  (.cons (.asg (.tup (.cons (.name 1) (.cons (.name 2) .nil))) (.fn "_law_read" (.cons (.var 0) .nil)))
  (.cons (.ret (.cmp .eq (.call .repr (.cons (.fn "_law_heard" (.cons (.var 0) .nil)) .nil)) (.call .repr (.cons (.ite (.cmp .notN (.var 1) (.lit .none)) (.lst (.cons (.lit (.str "let")) (.cons (.var 1) .nil))) (.lst (.cons (.lit (.str "bad")) (.cons (.var 2) .nil)))) .nil))))
  .nil))⟩
/-- what _law_heard computes -/
def heardSem : FSem := fun bs => match bs with
  | [.val (.str t)] => Out.bind (F_code_or_line.sem [.val (.str t)]) fun p => match p.1 with
    | .val (.tuple [.none, line]) => .ok (.new (.lst [.str "bad", line]), none)
    | .val (.tuple [code, .none]) => .ok (.new (.lst [.str "let", code]), none)
    | _ => .stuck
  | _ => .stuck
def F__law_heard : FI := ⟨heardSem, ["text"], none⟩
def rtBase : List Value := [.type "RuntimeError", .type "Exception", .type "BaseException", .type "object"]
def ex0 : List (PySem.W.Frag → Bool) := [excOk "NotCode" "line" rtBase "RuntimeError.__new__"]
def L__law_string_right : List (Str × FI) := [("_law_heard", F__law_heard), ("_law_read", F__law_read)]
def F__law_string_right : FI := ⟨run (Ge.of L__law_string_right cs) C__law_string_right, ["text"], C__law_string_right.pin⟩
def C__law_great_right : CF := ⟨2, 0, none,
  (.cons (.asg (.name 0) (.tup (.cons (.bin .mul (.tup (.cons (.tup (.cons (.lit (.int 0)) .nil)) .nil)) (.lit (.int 3000))) (.cons (.bin .mul (.tup (.cons (.lit (.int 1)) .nil)) (.lit (.int 3000))) .nil))))
  (.cons (.asg (.name 1) (.fn "code_text" (.cons (.var 0) .nil)))
  (.cons (.ite (.or (.cmp .ne (.var 1) (.bin .add (.lit (.str "code 1\n")) (.bin .mul (.lit (.str "good 0\n")) (.lit (.int 3000))))) (.or (.cmp .ne (.fn "read_code" (.cons (.var 1) .nil)) (.var 0)) (.cmp .notB (.fn "is_code" (.cons (.var 0) .nil)) (.lit (.bool true))))) (.cons (.ret (.lit (.bool false)))
  .nil) .nil)
  (.cons (.ret (.and (.cmp .isB (.fn "is_code" (.cons (.tup (.cons (.bin .mul (.tup (.cons (.tup (.cons (.lit (.int 0)) .nil)) .nil)) (.lit (.int 3001))) (.cons (.bin .mul (.tup (.cons (.lit (.int 1)) .nil)) (.lit (.int 3001))) .nil))) .nil)) (.lit (.bool false))) (.cmp .eq (.fn "_law_heard" (.cons (.bin .add (.var 1) (.lit (.str "bad 0\n"))) .nil)) (.lst (.cons (.lit (.str "bad")) (.cons (.lit (.int 3001)) .nil))))))
  .nil))))⟩
def L__law_great_right : List (Str × FI) := [("_law_heard", F__law_heard), ("is_code", F_is_code), ("read_code", F_read_code), ("code_text", F_code_text)]
def F__law_great_right : FI := ⟨run (Ge.of L__law_great_right cs) C__law_great_right, [], C__law_great_right.pin⟩
def C__law_right : CF := ⟨10, 1, some 0,
  (.cons (.asg (.name 1) (.fn "_law_code" (.cons (.var 0) .nil)))
  (.cons (.par [2, 3] (.cons (.call .repr (.cons (.var 1) .nil)) (.cons (.fn "_law_text" (.cons (.var 1) .nil)) .nil)))
  (.cons (.ite (.or (.cmp .ne (.lst (.cons (.fn "code_text" (.cons (.var 1) .nil)) (.cons (.fnk "code_text" ["code"] (.cons (.var 1) .nil)) .nil))) (.lst (.cons (.var 3) (.cons (.var 3) .nil)))) (.cmp .ne (.lst (.cons (.fn "read_code" (.cons (.var 3) .nil)) (.cons (.fnk "read_code" ["text"] (.cons (.var 3) .nil)) .nil))) (.lst (.cons (.var 1) (.cons (.var 1) .nil))))) (.cons (.ret (.lit (.bool false)))
  .nil) .nil)
  (.cons (.fore (.name 4) (.seq (.bin .add (.lst (.cons (.var 1) (.cons (.call .list (.cons (.var 1) .nil)) (.cons (.lit .none) (.cons (.tup .nil) (.cons (.tup (.cons (.tup .nil) (.cons (.tup .nil) .nil))) (.cons (.tup (.cons (.idx (.var 1) (.lit (.int 0))) (.cons (.call .list (.cons (.idx (.var 1) (.lit (.int 1))) .nil)) .nil))) .nil))))))) (.lc [("turn", 7)] (.name 7) (.rng1 (.lit (.int 16))) none (.fn "_law_bent" (.cons (.var 0) (.cons (.var 1) .nil)))))) (.cons (.par [5, 6] (.cons (.fn "_law_is_code" (.cons (.var 4) .nil)) (.cons (.call .repr (.cons (.var 4) .nil)) .nil)))
  (.cons (.ite (.or (.cmp .ne (.call .repr (.cons (.lst (.cons (.fn "is_code" (.cons (.var 4) .nil)) (.cons (.fnk "is_code" ["value"] (.cons (.var 4) .nil)) .nil))) .nil)) (.call .repr (.cons (.lst (.cons (.var 5) (.cons (.var 5) .nil))) .nil))) (.cmp .ne (.call .repr (.cons (.var 4) .nil)) (.var 6))) (.cons (.ret (.lit (.bool false)))
  .nil) .nil)
  .nil)))
  (.cons (.asg (.name 8) (.lst (.cons (.lit (.str "")) (.cons (.lit (.str "\n")) (.cons (.lit (.str "code")) (.cons (.lit (.str "code 1")) (.cons (.lit (.str "code 1\n")) (.cons (.lit (.str "code 1\ngood 0")) (.cons (.lit (.str "code 7\n")) (.cons (.lit (.str "code 1\ngood 1\nbad 2\n")) (.cons (.lit (.str "code 1\ngood 1\nbad 0\n")) (.cons (.lit (.str "good 0\n")) .nil))))))))))))
  (.cons (.ite (.not (.call .all (.cons (.lc [("one", 9)] (.name 9) (.seq (.bin .add (.var 8) (.lc [("turn", 7)] (.name 7) (.rng1 (.lit (.int 14))) none (.fn "_law_spoilt" (.cons (.var 0) (.cons (.var 3) .nil)))))) none (.fn "_law_string_right" (.cons (.var 9) .nil))) .nil))) (.cons (.ret (.lit (.bool false)))
  .nil) .nil)
  (.cons (.ret (.cmp .eq (.call .repr (.cons (.var 1) .nil)) (.var 2)))
  .nil)))))))⟩
def L__law_right : List (Str × FI) := [("_law_spoilt", F__law_spoilt), ("_law_string_right", F__law_string_right), ("_law_bent", F__law_bent), ("is_code", F_is_code), ("_law_is_code", F__law_is_code), ("read_code", F_read_code), ("code_text", F_code_text), ("_law_text", F__law_text), ("_law_code", F__law_code)]
def F__law_right : FI := ⟨run (Ge.of L__law_right cs) C__law_right, ["pot"], C__law_right.pin⟩
def C_law : CF := ⟨2, 1, none,
  (.cons (.ret (.and (.fn "_law_great_right" .nil) (.call .all (.cons (.lc [("k", 1)] (.name 1) (.rng1 (.lit (.int 3))) none (.fn "_law_right" (.cons (.fn "_law_pot" (.cons (.var 0) (.cons (.var 1) .nil))) .nil))) .nil))))
  .nil)⟩
def L_law : List (Str × FI) := [("_law_right", F__law_right), ("_law_pot", F__law_pot), ("_law_great_right", F__law_great_right)]
def F_law : FI := ⟨run (Ge.of L_law cs) C_law, ["script"], C_law.pin⟩
@[simp] theorem cst_MOST_TABLES (l : List (Str × FI)) : (Ge.of l cs).cst "MOST_TABLES" = some (PyData.int 6) := rfl
@[simp] theorem cst_MOST_VECTORS (l : List (Str × FI)) : (Ge.of l cs).cst "MOST_VECTORS" = some (PyData.int 3000) := rfl
@[simp] theorem cst_WORDS (l : List (Str × FI)) : (Ge.of l cs).cst "WORDS" = some (PyData.tuple [.str "bad", .str "good"]) := rfl
theorem sd_is_integer (bs : List B) : F_is_integer.sem bs = run (Ge.of L_is_integer cs) C_is_integer bs := rfl
theorem ps_is_integer : F_is_integer.ps.length = 1 ∧ F_is_integer.mx = none := ⟨rfl, rfl⟩
@[simp] theorem at_is_within_is_integer : (Ge.of L_is_within cs).fns "is_integer" = some F_is_integer := rfl
theorem sd_is_within (bs : List B) : F_is_within.sem bs = run (Ge.of L_is_within cs) C_is_within bs := rfl
theorem ps_is_within : F_is_within.ps.length = 3 ∧ F_is_within.mx = none := ⟨rfl, rfl⟩
theorem sd_is_tuple (bs : List B) : F_is_tuple.sem bs = run (Ge.of L_is_tuple cs) C_is_tuple bs := rfl
theorem ps_is_tuple : F_is_tuple.ps.length = 2 ∧ F_is_tuple.mx = none := ⟨rfl, rfl⟩
theorem sd_want_text (bs : List B) : F_want_text.sem bs = run (Ge.of L_want_text cs) C_want_text bs := rfl
theorem ps_want_text : F_want_text.ps.length = 1 ∧ F_want_text.mx = none := ⟨rfl, rfl⟩
@[simp] theorem at_is_code_value_is_within : (Ge.of L_is_code_value cs).fns "is_within" = some F_is_within := rfl
@[simp] theorem at_is_code_value_is_tuple : (Ge.of L_is_code_value cs).fns "is_tuple" = some F_is_tuple := rfl
theorem sd_is_code_value (bs : List B) : F_is_code_value.sem bs = run (Ge.of L_is_code_value cs) C_is_code_value bs := rfl
theorem ps_is_code_value : F_is_code_value.ps.length = 1 ∧ F_is_code_value.mx = none := ⟨rfl, rfl⟩
theorem sd_text_by (bs : List B) : F_text_by.sem bs = run (Ge.of L_text_by cs) C_text_by bs := rfl
theorem ps_text_by : F_text_by.ps.length = 1 ∧ F_text_by.mx = none := ⟨rfl, rfl⟩
theorem sd_number_of (bs : List B) : F_number_of.sem bs = run (Ge.of L_number_of cs) C_number_of bs := rfl
theorem ps_number_of : F_number_of.ps.length = 1 ∧ F_number_of.mx = none := ⟨rfl, rfl⟩
@[simp] theorem at_row_of_line_number_of : (Ge.of L_row_of_line cs).fns "number_of" = some F_number_of := rfl
theorem sd_row_of_line (bs : List B) : F_row_of_line.sem bs = run (Ge.of L_row_of_line cs) C_row_of_line bs := rfl
theorem ps_row_of_line : F_row_of_line.ps.length = 2 ∧ F_row_of_line.mx = none := ⟨rfl, rfl⟩
@[simp] theorem at_tables_of_line_number_of : (Ge.of L_tables_of_line cs).fns "number_of" = some F_number_of := rfl
theorem sd_tables_of_line (bs : List B) : F_tables_of_line.sem bs = run (Ge.of L_tables_of_line cs) C_tables_of_line bs := rfl
theorem ps_tables_of_line : F_tables_of_line.ps.length = 1 ∧ F_tables_of_line.mx = none := ⟨rfl, rfl⟩
@[simp] theorem at_code_or_line_row_of_line : (Ge.of L_code_or_line cs).fns "row_of_line" = some F_row_of_line := rfl
@[simp] theorem at_code_or_line_tables_of_line : (Ge.of L_code_or_line cs).fns "tables_of_line" = some F_tables_of_line := rfl
theorem sd_code_or_line (bs : List B) : F_code_or_line.sem bs = run (Ge.of L_code_or_line cs) C_code_or_line bs := rfl
theorem ps_code_or_line : F_code_or_line.ps.length = 1 ∧ F_code_or_line.mx = none := ⟨rfl, rfl⟩
@[simp] theorem at_want_code_is_code_value : (Ge.of L_want_code cs).fns "is_code_value" = some F_is_code_value := rfl
theorem sd_want_code (bs : List B) : F_want_code.sem bs = run (Ge.of L_want_code cs) C_want_code bs := rfl
theorem ps_want_code : F_want_code.ps.length = 1 ∧ F_want_code.mx = none := ⟨rfl, rfl⟩
@[simp] theorem at_is_code_is_code_value : (Ge.of L_is_code cs).fns "is_code_value" = some F_is_code_value := rfl
theorem sd_is_code (bs : List B) : F_is_code.sem bs = run (Ge.of L_is_code cs) C_is_code bs := rfl
theorem ps_is_code : F_is_code.ps.length = 1 ∧ F_is_code.mx = none := ⟨rfl, rfl⟩
@[simp] theorem at_code_text_text_by : (Ge.of L_code_text cs).fns "text_by" = some F_text_by := rfl
@[simp] theorem at_code_text_want_code : (Ge.of L_code_text cs).fns "want_code" = some F_want_code := rfl
theorem sd_code_text (bs : List B) : F_code_text.sem bs = run (Ge.of L_code_text cs) C_code_text bs := rfl
theorem ps_code_text : F_code_text.ps.length = 1 ∧ F_code_text.mx = none := ⟨rfl, rfl⟩
@[simp] theorem at_read_code_code_or_line : (Ge.of L_read_code cs).fns "code_or_line" = some F_code_or_line := rfl
@[simp] theorem at_read_code_want_text : (Ge.of L_read_code cs).fns "want_text" = some F_want_text := rfl
theorem sd_read_code (bs : List B) : F_read_code.sem bs = run (Ge.of L_read_code cs) C_read_code bs := rfl
theorem ps_read_code : F_read_code.ps.length = 1 ∧ F_read_code.mx = none := ⟨rfl, rfl⟩
theorem sd__law_pot (bs : List B) : F__law_pot.sem bs = run (Ge.of L__law_pot cs) C__law_pot bs := rfl
theorem ps__law_pot : F__law_pot.ps.length = 2 ∧ F__law_pot.mx = none := ⟨rfl, rfl⟩
theorem sd__law_draw (bs : List B) : F__law_draw.sem bs = run (Ge.of L__law_draw cs) C__law_draw bs := rfl
theorem ps__law_draw : F__law_draw.ps.length = 2 ∧ F__law_draw.mx = some 0 := ⟨rfl, rfl⟩
@[simp] theorem at__law_pick__law_draw : (Ge.of L__law_pick cs).fns "_law_draw" = some F__law_draw := rfl
theorem sd__law_pick (bs : List B) : F__law_pick.sem bs = run (Ge.of L__law_pick cs) C__law_pick bs := rfl
theorem ps__law_pick : F__law_pick.ps.length = 2 ∧ F__law_pick.mx = some 0 := ⟨rfl, rfl⟩
@[simp] theorem at__law_code__law_draw : (Ge.of L__law_code cs).fns "_law_draw" = some F__law_draw := rfl
theorem sd__law_code (bs : List B) : F__law_code.sem bs = run (Ge.of L__law_code cs) C__law_code bs := rfl
theorem ps__law_code : F__law_code.ps.length = 1 ∧ F__law_code.mx = some 0 := ⟨rfl, rfl⟩
theorem sd__law_is_number (bs : List B) : F__law_is_number.sem bs = run (Ge.of L__law_is_number cs) C__law_is_number bs := rfl
theorem ps__law_is_number : F__law_is_number.ps.length = 2 ∧ F__law_is_number.mx = none := ⟨rfl, rfl⟩
@[simp] theorem at__law_is_code__law_is_number : (Ge.of L__law_is_code cs).fns "_law_is_number" = some F__law_is_number := rfl
theorem sd__law_is_code (bs : List B) : F__law_is_code.sem bs = run (Ge.of L__law_is_code cs) C__law_is_code bs := rfl
theorem ps__law_is_code : F__law_is_code.ps.length = 1 ∧ F__law_is_code.mx = none := ⟨rfl, rfl⟩
theorem sd__law_text (bs : List B) : F__law_text.sem bs = run (Ge.of L__law_text cs) C__law_text bs := rfl
theorem ps__law_text : F__law_text.ps.length = 1 ∧ F__law_text.mx = none := ⟨rfl, rfl⟩
theorem sd__law_count (bs : List B) : F__law_count.sem bs = run (Ge.of L__law_count cs) C__law_count bs := rfl
theorem ps__law_count : F__law_count.ps.length = 1 ∧ F__law_count.mx = none := ⟨rfl, rfl⟩
@[simp] theorem at__law_read__law_count : (Ge.of L__law_read cs).fns "_law_count" = some F__law_count := rfl
theorem sd__law_read (bs : List B) : F__law_read.sem bs = run (Ge.of L__law_read cs) C__law_read bs := rfl
theorem ps__law_read : F__law_read.ps.length = 1 ∧ F__law_read.mx = none := ⟨rfl, rfl⟩
@[simp] theorem at__law_bent__law_pick : (Ge.of L__law_bent cs).fns "_law_pick" = some F__law_pick := rfl
@[simp] theorem at__law_bent__law_draw : (Ge.of L__law_bent cs).fns "_law_draw" = some F__law_draw := rfl
theorem sd__law_bent (bs : List B) : F__law_bent.sem bs = run (Ge.of L__law_bent cs) C__law_bent bs := rfl
theorem ps__law_bent : F__law_bent.ps.length = 2 ∧ F__law_bent.mx = some 0 := ⟨rfl, rfl⟩
@[simp] theorem at__law_spoilt__law_pick : (Ge.of L__law_spoilt cs).fns "_law_pick" = some F__law_pick := rfl
@[simp] theorem at__law_spoilt__law_draw : (Ge.of L__law_spoilt cs).fns "_law_draw" = some F__law_draw := rfl
theorem sd__law_spoilt (bs : List B) : F__law_spoilt.sem bs = run (Ge.of L__law_spoilt cs) C__law_spoilt bs := rfl
theorem ps__law_spoilt : F__law_spoilt.ps.length = 2 ∧ F__law_spoilt.mx = some 0 := ⟨rfl, rfl⟩
@[simp] theorem at__law_string_right__law_heard : (Ge.of L__law_string_right cs).fns "_law_heard" = some F__law_heard := rfl
@[simp] theorem at__law_string_right__law_read : (Ge.of L__law_string_right cs).fns "_law_read" = some F__law_read := rfl
theorem sd__law_string_right (bs : List B) : F__law_string_right.sem bs = run (Ge.of L__law_string_right cs) C__law_string_right bs := rfl
theorem ps__law_string_right : F__law_string_right.ps.length = 1 ∧ F__law_string_right.mx = none := ⟨rfl, rfl⟩
@[simp] theorem at__law_great_right__law_heard : (Ge.of L__law_great_right cs).fns "_law_heard" = some F__law_heard := rfl
@[simp] theorem at__law_great_right_is_code : (Ge.of L__law_great_right cs).fns "is_code" = some F_is_code := rfl
@[simp] theorem at__law_great_right_read_code : (Ge.of L__law_great_right cs).fns "read_code" = some F_read_code := rfl
@[simp] theorem at__law_great_right_code_text : (Ge.of L__law_great_right cs).fns "code_text" = some F_code_text := rfl
theorem sd__law_great_right (bs : List B) : F__law_great_right.sem bs = run (Ge.of L__law_great_right cs) C__law_great_right bs := rfl
theorem ps__law_great_right : F__law_great_right.ps.length = 0 ∧ F__law_great_right.mx = none := ⟨rfl, rfl⟩
@[simp] theorem at__law_right__law_spoilt : (Ge.of L__law_right cs).fns "_law_spoilt" = some F__law_spoilt := rfl
@[simp] theorem at__law_right__law_string_right : (Ge.of L__law_right cs).fns "_law_string_right" = some F__law_string_right := rfl
@[simp] theorem at__law_right__law_bent : (Ge.of L__law_right cs).fns "_law_bent" = some F__law_bent := rfl
@[simp] theorem at__law_right_is_code : (Ge.of L__law_right cs).fns "is_code" = some F_is_code := rfl
@[simp] theorem at__law_right__law_is_code : (Ge.of L__law_right cs).fns "_law_is_code" = some F__law_is_code := rfl
@[simp] theorem at__law_right_read_code : (Ge.of L__law_right cs).fns "read_code" = some F_read_code := rfl
@[simp] theorem at__law_right_code_text : (Ge.of L__law_right cs).fns "code_text" = some F_code_text := rfl
@[simp] theorem at__law_right__law_text : (Ge.of L__law_right cs).fns "_law_text" = some F__law_text := rfl
@[simp] theorem at__law_right__law_code : (Ge.of L__law_right cs).fns "_law_code" = some F__law_code := rfl
theorem sd__law_right (bs : List B) : F__law_right.sem bs = run (Ge.of L__law_right cs) C__law_right bs := rfl
theorem ps__law_right : F__law_right.ps.length = 1 ∧ F__law_right.mx = some 0 := ⟨rfl, rfl⟩
@[simp] theorem at_law__law_right : (Ge.of L_law cs).fns "_law_right" = some F__law_right := rfl
@[simp] theorem at_law__law_pot : (Ge.of L_law cs).fns "_law_pot" = some F__law_pot := rfl
@[simp] theorem at_law__law_great_right : (Ge.of L_law cs).fns "_law_great_right" = some F__law_great_right := rfl
theorem sd_law (bs : List B) : F_law.sem bs = run (Ge.of L_law cs) C_law bs := rfl
theorem ps_law : F_law.ps.length = 1 ∧ F_law.mx = none := ⟨rfl, rfl⟩
end K76
end

section
set_option maxRecDepth 100000
namespace K76
open PySem PySem.Spec PyProof.Rows L2 DI
def init_NotCode : Stmt := (match top 9 with | .ClassDef _ _ _ b _ _ _ _ _ _ _ => b | _ => []).getD 0 (.Pass ⟨0, 0, 0, 0⟩)
def d_NotCode_init : He.DefD := ⟨("NotCode", some "__init__"), "__init__", "NotCode.__init__", defArgs init_NotCode, defBody init_NotCode, defScope init_NotCode, [], []⟩
def d_is_integer : He.DefD := ⟨("is_integer", none), "is_integer", "is_integer", defArgs (top 1), defBody (top 1), defScope (top 1), [], []⟩
def d_is_within : He.DefD := ⟨("is_within", none), "is_within", "is_within", defArgs (top 2), defBody (top 2), defScope (top 2), [], []⟩
def d_is_tuple : He.DefD := ⟨("is_tuple", none), "is_tuple", "is_tuple", defArgs (top 3), defBody (top 3), defScope (top 3), [], []⟩
def d_want_text : He.DefD := ⟨("want_text", none), "want_text", "want_text", defArgs (top 12), defBody (top 12), defScope (top 12), [], []⟩
def d_is_code_value : He.DefD := ⟨("is_code_value", none), "is_code_value", "is_code_value", defArgs (top 16), defBody (top 16), defScope (top 16), [], []⟩
def d_text_by : He.DefD := ⟨("text_by", none), "text_by", "text_by", defArgs (top 17), defBody (top 17), defScope (top 17), [], []⟩
def d_number_of : He.DefD := ⟨("number_of", none), "number_of", "number_of", defArgs (top 18), defBody (top 18), defScope (top 18), [], []⟩
def d_row_of_line : He.DefD := ⟨("row_of_line", none), "row_of_line", "row_of_line", defArgs (top 19), defBody (top 19), defScope (top 19), [], []⟩
def d_tables_of_line : He.DefD := ⟨("tables_of_line", none), "tables_of_line", "tables_of_line", defArgs (top 20), defBody (top 20), defScope (top 20), [], []⟩
def d_code_or_line : He.DefD := ⟨("code_or_line", none), "code_or_line", "code_or_line", defArgs (top 21), defBody (top 21), defScope (top 21), [], []⟩
def d_want_code : He.DefD := ⟨("want_code", none), "want_code", "want_code", defArgs (top 22), defBody (top 22), defScope (top 22), [], []⟩
def d_is_code : He.DefD := ⟨("is_code", none), "is_code", "is_code", defArgs (top 23), defBody (top 23), defScope (top 23), [], []⟩
def d_code_text : He.DefD := ⟨("code_text", none), "code_text", "code_text", defArgs (top 24), defBody (top 24), defScope (top 24), [], []⟩
def d_read_code : He.DefD := ⟨("read_code", none), "read_code", "read_code", defArgs (top 25), defBody (top 25), defScope (top 25), [], []⟩
def d__law_pot : He.DefD := ⟨("_law_pot", none), "_law_pot", "_law_pot", defArgs (top 27), defBody (top 27), defScope (top 27), [], []⟩
def d__law_draw : He.DefD := ⟨("_law_draw", none), "_law_draw", "_law_draw", defArgs (top 28), defBody (top 28), defScope (top 28), [], []⟩
def d__law_pick : He.DefD := ⟨("_law_pick", none), "_law_pick", "_law_pick", defArgs (top 29), defBody (top 29), defScope (top 29), [], []⟩
def d__law_code : He.DefD := ⟨("_law_code", none), "_law_code", "_law_code", defArgs (top 30), defBody (top 30), defScope (top 30), [], []⟩
def d__law_is_number : He.DefD := ⟨("_law_is_number", none), "_law_is_number", "_law_is_number", defArgs (top 31), defBody (top 31), defScope (top 31), [], []⟩
def d__law_is_code : He.DefD := ⟨("_law_is_code", none), "_law_is_code", "_law_is_code", defArgs (top 32), defBody (top 32), defScope (top 32), [], []⟩
def d__law_text : He.DefD := ⟨("_law_text", none), "_law_text", "_law_text", defArgs (top 33), defBody (top 33), defScope (top 33), [], []⟩
def d__law_count : He.DefD := ⟨("_law_count", none), "_law_count", "_law_count", defArgs (top 34), defBody (top 34), defScope (top 34), [], []⟩
def d__law_read : He.DefD := ⟨("_law_read", none), "_law_read", "_law_read", defArgs (top 35), defBody (top 35), defScope (top 35), [], []⟩
def d__law_bent : He.DefD := ⟨("_law_bent", none), "_law_bent", "_law_bent", defArgs (top 36), defBody (top 36), defScope (top 36), [], []⟩
def d__law_spoilt : He.DefD := ⟨("_law_spoilt", none), "_law_spoilt", "_law_spoilt", defArgs (top 37), defBody (top 37), defScope (top 37), [], []⟩
def d__law_string_right : He.DefD := ⟨("_law_string_right", none), "_law_string_right", "_law_string_right", defArgs (top 39), defBody (top 39), defScope (top 39), [], []⟩
def d__law_great_right : He.DefD := ⟨("_law_great_right", none), "_law_great_right", "_law_great_right", defArgs (top 40), defBody (top 40), defScope (top 40), [], []⟩
def d__law_right : He.DefD := ⟨("_law_right", none), "_law_right", "_law_right", defArgs (top 41), defBody (top 41), defScope (top 41), [], []⟩
def d_law : He.DefD := ⟨("law", none), "law", "law", defArgs (top 42), defBody (top 42), defScope (top 42), [], []⟩
def d__law_heard : He.DefD := ⟨("_law_heard", none), "_law_heard", "_law_heard", defArgs (top 38), defBody (top 38), defScope (top 38), [], []⟩
def fn0 : List He.DefD := [d_is_integer, d_is_within, d_is_tuple, d_want_text, d_is_code_value, d_text_by, d_number_of, d_row_of_line, d_tables_of_line, d_code_or_line, d_want_code, d_is_code, d_code_text, d_read_code, d__law_pot, d__law_draw, d__law_pick, d__law_code, d__law_is_number, d__law_is_code]
def fn1 : List He.DefD := [d__law_text, d__law_count, d__law_read, d__law_bent, d__law_spoilt, d__law_string_right, d__law_great_right, d__law_right, d_law, d__law_heard, d_NotCode_init]
def fn : List He.DefD := fn0 ++ fn1
def fg0 : List He.Fa := [.glo "is_integer", .glo "is_within", .glo "is_tuple", .glo "want_text", .glo "is_code_value", .glo "text_by", .glo "number_of", .glo "row_of_line", .glo "tables_of_line", .glo "code_or_line", .glo "want_code", .glo "is_code", .glo "code_text", .glo "read_code", .glo "_law_pot", .glo "_law_draw", .glo "_law_pick", .glo "_law_code", .glo "_law_is_number", .glo "_law_is_code"]
def fg1 : List He.Fa := [.glo "_law_text", .glo "_law_count", .glo "_law_read", .glo "_law_bent", .glo "_law_spoilt", .glo "_law_string_right", .glo "_law_great_right", .glo "_law_right", .glo "law", .glo "_law_heard", .glo "NotCode"]
def fb : List He.Fa := bltNames.map He.Fa.free
def fa : List He.Fa := fg0 ++ fg1 ++ fb
theorem fb_in : ∀ x ∈ bltNames, He.Fa.free x ∈ fa := fun x h => List.mem_append_right _ (List.mem_map_of_mem h)
section
variable {P : Program} {w : World} {K : PySem.W.Frag} {mg : Str → Option Value} {base h : Heap}
theorem ok_is_integer (c : SaysG fa fn cs ex0 K) (X : K.In h) (G : h.Ns mainGlobals mg) : CalK P w K mg base 1 "is_integer" F_is_integer := by
  obtain ⟨fd, F⟩ := (Says.def_ c).def_ 0 (d := d_is_integer) rfl
  exact mkCal (k := 0) (l := L_is_integer) (cs := cs) (N := ["value"]) rfl F (He.glo_ok X G ((Says.def_ c).fact 0 (f := .glo "is_integer") rfl)) (modG X G c fb_in) (.nil) (by decide +kernel) rfl rfl (by decide +kernel)
    (fun _ _ _ _ _ _ us hl => match us, hl with | [_], _ => rfl) (fun _ _ _ _ _ _ us hl => match us, hl with | [_], _ => rfl)
theorem ok_is_within (c : SaysG fa fn cs ex0 K) (X : K.In h) (G : h.Ns mainGlobals mg) : CalK P w K mg base 2 "is_within" F_is_within := by
  obtain ⟨fd, F⟩ := (Says.def_ c).def_ 1 (d := d_is_within) rfl
  exact mkCal (k := 1) (l := L_is_within) (cs := cs) (N := ["value", "least", "most"]) rfl F (He.glo_ok X G ((Says.def_ c).fact 1 (f := .glo "is_within") rfl)) (modG X G c fb_in) (.cons (ok_is_integer c X G) (by decide) (.nil)) (by decide +kernel) rfl rfl (by decide +kernel)
    (fun _ _ _ _ _ _ us hl => match us, hl with | [_, _, _], _ => rfl) (fun _ _ _ _ _ _ us hl => match us, hl with | [_, _, _], _ => rfl)
theorem ok_is_tuple (c : SaysG fa fn cs ex0 K) (X : K.In h) (G : h.Ns mainGlobals mg) : CalK P w K mg base 1 "is_tuple" F_is_tuple := by
  obtain ⟨fd, F⟩ := (Says.def_ c).def_ 2 (d := d_is_tuple) rfl
  exact mkCal (k := 0) (l := L_is_tuple) (cs := cs) (N := ["value", "many"]) rfl F (He.glo_ok X G ((Says.def_ c).fact 2 (f := .glo "is_tuple") rfl)) (modG X G c fb_in) (.nil) (by decide +kernel) rfl rfl (by decide +kernel)
    (fun _ _ _ _ _ _ us hl => match us, hl with | [_, _], _ => rfl) (fun _ _ _ _ _ _ us hl => match us, hl with | [_, _], _ => rfl)
theorem ok_want_text (c : SaysG fa fn cs ex0 K) (X : K.In h) (G : h.Ns mainGlobals mg) : CalK P w K mg base 1 "want_text" F_want_text := by
  obtain ⟨fd, F⟩ := (Says.def_ c).def_ 3 (d := d_want_text) rfl
  exact mkCal (k := 0) (l := L_want_text) (cs := cs) (N := ["text"]) rfl F (He.glo_ok X G ((Says.def_ c).fact 3 (f := .glo "want_text") rfl)) (modG X G c fb_in) (.nil) (by decide +kernel) rfl rfl (by decide +kernel)
    (fun _ _ _ _ _ _ us hl => match us, hl with | [_], _ => rfl) (fun _ _ _ _ _ _ us hl => match us, hl with | [_], _ => rfl)
theorem ok_is_code_value (c : SaysG fa fn cs ex0 K) (X : K.In h) (G : h.Ns mainGlobals mg) : CalK P w K mg base 3 "is_code_value" F_is_code_value := by
  obtain ⟨fd, F⟩ := (Says.def_ c).def_ 4 (d := d_is_code_value) rfl
  exact mkCal (k := 2) (l := L_is_code_value) (cs := cs) (N := ["value", "many", "row", "one"]) rfl F (He.glo_ok X G ((Says.def_ c).fact 4 (f := .glo "is_code_value") rfl)) (modG X G c fb_in) (.cons (ok_is_within c X G) (by decide) (.cons (ok_is_tuple c X G) (by decide) (.nil))) (by decide +kernel) rfl rfl (by decide +kernel)
    (fun _ _ _ _ _ _ us hl => match us, hl with | [_], _ => rfl) (fun _ _ _ _ _ _ us hl => match us, hl with | [_], _ => rfl)
theorem ok_text_by (c : SaysG fa fn cs ex0 K) (X : K.In h) (G : h.Ns mainGlobals mg) : CalK P w K mg base 1 "text_by" F_text_by := by
  obtain ⟨fd, F⟩ := (Says.def_ c).def_ 5 (d := d_text_by) rfl
  exact mkCal (k := 0) (l := L_text_by) (cs := cs) (N := ["code", "lines", "row", "good", "one", "line"]) rfl F (He.glo_ok X G ((Says.def_ c).fact 5 (f := .glo "text_by") rfl)) (modG X G c fb_in) (.nil) (by decide +kernel) rfl rfl (by decide +kernel)
    (fun _ _ _ _ _ _ us hl => match us, hl with | [_], _ => rfl) (fun _ _ _ _ _ _ us hl => match us, hl with | [_], _ => rfl)
theorem ok_number_of (c : SaysG fa fn cs ex0 K) (X : K.In h) (G : h.Ns mainGlobals mg) : CalK P w K mg base 1 "number_of" F_number_of := by
  obtain ⟨fd, F⟩ := (Says.def_ c).def_ 6 (d := d_number_of) rfl
  exact mkCal (k := 0) (l := L_number_of) (cs := cs) (N := ["token", "sign"]) rfl F (He.glo_ok X G ((Says.def_ c).fact 6 (f := .glo "number_of") rfl)) (modG X G c fb_in) (.nil) (by decide +kernel) rfl rfl (by decide +kernel)
    (fun _ _ _ _ _ _ us hl => match us, hl with | [_], _ => rfl) (fun _ _ _ _ _ _ us hl => match us, hl with | [_], _ => rfl)
theorem ok_row_of_line (c : SaysG fa fn cs ex0 K) (X : K.In h) (G : h.Ns mainGlobals mg) : CalK P w K mg base 2 "row_of_line" F_row_of_line := by
  obtain ⟨fd, F⟩ := (Says.def_ c).def_ 7 (d := d_row_of_line) rfl
  exact mkCal (k := 1) (l := L_row_of_line) (cs := cs) (N := ["line", "tables", "tokens", "numbers", "token"]) rfl F (He.glo_ok X G ((Says.def_ c).fact 7 (f := .glo "row_of_line") rfl)) (modG X G c fb_in) (.cons (ok_number_of c X G) (by decide) (.nil)) (by decide +kernel) rfl rfl (by decide +kernel)
    (fun _ _ _ _ _ _ us hl => match us, hl with | [_, _], _ => rfl) (fun _ _ _ _ _ _ us hl => match us, hl with | [_, _], _ => rfl)
theorem ok_tables_of_line (c : SaysG fa fn cs ex0 K) (X : K.In h) (G : h.Ns mainGlobals mg) : CalK P w K mg base 2 "tables_of_line" F_tables_of_line := by
  obtain ⟨fd, F⟩ := (Says.def_ c).def_ 8 (d := d_tables_of_line) rfl
  exact mkCal (k := 1) (l := L_tables_of_line) (cs := cs) (N := ["line", "tokens", "many"]) rfl F (He.glo_ok X G ((Says.def_ c).fact 8 (f := .glo "tables_of_line") rfl)) (modG X G c fb_in) (.cons (ok_number_of c X G) (by decide) (.nil)) (by decide +kernel) rfl rfl (by decide +kernel)
    (fun _ _ _ _ _ _ us hl => match us, hl with | [_], _ => rfl) (fun _ _ _ _ _ _ us hl => match us, hl with | [_], _ => rfl)
theorem ok_code_or_line (c : SaysG fa fn cs ex0 K) (X : K.In h) (G : h.Ns mainGlobals mg) : CalK P w K mg base 3 "code_or_line" F_code_or_line := by
  obtain ⟨fd, F⟩ := (Says.def_ c).def_ 9 (d := d_code_or_line) rfl
  exact mkCal (k := 2) (l := L_code_or_line) (cs := cs) (N := ["text", "lines", "tables", "rows", "at", "line", "row", "one"]) rfl F (He.glo_ok X G ((Says.def_ c).fact 9 (f := .glo "code_or_line") rfl)) (modG X G c fb_in) (.cons (ok_row_of_line c X G) (by decide) (.cons (ok_tables_of_line c X G) (by decide) (.nil))) (by decide +kernel) rfl rfl (by decide +kernel)
    (fun _ _ _ _ _ _ us hl => match us, hl with | [_], _ => rfl) (fun _ _ _ _ _ _ us hl => match us, hl with | [_], _ => rfl)
theorem ok_want_code (c : SaysG fa fn cs ex0 K) (X : K.In h) (G : h.Ns mainGlobals mg) : CalK P w K mg base 4 "want_code" F_want_code := by
  obtain ⟨fd, F⟩ := (Says.def_ c).def_ 10 (d := d_want_code) rfl
  exact mkCal (k := 3) (l := L_want_code) (cs := cs) (N := ["code"]) rfl F (He.glo_ok X G ((Says.def_ c).fact 10 (f := .glo "want_code") rfl)) (modG X G c fb_in) (.cons (ok_is_code_value c X G) (by decide) (.nil)) (by decide +kernel) rfl rfl (by decide +kernel)
    (fun _ _ _ _ _ _ us hl => match us, hl with | [_], _ => rfl) (fun _ _ _ _ _ _ us hl => match us, hl with | [_], _ => rfl)
theorem ok_is_code (c : SaysG fa fn cs ex0 K) (X : K.In h) (G : h.Ns mainGlobals mg) : CalK P w K mg base 4 "is_code" F_is_code := by
  obtain ⟨fd, F⟩ := (Says.def_ c).def_ 11 (d := d_is_code) rfl
  exact mkCal (k := 3) (l := L_is_code) (cs := cs) (N := ["value"]) rfl F (He.glo_ok X G ((Says.def_ c).fact 11 (f := .glo "is_code") rfl)) (modG X G c fb_in) (.cons (ok_is_code_value c X G) (by decide) (.nil)) (by decide +kernel) rfl rfl (by decide +kernel)
    (fun _ _ _ _ _ _ us hl => match us, hl with | [_], _ => rfl) (fun _ _ _ _ _ _ us hl => match us, hl with | [_], _ => rfl)
theorem ok_code_text (c : SaysG fa fn cs ex0 K) (X : K.In h) (G : h.Ns mainGlobals mg) : CalK P w K mg base 5 "code_text" F_code_text := by
  obtain ⟨fd, F⟩ := (Says.def_ c).def_ 12 (d := d_code_text) rfl
  exact mkCal (k := 4) (l := L_code_text) (cs := cs) (N := ["code"]) rfl F (He.glo_ok X G ((Says.def_ c).fact 12 (f := .glo "code_text") rfl)) (modG X G c fb_in) (.cons (ok_text_by c X G) (by decide) (.cons (ok_want_code c X G) (by decide) (.nil))) (by decide +kernel) rfl rfl (by decide +kernel)
    (fun _ _ _ _ _ _ us hl => match us, hl with | [_], _ => rfl) (fun _ _ _ _ _ _ us hl => match us, hl with | [_], _ => rfl)
theorem ok_read_code (c : SaysG fa fn cs ex0 K) (X : K.In h) (G : h.Ns mainGlobals mg) : CalK P w K mg base 4 "read_code" F_read_code := by
  obtain ⟨fd, F⟩ := (Says.def_ c).def_ 13 (d := d_read_code) rfl
  exact mkCal (k := 3) (l := L_read_code) (cs := cs) (N := ["text", "code", "line"]) rfl F (He.glo_ok X G ((Says.def_ c).fact 13 (f := .glo "read_code") rfl)) (modG X G c fb_in) (.cons (ok_code_or_line c X G) (by decide) (.cons (ok_want_text c X G) (by decide) (.nil))) (by decide +kernel) rfl rfl (by decide +kernel)
    (fun _ _ _ _ _ _ us hl => match us, hl with | [_], _ => rfl) (fun _ _ _ _ _ _ us hl => match us, hl with | [_], _ => rfl)
theorem ok__law_pot (c : SaysG fa fn cs ex0 K) (X : K.In h) (G : h.Ns mainGlobals mg) : CalK P w K mg base 1 "_law_pot" F__law_pot := by
  obtain ⟨fd, F⟩ := (Says.def_ c).def_ 14 (d := d__law_pot) rfl
  exact mkCal (k := 0) (l := L__law_pot) (cs := cs) (N := ["script", "k", "cell"]) rfl F (He.glo_ok X G ((Says.def_ c).fact 14 (f := .glo "_law_pot") rfl)) (modG X G c fb_in) (.nil) (by decide +kernel) rfl rfl (by decide +kernel)
    (fun _ _ _ _ _ _ us hl => match us, hl with | [_, _], _ => rfl) (fun _ _ _ _ _ _ us hl => match us, hl with | [_, _], _ => rfl)
theorem ok__law_draw (c : SaysG fa fn cs ex0 K) (X : K.In h) (G : h.Ns mainGlobals mg) : CalK P w K mg base 1 "_law_draw" F__law_draw := by
  obtain ⟨fd, F⟩ := (Says.def_ c).def_ 15 (d := d__law_draw) rfl
  exact mkCal (k := 0) (l := L__law_draw) (cs := cs) (N := ["pot", "many", "digit"]) rfl F (He.glo_ok X G ((Says.def_ c).fact 15 (f := .glo "_law_draw") rfl)) (modG X G c fb_in) (.nil) (by decide +kernel) rfl rfl (by decide +kernel)
    (fun _ _ _ _ _ _ us hl => match us, hl with | [_, _], _ => rfl) (fun _ _ _ _ _ _ us hl => match us, hl with | [_, _], _ => rfl)
theorem ok__law_pick (c : SaysG fa fn cs ex0 K) (X : K.In h) (G : h.Ns mainGlobals mg) : CalK P w K mg base 2 "_law_pick" F__law_pick := by
  obtain ⟨fd, F⟩ := (Says.def_ c).def_ 16 (d := d__law_pick) rfl
  exact mkCal (k := 1) (l := L__law_pick) (cs := cs) (N := ["pot", "some"]) rfl F (He.glo_ok X G ((Says.def_ c).fact 16 (f := .glo "_law_pick") rfl)) (modG X G c fb_in) (.cons (ok__law_draw c X G) (by decide) (.nil)) (by decide +kernel) rfl rfl (by decide +kernel)
    (fun _ _ _ _ _ _ us hl => match us, hl with | [_, _], _ => rfl) (fun _ _ _ _ _ _ us hl => match us, hl with | [_, _], _ => rfl)
theorem ok__law_code (c : SaysG fa fn cs ex0 K) (X : K.In h) (G : h.Ns mainGlobals mg) : CalK P w K mg base 2 "_law_code" F__law_code := by
  obtain ⟨fd, F⟩ := (Says.def_ c).def_ 17 (d := d__law_code) rfl
  exact mkCal (k := 1) (l := L__law_code) (cs := cs) (N := ["pot", "many", "tables", "leads", "number", "at"]) rfl F (He.glo_ok X G ((Says.def_ c).fact 17 (f := .glo "_law_code") rfl)) (modG X G c fb_in) (.cons (ok__law_draw c X G) (by decide) (.nil)) (by decide +kernel) rfl rfl (by decide +kernel)
    (fun _ _ _ _ _ _ us hl => match us, hl with | [_], _ => rfl) (fun _ _ _ _ _ _ us hl => match us, hl with | [_], _ => rfl)
theorem ok__law_is_number (c : SaysG fa fn cs ex0 K) (X : K.In h) (G : h.Ns mainGlobals mg) : CalK P w K mg base 1 "_law_is_number" F__law_is_number := by
  obtain ⟨fd, F⟩ := (Says.def_ c).def_ 18 (d := d__law_is_number) rfl
  exact mkCal (k := 0) (l := L__law_is_number) (cs := cs) (N := ["value", "many"]) rfl F (He.glo_ok X G ((Says.def_ c).fact 18 (f := .glo "_law_is_number") rfl)) (modG X G c fb_in) (.nil) (by decide +kernel) rfl rfl (by decide +kernel)
    (fun _ _ _ _ _ _ us hl => match us, hl with | [_, _], _ => rfl) (fun _ _ _ _ _ _ us hl => match us, hl with | [_, _], _ => rfl)
theorem ok__law_is_code (c : SaysG fa fn cs ex0 K) (X : K.In h) (G : h.Ns mainGlobals mg) : CalK P w K mg base 2 "_law_is_code" F__law_is_code := by
  obtain ⟨fd, F⟩ := (Says.def_ c).def_ 19 (d := d__law_is_code) rfl
  exact mkCal (k := 1) (l := L__law_is_code) (cs := cs) (N := ["value", "many", "row", "one"]) rfl F (He.glo_ok X G ((Says.def_ c).fact 19 (f := .glo "_law_is_code") rfl)) (modG X G c fb_in) (.cons (ok__law_is_number c X G) (by decide) (.nil)) (by decide +kernel) rfl rfl (by decide +kernel)
    (fun _ _ _ _ _ _ us hl => match us, hl with | [_], _ => rfl) (fun _ _ _ _ _ _ us hl => match us, hl with | [_], _ => rfl)
theorem ok__law_text (c : SaysG fa fn cs ex0 K) (X : K.In h) (G : h.Ns mainGlobals mg) : CalK P w K mg base 1 "_law_text" F__law_text := by
  obtain ⟨fd, F⟩ := (Says.def_ c).def_ 20 (d := d__law_text) rfl
  exact mkCal (k := 0) (l := L__law_text) (cs := cs) (N := ["code", "lines", "row", "good", "one", "line"]) rfl F (He.glo_ok X G ((Says.def_ c).fact 20 (f := .glo "_law_text") rfl)) (modG X G c fb_in) (.nil) (by decide +kernel) rfl rfl (by decide +kernel)
    (fun _ _ _ _ _ _ us hl => match us, hl with | [_], _ => rfl) (fun _ _ _ _ _ _ us hl => match us, hl with | [_], _ => rfl)
theorem ok__law_count (c : SaysG fa fn cs ex0 K) (X : K.In h) (G : h.Ns mainGlobals mg) : CalK P w K mg base 1 "_law_count" F__law_count := by
  obtain ⟨fd, F⟩ := (Says.def_ c).def_ 21 (d := d__law_count) rfl
  exact mkCal (k := 0) (l := L__law_count) (cs := cs) (N := ["token", "is_so", "sign"]) rfl F (He.glo_ok X G ((Says.def_ c).fact 21 (f := .glo "_law_count") rfl)) (modG X G c fb_in) (.nil) (by decide +kernel) rfl rfl (by decide +kernel)
    (fun _ _ _ _ _ _ us hl => match us, hl with | [_], _ => rfl) (fun _ _ _ _ _ _ us hl => match us, hl with | [_], _ => rfl)
theorem ok__law_read (c : SaysG fa fn cs ex0 K) (X : K.In h) (G : h.Ns mainGlobals mg) : CalK P w K mg base 2 "_law_read" F__law_read := by
  obtain ⟨fd, F⟩ := (Says.def_ c).def_ 22 (d := d__law_read) rfl
  exact mkCal (k := 1) (l := L__law_read) (cs := cs) (N := ["text", "lines", "head", "rows", "at", "tokens", "numbers", "token", "great", "row"]) rfl F (He.glo_ok X G ((Says.def_ c).fact 22 (f := .glo "_law_read") rfl)) (modG X G c fb_in) (.cons (ok__law_count c X G) (by decide) (.nil)) (by decide +kernel) rfl rfl (by decide +kernel)
    (fun _ _ _ _ _ _ us hl => match us, hl with | [_], _ => rfl) (fun _ _ _ _ _ _ us hl => match us, hl with | [_], _ => rfl)
theorem ok__law_bent (c : SaysG fa fn cs ex0 K) (X : K.In h) (G : h.Ns mainGlobals mg) : CalK P w K mg base 3 "_law_bent" F__law_bent := by
  obtain ⟨fd, F⟩ := (Says.def_ c).def_ 23 (d := d__law_bent) rfl
  exact mkCal (k := 2) (l := L__law_bent) (cs := cs) (N := ["pot", "value", "way", "here", "turn", "odds", "late", "ahead", "at"]) rfl F (He.glo_ok X G ((Says.def_ c).fact 23 (f := .glo "_law_bent") rfl)) (modG X G c fb_in) (.cons (ok__law_pick c X G) (by decide) (.cons (ok__law_draw c X G) (by decide) (.nil))) (by decide +kernel) rfl rfl (by decide +kernel)
    (fun _ _ _ _ _ _ us hl => match us, hl with | [_, _], _ => rfl) (fun _ _ _ _ _ _ us hl => match us, hl with | [_, _], _ => rfl)
theorem ok__law_spoilt (c : SaysG fa fn cs ex0 K) (X : K.In h) (G : h.Ns mainGlobals mg) : CalK P w K mg base 3 "_law_spoilt" F__law_spoilt := by
  obtain ⟨fd, F⟩ := (Says.def_ c).def_ 24 (d := d__law_spoilt) rfl
  exact mkCal (k := 2) (l := L__law_spoilt) (cs := cs) (N := ["pot", "text", "lines", "at", "place", "odd", "sign", "ways", "one"]) rfl F (He.glo_ok X G ((Says.def_ c).fact 24 (f := .glo "_law_spoilt") rfl)) (modG X G c fb_in) (.cons (ok__law_pick c X G) (by decide) (.cons (ok__law_draw c X G) (by decide) (.nil))) (by decide +kernel) rfl rfl (by decide +kernel)
    (fun _ _ _ _ _ _ us hl => match us, hl with | [_, _], _ => rfl) (fun _ _ _ _ _ _ us hl => match us, hl with | [_, _], _ => rfl)
/-- the promise of read_code, its error let out -/
def spRC (K : PySem.W.Frag) (C : Addr) : Sp := fun vs H Q E => ∃ (Z : Addr → Prop) (t : Str) (c l : D), vs = [V.str t] ∧ (∀ a, Z a → ∃ u, H a = some u) ∧ F_code_or_line.sem [.val (.str t)] = .ok (.val (.tuple [c, l]), none) ∧
  (DI.isNon c = false → ∀ (v : V) (H' : Hp), (∀ a u, H a = some u → H' a = some u) → DA K Z H' v c → Q v H') ∧
  (DI.isNon c = true → ∀ (v : V) (H' : Hp) (d : Addr), (∀ a u, H a = some u → H' a = some u) → DA K Z H' v l → H' d = none → E (.ref C) (some d) (upd H' d (.xd [(("line" : Str), v)])))
theorem txt (c : SaysG fa fn cs ex0 K) (X : K.In h) (G : h.Ns mainGlobals mg) : PySem.OwnX.OwnTxt K mg "NotCode" "line" "NotCode.__init__" rtBase "RuntimeError.__new__" (He.ga K "NotCode") (He.fAd K ("NotCode", some "__init__")) := by
  have c2 : (cs.all (cstB K) && ex0.all fun f => f K) = true := congrArg Prod.snd c
  rw [Bool.and_eq_true] at c2
  have e := List.all_eq_true.mp c2.2 (excOk "NotCode" "line" rtBase "RuntimeError.__new__") (by simp [ex0])
  refine exc_txt (He.glo_ok X G ((Says.def_ c).fact 30 (f := .glo "NotCode") rfl)) e ?_
  obtain ⟨fd, F⟩ := (Says.def_ c).def_ 30 (d := d_NotCode_init) rfl
  obtain ⟨oc, od, dV, kV, doc, pm, an, cdv, ct, osl, rfl, lk, hcd, hD, hK⟩ := F.ex
  rcases hD with ⟨_, e⟩ | ⟨e, _⟩
  · subst e
    exact ⟨oc, od, kV, doc, pm, an, cdv, ct, osl, _, _, _, _, _, _, lk, hcd⟩
  · exact absurd rfl e
theorem noOwn3 {a b c : Option B} (h : ∀ o, a ≠ some (.own o) ∧ b ≠ some (.own o) ∧ c ≠ some (.own o)) {σ : L2.St} {x : Addr} : ¬ OwnA [a, b, c] σ x := by
  rintro ⟨i, o, e, _⟩
  obtain ⟨h1, h2, h3⟩ := h o
  match i, e with
  | 0, e => exact h1 (Option.some.inj e)
  | 1, e => exact h2 (Option.some.inj e)
  | 2, e => exact h3 (Option.some.inj e)
def rcS (j : Nat) : Stmt := (defBody (top 25)).getD j (.Pass ⟨0, 0, 0, 0⟩)
theorem rc_body : ∃ (s1 s2 : Stmt) (c : Expr) (p6 p1 p2 p3 p4 : Pos) (e : Expr) (p5 : Pos), defBody (top 25) = [s1, s2, .If c [.Raise (some (.Call (.Name "NotCode" p1) [.Name "line" p6] [] p2)) none p3] [] p4, .Return (some e) p5] ∧
    chkS ["text", "code", "line"] (defScope (top 25)) (.expr (.fn "want_text" (.cons (.var 0) .nil))) s1 = true ∧
    chkS ["text", "code", "line"] (defScope (top 25)) (.asg (.tup (.cons (.name 1) (.cons (.name 2) .nil))) (.fn "code_or_line" (.cons (.var 0) .nil))) s2 = true ∧
    chkE ["text", "code", "line"] (defScope (top 25)) (.cmp .isN (.var 1) (.lit .none)) c = true ∧ tOk (.cmp .isN (.var 1) (.lit .none)) c = true ∧ chkE ["text", "code", "line"] (defScope (top 25)) (.var 2) (.Name "line" p6) = true ∧ chkE ["text", "code", "line"] (defScope (top 25)) (.var 1) e = true := by
  exact ⟨_, _, _, _, _, _, _, _, _, _, rfl, by decide +kernel, by decide +kernel, by decide +kernel, by decide +kernel, by decide +kernel, by decide +kernel⟩
theorem sem_rc {t : Str} {c l : D} (e : F_code_or_line.sem [.val (.str t)] = .ok (.val (.tuple [c, l]), none)) (hn : DI.isNon c = false) : F_read_code.sem [.val (.str t)] = .ok (.val c, none) := by
  have h1 : F_want_text.sem [.val (.str t)] = .ok (.val .none, none) := by
    rw [sd_want_text]
    simp [DI.run, callF, namesAll, noOwn, wipeE, unwipe, C_want_text]
  rw [sd_read_code]
  simp [DI.run, callF, namesAll, noOwn, wipeE, unwipe, C_read_code, ps_want_text, ps_code_or_line, h1, e, hn]
theorem ex_rc1 {t : Str} : ex (Ge.of L_read_code cs) none (.expr (.fn "want_text" (.cons (.var 0) .nil))) [some (.val (.str t)), none, none] = .ok (.next, [some (.val (.str t)), none, none]) := by
  have h1 : F_want_text.sem [.val (.str t)] = .ok (.val .none, none) := by
    rw [sd_want_text]
    simp [DI.run, callF, namesAll, noOwn, wipeE, unwipe, C_want_text]
  simp [callF, ps_want_text, h1]
theorem ex_rc2 {t : Str} {c l : D} (e : F_code_or_line.sem [.val (.str t)] = .ok (.val (.tuple [c, l]), none)) : ex (Ge.of L_read_code cs) none (.asg (.tup (.cons (.name 1) (.cons (.name 2) .nil))) (.fn "code_or_line" (.cons (.var 0) .nil))) [some (.val (.str t)), none, none] = .ok (.next, [some (.val (.str t)), some (.val c), some (.val l)]) := by
  simp [callF, ps_code_or_line, e]
theorem ok_rcX (c : SaysG fa fn cs ex0 K) (X0 : K.In h) (G : h.Ns mainGlobals mg) : ∃ fd, FnG P w K mg base (L2.CX P w) 4 (He.ga K "read_code") fd ["text"] (spRC K (He.ga K "NotCode")) ∧ mg "read_code" = some (.ref (He.ga K "read_code")) ∧ PySem.W.keepIn K (.ref (He.ga K "read_code")) = true ∧ BindAll fd ["text"] := by
  have T := txt c X0 G
  obtain ⟨fd, F⟩ := (Says.def_ c).def_ 13 (d := d_read_code) rfl
  have F' := F
  obtain ⟨oc, od, dV, kV, doc, pm, an, cdv, ct, osl, rfl, lk, hcd, hD, hK⟩ := F.ex
  have S : FnScope ["text", "code", "line"] ["text"] (defScope (top 25)) := scG_ok (by decide +kernel)
  have M := modG X0 G c fb_in
  have L : Cals P w K mg base 3 L_read_code := .cons (ok_code_or_line c X0 G) (by decide) (.cons (ok_want_text c X0 G) (by decide) .nil)
  refine ⟨_, fn_ofG (k := 3) (N := ["text", "code", "line"]) lk hcd S (fun vs H Q E h => ?_) ?_, He.glo_ok X0 G ((Says.def_ c).fact 13 (f := .glo "read_code") rfl), F.kp, ?_⟩
  · obtain ⟨_, _, _, _, rfl, _⟩ := h
    rfl
  · intro A outer s H vs Q E hr hgd hsp
    have ok : CxOk (Ge.of L_read_code cs) ["text", "code", "line"] (defScope (top 25)) (defScope (top 25)) (cxOf (L2.CX P w) P w K mg base ["text", "code", "line"] "read_code" (defScope (top 25)) (He.ga K "read_code") cdv A outer s H E) := by
      refine ⟨rfl, rfl, rfl, S.nd, hgd, ?_, fun _ _ => rfl, ?_⟩
      · have := hr.un
        show (A.deeper (envOfC d_read_code.qual d_read_code.scope s.heap.objs.size (He.ga K "read_code") cdv)).units + 70 < cLine
        omega
      · refine ⟨fun g Fg hg => ?_, M.cst, M.blt⟩
        obtain ⟨fa, fd, F1, r1, r2, r3, r4⟩ := L.get hg
        exact ⟨3, fa, fd, F1, hr, r1, r2, r3, r4⟩
    obtain ⟨Z, t, cc, l, rfl, hz, e, k1, k2⟩ := hsp
    have aok : ArgsOk K Z H none 0 [V.str t] [.val (.str t)] := ⟨⟨by simp, DA.str t⟩, trivial⟩
    cases hn : DI.isNon cc with
    | false =>
      have hb := sSs (pin := none) C_read_code.body ok S.kind (passes_of rfl) (st := defBody (top 25)) (by decide +kernel)
      refine body_ok (FF := F_read_code) (E := E) rfl rfl hb ⟨Z, [.val (.str t)], .val cc, none, rfl, hz, aok, sem_rc e hn, fun v H' Zf p => ?_⟩
      exact k1 hn v H' (fun a u e => p.fr a u e (by intro k hk; cases hk)) (DA.less p.up p.res)
    | true =>
      obtain ⟨s1, s2, ce, p6, p1, p2, p3, p4, e5, p5, hbody, c1, c2, c3, c4, c5, c6⟩ := rc_body
      have hb : defBody (top 25) = d_read_code.body := rfl
      rw [← hb, hbody]
      have P1 := sS (pin := none) _ ok S.kind (passes_of rfl) c1
      have P2 := sS (pin := none) _ ok S.kind (passes_of rfl) c2
      have P3 := (sE (pin := none) _ ok c3).2 c4
      have P4 := (sE (pin := none) _ ok c5).1
      have P5 := (sE (pin := none) _ ok c6).1
      refine ⟨_, pss_cons P1 (pss_cons P2 (pss_cons (ps_if P3 (pss_one (ps_raiseE rfl PySem.F.excBase_RuntimeError PySem.F.store_RuntimeError (by decide +kernel) (by decide) T (.inl rfl) hr (takes_of rfl rfl rfl rfl) (pa_cons P4 pa_nil) (by rfl) (by decide))) pss_nil) (pss_one (ps_ret P5)))), ?_⟩
      obtain ⟨hrel, _⟩ := start_rel (N := ["text", "code", "line"]) aok hz (show 1 ≤ 3 by decide)
      have n0 : ∀ o : MO, (some (B.val (.str t)) : Option B) ≠ some (.own o) ∧ (none : Option B) ≠ some (.own o) ∧ (none : Option B) ≠ some (.own o) := fun o => ⟨(by intro z; cases z), (by intro z; cases z), (by intro z; cases z)⟩
      have n2 : ∀ o : MO, (some (B.val (.str t)) : Option B) ≠ some (.own o) ∧ (some (B.val cc) : Option B) ≠ some (.own o) ∧ (some (B.val l) : Option B) ≠ some (.own o) := fun o => ⟨(by intro z; cases z), (by intro z; cases z), (by intro z; cases z)⟩
      refine ⟨_, _, .next, _, hrel, ex_rc1, fun σ1 H1 m1 => ⟨_, _, .next, _, m1.rel, ex_rc2 e, fun σ2 H2 m2 => ⟨_, _, true, _, m2.rel, by simp [hn]; rfl, fun H3 Λ3 a3 => ?_⟩⟩⟩
      refine ⟨_, _, .val l, _, a3.rel, by simp; rfl, fun v H4 Λ4 a4 q => ⟨v, rfl, fun d hd => ?_⟩⟩
      refine k2 hn v H4 d (fun a u eu => ?_) ?_ hd
      · have u1 := m1.fr a u eu (noOwn3 n0)
        have u2 := m2.fr a u u1 (noOwn3 n0)
        have u3 := a3.fr a u u2 (noOwn3 n2)
        exact a4.fr a u u3 (noOwn3 n2)
      · have q' : DA K (Hid Λ4 _ σ2) H4 v l := q
        refine q'.less fun a za => .inl ?_
        have z0 : Z a ∧ ∀ k, (none : Option Nat) = some k → [V.str t][k]? ≠ some (.ref a) := ⟨za, fun k hk => by cases hk⟩
        exact a4.ext.1 a (a3.ext.1 a (m2.ext.1 a (m1.ext.1 a z0)))
  · obtain ⟨kV, doc, pm, an, cdv, ct, e⟩ := FunD.noDefaults F'
    rw [e]
    exact fun us hl => match us, hl with | [_], _ => rfl
/-- told = None; try: told = ["let", read_code(text)] / except NotCode as e: told = ["bad", e.line]; return told -/
def t_suite (C : Addr) : Addr → Value → Option Addr → TS := fun a cls d => tAsg (tLst (tCons (tC (.str "bad")) (tCons (tFld C "line" a cls d (tVar 2)) tNil))) (gName 1)
def t_body (K : PySem.W.Frag) (C : Addr) (W : WX) : TS := tAsg (tLst (tCons (tC (.str "let")) (tCons (tCallS (spRC K C) (WE W) (tCons (tVar 0) tNil)) tNil))) (gName 1)
def t_heard (K : PySem.W.Frag) (C : Addr) : TS := tSeq (tAsg (tC .non) (gName 1)) (tSeq (fun D σ H => t_body K C (wAs K (.ref C) 2 (t_suite C) (fun _ _ _ _ => False) D) D σ H) (tRet (tVar 1)))
theorem heard_args {bs : List B} {r : R} {o : Option MO} (e : heardSem bs = .ok (r, o)) : ∃ (t : Str) (c l : D), bs = [.val (.str t)] ∧ o = none ∧ F_code_or_line.sem [.val (.str t)] = .ok (.val (.tuple [c, l]), none) ∧
    ((DI.isNon c = true ∧ r = .new (.lst [.str "bad", l])) ∨ (DI.isNon c = false ∧ r = .new (.lst [.str "let", c]))) := by
  unfold heardSem at e
  split at e
  · rename_i t
    obtain ⟨⟨q, q2⟩, e1, e⟩ := bind_eq e
    have hq2 : q2 = none := by
      have e2 : F_code_or_line.sem [.val (.str t)] = DI.run (Ge.of L_code_or_line cs) C_code_or_line [.val (.str t)] := sd_code_or_line _
      rw [e2] at e1
      unfold DI.run at e1
      split at e1
      · obtain ⟨p, f1, e1⟩ := bind_eq e1
        obtain ⟨p2, f2, e1⟩ := bind_eq e1
        obtain ⟨p3, f3, e1⟩ := bind_eq e1
        cases e1
        cases f2
        rfl
      · cases e1
    subst hq2
    cases q with
    | val d =>
      cases d with
      | tuple xs =>
        rcases xs with _ | ⟨c, _ | ⟨l, _ | ⟨y, ys⟩⟩⟩
        · cases e
        · cases c <;> cases e
        · by_cases hc : c = .none
          · subst hc
            have e2 : Out.ok (R.new (MO.lst [.str "bad", l]), (none : Option MO)) = .ok (r, o) := e
            cases e2
            exact ⟨t, .none, l, rfl, rfl, e1, .inl ⟨rfl, rfl⟩⟩
          · have hn : DI.isNon c = false := by cases c <;> first | rfl | exact absurd rfl hc
            cases l with
            | none =>
              cases c <;> first | (exact absurd rfl hc) | (cases e; exact ⟨t, _, .none, rfl, rfl, e1, .inr ⟨rfl, rfl⟩⟩)
            | _ => cases c <;> first | (exact absurd rfl hc) | (cases e; done)
        · cases c <;> cases l <;> cases e
      | _ => cases e
    | _ => cases e
  · cases e
theorem pure_heard (T : PySem.OwnX.OwnTxt K mg "NotCode" "line" "NotCode.__init__" rtBase "RuntimeError.__new__" (He.ga K "NotCode") (He.fAd K ("NotCode", some "__init__"))) (vs : List V) (H : Hp) (Q : VK) (E : XK) (h : SpI K F__law_heard 1 vs H Q E) :
    t_heard K (He.ga K "NotCode") { nx := fun _ H' => Q .non H', rt := Q } (L2.start ["text", "told", "e"] vs) H := by
  obtain ⟨Z, bs, r, o, hl, hz, a, e, k⟩ := h
  obtain ⟨t, c, l, rfl, rfl, hs, hr⟩ := heard_args e
  obtain ⟨v0, rfl⟩ : ∃ v, vs = [v] := by
    match vs, hl with
    | [v], _ => exact ⟨v, rfl⟩
  have hv : v0 = .str t := by
    have := a.1.2
    cases this
    rfl
  subst hv
  have post : ∀ (H' : Hp) (p : Addr) (v : V) (x : Str) (d : D), (∀ a u, H a = some u → H' a = some u) → DA K Z H' v d → H' p = none → r = .new (.lst [.str x, d]) → Q (.ref p) (upd H' p (.lst [.str x, v])) := by
    intro H' p v x d hk da hp hr
    subst hr
    have hH : ∀ a u, H a = some u → (upd H' p (.lst [V.str x, v])) a = some u := fun a u eu => by
      have e1 := hk a u eu
      have : a ≠ p := fun z => by rw [z, hp] at e1; cases e1
      rw [upd_ne this]
      exact e1
    have hp0 : H p = none := by
      cases q : H p with
      | none => rfl
      | some u => have := hk p u q; rw [hp] at this; cases this
    refine k (.ref p) _ (fun b => Z b ∨ b = p) ⟨fun a u eu _ => hH a u eu, fun a za => .inl za, fun a za => za.imp (fun q => q) fun e => by rw [e]; exact hp0, fun a za => ?_, ⟨p, rfl, hp0, .inr rfl, [.str x, v], upd_same, .cons (.str x) (.cons ?_ .nil)⟩, fun k hk => by cases hk⟩
    · rcases za with za | rfl
      · obtain ⟨u, hu⟩ := hz a za
        exact ⟨u, hH a u hu⟩
      · exact ⟨_, upd_same⟩
    · refine da.keep fun b u nb eb => ?_
      have hbp : b ≠ p := fun z => by rw [z, hp] at eb; cases eb
      exact ⟨fun z => z.elim nb hbp, by rw [upd_ne hbp]; exact eb⟩
  refine ⟨V.str t, rfl, Z, t, c, l, rfl, hz, hs, fun hn v H' hk da => ?_, fun hn v H' d hk da hd => ?_⟩
  · rcases hr with ⟨h1, _⟩ | ⟨_, h2⟩
    · rw [hn] at h1; cases h1
    · exact ⟨show 2 ≤ sizeLine by rw [sizeLine_eq]; decide, fun p hp => ⟨_, rfl, post H' p v "let" c hk da hp h2⟩⟩
  · rcases hr with ⟨_, h2⟩ | ⟨h1, _⟩
    · refine ⟨true, T.te, fun _ a0 ha0 => ?_, fun z => Bool.noConfusion z⟩
      refine ⟨_, rfl, rfl, rfl, d, v, rfl, upd_same, show 2 ≤ sizeLine by rw [sizeLine_eq]; decide, fun p hp => ⟨_, rfl, ?_⟩⟩
      have hk2 : ∀ a u, H a = some u → (upd H' d (.xd [(("line" : Str), v)])) a = some u := fun a u eu => by
        have e1 := hk a u eu
        have : a ≠ d := fun z => by rw [z, hd] at e1; cases e1
        rw [upd_ne this]
        exact e1
      have da2 : DA K Z (upd H' d (.xd [(("line" : Str), v)])) v l := da.keep fun b u nb eb => by
        have : b ≠ d := fun z => by rw [z, hd] at eb; cases eb
        exact ⟨nb, by rw [upd_ne this]; exact eb⟩
      exact post _ p v "bad" l hk2 da2 hp h2
    · rw [hn] at h1; cases h1
def lhS (j : Nat) : Stmt := (defBody (top 38)).getD j (.Pass ⟨0, 0, 0, 0⟩)
theorem ok__law_heard (c : SaysG fa fn cs ex0 K) (X0 : K.In h) (G : h.Ns mainGlobals mg) : CalK P w K mg base 6 "_law_heard" F__law_heard := by
  have T := txt c X0 G
  obtain ⟨fdr, Fr, r1, r2, r3⟩ := ok_rcX (P := P) (w := w) (base := base) c X0 G
  obtain ⟨fd, F⟩ := (Says.def_ c).def_ 29 (d := d__law_heard) rfl
  have F' := F
  obtain ⟨oc, od, dV, kV, doc, pm, an, cdv, ct, osl, rfl, lk, hcd, hD, hK⟩ := F.ex
  have S : FnScope ["text", "told", "e"] ["text"] (defScope (top 38)) := scG_ok (by decide +kernel)
  have hb : ∀ (kV doc pm : Value) (an : Option Addr) (cdv ct : Value) (us : List Value), us.length = 1 → bindArgs (PySem.W.fnOf "_law_heard" "_law_heard" (defArgs (top 38)) (defBody (top 38)) (defScope (top 38)) .none kV doc pm an cdv ct) ⟨us, []⟩ = pure ((["text"] : List Str).zip us) := fun _ _ _ _ _ _ us hl => match us, hl with | [_], _ => rfl
  have hbk : ∀ (kV doc pm : Value) (an : Option Addr) (cdv ct : Value) (us : List Value), us.length = 1 → bindArgs (PySem.W.fnOf "_law_heard" "_law_heard" (defArgs (top 38)) (defBody (top 38)) (defScope (top 38)) .none kV doc pm an cdv ct) ⟨[], (["text"] : List Str).zip us⟩ = pure ((["text"] : List Str).zip us) := fun _ _ _ _ _ _ us hl => match us, hl with | [_], _ => rfl
  refine ⟨He.ga K "_law_heard", _, FnG.mono (j := 5) (fn_ofG (k := 4) (N := ["text", "told", "e"]) lk hcd S (fun vs H Q E h => ?_) ?_) (by decide), He.glo_ok X0 G ((Says.def_ c).fact 29 (f := .glo "_law_heard") rfl), F.kp, ?_⟩
  · obtain ⟨_, _, _, _, hl, _⟩ := h
    exact hl
  · intro A outer s H vs Q E hr hgd hsp
    refine ⟨t_heard K (He.ga K "NotCode"), ?_, pure_heard T vs H Q E hsp⟩
    exact pss_cons (ps_set (i := 1) S.nd rfl (Or.inl rfl) pe_non)
      (pss_cons (ps_try_as (i := 2) (tb := t_body K (He.ga K "NotCode")) (ts := t_suite (He.ga K "NotCode")) (Wout := fun _ _ _ _ => False) rfl rfl S.nd rfl rfl ⟨rfl, by decide, Or.inl T.gC⟩ takes0
        (fun W pn xe tk _ => pss_one (ps_set (i := 1) S.nd rfl (Or.inl rfl) (by exact (pe_lst (pa_cons pe_str (pa_cons (pe_callGS Fr hr hgd rfl r1 r2 r3 (fun σ => passAt tk σ) (by exact (pa_cons (pv 0) pa_nil)) (by decide)) pa_nil))))))
        (fun a oe cls d pn hz hf => pss_one (ps_set (i := 1) S.nd rfl (Or.inl rfl) (by exact (pe_lst (pa_cons pe_str (pa_cons (pe_fld T hz hf (pv 2)) pa_nil)))))))
      (pss_one (ps_ret (pv 1))))
  · obtain ⟨kV, doc, pm, an, cdv, ct, e⟩ := FunD.noDefaults F'
    rw [e]
    exact ⟨fun us hl => hb _ _ _ _ _ _ us hl, fun us hl => hbk _ _ _ _ _ _ us hl⟩
theorem ok__law_string_right (c : SaysG fa fn cs ex0 K) (X : K.In h) (G : h.Ns mainGlobals mg) : CalK P w K mg base 7 "_law_string_right" F__law_string_right := by
  obtain ⟨fd, F⟩ := (Says.def_ c).def_ 25 (d := d__law_string_right) rfl
  exact mkCal (k := 6) (l := L__law_string_right) (cs := cs) (N := ["text", "code", "line"]) rfl F (He.glo_ok X G ((Says.def_ c).fact 25 (f := .glo "_law_string_right") rfl)) (modG X G c fb_in) (.cons (ok__law_heard c X G) (by decide) (.cons (ok__law_read c X G) (by decide) (.nil))) (by decide +kernel) rfl rfl (by decide +kernel)
    (fun _ _ _ _ _ _ us hl => match us, hl with | [_], _ => rfl) (fun _ _ _ _ _ _ us hl => match us, hl with | [_], _ => rfl)
theorem ok__law_great_right (c : SaysG fa fn cs ex0 K) (X : K.In h) (G : h.Ns mainGlobals mg) : CalK P w K mg base 7 "_law_great_right" F__law_great_right := by
  obtain ⟨fd, F⟩ := (Says.def_ c).def_ 26 (d := d__law_great_right) rfl
  exact mkCal (k := 6) (l := L__law_great_right) (cs := cs) (N := ["great", "text"]) rfl F (He.glo_ok X G ((Says.def_ c).fact 26 (f := .glo "_law_great_right") rfl)) (modG X G c fb_in) (.cons (ok__law_heard c X G) (by decide) (.cons (ok_is_code c X G) (by decide) (.cons (ok_read_code c X G) (by decide) (.cons (ok_code_text c X G) (by decide) (.nil))))) (by decide +kernel) rfl rfl (by decide +kernel)
    (fun _ _ _ _ _ _ us hl => match us, hl with | [], _ => rfl) (fun _ _ _ _ _ _ us hl => match us, hl with | [], _ => rfl)
theorem ok__law_right (c : SaysG fa fn cs ex0 K) (X : K.In h) (G : h.Ns mainGlobals mg) : CalK P w K mg base 8 "_law_right" F__law_right := by
  obtain ⟨fd, F⟩ := (Says.def_ c).def_ 27 (d := d__law_right) rfl
  exact mkCal (k := 7) (l := L__law_right) (cs := cs) (N := ["pot", "code", "shown", "text", "value", "due", "looks", "turn", "strings", "one"]) rfl F (He.glo_ok X G ((Says.def_ c).fact 27 (f := .glo "_law_right") rfl)) (modG X G c fb_in) (.cons (ok__law_spoilt c X G) (by decide) (.cons (ok__law_string_right c X G) (by decide) (.cons (ok__law_bent c X G) (by decide) (.cons (ok_is_code c X G) (by decide) (.cons (ok__law_is_code c X G) (by decide) (.cons (ok_read_code c X G) (by decide) (.cons (ok_code_text c X G) (by decide) (.cons (ok__law_text c X G) (by decide) (.cons (ok__law_code c X G) (by decide) (.nil)))))))))) (by decide +kernel) rfl rfl (by decide +kernel)
    (fun _ _ _ _ _ _ us hl => match us, hl with | [_], _ => rfl) (fun _ _ _ _ _ _ us hl => match us, hl with | [_], _ => rfl)
theorem ok_law (c : SaysG fa fn cs ex0 K) (X : K.In h) (G : h.Ns mainGlobals mg) : CalK P w K mg base 9 "law" F_law := by
  obtain ⟨fd, F⟩ := (Says.def_ c).def_ 28 (d := d_law) rfl
  exact mkCal (k := 8) (l := L_law) (cs := cs) (N := ["script", "k"]) rfl F (He.glo_ok X G ((Says.def_ c).fact 28 (f := .glo "law") rfl)) (modG X G c fb_in) (.cons (ok__law_right c X G) (by decide) (.cons (ok__law_pot c X G) (by decide) (.cons (ok__law_great_right c X G) (by decide) (.nil)))) (by decide +kernel) rfl rfl (by decide +kernel)
    (fun _ _ _ _ _ _ us hl => match us, hl with | [_], _ => rfl) (fun _ _ _ _ _ _ us hl => match us, hl with | [_], _ => rfl)
theorem fn_law {f : Addr} {fd : FuncData} (c : SaysG fa fn cs ex0 K) (X : K.In h) (G : h.Ns mainGlobals mg) (F : FunD K d_law.name d_law.qual d_law.params d_law.body d_law.scope [] [] f fd) : FnG P w K mg base CX0 9 f fd ["script"] (SpI K F_law 1) :=
  mkFn (k := 8) (l := L_law) (cs := cs) (N := ["script", "k"]) rfl F (modG X G c fb_in) (.cons (ok__law_right c X G) (by decide) (.cons (ok__law_pot c X G) (by decide) (.cons (ok__law_great_right c X G) (by decide) (.nil)))) (by decide +kernel) rfl rfl (by decide +kernel)
theorem law_bind {f : Addr} {fd : FuncData} (F : FunD K d_law.name d_law.qual d_law.params d_law.body d_law.scope [] [] f fd) (s : Shared) (u : Value) : BindsTo s fd ⟨[u], []⟩ [("script", u)] := by
  obtain ⟨kV, doc, pm, an, cdv, ct, rfl⟩ := FunD.noDefaults F
  exact .of_eq rfl
theorem law_at (c : SaysG fa fn cs ex0 K) : ∃ fd, FunD K d_law.name d_law.qual d_law.params d_law.body d_law.scope [] [] (He.ga K "law") fd := (Says.def_ c).def_ 28 (d := d_law) rfl
theorem law_glo (c : SaysG fa fn cs ex0 K) (X : K.In h) (G : h.Ns mainGlobals mg) : mg "law" = some (.ref (He.ga K "law")) := He.glo_ok X G ((Says.def_ c).fact 28 (f := .glo "law") rfl)
end
end K76
end

section
set_option maxRecDepth 100000
/-! k76: the plain law, part 1: what a code is. -/
namespace K76
open PySem L2 DI
/-- an int that is no bool -/
def isInt : D → Bool
  | .int _ => true
  | _ => false
theorem sem_is_integer (d : D) (h : pl d = true) : F_is_integer.sem [.val d] = .ok (.val (.bool (isInt d)), none) := by
  cases d <;> first | rfl | (simp [pl] at h)
def within : D → Int → Int → Bool
  | .int i, lo, hi => decide (lo ≤ i) && decide (i ≤ hi)
  | _, _, _ => false
theorem sem_is_within (d : D) (lo hi : Int) (h : pl d = true) : F_is_within.sem [.val d, .val (.int lo), .val (.int hi)] = .ok (.val (.bool (within d lo hi)), none) := by
  have q := sem_is_integer d h
  rw [sd_is_within]
  simp [DI.run, callF, namesAll, noOwn, wipeE, unwipe, C_is_within, q, ps_is_integer]
  cases d <;> simp [within, isInt]
  rename_i i
  by_cases h1 : lo ≤ i <;> simp [h1]
def tupN : D → Int → Bool
  | .tuple xs, n => decide ((xs.length : Int) = n)
  | _, _ => false
theorem sem_is_tuple (d : D) (n : Int) (h : pl d = true) : F_is_tuple.sem [.val d, .val (.int n)] = .ok (.val (.bool (tupN d n)), none) := by
  rw [sd_is_tuple]
  cases d <;> first | (simp [pl] at h; done) | simp [DI.run, callF, namesAll, noOwn, wipeE, unwipe, C_is_tuple, tupN]
/-! ### a code -/
def isTup : D → Bool
  | .tuple _ => true
  | _ => false
@[simp] theorem isTup_tuple (xs : List D) : isTup (.tuple xs) = true := rfl
@[simp] theorem isTup_list (xs : List D) : isTup (.list xs) = false := rfl
@[simp] theorem isTup_none : isTup .none = false := rfl
@[simp] theorem isTup_bool (b : Bool) : isTup (.bool b) = false := rfl
@[simp] theorem isTup_int (b : Int) : isTup (.int b) = false := rfl
@[simp] theorem isTup_str (b : Str) : isTup (.str b) = false := rfl
@[simp] theorem isTup_dict (b : List (D × D)) : isTup (.dict b) = false := rfl
def rowOk (t : Nat) (many : Nat) : D → Bool
  | .tuple xs => decide (xs.length = t) && xs.all fun d => within d 0 ((many : Int) - 1)
  | _ => false
def goodsOk (many : Nat) : D → Bool
  | .tuple gs => decide (gs.length = many) && gs.all fun d => within d 0 1
  | _ => false
def codeB (rows : List D) (b : D) : D → Bool
  | .tuple es => decide (rows.length + 1 ≤ 3000) && (decide (1 ≤ es.length) && (decide (es.length ≤ 6) && ((PyData.tuple es :: rows).all (rowOk es.length (rows.length + 1)) && goodsOk (rows.length + 1) b)))
  | _ => false
def isCodeB : D → Bool
  | .tuple [.tuple (r0 :: rows), b] => codeB rows b r0
  | _ => false
theorem pls_mem : ∀ {xs : List D}, pls xs = true → ∀ d ∈ xs, pl d = true
  | [], _, d, m => by cases m
  | x :: xs, h, d, m => by
    have h' : pl x = true ∧ pls xs = true := by simpa [pls] using h
    rcases List.mem_cons.mp m with e | m
    · rw [e]; exact h'.1
    · exact pls_mem h'.2 d m
theorem body_row (t many : Nat) (d : D) (V0 : D) (x : Option B) (es : List D) (rest : D) (rows : List D) (hV : V0 = .tuple [.tuple (.tuple es :: rows), rest]) (ht : t = es.length) (h6 : es.length ≤ 6) (hd : pl d = true) (hm : many = rows.length + 1) :
    (Out.bind (asgE (Ge.of L_is_code_value cs) none (.name 2) (.val d) [some (.val V0), some (.val (.int (rows.length + 1))), x, none]) fun ρ1 => exs (Ge.of L_is_code_value cs) none (CB.cons
        (CS.ite
          ((CE.fn (Str.ofString "is_tuple")
                  (CL.cons (CE.var 2)
                    (CL.cons
                      (CE.call BI.len
                        (CL.cons (((CE.var 0).idx (CE.lit (PyData.int 0))).idx (CE.lit (PyData.int 0))) CL.nil))
                      CL.nil))).not.or
            (CE.call BI.all
                (CL.cons
                  (CE.lc [(Str.ofString "one", 3)] (CT.name 3) (CI.seq (CE.var 2)) none
                    (CE.fn (Str.ofString "is_within")
                      (CL.cons (CE.var 3)
                        (CL.cons (CE.lit (PyData.int 0))
                          (CL.cons (CE.bin BO.sub (CE.var 1) (CE.lit (PyData.int 1))) CL.nil)))))
                  CL.nil)).not)
          (CB.cons (CS.ret (CE.lit (PyData.bool false))) CB.nil) CB.nil)
        CB.nil) ρ1) = .ok (if rowOk t many d = true then .next else .ret (.val (.bool false)), [some (.val V0), some (.val (.int (rows.length + 1))), some (.val d), none]) := by
  subst hV ht hm
  have q := sem_is_tuple d es.length hd
  cases d with
  | tuple cells =>
    by_cases hl : cells.length = es.length
    · have hz : cells.length ≤ SZ := by rw [hl]; exact Nat.le_trans h6 (by decide)
      simp [DI.run, callF, namesAll, noOwn, wipeE, unwipe, q, tupN, ps_is_tuple, hl, rowOk]
      generalize hC : compC _ _ _ _ _ _ _ _ = L
      have e := comp_map hC (fun e => .bool (within e 0 rows.length)) (fun e he => by
        have hw := sem_is_within e 0 rows.length (pls_mem (by simpa [pl] using hd) e he)
        have e1 : ((rows.length : Int) + 1 - 1) = rows.length := by omega
        simp [compB, DI.run, callF, namesAll, noOwn, wipeE, unwipe, ps_is_within, e1, hw])
      rw [e]
      by_cases hall : ∀ x ∈ cells, within x 0 rows.length = true
      · have : ¬ ∃ x, x ∈ cells ∧ within x 0 ↑rows.length = false := fun ⟨x, m, f⟩ => by rw [hall x m] at f; cases f
        simp [hz, hall, this]
      · have : ∃ x, x ∈ cells ∧ within x 0 ↑rows.length = false := by
          refine Classical.byContradiction fun n => hall fun x m => ?_
          cases hx : within x 0 rows.length with
          | true => rfl
          | false => exact (n ⟨x, m, hx⟩).elim
        simp [hz, hall, this]
    · have hl' : ¬ ((cells.length : Int) = es.length) := by omega
      simp [DI.run, callF, namesAll, noOwn, wipeE, unwipe, q, tupN, ps_is_tuple, hl, hl', rowOk]
  | dict _ => simp [pl] at hd
  | _ => simp [DI.run, callF, namesAll, noOwn, wipeE, unwipe, q, tupN, ps_is_tuple, rowOk]
theorem pl_of {xs : List D} (h : pl (.tuple xs) = true) : pls xs = true := by simpa [pl] using h
theorem any_all {α : Type} (p : α → Bool) (xs : List α) : (∃ x, x ∈ xs ∧ p x = false) ↔ ¬ ∀ x ∈ xs, p x = true := by
  constructor
  · rintro ⟨x, m, f⟩ h
    rw [h x m] at f; cases f
  · intro n
    refine Classical.byContradiction fun k => n fun x m => ?_
    cases hx : p x with
    | true => rfl
    | false => exact (k ⟨x, m, hx⟩).elim
theorem sem_is_code_value (d : D) (h : pl d = true) : F_is_code_value.sem [.val d] = .ok (.val (.bool (isCodeB d)), none) := by
  rw [sd_is_code_value]
  have q := sem_is_tuple d 2 h
  cases d with
  | tuple xs =>
    rcases xs with _ | ⟨a, _ | ⟨b, _ | ⟨c, xs⟩⟩⟩
    · simp [DI.run, callF, namesAll, noOwn, wipeE, unwipe, C_is_code_value, q, tupN, isCodeB, ps_is_tuple]
    · simp [DI.run, callF, namesAll, noOwn, wipeE, unwipe, C_is_code_value, q, tupN, isCodeB, ps_is_tuple]
    · have ha : pl a = true ∧ pl b = true := by simpa [pl, pls] using h
      cases a with
      | tuple rows =>
        rcases rows with _ | ⟨r0, rows⟩
        · simp [DI.run, callF, namesAll, noOwn, wipeE, unwipe, C_is_code_value, q, tupN, isCodeB, ps_is_tuple]
        · have hr : pl r0 = true ∧ pls rows = true := by simpa [pl, pls] using ha.1
          have qb := sem_is_tuple b (rows.length + 1) ha.2
          by_cases h1 : rows.length + 1 ≤ 3000
          · have h1' : ¬ (3000 : Int) < rows.length + 1 := by omega
            have h1'' : (1 : Int) ≤ rows.length + 1 := by omega
            cases r0 with
            | tuple es =>
              simp [DI.run, callF, namesAll, noOwn, wipeE, unwipe, C_is_code_value, q, tupN, isCodeB, codeB, ps_is_tuple, h1, h1', h1'']
              generalize hL : loopC _ _ _ _ _ _ = L
              by_cases h2 : 1 ≤ es.length
              · have h2' : (1 : Int) ≤ es.length := by omega
                by_cases h3 : es.length ≤ 6
                · have h3' : ¬ (6 : Int) < es.length := by omega
                  obtain ⟨ρ', ⟨x, hx⟩, e⟩ := loop_all hL (fun ρ => ∃ x, ρ = [some (.val (.tuple [.tuple (.tuple es :: rows), b])), some (.val (.int (rows.length + 1))), x, none]) (rowOk es.length (rows.length + 1)) (.val (.bool false)) (by
                    rintro d m ρ ⟨x, rfl⟩
                    refine ⟨_, ⟨_, rfl⟩, body_row es.length (rows.length + 1) d _ x es b rows rfl rfl (by omega) ?_ rfl⟩
                    exact pls_mem (pl_of ha.1) d m) ⟨none, rfl⟩
                  subst hx
                  rw [e]
                  clear e hL
                  by_cases h4 : (PyData.tuple es :: rows).all (rowOk es.length (rows.length + 1)) = true
                  · cases b with
                    | tuple gs =>
                      by_cases h5 : gs.length = rows.length + 1
                      · have hz : gs.length ≤ SZ := by rw [h5]; exact Nat.le_trans h1 (by decide)
                        have h5' : ((gs.length : Int) = rows.length + 1) := by omega
                        simp [DI.run, callF, namesAll, noOwn, wipeE, unwipe, h2, h2', h3, h3', h4, qb, tupN, h5', goodsOk, ps_is_tuple, h5]
                        generalize hC : compC _ _ _ _ _ _ _ _ = L
                        have e := comp_map hC (fun e => .bool (within e 0 1)) (fun e he => by
                          have hw := sem_is_within e 0 1 (pls_mem (pl_of ha.2) e he)
                          simp [compB, DI.run, callF, namesAll, noOwn, wipeE, unwipe, ps_is_within, hw])
                        rw [e]
                        have h6 : rowOk es.length (rows.length + 1) (.tuple es) = true ∧ ∀ x ∈ rows, rowOk es.length (rows.length + 1) x = true := by simpa using h4
                        simp [hz, h4]
                        exact fun _ => h6
                      · have h5' : ¬ ((gs.length : Int) = rows.length + 1) := by omega
                        simp [DI.run, callF, namesAll, noOwn, wipeE, unwipe, h2, h2', h3, h3', h4, qb, tupN, h5', goodsOk, ps_is_tuple, h5]
                    | dict _ => simp [pl] at ha
                    | _ => simp [DI.run, callF, namesAll, noOwn, wipeE, unwipe, h2, h2', h3, h3', h4, qb, tupN, goodsOk, ps_is_tuple]
                  · have h4' : ((PyData.tuple es :: rows).all (rowOk es.length (rows.length + 1))) = false := by simpa using h4
                    rw [h4']
                    simp [h2, h2', h3, h3']
                    exact fun a b => absurd (by rw [List.all_cons, a]; simpa using b) h4
                · have h3' : (6 : Int) < es.length := by omega
                  simp [h2, h2', h3, h3']
              · have h2' : ¬ (1 : Int) ≤ es.length := by omega
                simp [h2, h2']
            | dict _ => simp [pl] at hr
            | _ =>
              simp [DI.run, callF, namesAll, noOwn, wipeE, unwipe, C_is_code_value, q, tupN, isCodeB, codeB, ps_is_tuple, h1, h1', h1'']
          · have h1' : (3000 : Int) < rows.length + 1 := by omega
            have h1'' : (1 : Int) ≤ rows.length + 1 := by omega
            simp [DI.run, callF, namesAll, noOwn, wipeE, unwipe, C_is_code_value, q, tupN, isCodeB, ps_is_tuple, h1, h1', h1'']
            cases r0 <;> simp [codeB, h1]
      | dict _ => simp [pl] at ha
      | _ => simp [DI.run, callF, namesAll, noOwn, wipeE, unwipe, C_is_code_value, q, tupN, isCodeB, ps_is_tuple]
    · have : ¬ ((xs.length : Int) + 1 + 1 + 1 = 2) := by omega
      simp [DI.run, callF, namesAll, noOwn, wipeE, unwipe, C_is_code_value, q, tupN, isCodeB, ps_is_tuple, this]
  | dict _ => simp [pl] at h
  | _ => simp [DI.run, callF, namesAll, noOwn, wipeE, unwipe, C_is_code_value, q, tupN, isCodeB, ps_is_tuple]
def numB (many : Int) : D → Bool
  | .int i => decide (0 ≤ i) && decide (i < many)
  | _ => false
theorem sem_law_is_number (d : D) (many : Int) (h : pl d = true) : F__law_is_number.sem [.val d, .val (.int many)] = .ok (.val (.bool (numB many d)), none) := by
  rw [sd__law_is_number]
  cases d <;> first | (simp [pl] at h; done) | simp [DI.run, callF, namesAll, noOwn, wipeE, unwipe, C__law_is_number, numB]
  rename_i i
  by_cases h1 : 0 ≤ i <;> simp [h1]
theorem num_within (many : Int) (d : D) : numB many d = within d 0 (many - 1) := by
  cases d <;> simp only [numB, within]
  rename_i i
  have : decide (i < many) = decide (i ≤ many - 1) := by
    rw [decide_eq_decide]
    omega
  rw [this]
def lenD : D → Nat
  | .tuple xs => xs.length
  | _ => 0
def cellsD : D → List D
  | .tuple xs => xs
  | _ => []
theorem isi_tup (d : D) (h : pl d = true) : isi d "tuple" = some (isTup d) := by
  cases d <;> first | rfl | (simp [pl] at h; done)
theorem row_eq (t many : Nat) (r : D) (h : isTup r = true) (hl : lenD r = t) : rowOk t many r = (cellsD r).all (numB many) := by
  cases r <;> first | (simp at h; done) | skip
  rename_i xs
  have e : (numB (many : Int)) = fun d => within d 0 ((many : Int) - 1) := funext fun d => num_within many d
  simp only [rowOk, cellsD, e]
  simp only [lenD] at hl
  simp [hl]
theorem rowOk_tup {t many : Nat} {r : D} (h : rowOk t many r = true) : isTup r = true ∧ lenD r = t := by
  cases r <;> first | (simp [rowOk] at h; done) | skip
  simp only [rowOk, Bool.and_eq_true, decide_eq_true_eq] at h
  exact ⟨rfl, h.1⟩
theorem codeB_false {rows : List D} {b : D} {es : List D} (h : ¬ ∀ r ∈ (PyData.tuple es :: rows), isTup r = true ∧ lenD r = es.length) : codeB rows b (.tuple es) = false := by
  have : (PyData.tuple es :: rows).all (rowOk es.length (rows.length + 1)) = false := by
    cases q : (PyData.tuple es :: rows).all (rowOk es.length (rows.length + 1)) with
    | false => rfl
    | true => exact (h fun r m => rowOk_tup (List.all_eq_true.mp q r m)).elim
  simp only [codeB, this, Bool.false_and, Bool.and_false]
theorem sem_law_is_code (d : D) (h : pl d = true) : F__law_is_code.sem [.val d] = .ok (.val (.bool (isCodeB d)), none) := by
  rw [sd__law_is_code]
  cases d with
  | tuple xs =>
    rcases xs with _ | ⟨a, _ | ⟨b, _ | ⟨c, xs⟩⟩⟩
    · simp [DI.run, callF, namesAll, noOwn, wipeE, unwipe, C__law_is_code, isCodeB]
    · simp [DI.run, callF, namesAll, noOwn, wipeE, unwipe, C__law_is_code, isCodeB]
    · have ha : pl a = true ∧ pl b = true := by simpa [pl, pls] using h
      cases a with
      | tuple rows =>
        cases b with
        | tuple gs =>
          rcases rows with _ | ⟨r0, rows⟩
          · simp [DI.run, callF, namesAll, noOwn, wipeE, unwipe, C__law_is_code, isCodeB]
          · by_cases h1 : rows.length + 1 ≤ 3000
            · have h1' : (rows.length : Int) + 1 ≤ 3000 := by omega
              have h1'' : (1 : Int) ≤ rows.length + 1 := by omega
              by_cases h2 : gs.length = rows.length + 1
              · have h2' : (gs.length : Int) = rows.length + 1 := by omega
                have hzr : rows.length + 1 ≤ SZ := Nat.le_trans h1 (by decide)
                simp [DI.run, callF, namesAll, noOwn, wipeE, unwipe, C__law_is_code, isCodeB, h1', h1'', h2']
                generalize hC : compC _ _ _ _ _ _ _ _ = L
                have e := comp_map hC (fun r => .bool (isTup r)) (fun r hr => by
                  have hi := isi_tup r (pls_mem (pl_of ha.1) r hr)
                  simp [compB, DI.run, callF, namesAll, noOwn, wipeE, unwipe, hi])
                rw [e]
                clear e hC
                by_cases h3 : (r0 :: rows).all isTup = true
                · have h3' : isTup r0 = true ∧ ∀ x ∈ rows, isTup x = true := by simpa using h3
                  cases r0 with
                  | tuple es =>
                    simp [-List.map_cons, -List.all_cons, hzr, h3]
                    by_cases h4 : 1 ≤ es.length
                    · have h4' : (1 : Int) ≤ es.length := by omega
                      by_cases h5 : es.length ≤ 6
                      · have h5' : (es.length : Int) ≤ 6 := by omega
                        simp [-List.map_cons, -List.all_cons, h4, h4', h5, h5']
                        generalize hC : compC _ _ _ _ _ _ _ _ = L
                        have e := comp_map hC (fun r => .bool (decide (lenD r = es.length))) (fun r hr => by
                          have hi : isTup r = true := by
                            rcases List.mem_cons.mp hr with z | z
                            · rw [z]; rfl
                            · exact h3'.2 r z
                          cases r <;> first | (simp at hi; done) | skip
                          rename_i cells
                          have hdec : decide ((cells.length : Int) = es.length) = decide (cells.length = es.length) := by
                            rw [decide_eq_decide]
                            omega
                          simp [compB, DI.run, callF, namesAll, noOwn, wipeE, unwipe, lenD, hdec]
                          exact decide_eq_decide.mpr Iff.rfl)
                        rw [e]
                        clear e hC
                        have h7 : ¬ (6 : Int) < es.length := by omega
                        by_cases h6 : ∀ r ∈ (PyData.tuple es :: rows), lenD r = es.length
                        · have h6' : ¬ (¬ lenD (.tuple es) = es.length ∨ ∃ a, a ∈ rows ∧ ¬ lenD a = es.length) := by
                            rintro (z | ⟨a, m, z⟩)
                            · exact z (h6 _ List.mem_cons_self)
                            · exact z (h6 a (List.mem_cons_of_mem _ m))
                          have hall : ∀ r ∈ (PyData.tuple es :: rows), isTup r = true := List.all_eq_true.mp h3
                          simp [-List.map_cons, -List.all_cons, hzr, h7]
                          rw [if_neg h6']
                          generalize hC : compC _ _ _ _ _ _ _ _ = L3
                          have e := comp_map hC (fun r => .bool ((cellsD r).all (numB (rows.length + 1)))) (fun r hr => by
                            have hi := hall r hr
                            have hl := h6 r hr
                            have hp := pls_mem (pl_of ha.1) r hr
                            cases r <;> first | (simp at hi; done) | skip
                            rename_i cells
                            have hzc : cells.length ≤ SZ := by
                              simp only [lenD] at hl
                              rw [hl]
                              exact Nat.le_trans h5 (by decide)
                            simp [compB, DI.run, callF, namesAll, noOwn, wipeE, unwipe, cellsD]
                            generalize hC : compC _ _ _ _ _ _ _ _ = L4
                            have e := comp_map hC (fun e => .bool (numB (rows.length + 1) e)) (fun e he => by
                              have hw := sem_law_is_number e (rows.length + 1) (pls_mem (pl_of hp) e he)
                              simp [compB, DI.run, callF, namesAll, noOwn, wipeE, unwipe, ps__law_is_number, hw])
                            rw [e]
                            simp [hzc])
                          rw [e]
                          clear e hC
                          have hc : codeB rows (.tuple gs) (.tuple es) = ((PyData.tuple es :: rows).all (fun r => (cellsD r).all (numB (rows.length + 1))) && gs.all (numB 2)) := by
                            have e1 : ((PyData.tuple es :: rows).all (rowOk es.length (rows.length + 1))) = ((PyData.tuple es :: rows).all (fun r => (cellsD r).all (numB (rows.length + 1)))) := by
                              have : ∀ l : List D, (∀ r ∈ l, isTup r = true ∧ lenD r = es.length) → l.all (rowOk es.length (rows.length + 1)) = l.all (fun r => (cellsD r).all (numB (rows.length + 1))) := by
                                intro l
                                induction l with
                                | nil => intro _; rfl
                                | cons r l ih =>
                                  intro hl
                                  obtain ⟨g1, g2⟩ := hl r List.mem_cons_self
                                  have q := row_eq es.length (rows.length + 1) r g1 g2
                                  simp only [List.all_cons]
                                  rw [q, ih fun x m => hl x (List.mem_cons_of_mem _ m)]
                                  rfl
                              exact this _ fun r m => ⟨hall r m, h6 r m⟩
                            have e2 : gs.all (numB 2) = gs.all fun d => within d 0 1 := by
                              congr 1
                              funext d
                              exact num_within 2 d
                            simp only [codeB, e1, goodsOk, h2, e2, h1, h4, h5, decide_true, Bool.true_and]
                          rw [hc]
                          simp [-List.map_cons, -List.all_cons, hzr]
                          generalize hC : compC _ _ _ _ _ _ _ _ = L5
                          have hzg : gs.length ≤ SZ := by rw [h2]; exact hzr
                          have e := comp_map hC (fun e => .bool (numB 2 e)) (fun e he => by
                            have hw := sem_law_is_number e 2 (pls_mem (pl_of ha.2) e he)
                            simp [compB, DI.run, callF, namesAll, noOwn, wipeE, unwipe, ps__law_is_number, hw])
                          rw [e]
                          by_cases hA : (PyData.tuple es :: rows).all (fun r => (cellsD r).all (numB (rows.length + 1))) = true
                          · have hA' : (∀ (x : D), x ∈ cellsD (PyData.tuple es) → numB (↑rows.length + 1) x = true) ∧ ∀ (a : D), a ∈ rows → ∀ (x : D), x ∈ cellsD a → numB (↑rows.length + 1) x = true := by simpa using hA
                            rw [if_pos hA', hA]
                            simp [-List.map_cons, hzg]
                          · have hA' : ¬ ((∀ (x : D), x ∈ cellsD (PyData.tuple es) → numB (↑rows.length + 1) x = true) ∧ ∀ (a : D), a ∈ rows → ∀ (x : D), x ∈ cellsD a → numB (↑rows.length + 1) x = true) := fun z => hA (by simpa using z)
                            have hA2 : (PyData.tuple es :: rows).all (fun r => (cellsD r).all (numB (rows.length + 1))) = false := by simpa using hA
                            rw [if_neg hA', hA2]
                            rfl
                        · have h6' : (¬ lenD (.tuple es) = es.length ∨ ∃ a, a ∈ rows ∧ ¬ lenD a = es.length) := by
                            refine Classical.byContradiction fun n => h6 fun r m => Classical.byContradiction fun k => n ?_
                            rcases List.mem_cons.mp m with z | z
                            · rw [z] at k; exact .inl k
                            · exact .inr ⟨r, z, k⟩
                          simp [-List.map_cons, -List.all_cons, hzr, h7]
                          rw [if_pos h6', codeB_false fun z => h6 fun r m => (z r m).2]
                      · have h5' : ¬ (es.length : Int) ≤ 6 := by omega
                        simp [codeB, h4, h4', h5, h5']
                    · have h4' : ¬ (1 : Int) ≤ es.length := by omega
                      simp [codeB, h4, h4']
                  | _ => simp at h3'
                · have h3' : (r0 :: rows).all isTup = false := by simpa using h3
                  simp [-List.map_cons, -List.all_cons, hzr, h3']
                  cases r0 with
                  | tuple es =>
                    have hb : codeB rows (.tuple gs) (.tuple es) = false := codeB_false fun z => h3 (List.all_eq_true.mpr fun r m => (z r m).1)
                    rw [hb]
                  | _ => rfl
              · have h2' : ¬ (gs.length : Int) = rows.length + 1 := by omega
                simp [DI.run, callF, namesAll, noOwn, wipeE, unwipe, C__law_is_code, isCodeB, h1', h1'', h2']
                cases r0 <;> simp [codeB, goodsOk, h2]
            · have h1' : ¬ (rows.length : Int) + 1 ≤ 3000 := by omega
              simp [DI.run, callF, namesAll, noOwn, wipeE, unwipe, C__law_is_code, isCodeB, h1']
              cases r0 <;> simp [codeB, h1]
        | dict _ => simp [pl] at ha
        | _ =>
          rcases rows with _ | ⟨r0, rows⟩
          · simp [DI.run, callF, namesAll, noOwn, wipeE, unwipe, C__law_is_code, isCodeB]
          · simp [DI.run, callF, namesAll, noOwn, wipeE, unwipe, C__law_is_code, isCodeB]
            cases r0 <;> simp [codeB, goodsOk]
      | dict _ => simp [pl] at ha
      | _ => simp [DI.run, callF, namesAll, noOwn, wipeE, unwipe, C__law_is_code, isCodeB]
    · have : ¬ ((xs.length : Int) + 1 + 1 + 1 = 2) := by omega
      simp [DI.run, callF, namesAll, noOwn, wipeE, unwipe, C__law_is_code, isCodeB, this]
  | dict _ => simp [pl] at h
  | _ => simp [DI.run, callF, namesAll, noOwn, wipeE, unwipe, C__law_is_code, isCodeB]
end K76
end

section
set_option maxRecDepth 100000
/-! k76: the plain law, part 2: the draws. -/
namespace K76
open PySem L2 DI
theorem pow18 : bo .pow (.int 10) (.int 18) = .ok (.val (.int 1000000000000000000)) := by
  rw [s_pow_int ⟨by decide, by decide, by decide⟩]
  have : (10 : Int) ^ (18 : Int).toNat = 1000000000000000000 := by decide
  rw [this]
theorem pow18e : ∃ c : Int, bo .pow (.int 10) (.int 18) = .ok (.val (.int c)) ∧ c = 1000000000000000000 := ⟨_, pow18, rfl⟩
/-- the second number of a pot, of the cell x at k -/
def cellE : CE := .bin .add (.bin .mod (.call .int (.cons (.bin .add (.bin .add (.bin .mul (.bin .mod (.call .int (.cons (.var 2) .nil)) (.lit (.int 2147483549))) (.lit (.int 48374))) (.bin .mul (.lit (.int 4812)) (.var 1))) (.lit (.int 3631))) .nil)) (.lit (.int 2147483579))) (.lit (.int 1))
theorem small48374 : small64 48374 = true := rfl
theorem small4812 : small64 4812 = true := rfl
theorem sem_cell (G : Ge) (s : Option B) (k x : Int) : ∃ b : Int, 0 ≤ b ∧ ev G none cellE [s, some (.val (.int k)), some (.val (.int x))] = .ok (.val (.int b), [s, some (.val (.int k)), some (.val (.int x))]) := by
  have h1 : bo .mul (.int (x % 2147483549)) (.int 48374) = .ok (.val (.int (x % 2147483549 * 48374))) := s_mul_int (by rw [small48374, Bool.or_true])
  have h2 : bo .mul (.int 4812) (.int k) = .ok (.val (.int (4812 * k))) := s_mul_int (by rw [small4812, Bool.true_or])
  refine ⟨(x % 2147483549 * 48374 + 4812 * k + 3631) % 2147483579 + 1, ?_, ?_⟩
  · have := Int.emod_nonneg (x % 2147483549 * 48374 + 4812 * k + 3631) (show (2147483579 : Int) ≠ 0 by decide)
    omega
  · simp [DI.run, callF, namesAll, noOwn, wipeE, unwipe, cellE, h1, h2, -s_mul_int]
theorem mul48374 (y : Int) : bo .mul (.int y) (.int 48374) = .ok (.val (.int (y * 48374))) := s_mul_int (by rw [small48374, Bool.or_true])
theorem mul4812 (y : Int) : bo .mul (.int 4812) (.int y) = .ok (.val (.int (4812 * y))) := s_mul_int (by rw [small4812, Bool.true_or])
theorem cell_nn (x k : Int) : 0 ≤ (x % 2147483549 * 48374 + 4812 * k + 3631) % 2147483579 + 1 := by
  have := Int.emod_nonneg (x % 2147483549 * 48374 + 4812 * k + 3631) (show (2147483579 : Int) ≠ 0 by decide)
  omega
theorem sem_pot (ns : List Int) (k : Nat) : ∃ a b : Int, 0 ≤ a ∧ 0 ≤ b ∧ F__law_pot.sem [.val (scr (ns.map PyData.int)), .val (.int k)] = .ok (.new (.lst [.int a, .int b]), none) := by
  rw [sd__law_pot]
  obtain ⟨c, hc, hc2⟩ := pow18e
  have hx : ∃ x : Int, ev (Ge.of L__law_pot cs) none (.ite (.cmp .lt (.var 1) (.call .len (.cons (.var 0) .nil))) (.call .abs (.cons (.idx (.var 0) (.var 1)) .nil)) (.bin .add (.bin .mul (.lit (.int 4812)) (.var 1)) (.lit (.int 7029)))) [some (.val (scr (ns.map PyData.int))), some (.val (.int k)), none] = .ok (.val (.int x), [some (.val (scr (ns.map PyData.int))), some (.val (.int k)), none]) := by
    by_cases h : k < ns.length
    · have h' : (k : Int) < ns.length := by omega
      have ha : atI (ns.map PyData.int) (k : Int) = some (.int ns[k]) := by
        rw [DI.atI_nat]
        simp [h]
      exact ⟨if ns[k] < 0 then -ns[k] else ns[k], by simp [h', ha]⟩
    · have h' : ¬ (k : Int) < ns.length := by omega
      exact ⟨4812 * k + 7029, by simp [h', mul4812, -s_mul_int]⟩
  obtain ⟨x, hx⟩ := hx
  refine ⟨if x - c > 0 then x - c else 0, (x % 2147483549 * 48374 + 4812 * k + 3631) % 2147483579 + 1, ?_, cell_nn x k, ?_⟩
  · split <;> omega
  · have e0 : DI.run (Ge.of L__law_pot cs) C__law_pot [.val (scr (ns.map PyData.int)), .val (.int k)] = Out.bind (exs (Ge.of L__law_pot cs) none C__law_pot.body [some (.val (scr (ns.map PyData.int))), some (.val (.int k)), none]) fun p => Out.bind (endO none p.2) fun o => Out.bind (endR none p.1 p.2) fun r => .ok (r, o) := rfl
    rw [e0]
    simp only [C__law_pot]
    rw [x48_exs, x36_ex, hx]
    simp [hc, mul48374, mul4812, -s_mul_int, -s_pow_int]
theorem ix20 : ixN 2 0 = some 0 := rfl
theorem ix21 : ixN 2 1 = some 1 := rfl
theorem sem_draw (a b many : Int) (ha : 0 ≤ a) (hb : 0 ≤ b) (hm : 0 < many) (hm2 : many < 1073741824) : ∃ d a' b' : Int, 0 ≤ d ∧ d < many ∧ 0 ≤ a' ∧ 0 ≤ b' ∧
    F__law_draw.sem [.own (.lst [.int a, .int b]), .val (.int many)] = .ok (.val (.int d), some (.lst [.int a', .int b'])) := by
  rw [sd__law_draw]
  by_cases h : 0 < a
  · refine ⟨a % many, a / many, b, Int.emod_nonneg _ (by omega), Int.emod_lt_of_pos _ hm, Int.ediv_nonneg ha (by omega), hb, ?_⟩
    simp [DI.run, callF, namesAll, noOwn, wipeE, unwipe, C__law_draw, h, hm, hm2, isL, ix20, ix21]
  · have hb1 : 0 ≤ (b * 48374 + 3631) % 2147483587 := Int.emod_nonneg _ (by decide)
    have hb2 : (b * 48374 + 3631) % 2147483587 < 2147483587 := Int.emod_lt_of_pos _ (by decide)
    have hb3 : (b * 48374 + 3631) % 2147483587 < 18446744073709551616 := by omega
    have hb4 : -18446744073709551616 < (b * 48374 + 3631) % 2147483587 := by omega
    refine ⟨((((b * 48374 + 3631) % 2147483587) * ((b * 48374 + 3631) % 2147483587)) % 2147483563) / 19 % many, a, (b * 48374 + 3631) % 2147483587, Int.emod_nonneg _ (by omega), Int.emod_lt_of_pos _ hm, ha, hb1, ?_⟩
    simp [DI.run, callF, namesAll, noOwn, wipeE, unwipe, C__law_draw, h, hm, hm2, isL, ix20, ix21, hb3, hb4]
/-! ### calls that change their first argument -/
@[simp] theorem theB0_slot {j : Nat} {rs : List R} {ρ : ES} : theB (some 0) (.slot j :: rs) ρ = (match ρ[j]? with
      | some (some (.own o)) => .ok (some o)
      | _ => .stuck) := rfl
@[simp] theorem theB0_new {o : MO} {rs : List R} {ρ : ES} : theB (some 0) (.new o :: rs) ρ = if news (.new o :: rs) ≤ 1 then .ok (some o) else .stuck := rfl
@[simp] theorem put0_slot {j : Nat} {rs : List R} {ρ : ES} {o : MO} : putBack (some 0) (.slot j :: rs) (some o) ρ = .ok (ρ.set j (some (.own o))) := rfl
@[simp] theorem put0_new {p : MO} {rs : List R} {ρ : ES} {o : MO} : putBack (some 0) (.new p :: rs) (some o) ρ = .ok ρ := rfl
theorem sem_pick (a b : Int) (ha : 0 ≤ a) (hb : 0 ≤ b) (xs : List D) (h1 : 1 ≤ xs.length) (h2 : xs.length < 1073741824) : ∃ (i : Nat) (d : D) (a' b' : Int), xs[i]? = some d ∧ 0 ≤ a' ∧ 0 ≤ b' ∧
    F__law_pick.sem [.own (.lst [.int a, .int b]), .val (.list xs)] = .ok (.val d, some (.lst [.int a', .int b'])) := by
  obtain ⟨n, a', b', n0, n1, ha', hb', e⟩ := sem_draw a b xs.length ha hb (by omega) (by omega)
  obtain ⟨i, rfl⟩ : ∃ i : Nat, n = (i : Int) := ⟨n.toNat, by omega⟩
  have hi : i < xs.length := by omega
  have hx : atI xs (i : Int) = some xs[i] := by
    rw [DI.atI_nat]
    simp [hi]
  refine ⟨i, xs[i], a', b', by simp [hi], ha', hb', ?_⟩
  rw [sd__law_pick]
  simp [DI.run, callF, namesAll, noOwn, wipeE, unwipe, C__law_pick, ps__law_draw, e, hx]
end K76
end

section
set_option maxRecDepth 100000
/-! k76: the plain law, part 3: the drawn code. -/
namespace K76
open PySem L2 DI
def PotOk (o : MO) : Prop := ∃ a b : Int, 0 ≤ a ∧ 0 ≤ b ∧ o = .lst [.int a, .int b]
def IntIn (many : Nat) (d : D) : Prop := ∃ i : Nat, i < many ∧ d = .int i
def RowIn (t many : Nat) (d : D) : Prop := ∃ es : List D, d = .tuple es ∧ es.length = t ∧ ∀ e ∈ es, IntIn many e
structure CodeIn (d : D) (rows goods : List D) (t : Nat) : Prop where
  eq : d = .tuple [.tuple rows, .tuple goods]
  r1 : 1 ≤ rows.length
  r9 : rows.length ≤ 9
  t1 : 1 ≤ t
  t3 : t ≤ 3
  row : ∀ r ∈ rows, RowIn t rows.length r
  len : goods.length = rows.length
  good : ∀ g ∈ goods, IntIn 2 g
theorem draw_pot {o : MO} (h : PotOk o) (many : Nat) (h1 : 1 ≤ many) (h2 : many < 1073741824) : ∃ (i : Nat) (o' : MO), i < many ∧ PotOk o' ∧ F__law_draw.sem [.own o, .val (.int many)] = .ok (.val (.int i), some o') := by
  obtain ⟨a, b, ha, hb, rfl⟩ := h
  obtain ⟨n, a', b', n0, n1, ha', hb', e⟩ := sem_draw a b many ha hb (by omega) (by omega)
  obtain ⟨i, rfl⟩ : ∃ i : Nat, n = (i : Int) := ⟨n.toNat, by omega⟩
  exact ⟨i, _, by omega, ⟨a', b', ha', hb', rfl⟩, e⟩
/-- [_law_draw(pot, many) for x in range(n)] -/
theorem draws {G : Ge} (hG : G.fns "_law_draw" = some F__law_draw) {x : Nat} {c : CE} {vs : List Nat} {ds : List D} {many : Nat} {L : Out (List D × ES)} (rest : List (Option B)) (hx : x + 1 < rest.length + 1) (h1 : 1 ≤ many) (h2 : many < 1073741824)
    (hc : ∀ (o : MO) (d : D), ev G (some 0) c ((some (.own o)) :: rest.set x (some (.val d))) = .ok (.val (.int many), (some (.own o)) :: rest.set x (some (.val d)))) (hr : rest[x]? = some none) (hv : vs = [x + 1]) {o : MO} (ho : PotOk o)
    (hL : compC G (some 0) (.name (x + 1)) none (.fn "_law_draw" (.cons (.var 0) (.cons c .nil))) vs ds (some (.own o) :: rest) = L) :
    ∃ ys o', L = .ok (ys, some (.own o') :: rest) ∧ PotOk o' ∧ ys.length = ds.length ∧ ∀ y ∈ ys, IntIn many y := by
  subst hv
  obtain ⟨ys, ρ', e, ⟨o', ho', rfl⟩, a⟩ := comp_inv hL (fun ρ => ∃ o, PotOk o ∧ ρ = some (.own o) :: rest) (fun _ y => IntIn many y) (by
    rintro d _ ρ ⟨o, ho, rfl⟩
    obtain ⟨i, o', hi, ho', e⟩ := draw_pot ho many h1 h2
    have hlen : x < rest.length := by omega
    have hrest : (rest.set x (some (.val d))).set x none = rest := by
      rw [List.set_set]
      refine List.ext_getElem? fun j => ?_
      by_cases hj : x = j
      · subst hj; rw [List.getElem?_set_self hlen, hr]
      · rw [List.getElem?_set_ne hj]
    refine ⟨.int i, some (.own o') :: rest, ?_, ⟨o', ho', rfl⟩, i, hi, rfl⟩
    simp [compB, DI.run, callF, namesAll, noOwn, wipeE, unwipe, hG, ps__law_draw, hlen, hc, e, hrest]) ⟨o, ho, rfl⟩
  exact ⟨ys, o', e, ho', a.length, fun y m => let ⟨_, _, p⟩ := a.right y m; p⟩

theorem bnd_ok {i : Int} (h1 : 0 ≤ i) (h2 : i ≤ 1000000) : bnd62 i = true := by
  unfold bnd62
  rw [Bool.and_eq_true, decide_eq_true_eq, decide_eq_true_eq]
  constructor <;> omega
/-- statements one by one -/
theorem exs_next {G : Ge} {pin : Option Nat} {st : CS} {r : CB} {ρ ρ' : ES} (h : ex G pin st ρ = .ok (.next, ρ')) : exs G pin (.cons st r) ρ = exs G pin r ρ' := by rw [x48_exs, h, t_ok]
theorem exs_ret {G : Ge} {pin : Option Nat} {st : CS} {r : CB} {ρ ρ' : ES} {q : R} (h : ex G pin st ρ = .ok (.ret q, ρ')) : exs G pin (.cons st r) ρ = .ok (.ret q, ρ') := by rw [x48_exs, h, t_ok]
theorem run_pos {G : Ge} {F : CF} {bs : List B} (h : bs.length = F.ps ∧ F.ps ≤ F.n ∧ okPin F.pin F.ps = true) : DI.run G F bs = Out.bind (exs G F.pin F.body (bs.map some ++ List.replicate (F.n - F.ps) none)) fun p => Out.bind (endO F.pin p.2) fun o => Out.bind (endR F.pin p.1 p.2) fun r => .ok (r, o) := by
  unfold DI.run
  rw [if_pos h]
theorem code_s1 {o o1 o2 : MO} {i j : Nat} (e1 : F__law_draw.sem [.own o, .val (.int 9)] = .ok (.val (.int i), some o1)) (e2 : F__law_draw.sem [.own o1, .val (.int 3)] = .ok (.val (.int j), some o2)) :
    ex (Ge.of L__law_code cs) (some 0) (.par [1, 2] (.cons (.bin .add (.lit (.int 1)) (.fn "_law_draw" (.cons (.var 0) (.cons (.lit (.int 9)) .nil)))) (.cons (.bin .add (.lit (.int 1)) (.fn "_law_draw" (.cons (.var 0) (.cons (.lit (.int 3)) .nil)))) .nil))) [some (.own o), none, none, none, none, none] =
      .ok (.next, [some (.own o2), some (.val (.int (1 + i))), some (.val (.int (1 + j))), none, none, none]) := by
  simp [DI.run, callF, namesAll, noOwn, wipeE, unwipe, ps__law_draw, e1, e2, DI.settle, setvs, puts, news]
theorem code_row {o : MO} (ho : PotOk o) {m t : Nat} (hm : 1 ≤ m) (hm9 : m ≤ 9) (ht : 1 ≤ t) (ht3 : t ≤ 3) {x : Option B} {l : Option B} (d : D) : ∃ y o', PotOk o' ∧ RowIn t m y ∧
    compB (Ge.of L__law_code cs) (some 0) (CT.name 4) none (CE.call BI.tuple (CL.cons (CE.lc [("at", 5)] (CT.name 5) (CI.rng1 (CE.var 2)) none (CE.fn "_law_draw" (CL.cons (CE.var 0) (CL.cons (CE.var 1) CL.nil)))) CL.nil)) [4] d
      [some (.own o), some (.val (.int m)), some (.val (.int t)), none, none, none] = .ok (some y, [some (.own o'), some (.val (.int m)), some (.val (.int t)), none, none, none]) := by
  have hb : bnd62 (t : Int) = true := bnd_ok (by omega) (by omega)
  simp [DI.run, callF, namesAll, noOwn, wipeE, unwipe, compB, hb]
  generalize hL : compC _ _ _ _ _ _ _ _ = L
  obtain ⟨ys, o', e, ho', hl, hy⟩ := draws (x := 4) (many := m) at__law_code__law_draw [some (.val (.int m)), some (.val (.int t)), none, some (.val d), none] (by simp) hm (by omega) (fun o d => by simp) rfl rfl ho hL
  have hlen : ys.length = t := by rw [hl]; simp [rngL]
  have hz : ys.length ≤ SZ := by rw [hlen]; exact Nat.le_trans ht3 (by decide)
  rw [e]
  refine ⟨.tuple ys, o', ho', ⟨ys, rfl, hlen, hy⟩, ?_⟩
  simp [hz]
theorem sem_code {o : MO} (ho : PotOk o) : ∃ (d : D) (rows goods : List D) (t : Nat) (o' : MO), CodeIn d rows goods t ∧ PotOk o' ∧ F__law_code.sem [.own o] = .ok (.val d, some o') := by
  obtain ⟨i, o1, hi, ho1, e1⟩ := draw_pot ho 9 (by decide) (by decide)
  obtain ⟨j, o2, hj, ho2, e2⟩ := draw_pot ho1 3 (by decide) (by decide)
  have e1' : F__law_draw.sem [B.own o, B.val (PyData.int 9)] = .ok (.val (.int i), some o1) := e1
  have e2' : F__law_draw.sem [B.own o1, B.val (PyData.int 3)] = .ok (.val (.int j), some o2) := e2
  have s1 := code_s1 e1' e2'
  obtain ⟨m, hm, hm1, hm9⟩ : ∃ m : Nat, (1 + (i : Int)) = m ∧ 1 ≤ m ∧ m ≤ 9 := ⟨i + 1, by omega, by omega, by omega⟩
  obtain ⟨t, ht, ht1, ht3⟩ : ∃ t : Nat, (1 + (j : Int)) = t ∧ 1 ≤ t ∧ t ≤ 3 := ⟨j + 1, by omega, by omega, by omega⟩
  rw [hm, ht] at s1
  have hb : bnd62 (m : Int) = true := bnd_ok (by omega) (by omega)
  rw [sd__law_code, run_pos ⟨rfl, by decide, rfl⟩]
  simp only [C__law_code]
  have e0 : (List.map some [B.own o] ++ List.replicate (6 - 1) none : ES) = [some (.own o), none, none, none, none, none] := rfl
  rw [e0, exs_next s1, x48_exs, x36_ex]
  simp [DI.run, callF, namesAll, noOwn, wipeE, unwipe, hb]
  generalize hL : compC _ _ _ _ _ _ _ _ = L
  obtain ⟨rows, ρ', e, ⟨o3, ho3, rfl⟩, a⟩ := comp_inv hL (fun ρ => ∃ o, PotOk o ∧ ρ = [some (.own o), some (.val (.int m)), some (.val (.int t)), none, none, none]) (fun _ y => RowIn t m y) (by
    rintro d _ ρ ⟨o, ho, rfl⟩
    obtain ⟨y, o', ho', hy, e⟩ := code_row ho hm1 hm9 ht1 ht3 (x := none) (l := none) d
    exact ⟨y, _, e, ⟨o', ho', rfl⟩, hy⟩) ⟨o2, ho2, rfl⟩
  have hlen : rows.length = m := by rw [a.length]; simp [rngL]
  have hz : rows.length ≤ SZ := by rw [hlen]; exact Nat.le_trans hm9 (by decide)
  rw [e]
  simp [hz, hb]
  generalize hL2 : compC _ _ _ _ _ _ _ _ = L2
  obtain ⟨goods, o4, e4, ho4, hl4, hg⟩ := draws (x := 3) (many := 2) at__law_code__law_draw [some (.val (.int m)), some (.val (.int t)), some (.val (.tuple rows)), none, none] (by simp) (by decide) (by decide) (fun o d => by simp) rfl rfl ho3 hL2
  have hlen4 : goods.length = m := by rw [hl4]; simp [rngL]
  have hz4 : goods.length ≤ SZ := by rw [hlen4]; exact Nat.le_trans hm9 (by decide)
  rw [e4]
  refine ⟨.tuple [.tuple rows, .tuple goods], ⟨rows, goods, t, rfl, by omega, by omega, ht1, ht3, fun r hr => ?_, by omega, hg⟩, o4, ho4, ?_⟩
  · obtain ⟨_, _, p⟩ := a.right r hr
    rw [hlen]
    exact p
  · simp [hz4]
end K76
end

section
set_option maxRecDepth 100000
/-! k76: codes' texts in plain Lean. -/
namespace K76
open PySem L2 DI SX NumText

abbrev Row := Nat × List Nat
def cNl : List Nat := [10]
def wCode : List Nat := [99, 111, 100, 101]
def wBad : List Nat := [98, 97, 100]
def wGood : List Nat := [103, 111, 111, 100]
/-- how many tables a first line tells -/
def headR (l : List Nat) : Option Nat := match sp 32 l with
  | [w, [c]] => if w = wCode ∧ 49 ≤ c ∧ c ≤ 54 then some (c - 48) else none
  | _ => none
def wordN (w : List Nat) : Option Nat := if w = wBad then some 0 else if w = wGood then some 1 else none
def okN (num : List Nat → Option Nat) (ts : List (List Nat)) : Bool := (ts.map num).all (·.isSome)
def rowR (num : List Nat → Option Nat) (k : Nat) (l : List Nat) : Option Row := match sp 32 l with
  | w :: ts => match wordN w with
    | some g => if ts.length = k ∧ okN num ts = true then some (g, ts.map fun t => (num t).getD 0) else none
    | none => none
  | [] => none
def rowsR (num : List Nat → Option Nat) (k : Nat) : Nat → List Row → List (List Nat) → Sum Nat (List Row)
  | _, rows, [] => .inr rows
  | a, rows, l :: ls => match rowR num k l with
    | none => .inl a
    | some r => if rows.length = 3000 then .inl a else rowsR num k (a + 1) (rows ++ [r]) ls
def greatR (n : Nat) : Nat → List Row → Option Nat
  | _, [] => none
  | a, r :: rs => if r.2.any (fun v => decide (n ≤ v)) = true then some a else greatR n (a + 1) rs
def readR (num : List Nat → Option Nat) (t : List Nat) : Sum Nat (List Row) := match sp 10 t with
  | [] => .inl 0
  | l0 :: rest => match headR l0 with
    | none => .inl 0
    | some k => match rowsR num k 1 [] rest.dropLast with
      | .inl a => .inl a
      | .inr rows => if (l0 :: rest).getLast? ≠ some [] ∨ rows = [] then .inl rest.length else match greatR rows.length 1 rows with
        | some a => .inl a
        | none => .inr rows
def numP (t : List Nat) : Option Nat := if canon t = true then some (if t.length < 10 then digitsVal t else 1000000000) else none
def numL (t : List Nat) : Option Nat := if t.length < 30 ∧ canon t = true then some (digitsVal t) else none

/-! ### both readings alike on short tokens -/
def Near (v w : Nat) : Prop := v = w ∨ (1000000000 ≤ v ∧ 1000000000 ≤ w)
inductive NearL : List Nat → List Nat → Prop where
  | nil : NearL [] []
  | cons {v w : Nat} {vs ws : List Nat} : Near v w → NearL vs ws → NearL (v :: vs) (w :: ws)
inductive NearR : List Row → List Row → Prop where
  | nil : NearR [] []
  | cons {g : Nat} {vs ws : List Nat} {r s : List Row} : NearL vs ws → NearR r s → NearR ((g, vs) :: r) ((g, ws) :: s)
theorem num_near {t : List Nat} (h : t.length < 30) : (numP t).isSome = (numL t).isSome ∧ Near ((numP t).getD 0) ((numL t).getD 0) := by
  unfold numP numL
  by_cases c : canon t = true
  · have hc : t.length < 30 ∧ canon t = true := ⟨h, c⟩
    rw [if_pos c, if_pos hc]
    refine ⟨rfl, ?_⟩
    by_cases l : t.length < 10
    · simp [l, Near]
    · have := canon_big c (by omega)
      simp [l, Near, this]
  · have hc : ¬ (t.length < 30 ∧ canon t = true) := fun q => c q.2
    rw [if_neg c, if_neg hc]
    exact ⟨rfl, .inl rfl⟩
theorem nums_near : ∀ {ts : List (List Nat)}, (∀ t ∈ ts, t.length < 30) → (ts.map numP).all (·.isSome) = (ts.map numL).all (·.isSome) ∧ NearL (ts.map fun t => (numP t).getD 0) (ts.map fun t => (numL t).getD 0)
  | [], _ => ⟨rfl, .nil⟩
  | t :: ts, h => by
    obtain ⟨h1, h2⟩ := num_near (h t List.mem_cons_self)
    obtain ⟨h3, h4⟩ := nums_near fun x m => h x (List.mem_cons_of_mem _ m)
    refine ⟨?_, .cons h2 h4⟩
    simp only [List.map_cons, List.all_cons, h1, h3]
theorem okN_near {ts : List (List Nat)} (h : ∀ t ∈ ts, t.length < 30) : okN numP ts = okN numL ts := (nums_near h).1
theorem row_near {k : Nat} {l : List Nat} (h : ∀ t ∈ sp 32 l, t.length < 30) : (rowR numP k l = none ∧ rowR numL k l = none) ∨ ∃ g vs ws, rowR numP k l = some (g, vs) ∧ rowR numL k l = some (g, ws) ∧ NearL vs ws := by
  unfold rowR
  cases e : sp 32 l with
  | nil => exact .inl ⟨rfl, rfl⟩
  | cons w ts =>
    rw [e] at h
    have h2 := (nums_near fun t m => h t (List.mem_cons_of_mem _ m)).2
    have h1 := okN_near fun t m => h t (List.mem_cons_of_mem _ m)
    cases g : wordN w with
    | none => exact .inl ⟨by simp only [g], by simp only [g]⟩
    | some g0 =>
      simp only [g, h1]
      by_cases c : ts.length = k ∧ okN numL ts = true
      · rw [if_pos c, if_pos c]
        exact .inr ⟨_, _, _, rfl, rfl, h2⟩
      · rw [if_neg c, if_neg c]
        exact .inl ⟨rfl, rfl⟩
theorem NearR.length : ∀ {r s : List Row}, NearR r s → r.length = s.length
  | _, _, .nil => rfl
  | _, _, .cons _ t => by simp [t.length]
theorem NearR.app : ∀ {r s a b : List Row}, NearR r s → NearR a b → NearR (r ++ a) (s ++ b)
  | _, _, _, _, .nil, h => h
  | _, _, _, _, .cons h t, g => .cons h (t.app g)
theorem rows_near {k : Nat} : ∀ {ls : List (List Nat)} {a : Nat} {r s : List Row}, (∀ l ∈ ls, ∀ t ∈ sp 32 l, t.length < 30) → NearR r s → (∃ b, rowsR numP k a r ls = .inl b ∧ rowsR numL k a s ls = .inl b) ∨ ∃ r' s', rowsR numP k a r ls = .inr r' ∧ rowsR numL k a s ls = .inr s' ∧ NearR r' s'
  | [], a, r, s, _, h => .inr ⟨r, s, rfl, rfl, h⟩
  | l :: ls, a, r, s, hl, h => by
    unfold rowsR
    rcases row_near (k := k) (hl l List.mem_cons_self) with ⟨h1, h2⟩ | ⟨g, vs, ws, h1, h2, h3⟩
    · rw [h1, h2]
      exact .inl ⟨a, rfl, rfl⟩
    · rw [h1, h2]
      simp only [h.length]
      by_cases c : s.length = 3000
      · simp only [c, if_true]
        exact .inl ⟨a, rfl, rfl⟩
      · simp only [if_neg c]
        exact rows_near (fun l m => hl l (List.mem_cons_of_mem _ m)) (h.app (.cons h3 .nil))
theorem rows_most {num : List Nat → Option Nat} {k : Nat} : ∀ {ls : List (List Nat)} {a : Nat} {r r' : List Row}, r.length ≤ 3000 → rowsR num k a r ls = .inr r' → r'.length ≤ 3000
  | [], a, r, r', h, e => by cases e; exact h
  | l :: ls, a, r, r', h, e => by
    unfold rowsR at e
    split at e
    · cases e
    · split at e
      · cases e
      · exact rows_most (by simp; omega) e
theorem near_any {n : Nat} (hn : n ≤ 1000000000) : ∀ {vs ws : List Nat}, NearL vs ws → (vs.any fun v => decide (n ≤ v)) = (ws.any fun v => decide (n ≤ v)) ∧ ((ws.any fun v => decide (n ≤ v)) = false → vs = ws)
  | _, _, .nil => ⟨rfl, fun _ => rfl⟩
  | _, _, .cons (v := v) (w := w) h t => by
    obtain ⟨h1, h2⟩ := near_any hn t
    rcases h with rfl | ⟨h3, h4⟩
    · refine ⟨by simp only [List.any_cons, h1], fun e => ?_⟩
      simp only [List.any_cons, Bool.or_eq_false_iff] at e
      rw [h2 e.2]
    · have g1 : n ≤ v := Nat.le_trans hn h3
      have g2 : n ≤ w := Nat.le_trans hn h4
      simp [g1, g2]
theorem great_near {n : Nat} (hn : n ≤ 1000000000) : ∀ {r s : List Row} {a : Nat}, NearR r s → greatR n a r = greatR n a s ∧ (greatR n a s = none → r = s)
  | _, _, _, .nil => ⟨rfl, fun _ => rfl⟩
  | _, _, a, .cons (g := g) (vs := vs) (ws := ws) h t => by
    obtain ⟨h1, h2⟩ := near_any hn h
    obtain ⟨h3, h4⟩ := great_near hn (a := a + 1) t
    unfold greatR
    simp only [h1]
    by_cases c : (ws.any fun v => decide (n ≤ v)) = true
    · simp only [if_pos c]
      exact ⟨trivial, fun e => by cases e⟩
    · simp only [if_neg c]
      refine ⟨h3, fun e => ?_⟩
      rw [h4 e, h2 (by simpa using c)]
theorem read_near {t : List Nat} (h : ∀ l ∈ sp 10 t, ∀ x ∈ sp 32 l, x.length < 30) : readR numP t = readR numL t := by
  unfold readR
  cases e : sp 10 t with
  | nil => rfl
  | cons l0 rest =>
    rw [e] at h
    cases e2 : headR l0 with
    | none => simp only [e2]
    | some k =>
      simp only [e2]
      have hl : ∀ l ∈ rest.dropLast, ∀ x ∈ sp 32 l, x.length < 30 := fun l m => h l (List.mem_cons_of_mem _ (List.dropLast_subset _ m))
      rcases rows_near (k := k) (a := 1) hl NearR.nil with ⟨b, h1, h2⟩ | ⟨r, s, h1, h2, h3⟩
      · simp only [h1, h2]
      · simp only [h1, h2]
        have hm := rows_most (by simp) h2
        have hlen := h3.length
        obtain ⟨g1, g2⟩ := great_near (n := s.length) (by omega) (a := 1) h3
        have hnil : (r = []) = (s = []) := by
          cases h3 <;> simp
        simp only [hlen, g1, hnil]
        split
        · rfl
        · cases e3 : greatR s.length 1 s with
          | some a => rfl
          | none => simp only [g2 e3]
/-! ### a code's text -/
def wordR (g : Nat) : List Nat := if g = 1 then wGood else wBad
def lineR (r : Row) : List Nat := TL.joinL [32] (wordR r.1 :: r.2.map dg)
def linesR (k : Nat) (rows : List Row) : List (List Nat) := (wCode ++ 32 :: dg k) :: rows.map lineR
def textR (k : Nat) (rows : List Row) : List Nat := (linesR k rows).flatMap fun l => l ++ [10]
/-- a code of k tables -/
structure VC (k : Nat) (rows : List Row) : Prop where
  k1 : 1 ≤ k
  k6 : k ≤ 6
  n1 : rows ≠ []
  n3 : rows.length ≤ 3000
  len : ∀ r ∈ rows, r.2.length = k
  val : ∀ r ∈ rows, ∀ v ∈ r.2, v < rows.length
  good : ∀ r ∈ rows, r.1 < 2
theorem dg_no {m c : Nat} (h : c < 48 ∨ 57 < c) : c ∉ dg m := fun z => by
  have := dg_digits m c z
  omega
theorem joinL_no {c s : Nat} (hs : c ≠ s) : ∀ {ps : List (List Nat)}, (∀ p ∈ ps, c ∉ p) → c ∉ TL.joinL [s] ps
  | [], _ => by simp [TL.joinL]
  | [p], h => h p List.mem_cons_self
  | p :: q :: r, h => by
    have ih := joinL_no hs fun z m => h z (List.mem_cons_of_mem p m)
    show c ∉ p ++ ([s] ++ TL.joinL [s] (q :: r))
    simp only [List.mem_append, List.mem_singleton]
    rintro (z | z | z)
    · exact h p List.mem_cons_self z
    · exact hs z
    · exact ih z
theorem word_no {g c : Nat} (h : c < 97) : c ∉ wordR g := by
  unfold wordR wGood wBad
  split <;> (simp; omega)
theorem line_sp (r : Row) : sp 32 (lineR r) = wordR r.1 :: r.2.map dg := sp_join (by simp) (by
  intro p m
  rcases List.mem_cons.mp m with e | m
  · rw [e]; exact word_no (by decide)
  · obtain ⟨v, _, rfl⟩ := List.mem_map.mp m
    exact dg_no (by decide))
theorem line_no (r : Row) : 10 ∉ lineR r := joinL_no (by decide) (by
  intro p m
  rcases List.mem_cons.mp m with e | m
  · rw [e]; exact word_no (by decide)
  · obtain ⟨v, _, rfl⟩ := List.mem_map.mp m
    exact dg_no (by decide))
theorem text_sp (k : Nat) (rows : List Row) : sp 10 (textR k rows) = linesR k rows ++ [[]] := sp_lines (by
  intro p m
  rcases List.mem_cons.mp m with e | m
  · rw [e]
    have := dg_no (m := k) (c := 10) (by decide)
    simp [wCode, this]
  · obtain ⟨r, _, rfl⟩ := List.mem_map.mp m
    exact line_no r)
theorem dg_small {k : Nat} (h : k < 10) : dg k = [48 + k] := by
  match k, h with
  | 0, _ => rfl
  | 1, _ => rfl
  | 2, _ => rfl
  | 3, _ => rfl
  | 4, _ => rfl
  | 5, _ => rfl
  | 6, _ => rfl
  | 7, _ => rfl
  | 8, _ => rfl
  | 9, _ => rfl
theorem head_back {k : Nat} (h1 : 1 ≤ k) (h6 : k ≤ 6) : headR (wCode ++ 32 :: dg k) = some k := by
  unfold headR
  rw [sp_part _ (by simp [wCode]), dg_small (by omega), sp_last (by simp; omega)]
  have hc : 49 ≤ 48 + k ∧ 48 + k ≤ 54 := ⟨by omega, by omega⟩
  simp [hc]
theorem numP_dg {m : Nat} (h : m < 1000000000) : numP (dg m) = some m := by
  unfold numP
  rw [if_pos (canon_dg m), if_pos (Nat.lt_of_le_of_lt (dg_len (k := 9) (by decide) (by simpa using h)) (by decide)), dg_val]
theorem word_back {g : Nat} (h : g < 2) : wordN (wordR g) = some g := by
  match g, h with
  | 0, _ => rfl
  | 1, _ => rfl
theorem row_back {k : Nat} {r : Row} (hg : r.1 < 2) (hl : r.2.length = k) (hv : ∀ v ∈ r.2, v < 3000) : rowR numP k (lineR r) = some r := by
  unfold rowR
  rw [line_sp]
  simp only [word_back hg]
  have h1 : okN numP (r.2.map dg) = true := by
    unfold okN
    rw [List.all_eq_true]
    intro o m
    obtain ⟨t, mt, rfl⟩ := List.mem_map.mp m
    obtain ⟨v, mv, rfl⟩ := List.mem_map.mp mt
    rw [numP_dg (Nat.lt_trans (hv v mv) (by decide))]
    rfl
  rw [if_pos ⟨by simpa using hl, h1⟩]
  have h2 : (r.2.map dg).map (fun t => (numP t).getD 0) = r.2 := by
    rw [List.map_map]
    refine (List.map_congr_left fun v mv => ?_).trans (List.map_id _)
    simp only [Function.comp]
    rw [numP_dg (Nat.lt_trans (hv v mv) (by decide))]
    rfl
  rw [h2]
theorem rows_back {k : Nat} : ∀ {rs done : List Row} {a : Nat}, (∀ r ∈ rs, rowR numP k (lineR r) = some r) → done.length + rs.length ≤ 3000 → rowsR numP k a done (rs.map lineR) = .inr (done ++ rs)
  | [], done, a, _, _ => by simp [rowsR]
  | r :: rs, done, a, h, hl => by
    simp only [List.map_cons, rowsR, h r List.mem_cons_self]
    simp only [List.length_cons] at hl
    rw [if_neg (by omega), rows_back (fun x m => h x (List.mem_cons_of_mem _ m)) (by simp; omega)]
    simp
theorem great_none {n : Nat} : ∀ {rs : List Row} {a : Nat}, (∀ r ∈ rs, ∀ v ∈ r.2, v < n) → greatR n a rs = none
  | [], _, _ => rfl
  | r :: rs, a, h => by
    unfold greatR
    have : ¬ (r.2.any fun v => decide (n ≤ v)) = true := by
      rw [List.any_eq_true]
      rintro ⟨v, m, e⟩
      have := h r List.mem_cons_self v m
      have := of_decide_eq_true e
      omega
    rw [if_neg this]
    exact great_none fun x m => h x (List.mem_cons_of_mem _ m)
theorem read_text {k : Nat} {rows : List Row} (V : VC k rows) : readR numP (textR k rows) = .inr rows := by
  have h3 := V.n3
  have hr : ∀ r ∈ rows, rowR numP k (lineR r) = some r := fun r m => row_back (V.good r m) (V.len r m) fun v mv => by
    have := V.val r m v mv
    omega
  unfold readR
  rw [text_sp]
  simp only [linesR, List.cons_append]
  rw [head_back V.k1 V.k6]
  simp only [List.dropLast_concat]
  rw [rows_back hr (by simpa using h3)]
  simp only [List.nil_append]
  have hl : ¬ ((((wCode ++ 32 :: dg k) :: (rows.map lineR ++ [[]])).getLast? ≠ some []) ∨ rows = []) := by
    rintro (z | z)
    · apply z
      rw [← List.cons_append, List.getLast?_append]
      rfl
    · exact V.n1 z
  rw [if_neg hl, great_none V.val]
/-- what is read is a code -/
theorem rowR_ok {num : List Nat → Option Nat} {k : Nat} {l : List Nat} {r : Row} (h : rowR num k l = some r) : r.2.length = k ∧ r.1 < 2 := by
  unfold rowR at h
  split at h
  · split at h
    · rename_i g hg
      split at h
      · rename_i c
        cases h
        refine ⟨by simpa using c.1, ?_⟩
        unfold wordN at hg
        split at hg
        · cases hg; exact Nat.zero_lt_succ 1
        · split at hg
          · cases hg; exact Nat.lt_succ_self 1
          · cases hg
      · cases h
    · cases h
  · cases h
theorem rowsR_ok {num : List Nat → Option Nat} {k : Nat} : ∀ {ls : List (List Nat)} {a : Nat} {r r' : List Row}, (∀ x ∈ r, x.2.length = k ∧ x.1 < 2) → rowsR num k a r ls = .inr r' → ∀ x ∈ r', x.2.length = k ∧ x.1 < 2
  | [], a, r, r', h, e => by cases e; exact h
  | l :: ls, a, r, r', h, e => by
    unfold rowsR at e
    split at e
    · cases e
    · rename_i q hq
      split at e
      · cases e
      · refine rowsR_ok (fun x m => ?_) e
        rcases List.mem_append.mp m with m | m
        · exact h x m
        · rw [List.mem_singleton.mp m]
          exact rowR_ok hq
theorem great_val {n : Nat} : ∀ {rs : List Row} {a : Nat}, greatR n a rs = none → ∀ r ∈ rs, ∀ v ∈ r.2, v < n
  | [], _, _, r, m => by cases m
  | q :: rs, a, h, r, m => by
    unfold greatR at h
    split at h
    · cases h
    · rename_i c
      rcases List.mem_cons.mp m with e | m
      · intro v mv
        refine Nat.lt_of_not_le fun z => c ?_
        rw [List.any_eq_true]
        exact ⟨v, by rw [← e]; exact mv, decide_eq_true z⟩
      · exact great_val h r m
theorem read_vc {num : List Nat → Option Nat} {t : List Nat} {rows : List Row} (h : readR num t = .inr rows) : ∃ k, VC k rows := by
  unfold readR at h
  split at h
  · cases h
  · rename_i l0 rest e
    split at h
    · cases h
    · rename_i k hk
      split at h
      · cases h
      · rename_i r hr
        split at h
        · cases h
        · rename_i c
          split at h
          · cases h
          · rename_i g
            cases h
            have ok := rowsR_ok (by simp) hr
            refine ⟨k, ?_, ?_, fun z => c (.inr z), rows_most (by simp) hr, fun r m => (ok r m).1, great_val g, fun r m => (ok r m).2⟩
            all_goals
              unfold headR at hk
              split at hk
              · split at hk
                · cases hk; omega
                · cases hk
              · cases hk
end K76
end

section
set_option maxRecDepth 100000
/-! k76: texts read. -/
namespace K76
open PySem L2 DI SX NumText
def encO : Option Nat → D
  | none => .none
  | some n => .int n
@[simp] theorem encO_none : encO none = .none := Eq.trans rfl rfl
@[simp] theorem encO_some (n : Nat) : encO (some n) = .int n := Eq.trans rfl rfl
@[simp] theorem lit_empty : (Str.ofString "") = S [] := Eq.trans rfl rfl
@[simp] theorem lit_0 : (Str.ofString "0") = S [48] := by decide +kernel
@[simp] theorem lit_digits : (Str.ofString "0123456789") = S [48, 49, 50, 51, 52, 53, 54, 55, 56, 57] := by decide +kernel
@[simp] theorem S_eq (a b : List Nat) : (S a = S b) = (a = b) := propext ⟨S_inj, fun e => by rw [e]⟩
@[simp] theorem S_tlist (a : List Nat) : (S a).cps.toList = a := Eq.trans rfl rfl
@[simp] theorem S_length (a : List Nat) : (S a).length = a.length := S_len a
theorem pow9 : bo .pow (.int 10) (.int 9) = .ok (.val (.int 1000000000)) := by
  rw [s_pow_int ⟨by decide, by decide, by decide⟩]
  have : (10 : Int) ^ (9 : Int).toNat = 1000000000 := by decide
  rw [this]
theorem dig_in (c : Nat) : decide (c ∈ ([48, 49, 50, 51, 52, 53, 54, 55, 56, 57] : List Nat)) = (decide (48 ≤ c) && decide (c ≤ 57)) := by
  rw [← Bool.decide_and, decide_eq_decide]
  simp only [List.mem_cons, List.not_mem_nil, or_false]
  omega
theorem co_in_digits (c : Nat) : co .inn (.str (S [c])) (.str (S [48, 49, 50, 51, 52, 53, 54, 55, 56, 57])) = .ok (decide (48 ≤ c) && decide (c ≤ 57)) := by
  rw [← dig_in]
  rfl
theorem s_ix_str0 {c : Nat} {r : List Nat} (h : r.length + 1 ≤ SZ) : ix (.str (S (c :: r))) (.int 0) = .ok (.str (S [c])) := by
  have h' : (S (c :: r)).length ≤ SZ := by rw [S_len]; exact h
  have e : atI (S (c :: r)).cps.toList 0 = some c := atI_nat (c :: r) 0
  simp only [ix, if_pos h', e]
theorem s_int_str {t : List Nat} (h : digB t = true) (h1 : t ≠ []) (h2 : t.length ≤ 640) : DI.bi .int [.str (S t)] = .ok (.val (.int (digitsVal t))) := by
  have h' : (S t).length ≤ 640 := by rw [S_len]; exact h2
  simp only [DI.bi, if_pos h', intText_canon h h1 (Nat.le_trans h2 (by decide))]
theorem all_dig (t : List Nat) : DI.bi .all [.list (t.map fun c => PyData.bool (decide (48 ≤ c) && decide (c ≤ 57)))] = .ok (.val (.bool (digB t))) := all_mapB _ t
theorem sem_number_of (t : List Nat) (h : t.length ≤ SZ) : F_number_of.sem [.val (.str (S t))] = .ok (.val (encO (numP t)), none) := by
  rw [sd_number_of]
  simp [DI.run, callF, namesAll, noOwn, wipeE, unwipe, C_number_of, -s_pow_int, pow9]
  cases t with
  | nil => simp [numP, canon, encO]
  | cons c r =>
    have h' : r.length + 1 ≤ SZ := h
    simp [-List.map_cons]
    generalize hC : compC _ _ _ _ _ _ _ _ = L
    have e := comp_mapL hC (fun c => .bool (decide (48 ≤ c) && decide (c ≤ 57))) (fun c _ => by
      have := co_in_digits c
      simp [compB, DI.run, callF, namesAll, noOwn, wipeE, unwipe, this])
    subst e
    simp [h', all_dig, s_ix_str0 h', -List.map_cons]
    cases hd : digB (c :: r) with
    | false => simp [numP, canon, hd, encO]
    | true =>
      by_cases h1 : (c :: r).length < 10
      · have h2 : (r.length : Int) + 1 < 10 := by simp at h1; omega
        have hi := s_int_str hd (by simp) (Nat.le_trans (Nat.le_of_lt h1) (by decide))
        by_cases h3 : c = 48
        · by_cases h4 : r = []
          · simp [numP, canon, hd, encO, h3, h4]
            subst h3 h4
            simp [hi, hd]
          · simp [numP, canon, hd, encO, h3, h4]
        · simp at h1
          simp [numP, canon, hd, encO, h3, h2, hi, h1]
      · have h2 : ¬ (r.length : Int) + 1 < 10 := by simp at h1; omega
        by_cases h3 : c = 48
        · by_cases h4 : r = []
          · subst h4; simp at h1
          · simp [numP, canon, hd, encO, h3, h4]
        · simp at h1
          have h1' : ¬ r.length + 1 < 10 := by omega
          simp [numP, canon, hd, encO, h3, h2, h1']
theorem val_lt : ∀ {t : List Nat}, AllDigits t → digitsVal t < 10 ^ t.length := by
  have key : ∀ (t : List Nat) (a : Nat), AllDigits t → t.foldl (fun acc c => acc * 10 + (c - 48)) a < (a + 1) * 10 ^ t.length := by
    intro t
    induction t with
    | nil => intro a _; simp
    | cons c t ih =>
      intro a h
      have hc := h.head
      have h1 := ih (a * 10 + (c - 48)) h.tail
      rw [List.foldl_cons, List.length_cons, Nat.pow_succ]
      refine Nat.lt_of_lt_of_le h1 ?_
      have e : (a + 1) * (10 ^ t.length * 10) = ((a + 1) * 10) * 10 ^ t.length := by
        rw [Nat.mul_comm (10 ^ t.length) 10, Nat.mul_assoc]
      rw [e]
      exact Nat.mul_le_mul_right _ (by omega)
  intro t h
  have := key t 0 h
  simpa [digitsVal] using this
theorem s_str_nat {n : Nat} (h : n < 10 ^ 30) : DI.bi .str [.int (n : Int)] = .ok (.val (.str (S (dg n)))) := by
  have h2 : (n : Int).natAbs < 2 ^ 1900 := by
    have e : (n : Int).natAbs = n := by omega
    rw [e]
    exact Nat.lt_of_lt_of_le h (by decide +kernel)
  rw [s_str h2]
  exact congrArg (fun z => Out.ok (R.val (PyData.str z))) (DI.num_S n)
theorem sem_law_count (t : List Nat) (h : t.length ≤ SZ) : F__law_count.sem [.val (.str (S t))] = .ok (.val (encO (numL t)), none) := by
  rw [sd__law_count]
  simp [DI.run, callF, namesAll, noOwn, wipeE, unwipe, C__law_count]
  cases t with
  | nil => simp [numL, canon, encO]
  | cons c r =>
    have h' : r.length + 1 ≤ SZ := h
    simp [-List.map_cons, h']
    generalize hC : compC _ _ _ _ _ _ _ _ = L
    have e := comp_mapL hC (fun c => .bool (decide (48 ≤ c) && decide (c ≤ 57))) (fun c _ => by
      have := co_in_digits c
      simp [compB, DI.run, callF, namesAll, noOwn, wipeE, unwipe, this])
    subst e
    simp [h', all_dig, -List.map_cons]
    by_cases h1 : r.length + 1 < 30
    · have h2 : (r.length : Int) + 1 < 30 := by omega
      cases hd : digB (c :: r) with
      | false => simp [numL, canon, hd]
      | true =>
        have hi := s_int_str hd (by simp) (Nat.le_trans (Nat.le_of_lt h1) (by decide))
        have hv : digitsVal (c :: r) < 10 ^ 30 := Nat.lt_of_lt_of_le (val_lt (digB_iff.mp hd)) (Nat.pow_le_pow_right (by decide) (Nat.le_of_lt h1))
        have hs := s_str_nat hv
        by_cases hc : canon (c :: r) = true
        · have e := canon_val hc
          simp [numL, hc, h1, h2, hi, hs, e]
        · have e : ¬ dg (digitsVal (c :: r)) = c :: r := fun e => hc (by rw [← e]; exact canon_dg _)
          simp [numL, hc, h1, h2, hi, hs, e]
    · have h2 : ¬ (r.length : Int) + 1 < 30 := by omega
      simp [numL, h1, h2]
/-! ### a line -/
@[simp] theorem lit_sp : (Str.ofString " ") = S [32] := by decide +kernel
@[simp] theorem lit_nl : (Str.ofString "\n") = S [10] := by decide +kernel
@[simp] theorem lit_bad : (Str.ofString "bad") = S wBad := by decide +kernel
@[simp] theorem lit_good : (Str.ofString "good") = S wGood := by decide +kernel
@[simp] theorem lit_code : (Str.ofString "code") = S wCode := by decide +kernel
theorem s_split {c : Nat} (hc : c < 256) {t : List Nat} (h : t.length + 2 ≤ SZ) : DI.mt .split (.str (S t)) [.str (S [c])] = .ok (.new (.lst ((sp c t).map fun x => .str (S x)))) := by
  have h1 : ((S [c]).length == 0) = false := rfl
  have h2 : (S t).length + 2 ≤ SZ := by rw [S_len]; exact h
  have e : DI.mt .split (.str (S t)) [.str (S [c])] = .ok (.new (.lst ((Txt.split (S t) (S [c])).map .str))) := by
    simp only [DI.mt]
    exact if_pos ⟨h1, h2⟩
  rw [e, split_sp hc, List.map_map]
  rfl
@[simp] theorem cut1 {d : D} {ds : List D} : cutD (d :: ds) (some 1) none = ds := by
  have h1 : HT.sIx (d :: ds).length 0 (some 1) = 1 := by
    have := HT.sIx_nat (d :: ds).length 0 1
    rw [show ((1 : Nat) : Int) = 1 from rfl] at this
    rw [this]
    simp
  unfold cutD
  rw [h1, HT.sIx_none]
  simp
theorem shaped_list (xs : List D) (h : ∀ d ∈ xs, PyData.canLay0 d = true ∧ PyData.depth d ≤ 1) : SeqAt.shaped (.list xs) = true := by
  have a : PyData.canLayAll0 xs = true ∧ PyData.depthAll xs ≤ 1 := by
    induction xs with
    | nil => exact ⟨rfl, Nat.zero_le _⟩
    | cons d xs ih =>
      obtain ⟨h1, h2⟩ := ih fun x m => h x (List.mem_cons_of_mem _ m)
      obtain ⟨h3, h4⟩ := h d List.mem_cons_self
      exact ⟨by simp [PyData.canLayAll0, h1, h3], by simp [PyData.depthAll]; omega⟩
  unfold SeqAt.shaped
  simp [PyData.canLay0, a.1, PyData.depth]
  omega
def eNums (ns : List Nat) : D := .tuple (ns.map fun n : Nat => PyData.int (n : Int))
def eRowO : Option Row → D
  | none => .none
  | some r => .tuple [.int (r.1 : Int), eNums r.2]
theorem none_in {ts : List (List Nat)} {num : List Nat → Option Nat} : co .inn .none (.list (ts.map fun t => encO (num t))) = .ok (!okN num ts) := by
  rw [co_in_list]
  · congr 1
    unfold okN
    induction ts with
    | nil => rfl
    | cons t ts ih =>
      simp only [List.map_cons, List.any_cons, List.all_cons, ih]
      cases num t <;> simp [PyData.eqv]
  · rw [shaped_none, Bool.true_and]
    refine shaped_list _ fun d m => ?_
    obtain ⟨t, _, rfl⟩ := List.mem_map.mp m
    cases num t <;> exact ⟨rfl, Nat.zero_le _⟩
theorem nums_map {ts : List (List Nat)} {num : List Nat → Option Nat} (h : okN num ts = true) : ts.map (fun t => encO (num t)) = (ts.map fun t => (num t).getD 0).map fun n : Nat => PyData.int (n : Int) := by
  rw [List.map_map]
  refine List.map_congr_left fun t m => ?_
  have := List.all_eq_true.mp h (num t) (List.mem_map_of_mem m)
  cases e : num t with
  | none => rw [e] at this; cases this
  | some n => simp [e]
theorem nin_words (w : List Nat) : co .nin (.str (S w)) (.tuple [.str (S wBad), .str (S wGood)]) = .ok (!(wordN w).isSome) := by
  rw [co_nin_tup _ _ (by rfl)]
  unfold wordN
  by_cases h1 : w = wBad
  · subst h1; rfl
  · by_cases h2 : w = wGood
    · subst h2; rfl
    · have h1' : ¬ S wBad = S w := fun e => h1 (S_inj e).symm
      have h2' : ¬ S wGood = S w := fun e => h2 (S_inj e).symm
      simp [PyData.eqv, h1, h2, h1', h2']
theorem ix_words {w : List Nat} {g : Nat} (h : wordN w = some g) : DI.mt .index (.tuple [.str (S wBad), .str (S wGood)]) [.str (S w)] = .ok (.val (.int (g : Int))) := by
  unfold wordN at h
  split at h
  · rename_i e; subst e; cases h; rfl
  · split at h
    · rename_i e; subst e; cases h; rfl
    · cases h
theorem sem_row_of_line (l : List Nat) (k : Nat) (h : l.length + 2 ≤ SZ) : F_row_of_line.sem [.val (.str (S l)), .val (.int (k : Int))] = .ok (.val (eRowO (rowR numP k l)), none) := by
  rw [sd_row_of_line]
  simp [DI.run, callF, namesAll, noOwn, wipeE, unwipe, C_row_of_line, s_split, h]
  have hmem : ∀ t ∈ sp 32 l, t.length ≤ SZ := fun t m => by have := sp_mem_len m; omega
  have hlen := sp_length 32 l
  unfold rowR
  cases e : sp 32 l with
  | nil => exact absurd e (sp_ne _ _)
  | cons w ts =>
    rw [e] at hmem hlen
    have hz : ts.length ≤ SZ := by simp at hlen; omega
    simp
    generalize hC : compC _ _ _ _ _ _ _ _ = L
    have e2 := comp_mapL hC (fun t => encO (numP t)) (fun t m => by
      have := sem_number_of t (hmem t (List.mem_cons_of_mem _ m))
      simp [compB, DI.run, callF, namesAll, noOwn, wipeE, unwipe, ps_number_of, this])
    subst e2
    simp [hz, nin_words, none_in]
    cases hw : wordN w with
    | none => simp [eRowO]
    | some g =>
      simp
      by_cases hk : ts.length = k
      · have hk' : (ts.length : Int) = k := by omega
        cases ha : okN numP ts with
        | false => simp [hk, hk', ha, eRowO]
        | true => simp [hk, hk', ha, eRowO, ix_words hw, nums_map ha, eNums]
      · have hk' : ¬ (ts.length : Int) = k := by omega
        simp [hk, hk', eRowO]
end K76
end

section
set_option maxRecDepth 100000
/-! k76: code_or_line. -/
namespace K76
open PySem L2 DI SX NumText
@[simp] theorem isNon_none : DI.isNon .none = true := Eq.trans rfl rfl
@[simp] theorem isNon_int (i : Int) : DI.isNon (.int i) = false := Eq.trans rfl rfl
@[simp] theorem isNon_tup (i : List D) : DI.isNon (.tuple i) = false := Eq.trans rfl rfl
def oneR : List Nat → Option Nat
  | [c] => if 49 ≤ c ∧ c ≤ 54 then some (c - 48) else none
  | _ => none
theorem headR_one (l : List Nat) : headR l = match sp 32 l with
  | [w, x] => if w = wCode then oneR x else none
  | _ => none := by
  unfold headR oneR
  rcases e : sp 32 l with _ | ⟨w, _ | ⟨x, _ | ⟨y, r⟩⟩⟩
  · rfl
  · rfl
  · rcases x with _ | ⟨c, _ | ⟨d, r⟩⟩
    · simp
    · by_cases hw : w = wCode <;> simp [hw]
    · simp
  · simp
theorem one_num (x : List Nat) : oneR x = match numP x with
  | some n => if 1 ≤ n ∧ n ≤ 6 then some n else none
  | none => none := by
  unfold numP
  rcases x with _ | ⟨c, _ | ⟨d, r⟩⟩
  · simp [canon, oneR]
  · have v : digitsVal [c] = c - 48 := by show 0 * 10 + (c - 48) = c - 48; omega
    cases hc : canon [c] with
    | true =>
      have hd := (digB_iff.mp (by simp only [canon, Bool.and_eq_true] at hc; exact hc.1)).head
      simp only [oneR, v, if_true, List.length_singleton, if_pos (show 1 < 10 by decide)]
      by_cases h1 : 49 ≤ c ∧ c ≤ 54
      · have h2 : 1 ≤ c - 48 ∧ c - 48 ≤ 6 := by omega
        rw [if_pos h1, if_pos h2]
      · have h2 : ¬ (1 ≤ c - 48 ∧ c - 48 ≤ 6) := by omega
        rw [if_neg h1, if_neg h2]
    | false =>
      simp only [oneR, Bool.false_eq_true, if_false]
      have h1 : ¬ (49 ≤ c ∧ c ≤ 54) := by
        rintro ⟨h1, h2⟩
        have : canon [c] = true := by
          simp [canon, digB]
          omega
        rw [this] at hc
        cases hc
      rw [if_neg h1]
  · simp only [oneR]
    cases hc : canon (c :: d :: r) with
    | true =>
      simp only [canon, Bool.and_eq_true, Bool.or_eq_true, decide_eq_true_eq] at hc
      have hd := (digB_iff.mp hc.1).head
      have h48 : c ≠ 48 := by
        have z := hc.2.2
        simp at z
        exact z
      have g := val_ge (c := c) (cs := d :: r) (by omega)
      have g2 : 10 ^ 1 ≤ 10 ^ (d :: r).length := Nat.pow_le_pow_right (by decide) (by simp)
      have g3 : 10 ≤ digitsVal (c :: d :: r) := by simpa using Nat.le_trans g2 g
      have g4 : ¬ (1 ≤ (if (c :: d :: r).length < 10 then digitsVal (c :: d :: r) else 1000000000) ∧ (if (c :: d :: r).length < 10 then digitsVal (c :: d :: r) else 1000000000) ≤ 6) := by
        split <;> omega
      simp only [if_true, if_neg g4]
    | false => simp
theorem chain16 (n : Nat) : (decide ((1 : Int) ≤ (n : Int)) && decide ((n : Int) ≤ 6)) = decide (1 ≤ n ∧ n ≤ 6) := by
  rw [← Bool.decide_and, decide_eq_decide]
  omega
theorem sem_tables_of_line (l : List Nat) (h : l.length + 2 ≤ SZ) : F_tables_of_line.sem [.val (.str (S l))] = .ok (.val (encO (headR l)), none) := by
  rw [sd_tables_of_line]
  simp [DI.run, callF, namesAll, noOwn, wipeE, unwipe, C_tables_of_line, s_split, h]
  rw [headR_one]
  have hmem : ∀ t ∈ sp 32 l, t.length ≤ SZ := fun t m => by have := sp_mem_len m; omega
  rcases e : sp 32 l with _ | ⟨w, _ | ⟨x, _ | ⟨y, r⟩⟩⟩
  · exact absurd e (sp_ne _ _)
  · simp
  · rw [e] at hmem
    have hx := sem_number_of x (hmem x (by simp))
    have h1 := one_num x
    simp
    by_cases hw : w = wCode
    · simp [hw, ps_number_of, hx]
      rw [h1]
      cases hn : numP x with
      | none => simp
      | some n =>
        simp
        by_cases g : 1 ≤ n ∧ n ≤ 6
        · have g1 : (1 : Int) ≤ n := by omega
          have g2 : (n : Int) ≤ 6 := by omega
          simp [g, g1, g2]
        · by_cases g1 : (1 : Int) ≤ n
          · have g2 : ¬ (n : Int) ≤ 6 := by omega
            simp [g, g1, g2]
          · simp [g, g1]
    · simp [hw]
  · have h3 : ¬ ((r.length : Int) + 1 + 1 + 1 = 2) := by omega
    simp [h3]
def encRow (r : Row) : D := .tuple [.int (r.1 : Int), eNums r.2]
def badD (a : Nat) : D := .tuple [.none, .int (a : Int)]
theorem enm_map {α : Type} (f : α → D) : ∀ (ts : List α) (k : Nat), enmL k (ts.map f) = (ts.zipIdx k).map fun p => .tuple [.int (p.2 : Int), f p.1]
  | [], _ => rfl
  | t :: ts, k => by simp [enmL, enm_map f ts (k + 1)]
def rowStep (num : List Nat → Option Nat) (k : Nat) (s : List Row) (p : List Nat × Nat) : Sum (List Row) R := match rowR num k p.1 with
  | none => .inr (.val (badD (p.2 + 1)))
  | some r => if s.length = 3000 then .inr (.val (badD (p.2 + 1))) else .inl (s ++ [r])
theorem walk_rows {num : List Nat → Option Nat} {k : Nat} : ∀ (ls : List (List Nat)) (a : Nat) (s : List Row), walk (rowStep num k) s (ls.zipIdx a) = match rowsR num k (a + 1) s ls with
    | .inl b => .inr (.val (badD b))
    | .inr rows => .inl rows
  | [], a, s => rfl
  | l :: ls, a, s => by
    simp only [List.zipIdx_cons, walk, rowStep, rowsR]
    cases rowR num k l with
    | none => rfl
    | some r =>
      simp only []
      by_cases h : s.length = 3000
      · simp only [if_pos h]
      · simp only [if_neg h]
        exact walk_rows ls (a + 1) (s ++ [r])
@[simp] theorem cut_mid {d : D} {ds : List D} : cutD (d :: ds) (some 1) (some (-1)) = ds.dropLast := by
  have h1 : HT.sIx (d :: ds).length 0 (some 1) = 1 := by
    have := HT.sIx_nat (d :: ds).length 0 1
    rw [show ((1 : Nat) : Int) = 1 from rfl] at this
    rw [this]
    simp
  have h2 : HT.sIx (d :: ds).length (d :: ds).length (some (-1)) = ds.length := by
    have e : HT.sIx (d :: ds).length (d :: ds).length (some (-1)) = ((-1 : Int) + ((d :: ds).length : Int)).toNat := by
      show (if (-1 : Int) < 0 then ((-1 : Int) + ((d :: ds).length : Int)).toNat else min (-1 : Int).toNat (d :: ds).length) = _
      exact if_pos (by decide)
    rw [e, List.length_cons]
    omega
  unfold cutD
  rw [h1, h2, List.dropLast_eq_take, List.drop_succ_cons, List.drop_zero]
theorem s_ix_last {xs : List D} {d : D} (h : xs.getLast? = some d) : ix (.list xs) (.int (-1)) = .ok d := by
  have h0 : 0 < xs.length := by
    cases xs with
    | nil => cases h
    | cons a b => simp
  have e : ixN xs.length (-1) = some (xs.length - 1) := by
    unfold ixN
    rw [if_neg (by decide), if_pos (by omega)]
    congr 1
    omega
  have e2 : atI xs (-1) = some d := by
    unfold atI
    rw [e]
    rw [List.getLast?_eq_getElem?] at h
    exact h
  simp only [ix, e2]
theorem mem_zip {α : Type} {x : α} {i : Nat} : ∀ {l : List α} {k : Nat}, (x, i) ∈ l.zipIdx k → x ∈ l
  | a :: l, k, h => by
    rw [List.zipIdx_cons] at h
    rcases List.mem_cons.mp h with e | m
    · cases e; exact List.mem_cons_self
    · exact List.mem_cons_of_mem _ (mem_zip m)
theorem rowsR_len {num : List Nat → Option Nat} {k : Nat} : ∀ {ls : List (List Nat)} {a : Nat} {r r' : List Row}, rowsR num k a r ls = .inr r' → r'.length = r.length + ls.length
  | [], a, r, r', e => by cases e; rfl
  | l :: ls, a, r, r', e => by
    unfold rowsR at e
    split at e
    · cases e
    · split at e
      · cases e
      · have := rowsR_len e
        simp at this ⊢
        omega
def greatStep (n : Nat) (s : Unit) (p : Row × Nat) : Sum Unit R := if p.1.2.any (fun v => decide (n ≤ v)) = true then .inr (.val (badD (p.2 + 1))) else .inl ()
theorem walk_great {n : Nat} : ∀ (rs : List Row) (a : Nat), walk (greatStep n) () (rs.zipIdx a) = match greatR n (a + 1) rs with
    | some b => .inr (.val (badD b))
    | none => .inl ()
  | [], a => rfl
  | r :: rs, a => by
    simp only [List.zipIdx_cons, walk, greatStep, greatR]
    by_cases h : (r.2.any fun v => decide (n ≤ v)) = true
    · simp only [if_pos h]
    · simp only [if_neg h]
      exact walk_great rs (a + 1)
theorem headR_le {l : List Nat} {k : Nat} (h : headR l = some k) : 1 ≤ k ∧ k ≤ 6 := by
  unfold headR at h
  split at h
  · split at h
    · cases h; omega
    · cases h
  · cases h
theorem sem_code_or_line (t : List Nat) (h : t.length + 2 ≤ SZ) : F_code_or_line.sem [.val (.str (S t))] = .ok (.val (match readR numP t with | .inl a => badD a | .inr rows => .tuple [.tuple [.tuple (rows.map fun r => eNums r.2), .tuple (rows.map fun r => .int (r.1 : Int))], .none]), none) := by
  rw [sd_code_or_line, run_pos ⟨rfl, by decide, rfl⟩]
  simp only [C_code_or_line]
  simp [DI.run, callF, namesAll, noOwn, wipeE, unwipe, s_split, h]
  unfold readR
  have hmem : ∀ l ∈ sp 10 t, l.length + 2 ≤ SZ := fun l m => by have := sp_mem_len m; omega
  have hlen := sp_length 10 t
  cases e : sp 10 t with
  | nil => exact absurd e (sp_ne _ _)
  | cons l0 rest =>
    rw [e] at hmem hlen
    have ht := sem_tables_of_line l0 (hmem l0 (by simp))
    simp [ps_tables_of_line, ht]
    cases hk : headR l0 with
    | none =>
      simp [DI.settle, setvs, puts, news, badD]
    | some k =>
      simp [DI.settle, setvs, puts, news]
      rw [← List.map_dropLast, enm_map]
      generalize hL : loopC _ _ _ _ _ _ = L
      have w := loop_walk hL (fun (s : List Row) ρ => s.length ≤ 3000 ∧ ∃ x y z : Option D, ρ = [some (B.val (PyData.str (S t))), some (B.own (MO.lst (PyData.str (S l0) :: List.map (fun x => PyData.str (S x)) rest))), some (B.val (PyData.int ↑k)), some (B.own (MO.lst (s.map encRow))), x.map .val, y.map .val, z.map .val, none]) (rowStep numP k) [] (by
        rintro ⟨l, a⟩ hm s ρ ⟨hs, x, y, z, rfl⟩
        have hl : l ∈ rest := List.dropLast_subset _ (mem_zip hm)
        have hr := sem_row_of_line l k (hmem l (List.mem_cons_of_mem _ hl))
        have hz : s.length < SZ := Nat.lt_of_le_of_lt hs (by decide)
        simp [DI.run, callF, namesAll, noOwn, wipeE, unwipe, ps_row_of_line, hr]
        unfold rowStep
        cases hq : rowR numP k l with
        | none => simp [eRowO, WalkTo, badD]
        | some r =>
          by_cases h3 : s.length = 3000
          · simp [eRowO, WalkTo, badD, h3]
          · have h3' : ¬ ((s.length : Int) = 3000) := by omega
            simp [eRowO, WalkTo, h3, h3', isL, hz, encRow]
            omega) ⟨by simp, none, none, none, rfl⟩
      rw [walk_rows] at w
      cases hw : rowsR numP k (0 + 1) [] rest.dropLast with
      | inl b =>
        rw [hw] at w
        obtain ⟨ρ', e2⟩ := w
        rw [e2]
        simp
      | inr rows =>
        rw [hw] at w
        obtain ⟨ρ', ⟨hrows, x, y, z, rfl⟩, e2⟩ := w
        rw [e2]
        obtain ⟨last, hlast⟩ : ∃ last, (l0 :: rest).getLast? = some last := by
          cases g : (l0 :: rest).getLast? with
          | none => simp at g
          | some x => exact ⟨x, rfl⟩
        have hix : ix (PyData.list (PyData.str (S l0) :: List.map (fun x => PyData.str (S x)) rest)) (PyData.int (-1)) = .ok (.str (S last)) := s_ix_last (by
          rw [← List.map_cons (f := fun x => PyData.str (S x)), List.getLast?_map, hlast]
          rfl)
        have hrl := rowsR_len hw
        have hok := rowsR_ok (by simp) hw
        have hk6 := headR_le hk
        simp at hrl
        simp [hix]
        by_cases hl : last = []
        · subst hl
          by_cases h3 : rows = []
          · have h3' : (rest.length : Int) + 1 < 3 := by
              rw [h3] at hrl
              simp at hrl
              omega
            simp [hlast, h3, h3', badD]
          · have h4 : 0 < rows.length := List.length_pos_iff.mpr h3
            have h3' : ¬ (rest.length : Int) + 1 < 3 := by omega
            simp [hlast, h3, h3']
            rw [enm_map]
            generalize hL2 : loopC _ _ _ _ _ _ = L2
            have w2 := loop_walk hL2 (fun (s : Unit) ρ => ∃ x y z : Option D, ρ = [some (B.val (PyData.str (S t))), some (B.own (MO.lst (PyData.str (S l0) :: List.map (fun x => PyData.str (S x)) rest))), some (B.val (PyData.int ↑k)), some (B.val (.list (rows.map encRow))), x.map .val, y.map .val, z.map .val, none]) (greatStep rows.length) () (by
              rintro ⟨r, a⟩ hm s ρ ⟨x, y, z, rfl⟩
              have hr : r ∈ rows := mem_zip hm
              simp [DI.run, callF, namesAll, noOwn, wipeE, unwipe, encRow, eNums]
              generalize hC : compC _ _ _ _ _ _ _ _ = L3
              have e3 := comp_mapL hC (fun v => .bool (decide (rows.length ≤ v))) (fun v _ => by
                simp [compB, DI.run, callF, namesAll, noOwn, wipeE, unwipe])
              subst e3
              have hz : r.2.length ≤ SZ := by rw [(hok r hr).1]; exact Nat.le_trans hk6.2 (by decide)
              simp [hz, any_mapB, -List.any_eq_true]
              unfold greatStep
              by_cases hg : (r.2.any fun v => decide (rows.length ≤ v)) = true
              · rw [if_pos hg, hg]
                simp [WalkTo, badD]
              · have hg' : (r.2.any fun v => decide (rows.length ≤ v)) = false := by simpa using hg
                rw [if_neg hg, hg']
                simp [WalkTo]) ⟨x, y, z, rfl⟩
            rw [walk_great] at w2
            cases hg : greatR rows.length (0 + 1) rows with
            | some b =>
              rw [hg] at w2
              obtain ⟨ρ', e3⟩ := w2
              rw [e3]
              simp at hg
              simp [hg]
            | none =>
              rw [hg] at w2
              obtain ⟨ρ', ⟨x, y, z, rfl⟩, e3⟩ := w2
              rw [e3]
              simp at hg
              have hzr : rows.length ≤ SZ := Nat.le_trans hrows (by decide)
              simp [hg]
              generalize hC1 : compC _ _ _ _ _ _ _ _ = C1
              have e4 := comp_mapL hC1 (fun r => eNums r.2) (fun r hr => by simp [compB, DI.run, callF, namesAll, noOwn, wipeE, unwipe, encRow])
              subst e4
              cases z <;>
              · simp [hzr]
                generalize hC2 : compC _ _ _ _ _ _ _ _ = C2
                have e5 := comp_mapL hC2 (fun r => .int (r.1 : Int)) (fun r hr => by simp [compB, DI.run, callF, namesAll, noOwn, wipeE, unwipe, encRow])
                subst e5
                simp [hzr]
        · simp [hlast, hl, badD]
end K76
end

section
set_option maxRecDepth 100000
/-! k76: _law_read. -/
namespace K76
open PySem L2 DI SX NumText
@[simp] theorem lit_d1 : (Str.ofString "1") = S [49] := by decide +kernel
@[simp] theorem lit_d2 : (Str.ofString "2") = S [50] := by decide +kernel
@[simp] theorem lit_d3 : (Str.ofString "3") = S [51] := by decide +kernel
@[simp] theorem lit_d4 : (Str.ofString "4") = S [52] := by decide +kernel
@[simp] theorem lit_d5 : (Str.ofString "5") = S [53] := by decide +kernel
@[simp] theorem lit_d6 : (Str.ofString "6") = S [54] := by decide +kernel
theorem nin_six (x : List Nat) : co .nin (.str (S x)) (.tuple [.str (S [49]), .str (S [50]), .str (S [51]), .str (S [52]), .str (S [53]), .str (S [54])]) = .ok (!(oneR x).isSome) := by
  rw [co_nin_tup _ _ (by rfl)]
  congr 2
  rcases x with _ | ⟨c, _ | ⟨d, r⟩⟩
  · rfl
  · simp only [oneR, List.any_cons, List.any_nil, PyData.eqv, S_beq_eq]
    by_cases h : 49 ≤ c ∧ c ≤ 54
    · rw [if_pos h]
      have : c = 49 ∨ c = 50 ∨ c = 51 ∨ c = 52 ∨ c = 53 ∨ c = 54 := by omega
      rcases this with rfl | rfl | rfl | rfl | rfl | rfl <;> rfl
    · rw [if_neg h]
      have h1 : ¬ 49 = c := by omega
      have h2 : ¬ 50 = c := by omega
      have h3 : ¬ 51 = c := by omega
      have h4 : ¬ 52 = c := by omega
      have h5 : ¬ 53 = c := by omega
      have h6 : ¬ 54 = c := by omega
      simp [h1, h2, h3, h4, h5, h6]
  · simp only [oneR, List.any_cons, List.any_nil, PyData.eqv, S_beq_eq]
    simp
theorem nin_words2 (w : List Nat) : co .nin (.str (S w)) (.tuple [.str (S wGood), .str (S wBad)]) = .ok (!(wordN w).isSome) := by
  rw [co_nin_tup _ _ (by rfl)]
  unfold wordN
  by_cases h1 : w = wBad
  · subst h1; rfl
  · by_cases h2 : w = wGood
    · subst h2; rfl
    · have h1' : ¬ S wBad = S w := fun e => h1 (S_inj e).symm
      have h2' : ¬ S wGood = S w := fun e => h2 (S_inj e).symm
      simp [PyData.eqv, h1, h2, h1', h2']
def encRowL (r : Row) : D := .tuple [eNums r.2, .int (r.1 : Int)]
theorem rng_zip {α : Type} (l : List α) : rngL 1 l.length = l.zipIdx.map fun p => .int (1 + (p.2 : Int)) := by
  have h : List.range l.length = l.zipIdx.map Prod.snd := by rw [List.zipIdx_map_snd, List.range_eq_range']
  unfold rngL
  rw [h, List.map_map]
  rfl
theorem zip_get {α : Type} {x : α} {i : Nat} {l : List α} (h : (x, i) ∈ l.zipIdx) : l[i]? = some x := by
  have := List.mem_zipIdx_iff_getElem?.mp h
  simpa using this
theorem drop_get {α : Type} {x : α} {i : Nat} {l : List α} (h : l.dropLast[i]? = some x) : l[i]? = some x := by
  rw [List.getElem?_dropLast] at h
  split at h
  · exact h
  · cases h
theorem s_ix_nat {xs : List D} {d : D} {k : Nat} {i : Int} (hi : i = k) (h : xs[k]? = some d) : ix (.list xs) (.int i) = .ok d := by
  subst hi
  exact s_ix_list (by rw [DI.atI_nat]; exact h)
theorem rows_shaped (rows : List Row) : SeqAt.shaped (.list (rows.map encRowL)) = true := by
  have nums : ∀ ns : List Nat, PyData.canLayAll0 (ns.map fun n : Nat => PyData.int (n : Int)) = true ∧ PyData.depthAll (ns.map fun n : Nat => PyData.int (n : Int)) ≤ 1 := by
    intro ns
    induction ns with
    | nil => exact ⟨rfl, Nat.zero_le _⟩
    | cons n ns ih => simp [PyData.canLayAll0, PyData.canLay0, PyData.depthAll, PyData.depth, ih.1]; omega
  have : PyData.canLayAll0 (rows.map encRowL) = true ∧ PyData.depthAll (rows.map encRowL) ≤ 3 := by
    induction rows with
    | nil => exact ⟨rfl, Nat.zero_le _⟩
    | cons r rows ih =>
      obtain ⟨a, b⟩ := nums r.2
      simp [PyData.canLayAll0, PyData.canLay0, PyData.depthAll, PyData.depth, encRowL, eNums, ih.1, a]
      omega
  unfold SeqAt.shaped
  simp [PyData.canLay0, PyData.depth, this.1]
  omega
theorem eq_nil_list {xs : List D} (h : SeqAt.shaped (.list xs) = true) : co .eq (.list xs) (.list []) = .ok (decide (xs = [])) ∧ co .ne (.list xs) (.list []) = .ok (!decide (xs = [])) := by
  have h2 : SeqAt.shaped (.list []) = true := rfl
  cases xs with
  | nil => exact ⟨rfl, rfl⟩
  | cons x xs => simp [co, h, h2, PyData.eqv, PyData.eqvAll]
theorem s_maxT {ns : List Nat} (h : ns ≠ []) : DI.bi .max [eNums ns] = .ok (.val (.int (maxI (ns.map fun n : Nat => (n : Int))))) := by
  cases ns with
  | nil => exact absurd rfl h
  | cons n ns =>
    have e : ints? ((n :: ns).map fun n : Nat => PyData.int (n : Int)) = some ((n :: ns).map fun n : Nat => (n : Int)) := ints_map (fun n : Nat => (n : Int)) (n :: ns)
    simp only [List.map_cons] at e
    simp only [eNums, DI.bi, e, List.map_cons]
theorem maxI_ge {n : Nat} {ns : List Nat} (h : ns ≠ []) : decide ((n : Int) ≤ maxI (ns.map fun n : Nat => (n : Int))) = ns.any fun v => decide (n ≤ v) := by
  cases ns with
  | nil => exact absurd rfl h
  | cons m ms =>
    obtain ⟨h1, h2⟩ := maxI_go (ms.map fun n : Nat => (n : Int)) (m : Int)
    have e : maxI ((m :: ms).map fun n : Nat => (n : Int)) = (ms.map fun n : Nat => (n : Int)).foldl (fun m x => if x > m then x else m) (m : Int) := rfl
    rw [e]
    generalize (ms.map fun n : Nat => (n : Int)).foldl (fun m x => if x > m then x else m) (m : Int) = M at h1 h2
    have e2 : ((m : Int) :: ms.map fun n : Nat => (n : Int)) = (m :: ms).map fun n : Nat => (n : Int) := rfl
    rw [e2] at h1 h2
    obtain ⟨v, mv, rfl⟩ := List.mem_map.mp h1
    cases hq : (m :: ms).any fun v => decide (n ≤ v) with
    | true =>
      obtain ⟨w, mw, hw⟩ := List.any_eq_true.mp hq
      have := h2 (w : Int) (List.mem_map.mpr ⟨w, mw, rfl⟩)
      have hw := of_decide_eq_true hw
      exact decide_eq_true (by omega)
    | false =>
      have hv := List.any_eq_false.mp hq v mv
      simp at hv
      exact decide_eq_false (by omega)
def great1 (n : Nat) (p : Row × Nat) : Option D := if p.1.2.any (fun v => decide (n ≤ v)) = true then some (.int (p.2 : Int)) else none
theorem great_filter {n : Nat} : ∀ (rs : List Row) (a : Nat), match greatR n (a + 1) rs with
    | none => (rs.zipIdx a).filterMap (great1 n) = []
    | some b => ∃ c r, b = c + 1 ∧ (rs.zipIdx a).filterMap (great1 n) = .int (c : Int) :: r
  | [], a => rfl
  | r :: rs, a => by
    simp only [List.zipIdx_cons, greatR, List.filterMap_cons, great1]
    by_cases h : (r.2.any fun v => decide (n ≤ v)) = true
    · simp only [if_pos h]
      exact ⟨a, _, rfl, rfl⟩
    · simp only [if_neg h]
      exact great_filter rs (a + 1)
theorem great_shaped (n : Nat) (ps : List (Row × Nat)) : SeqAt.shaped (.list (ps.filterMap (great1 n))) = true := shaped_list _ fun d m => by
  obtain ⟨p, _, e⟩ := List.mem_filterMap.mp m
  unfold great1 at e
  split at e
  · cases e; exact ⟨rfl, Nat.zero_le _⟩
  · cases e
theorem sem_law_read (t : List Nat) (h : t.length + 2 ≤ SZ) : F__law_read.sem [.val (.str (S t))] = .ok (.val (match readR numL t with | .inl a => badD a | .inr rows => .tuple [.tuple [.tuple (rows.map fun r => eNums r.2), .tuple (rows.map fun r => .int (r.1 : Int))], .none]), none) := by
  rw [sd__law_read, run_pos ⟨rfl, by decide, rfl⟩]
  simp only [C__law_read]
  simp [DI.run, callF, namesAll, noOwn, wipeE, unwipe, s_split, h]
  unfold readR
  have hmem : ∀ l ∈ sp 10 t, l.length + 2 ≤ SZ := fun l m => by have := sp_mem_len m; omega
  have hlen := sp_length 10 t
  cases e : sp 10 t with
  | nil => exact absurd e (sp_ne _ _)
  | cons l0 rest =>
    rw [e] at hmem hlen
    simp [s_split, hmem l0 (by simp)]
    rw [headR_one]
    rcases e0 : sp 32 l0 with _ | ⟨w, _ | ⟨x, _ | ⟨y, r⟩⟩⟩
    · exact absurd e0 (sp_ne _ _)
    · simp [badD]
    · simp
      by_cases hw : w = wCode
      · simp [hw, nin_six]
        cases hk : oneR x with
        | none => simp [badD]
        | some k =>
          obtain ⟨c, rfl, hc1, hc2, hck⟩ : ∃ c, x = [c] ∧ 49 ≤ c ∧ c ≤ 54 ∧ k = c - 48 := by
            rcases x with _ | ⟨c, _ | ⟨d, r⟩⟩
            · simp [oneR] at hk
            · simp only [oneR] at hk
              split at hk
              · rename_i g; cases hk; exact ⟨c, rfl, g.1, g.2, rfl⟩
              · cases hk
            · simp [oneR] at hk
          have hint : DI.bi .int [.str (S [c])] = .ok (.val (.int k)) := by
            rw [s_int_str (by simp [digB]; omega) (by simp) (by simp)]
            have v : digitsVal [c] = c - 48 := by show 0 * 10 + (c - 48) = c - 48; omega
            rw [v, hck]
          have hb : bnd62 1 = true := rfl
          have hb2 : bnd62 (rest.length : Int) = true := by
            unfold bnd62
            have : SZ = 16777216 := rfl
            simp at hlen
            simp
            omega
          have hn : ((rest.length : Int) - 1).toNat = rest.dropLast.length := by
            rw [List.length_dropLast]; omega
          simp [hb, hb2, hn]
          rw [← List.length_dropLast, rng_zip]
          generalize hL : loopC _ _ _ _ _ _ = L
          have wk := loop_walk hL (fun (s : List Row) ρ => s.length ≤ 3000 ∧ ∃ (x : Option D) (y z : Option B), ρ = [some (B.val (PyData.str (S t))), some (B.own (MO.lst (PyData.str (S l0) :: List.map (fun x => PyData.str (S x)) rest))), some (B.own (MO.lst [PyData.str (S wCode), PyData.str (S [c])])), some (B.own (MO.lst (s.map encRowL))), x.map .val, y, z, none, none, none]) (rowStep numL k) [] (by
            rintro ⟨l, a⟩ hm s ρ ⟨hs, x, y, z, rfl⟩
            have hg := drop_get (zip_get hm)
            have hl : l ∈ rest := List.mem_of_getElem? hg
            have hix : ix (PyData.list (PyData.str (S l0) :: List.map (fun x => PyData.str (S x)) rest)) (PyData.int (1 + (a : Int))) = .ok (.str (S l)) := s_ix_nat (k := a + 1) (by omega) (by simp [hg])
            have hl2 := hmem l (List.mem_cons_of_mem _ hl)
            have hz : s.length < SZ := Nat.lt_of_le_of_lt hs (by decide)
            simp [DI.run, callF, namesAll, noOwn, wipeE, unwipe, hix, s_split, hl2]
            have hmem2 : ∀ t ∈ sp 32 l, t.length ≤ SZ := fun t m => by have := sp_mem_len m; omega
            have hlen2 := sp_length 32 l
            unfold rowStep rowR
            cases e2 : sp 32 l with
            | nil => exact absurd e2 (sp_ne _ _)
            | cons w ts =>
              rw [e2] at hmem2 hlen2
              have hz2 : ts.length ≤ SZ := by simp at hlen2; omega
              simp
              generalize hC : compC _ _ _ _ _ _ _ _ = C
              have e3 := comp_mapL hC (fun t => encO (numL t)) (fun t m => by
                have := sem_law_count t (hmem2 t (List.mem_cons_of_mem _ m))
                simp [compB, DI.run, callF, namesAll, noOwn, wipeE, unwipe, ps__law_count, this])
              subst e3
              simp [hz2, nin_words2, none_in, hint]
              cases hw : wordN w with
              | none => simp [WalkTo, badD]; omega
              | some g =>
                simp
                by_cases hk : ts.length = k
                · have hk' : (ts.length : Int) = k := by omega
                  cases ha : okN numL ts with
                  | false => simp [hk, hk', WalkTo, badD]; omega
                  | true =>
                    simp [hk, hk', nums_map ha]
                    by_cases h3 : s.length = 3000
                    · simp [WalkTo, badD, h3]; omega
                    · have h3' : ¬ ((s.length : Int) = 3000) := by omega
                      have hgd : (if w = wGood then (1 : Int) else 0) = g := by
                        unfold wordN at hw
                        split at hw
                        · rename_i q; subst q; cases hw; rfl
                        · split at hw
                          · rename_i q; subst q; cases hw; rfl
                          · cases hw
                      by_cases hgw : w = wGood
                      · rw [if_pos hgw] at hgd
                        simp [h3, h3', isL, hgw, hz, WalkTo, encRowL, eNums, hgd, Function.comp_def]
                        omega
                      · rw [if_neg hgw] at hgd
                        simp [h3, h3', isL, hgw, hz, WalkTo, encRowL, eNums, hgd, Function.comp_def]
                        omega
                · have hk' : ¬ (ts.length : Int) = k := by omega
                  simp [hk, hk', WalkTo, badD]; omega) ⟨by simp, none, none, none, rfl⟩
          rw [walk_rows] at wk
          have hd1 : (S wCode) = (S wCode) := rfl
          cases hw : rowsR numL k (0 + 1) [] rest.dropLast with
          | inl b =>
            rw [hw] at wk
            obtain ⟨ρ', e2⟩ := wk
            rw [e2]
            simp at hw
            simp [hw]
          | inr rows =>
            rw [hw] at wk
            obtain ⟨ρ', ⟨hrows, x, y, z, rfl⟩, e2⟩ := wk
            rw [e2]
            obtain ⟨last, hlast⟩ : ∃ last, (l0 :: rest).getLast? = some last := by
              cases g : (l0 :: rest).getLast? with
              | none => simp at g
              | some x => exact ⟨x, rfl⟩
            have hix : ix (PyData.list (PyData.str (S l0) :: List.map (fun x => PyData.str (S x)) rest)) (PyData.int (-1)) = .ok (.str (S last)) := s_ix_last (by
              rw [← List.map_cons (f := fun x => PyData.str (S x)), List.getLast?_map, hlast]
              rfl)
            have hok := rowsR_ok (by simp) hw
            have hen := (eq_nil_list (rows_shaped rows)).1
            have hzr : rows.length ≤ SZ := Nat.le_trans hrows (by decide)
            simp at hw
            simp [hix]
            by_cases hl : last = []
            · subst hl
              by_cases h3 : rows = []
              · have hnil : co .eq (.list []) (.list []) = .ok true := rfl
                simp [hlast, hw, h3, badD, hnil]
              · simp [hlast, hw, hen, h3]
                rw [enm_map]
                generalize hC : compC _ _ _ _ _ _ _ _ = C
                have e3 := comp_filterL hC (great1 rows.length) (by
                  rintro ⟨r, a⟩ hm
                  have hr : r ∈ rows := mem_zip hm
                  have hk1 : r.2 ≠ [] := by
                    intro z
                    have := (hok r hr).1
                    rw [z] at this
                    simp at this
                    omega
                  have hmx := s_maxT hk1
                  simp [compB, DI.run, callF, namesAll, noOwn, wipeE, unwipe, encRowL, hmx]
                  have hge := maxI_ge (n := rows.length) hk1
                  have hge2 : (↑rows.length ≤ maxI (r.2.map fun n : Nat => (n : Int))) = ((r.2.any fun v => decide (rows.length ≤ v)) = true) := by
                    rw [← hge]
                    simp
                  simp only [hge2, great1]
                  split <;> rfl)
                subst e3
                have hfl := List.length_filterMap_le (great1 rows.length) rows.zipIdx
                have hfz : (rows.zipIdx.filterMap (great1 rows.length)).length ≤ SZ := by
                  simp at hfl
                  omega
                have hne := (eq_nil_list (great_shaped rows.length rows.zipIdx)).2
                have hg := great_filter (n := rows.length) rows 0
                simp [hfz, hne]
                cases hgr : greatR rows.length (0 + 1) rows with
                | some b =>
                  rw [hgr] at hg
                  obtain ⟨c', r', hb', hf⟩ := hg
                  simp at hgr
                  simp [hgr, hf, hb', badD]
                | none =>
                  rw [hgr] at hg
                  simp at hgr
                  simp only [] at hg
                  simp [hgr, hg]
                  generalize hC1 : compC _ _ _ _ _ _ _ _ = C1
                  have e4 := comp_mapL hC1 (fun r => eNums r.2) (fun r hr => by simp [compB, DI.run, callF, namesAll, noOwn, wipeE, unwipe, encRowL])
                  subst e4
                  simp [hzr]
                  generalize hC2 : compC _ _ _ _ _ _ _ _ = C2
                  have e5 := comp_mapL hC2 (fun r => .int (r.1 : Int)) (fun r hr => by simp [compB, DI.run, callF, namesAll, noOwn, wipeE, unwipe, encRowL])
                  subst e5
                  simp [hzr]
            · simp [hlast, hw, hl, badD]
      · simp [hw, badD]
    · have h3 : ¬ ((r.length : Int) + 1 + 1 + 1 = 2) := by omega
      simp [h3, badD]
end K76
end

section
set_option maxRecDepth 100000
/-! k76: text_by, _law_text. -/
namespace K76
open PySem L2 DI SX NumText
def eCode (rows : List Row) : D := .tuple [.tuple (rows.map fun r => eNums r.2), .tuple (rows.map fun r => PyData.int (r.1 : Int))]
@[simp] theorem lit_codesp : (Str.ofString "code ") = S (wCode ++ [32]) := by decide +kernel
theorem S_app (a b : List Nat) : S a ++ S b = S (a ++ b) := S_cat a b
theorem s_add_S {a b : List Nat} (h : a.length + b.length ≤ SZ) : bo .add (.str (S a)) (.str (S b)) = .ok (.val (.str (S (a ++ b)))) := by
  have h2 : (S a).length + (S b).length ≤ SZ := by rw [S_len, S_len]; exact h
  rw [s_add_str h2, S_cat]
theorem s_joinS {a : List Nat} {ys : List (List Nat)} (h : (ys.map (·.length)).sum + ys.length * a.length ≤ SZ) : DI.mt .join (.str (S a)) [.list (ys.map fun y => PyData.str (S y))] = .ok (.val (.str (S (TL.joinL a ys)))) := by
  have h1 : strs? (ys.map fun y => PyData.str (S y)) = some (ys.map S) := strs_map S ys
  have h2 : ((ys.map S).map (·.length)).sum + (ys.map S).length * (S a).length ≤ SZ := by
    rw [lens, List.length_map, S_len]; exact h
  rw [s_join h1 h2, join_S]
theorem joinL_nil : ∀ ys : List (List Nat), TL.joinL [] ys = ys.flatten
  | [] => rfl
  | [p] => by simp [TL.joinL]
  | p :: q :: r => by
    have := joinL_nil (q :: r)
    show p ++ ([] ++ TL.joinL [] (q :: r)) = _
    rw [this]
    simp
theorem zip_rows (rows : List Row) : List.zipWith (fun a b => PyData.tuple [a, b]) (rows.map fun r => eNums r.2) (rows.map fun r => PyData.int (r.1 : Int)) = rows.map fun r => PyData.tuple [eNums r.2, .int (r.1 : Int)] := by
  induction rows with
  | nil => rfl
  | cons r rows ih => simp [ih]
theorem dg_len4 {v : Nat} (h : v < 3000) : (dg v).length ≤ 4 := dg_len (by decide) (Nat.lt_of_lt_of_le h (by decide))
theorem word_len (g : Nat) : (wordR g).length ≤ 4 := by
  unfold wordR wGood wBad
  split <;> decide
theorem sum_dg {vs : List Nat} (h : ∀ v ∈ vs, v < 3000) : ((vs.map dg).map (·.length)).sum ≤ 4 * vs.length := by
  induction vs with
  | nil => simp
  | cons v vs ih =>
    have h1 := dg_len4 (h v List.mem_cons_self)
    have h2 := ih fun x m => h x (List.mem_cons_of_mem _ m)
    simp at h2 ⊢
    omega
theorem joinL_len (a : List Nat) : ∀ ys : List (List Nat), (TL.joinL a ys).length ≤ (ys.map (·.length)).sum + ys.length * a.length
  | [] => by simp [TL.joinL]
  | [p] => by simp [TL.joinL]
  | p :: q :: r => by
    have := joinL_len a (q :: r)
    show (p ++ (a ++ TL.joinL a (q :: r))).length ≤ _
    simp only [List.length_append, List.map_cons, List.sum_cons, List.length_cons] at this ⊢
    have e : (r.length + 1 + 1) * a.length = a.length + (r.length + 1) * a.length := by rw [Nat.add_mul (r.length + 1) 1, Nat.one_mul, Nat.add_comm]
    omega
/-- rows whose lines may be written -/
structure TR (k : Nat) (rows : List Row) : Prop where
  k6 : k ≤ 6
  n1 : rows ≠ []
  n3 : rows.length ≤ 3000
  len : ∀ r ∈ rows, r.2.length = k
  val : ∀ r ∈ rows, ∀ v ∈ r.2, v < 3000
  good : ∀ r ∈ rows, r.1 < 2
theorem VC.tr {k : Nat} {rows : List Row} (V : VC k rows) : TR k rows := ⟨V.k6, V.n1, V.n3, V.len, fun r m v mv => Nat.lt_of_lt_of_le (V.val r m v mv) V.n3, V.good⟩
theorem row_sum {k : Nat} {rows : List Row} (T : TR k rows) {r : Row} (h : r ∈ rows) : ((wordR r.1 :: r.2.map dg).map (·.length)).sum + (wordR r.1 :: r.2.map dg).length * 1 ≤ 40 := by
  have h1 := word_len r.1
  have h2 := sum_dg (T.val r h)
  have h3 := T.len r h
  have h4 := T.k6
  simp at h2 ⊢
  omega
theorem line_len {k : Nat} {rows : List Row} (T : TR k rows) {r : Row} (h : r ∈ rows) : (lineR r).length ≤ 40 := Nat.le_trans (joinL_len [32] _) (row_sum T h)
theorem lines_len {k : Nat} {rows : List Row} (T : TR k rows) : ∀ l ∈ linesR k rows, l.length ≤ 40 := by
  intro l m
  rcases List.mem_cons.mp m with e | m
  · have h6 := T.k6
    rw [e, dg_small (by omega)]
    simp [wCode]
  · obtain ⟨r, hr, rfl⟩ := List.mem_map.mp m
    exact line_len T hr
theorem sum_le {ls : List (List Nat)} {n : Nat} (h : ∀ l ∈ ls, l.length ≤ n) : (ls.map (·.length)).sum ≤ n * ls.length := by
  induction ls with
  | nil => simp
  | cons l ls ih =>
    have h1 := h l List.mem_cons_self
    have h2 := ih fun x m => h x (List.mem_cons_of_mem _ m)
    simp only [List.map_cons, List.sum_cons, List.length_cons, Nat.mul_succ]
    omega
theorem s_strN {v : Nat} (h : v < 3000) : DI.bi .str [.int (v : Int)] = .ok (.val (.str (S (dg v)))) := s_str_nat (Nat.lt_of_lt_of_le h (by decide))
theorem ix_word {g : Nat} (h : g < 2) : ix (.tuple [.str (S wBad), .str (S wGood)]) (.int (g : Int)) = .ok (.str (S (wordR g))) := by
  match g, h with
  | 0, _ => rfl
  | 1, _ => rfl
theorem sem_text_by {k : Nat} {rows : List Row} (T : TR k rows) : F_text_by.sem [.val (eCode rows)] = .ok (.val (.str (S (textR k rows))), none) := by
  rw [sd_text_by, run_pos ⟨rfl, by decide, rfl⟩]
  simp only [C_text_by]
  have hk6 := T.k6
  have hs := s_strN (v := k) (by omega)
  have hadd : bo .add (.str (S (wCode ++ [32]))) (.str (S (dg k))) = .ok (.val (.str (S (wCode ++ 32 :: dg k)))) := by
    rw [s_add_S (by rw [dg_small (by omega)]; exact (by decide : 6 ≤ SZ))]
    simp
  obtain ⟨r0, rows', hr0⟩ : ∃ r0 rows', rows = r0 :: rows' := by
    cases h : rows with
    | nil => exact absurd h T.n1
    | cons a b => exact ⟨a, b, rfl⟩
  have hlen0 : (eNums r0.2) = .tuple (r0.2.map fun n : Nat => PyData.int (n : Int)) := rfl
  have hl0 : r0.2.length = k := T.len r0 (by rw [hr0]; simp)
  have hidx : ix (.tuple (rows.map fun r => eNums r.2)) (.int 0) = .ok (eNums r0.2) := by rw [hr0]; simp
  simp [DI.run, callF, namesAll, noOwn, wipeE, unwipe, eCode, hidx, hlen0, hl0, hs, hadd, -List.map_map]
  generalize hL : loopC _ _ _ _ _ _ = L
  obtain ⟨ρ', ⟨x, y, rfl⟩, e⟩ := loop_preL hL (fun done ρ => ∃ x y : Option D, ρ = [some (.val (.tuple [.tuple (rows.map fun r => eNums r.2), .tuple (rows.map fun r => PyData.int (r.1 : Int))])), some (.own (.lst ((linesR k done).map fun l => PyData.str (S l)))), x.map .val, y.map .val, none, none]) (by
    rintro pre r rest ρ hr ⟨x, y, rfl⟩
    have hm : r ∈ rows := by rw [hr]; simp
    have hw := ix_word (T.good r hm)
    have hlen : r.2.length ≤ SZ := by rw [T.len r hm]; exact Nat.le_trans T.k6 (by decide)
    have hlen1 : 1 + r.2.length ≤ SZ := by rw [T.len r hm]; exact Nat.le_trans (Nat.add_le_add_left T.k6 1) (by decide)
    have hpre : (linesR k pre).length < SZ := by
      have h1 := congrArg List.length hr
      have h2 := T.n3
      have h3 : SZ = 16777216 := rfl
      simp [linesR] at h1 ⊢
      omega
    simp [DI.run, callF, namesAll, noOwn, wipeE, unwipe, isL, eNums, hw]
    generalize hC : compC _ _ _ _ _ _ _ _ = C
    have e1 := comp_mapL hC (fun v => .str (S (dg v))) (fun v hv => by
      have := s_strN (T.val r hm v hv)
      simp [compB, DI.run, callF, namesAll, noOwn, wipeE, unwipe, this])
    subst e1
    have hj := s_joinS (a := [32]) (ys := wordR r.1 :: r.2.map dg) (Nat.le_trans (row_sum T hm) (by decide))
    simp [Function.comp_def] at hj
    simp [linesR, Function.comp_def] at hpre
    simp [hlen, hlen1, hj, hpre, linesR, lineR, Function.comp_def]) ⟨none, none, by simp [linesR]⟩
  rw [e]
  simp
  generalize hC : compC _ _ _ _ _ _ _ _ = C
  have hll := lines_len T
  have e2 := comp_mapL hC (fun l => .str (S (l ++ [10]))) (fun l hl => by
    have := s_add_S (a := l) (b := [10]) (by have := hll l hl; have h3 : SZ = 16777216 := rfl; simp; omega)
    simp [compB, DI.run, callF, namesAll, noOwn, wipeE, unwipe, this])
  subst e2
  have hn : (linesR k rows).length ≤ SZ := by
    have h2 := T.n3
    have h3 : SZ = 16777216 := rfl
    simp [linesR]
    omega
  have hj := s_joinS (a := []) (ys := (linesR k rows).map fun l => l ++ [10]) (by
    have h1 := sum_le (ls := (linesR k rows).map fun l => l ++ [10]) (n := 41) (fun l m => by
      obtain ⟨l', m', rfl⟩ := List.mem_map.mp m
      have := hll l' m'
      simp
      omega)
    have h2 := T.n3
    have h3 : SZ = 16777216 := rfl
    have h4 : (linesR k rows).length = rows.length + 1 := by simp [linesR]
    rw [List.length_map, h4] at h1
    simp only [List.length_nil, Nat.mul_zero, Nat.add_zero]
    omega)
  rw [joinL_nil] at hj
  simp [Function.comp_def] at hj
  simp [hn, hj, textR, List.flatMap]

theorem sem_law_text {k : Nat} {rows : List Row} (T : TR k rows) : F__law_text.sem [.val (eCode rows)] = .ok (.val (.str (S (textR k rows))), none) := by
  rw [sd__law_text, run_pos ⟨rfl, by decide, rfl⟩]
  simp only [C__law_text]
  have hk6 := T.k6
  have hs := s_strN (v := k) (by omega)
  have hadd : bo .add (.str (S (wCode ++ [32]))) (.str (S (dg k))) = .ok (.val (.str (S (wCode ++ 32 :: dg k)))) := by
    rw [s_add_S (by rw [dg_small (by omega)]; exact (by decide : 6 ≤ SZ))]
    simp
  obtain ⟨r0, rows', hr0⟩ : ∃ r0 rows', rows = r0 :: rows' := by
    cases h : rows with
    | nil => exact absurd h T.n1
    | cons a b => exact ⟨a, b, rfl⟩
  have hlen0 : (eNums r0.2) = .tuple (r0.2.map fun n : Nat => PyData.int (n : Int)) := rfl
  have hl0 : r0.2.length = k := T.len r0 (by rw [hr0]; simp)
  have hidx : ix (.tuple (rows.map fun r => eNums r.2)) (.int 0) = .ok (eNums r0.2) := by rw [hr0]; simp
  have h2 := T.n3
  have h3 : SZ = 16777216 := rfl
  have hz : rows.length ≤ SZ := by omega
  have hz1 : 1 + rows.length ≤ SZ := by omega
  have hz2 : rows.length + 1 ≤ SZ := by omega
  simp [DI.run, callF, namesAll, noOwn, wipeE, unwipe, eCode, hidx, hlen0, hl0, hs, hadd, -List.map_map]
  generalize hC : compC _ _ _ _ _ _ _ _ = C
  have e1 := comp_mapL hC (fun r => .str (S (lineR r))) (fun r hm => by
    have hlen : r.2.length ≤ SZ := by rw [T.len r hm]; exact Nat.le_trans T.k6 (by decide)
    have hlen1 : 1 + r.2.length ≤ SZ := by rw [T.len r hm]; exact Nat.le_trans (Nat.add_le_add_left T.k6 1) (by decide)
    have hw : (if (r.1 : Int) = 1 then wGood else wBad) = wordR r.1 := by
      unfold wordR
      by_cases h : r.1 = 1
      · rw [if_pos h, if_pos (by omega)]
      · rw [if_neg h, if_neg (by omega)]
    have hj := s_joinS (a := [32]) (ys := wordR r.1 :: r.2.map dg) (Nat.le_trans (row_sum T hm) (by decide))
    simp [Function.comp_def] at hj
    have hg : ((r.1 : Int) = 1) = (r.1 = 1) := propext ⟨fun _ => by omega, fun _ => by omega⟩
    simp [compB, DI.run, callF, namesAll, noOwn, wipeE, unwipe, eNums, hg]
    by_cases h : r.1 = 1
    · have hwr : wordR r.1 = wGood := by simp [wordR, h]
      have hwr1 : wordR 1 = wGood := rfl
      rw [hwr] at hj
      simp [h]
      generalize hC2 : compC _ _ _ _ _ _ _ _ = C2
      have e2 := comp_mapL hC2 (fun v => .str (S (dg v))) (fun v hv => by
        have := s_strN (T.val r hm v hv)
        simp [compB, DI.run, callF, namesAll, noOwn, wipeE, unwipe, this])
      subst e2
      simp [hlen, hlen1, lineR, hj, hwr, hwr1, h]
    · have hwr : wordR r.1 = wBad := by simp [wordR, h]
      have hwr1 : wordR 0 = wBad := rfl
      rw [hwr] at hj
      simp [h]
      generalize hC2 : compC _ _ _ _ _ _ _ _ = C2
      have e2 := comp_mapL hC2 (fun v => .str (S (dg v))) (fun v hv => by
        have := s_strN (T.val r hm v hv)
        simp [compB, DI.run, callF, namesAll, noOwn, wipeE, unwipe, this])
      subst e2
      simp [hlen, hlen1, lineR, hj, hwr, hwr1, h])
  subst e1
  have hll := lines_len T
  simp [hz, hz1]
  generalize hC : compC _ _ _ _ _ _ _ _ = C
  have hC' : compC (Ge.of L__law_text cs) none (.name 5) none (.bin .add (.var 5) (.lit (.str (S [10])))) [5] ((linesR k rows).map fun l => PyData.str (S l)) [some (.val (eCode rows)), some (.val (.list ((linesR k rows).map fun l => PyData.str (S l)))), none, none, none, none] = C := by
    rw [← hC]
    simp [linesR, eCode, eNums, Function.comp_def]
  have e2 := comp_mapL hC' (fun l => .str (S (l ++ [10]))) (fun l hl => by
    have := s_add_S (a := l) (b := [10]) (by have := hll l hl; simp; omega)
    simp [compB, DI.run, callF, namesAll, noOwn, wipeE, unwipe, this])
  subst e2
  have hn : (linesR k rows).length ≤ SZ := by
    simp [linesR]
    omega
  have hj := s_joinS (a := []) (ys := (linesR k rows).map fun l => l ++ [10]) (by
    have h1 := sum_le (ls := (linesR k rows).map fun l => l ++ [10]) (n := 41) (fun l m => by
      obtain ⟨l', m', rfl⟩ := List.mem_map.mp m
      have := hll l' m'
      simp
      omega)
    have h4 : (linesR k rows).length = rows.length + 1 := by simp [linesR]
    rw [List.length_map, h4] at h1
    simp only [List.length_nil, Nat.mul_zero, Nat.add_zero]
    omega)
  rw [joinL_nil] at hj
  simp [Function.comp_def] at hj
  simp [hn, hj, textR, List.flatMap]
end K76
end

section
set_option maxRecDepth 100000
/-! k76: small data, shown; bent values. -/
namespace K76
open PySem L2 DI SX NumText
mutual
def sm : D → Bool
  | .none => true
  | .bool _ => true
  | .int i => decide (i = -1 ∨ (0 ≤ i ∧ i < 1000000))
  | .str x => PyData.strOk x && decide ((PyData.shown (.str x)).length ≤ 30)
  | .list xs => sms xs
  | .tuple xs => sms xs
  | .dict _ => false
def sms : List D → Bool
  | [] => true
  | x :: xs => sm x && sms xs
end
mutual
def wt : D → Nat
  | .list xs => wts xs + 1
  | .tuple xs => wts xs + 1
  | _ => 1
def wts : List D → Nat
  | [] => 0
  | x :: xs => wt x + wts xs
end
theorem shown_int {i : Int} (h : i = -1 ∨ (0 ≤ i ∧ i < 1000000)) : (PyData.shown (.int i)).length ≤ 10 := by
  rcases h with rfl | ⟨h1, h2⟩
  · have : (PyData.shown (.int (-1))).length = 2 := by decide +kernel
    omega
  · obtain ⟨m, rfl⟩ := Int.eq_ofNat_of_zero_le h1
    have e : PyData.shown (.int ((m : Nat) : Int)) = S (dg m) := by
      simp only [PyData.shown]
      exact DI.num_S m
    rw [e, S_len]
    exact Nat.le_trans (dg_len (k := 6) (by decide) (by omega)) (by decide)
theorem wt_pos : ∀ d : D, 1 ≤ wt d
  | .none => by simp [wt]
  | .bool _ => by simp [wt]
  | .int _ => by simp [wt]
  | .str _ => by simp [wt]
  | .list _ => by simp [wt]
  | .tuple _ => by simp [wt]
  | .dict _ => by simp [wt]
mutual
theorem sm_rep : ∀ d : D, sm d = true → pl d = true ∧ PyData.showable d = true ∧ PyData.canLay0 d = true ∧ (PyData.shown d).length + 2 ≤ 40 * wt d
  | .none, _ => by refine ⟨rfl, rfl, rfl, ?_⟩; have : (PyData.shown .none).length = 4 := by decide +kernel
                   simp only [wt]; omega
  | .bool b, _ => by
    refine ⟨rfl, rfl, rfl, ?_⟩
    have : (PyData.shown (.bool b)).length ≤ 5 := by cases b <;> decide +kernel
    simp only [wt]; omega
  | .int i, h => by
    have h' : i = -1 ∨ (0 ≤ i ∧ i < 1000000) := by simpa [sm] using h
    refine ⟨rfl, ?_, rfl, ?_⟩
    · simp only [PyData.showable, decide_eq_true_eq]
      have : i.natAbs < 2 ^ 20 := by omega
      exact Nat.lt_of_lt_of_le (PySem.Flt.log2_lt_of (by decide) this) (by decide)
    · have := shown_int h'
      simp only [wt]; omega
  | .str x, h => by
    have h' : PyData.strOk x = true ∧ (PyData.shown (.str x)).length ≤ 30 := by simpa [sm] using h
    refine ⟨rfl, rfl, by simpa [PyData.canLay0] using h'.1, ?_⟩
    have := h'.2
    simp only [wt]; omega
  | .list xs, h => by
    obtain ⟨h1, h2, h3, h4⟩ := sms_rep xs (by simpa [sm] using h)
    refine ⟨by simpa [pl] using h1, by simpa [PyData.showable] using h2, by simpa [PyData.canLay0] using h3, ?_⟩
    have := listText_len_le (PyData.shownAll xs)
    simp only [PyData.shown, wt]
    omega
  | .tuple xs, h => by
    obtain ⟨h1, h2, h3, h4⟩ := sms_rep xs (by simpa [sm] using h)
    refine ⟨by simpa [pl] using h1, by simpa [PyData.showable] using h2, by simpa [PyData.canLay0] using h3, ?_⟩
    have := tupleText_len_le (PyData.shownAll xs)
    simp only [PyData.shown, wt]
    omega
  | .dict _, h => by simp [sm] at h
theorem sms_rep : ∀ xs : List D, sms xs = true → pls xs = true ∧ PyData.showableAll xs = true ∧ PyData.canLayAll0 xs = true ∧ ((PyData.shownAll xs).map (·.length)).sum + 2 * (PyData.shownAll xs).length ≤ 40 * wts xs
  | [], _ => ⟨rfl, rfl, rfl, Nat.le_refl _⟩
  | x :: xs, h => by
    have h' : sm x = true ∧ sms xs = true := by simpa [sms] using h
    obtain ⟨a1, a2, a3, a4⟩ := sm_rep x h'.1
    obtain ⟨b1, b2, b3, b4⟩ := sms_rep xs h'.2
    refine ⟨by simp [pls, a1, b1], by simp [PyData.showableAll, a2, b2], by simp [PyData.canLayAll0, a3, b3], ?_⟩
    simp only [PyData.shownAll, wts, List.map_cons, List.sum_cons, List.length_cons]
    omega
end
theorem s_repr {d : D} (h : sm d = true) (hd : d.depth ≤ 64) (hw : wt d ≤ 400000) : DI.bi .repr [d] = .ok (.val (.str d.shown)) := by
  obtain ⟨h1, h2, h3, h4⟩ := sm_rep d h
  have h5 : (PyData.shown d).length ≤ SZ := by have : SZ = 16777216 := rfl; omega
  have hc : (pl d && d.showable && decide (d.depth ≤ 64) && decide (d.shown.length ≤ SZ)) = true := by simp [h1, h2, hd, h5]
  simp only [DI.bi]
  exact if_pos hc
theorem sm_shaped {d : D} (h : sm d = true) (hd : d.depth ≤ 64) : SeqAt.shaped d = true := by
  unfold SeqAt.shaped
  simp [(sm_rep d h).2.2.1, hd]
theorem sms_app : ∀ xs ys : List D, sms (xs ++ ys) = (sms xs && sms ys)
  | [], ys => by simp [sms]
  | x :: xs, ys => by simp [sms, sms_app xs ys, Bool.and_assoc]
theorem wts_app : ∀ xs ys : List D, wts (xs ++ ys) = wts xs + wts ys
  | [], ys => by simp [wts]
  | x :: xs, ys => by simp [wts, wts_app xs ys, Nat.add_assoc]
theorem dep_app : ∀ xs ys : List D, PyData.depthAll (xs ++ ys) = max (PyData.depthAll xs) (PyData.depthAll ys)
  | [], ys => by simp [PyData.depthAll]
  | x :: xs, ys => by simp [PyData.depthAll, dep_app xs ys, Nat.max_assoc]
structure Sm (n w : Nat) (d : D) : Prop where
  sm : sm d = true
  dep : d.depth ≤ n
  wt : wt d ≤ w
structure Sms (n w : Nat) (xs : List D) : Prop where
  sm : sms xs = true
  dep : PyData.depthAll xs ≤ n
  wt : wts xs ≤ w
theorem Sm.mono {n w m v : Nat} {d : D} (h : Sm n w d) (h1 : n ≤ m) (h2 : w ≤ v) : Sm m v d := ⟨h.sm, Nat.le_trans h.dep h1, Nat.le_trans h.wt h2⟩
theorem Sms.mono {n w m v : Nat} {d : List D} (h : Sms n w d) (h1 : n ≤ m) (h2 : w ≤ v) : Sms m v d := ⟨h.sm, Nat.le_trans h.dep h1, Nat.le_trans h.wt h2⟩
theorem Sms.nil {n w : Nat} : Sms n w [] := ⟨rfl, Nat.zero_le _, Nat.zero_le _⟩
theorem Sms.cons {n w v : Nat} {x : D} {xs : List D} (h : Sm n w x) (g : Sms n v xs) : Sms n (w + v) (x :: xs) := by
  obtain ⟨a, b, c⟩ := h
  obtain ⟨a', b', c'⟩ := g
  refine ⟨by simp [sms, a, a'], by simp [PyData.depthAll]; omega, by simp [wts]; omega⟩
theorem Sms.app {n w v : Nat} {xs ys : List D} (h : Sms n w xs) (g : Sms n v ys) : Sms n (w + v) (xs ++ ys) := by
  obtain ⟨a, b, c⟩ := h
  obtain ⟨a', b', c'⟩ := g
  refine ⟨by simp [sms_app, a, a'], by rw [dep_app]; omega, by rw [wts_app]; omega⟩
theorem Sms.left {n w : Nat} {xs ys : List D} (h : Sms n w (xs ++ ys)) : Sms n w xs := by
  obtain ⟨a, b, c⟩ := h
  rw [sms_app, Bool.and_eq_true] at a
  rw [dep_app] at b
  rw [wts_app] at c
  exact ⟨a.1, by omega, by omega⟩
theorem Sms.right {n w : Nat} {xs ys : List D} (h : Sms n w (xs ++ ys)) : Sms n w ys := by
  obtain ⟨a, b, c⟩ := h
  rw [sms_app, Bool.and_eq_true] at a
  rw [dep_app] at b
  rw [wts_app] at c
  exact ⟨a.2, by omega, by omega⟩
theorem Sms.take {n w k : Nat} {xs : List D} (h : Sms n w xs) : Sms n w (xs.take k) := Sms.left (ys := xs.drop k) (by rw [List.take_append_drop]; exact h)
theorem Sms.drop {n w k : Nat} {xs : List D} (h : Sms n w xs) : Sms n w (xs.drop k) := Sms.right (xs := xs.take k) (by rw [List.take_append_drop]; exact h)
theorem Sms.cut {n w : Nat} {lo hi : Option Int} {xs : List D} (h : Sms n w xs) : Sms n w (cutD xs lo hi) := h.drop.take
theorem Sms.rev {n w : Nat} : ∀ {xs : List D}, Sms n w xs → Sms n w xs.reverse
  | [], h => h
  | x :: xs, h => by
    have hx : Sms n w [x] := Sms.left (xs := [x]) (ys := xs) h
    have ht := Sms.rev (Sms.right (xs := [x]) (ys := xs) h)
    obtain ⟨a, b, c⟩ := hx
    obtain ⟨a', b', c'⟩ := ht
    have e : wts xs.reverse = wts xs := by
      clear a b c a' b' c' h
      induction xs with
      | nil => rfl
      | cons y ys ih => rw [List.reverse_cons, wts_app, ih]; simp [wts]; omega
    have hw := h.wt
    rw [List.reverse_cons]
    refine ⟨by simp [sms_app, a, a'], by rw [dep_app]; omega, ?_⟩
    rw [wts_app, e]
    simp [wts] at hw ⊢
    omega
theorem Sms.mem {n w : Nat} {x : D} : ∀ {xs : List D}, Sms n w xs → x ∈ xs → Sm n w x
  | y :: ys, h, m => by
    rcases List.mem_cons.mp m with e | m
    · obtain ⟨a, b, c⟩ := Sms.left (xs := [y]) (ys := ys) h
      rw [e]
      exact ⟨by simpa [sms] using a, by simpa [PyData.depthAll] using b, by simpa [wts] using c⟩
    · exact Sms.mem (Sms.right (xs := [y]) (ys := ys) h) m
theorem Sms.len {n w : Nat} : ∀ {xs : List D}, Sms n w xs → xs.length ≤ w := by
  intro xs h
  refine Nat.le_trans ?_ h.wt
  clear h
  induction xs with
  | nil => exact Nat.le_refl _
  | cons x xs ih =>
    have := wt_pos x
    simp [wts]
    omega
theorem Sms.tup {n w : Nat} {xs : List D} (h : Sms n w xs) : Sm (n + 1) (w + 1) (.tuple xs) := ⟨by simpa [K76.sm] using h.sm, by simpa [PyData.depth] using h.dep, by simpa [K76.wt] using h.wt⟩
theorem Sms.lst {n w : Nat} {xs : List D} (h : Sms n w xs) : Sm (n + 1) (w + 1) (.list xs) := ⟨by simpa [K76.sm] using h.sm, by simpa [PyData.depth] using h.dep, by simpa [K76.wt] using h.wt⟩
theorem Sm.items {n w : Nat} {xs : List D} (h : Sm n w (.tuple xs)) : Sms n w xs := ⟨by simpa [K76.sm] using h.sm, by have := h.dep; simp [PyData.depth] at this; omega, by have := h.wt; simp [K76.wt] at this; omega⟩
theorem Sm.pl {n w : Nat} {d : D} (h : Sm n w d) : DI.pl d = true := (sm_rep d h.sm).1
end K76
end

section
set_option maxRecDepth 100000
/-! k76: _law_bent. -/
namespace K76
open PySem L2 DI SX NumText
theorem pick_pot {o : MO} (h : PotOk o) (xs : List D) (h1 : 1 ≤ xs.length) (h2 : xs.length < 1073741824) : ∃ d ∈ xs, ∃ o' : MO, PotOk o' ∧ F__law_pick.sem [.own o, .val (.list xs)] = .ok (.val d, some o') := by
  obtain ⟨a, b, ha, hb, rfl⟩ := h
  obtain ⟨i, d, a', b', hi, ha', hb', e⟩ := sem_pick a b ha hb xs h1 h2
  exact ⟨d, List.mem_of_getElem? hi, _, ⟨a', b', ha', hb', rfl⟩, e⟩
/-- what is bent: the ways -/
def WayOk (e : D) : Prop := ∃ (xs : List D) (i : Nat), e = .tuple [.tuple xs, .int (i : Int)] ∧ i < xs.length ∧ Sms 10 1000 xs
theorem odds_ok {here : D} (h : Sm 10 1000 here) : ∀ d ∈ ([.none, .int 0, .int 1, .int 2, .int 9, .int (-1), .bool true, .str (S [48]), .tuple [], .list [here], .tuple [here], .tuple [.int 0], .tuple [.int 0, .int 0]] : List D), Sm 12 3000 d := by
  have h1 : Sms 10 (1000 + 0) [here] := Sms.cons h Sms.nil
  intro d m
  simp only [List.mem_cons, List.not_mem_nil, or_false] at m
  rcases m with rfl | rfl | rfl | rfl | rfl | rfl | rfl | rfl | rfl | rfl | rfl | rfl | rfl
  all_goals first
    | exact h1.lst.mono (by decide) (by decide)
    | exact h1.tup.mono (by decide) (by decide)
    | exact ⟨by decide +kernel, by decide +kernel, by decide +kernel⟩
theorem tup_ok {xs : List D} (h : Sm 10 1000 (.tuple xs)) : ∀ d ∈ ([.list xs, .tuple (cutD xs none (some (-1))), .tuple (xs ++ cutD xs (some (-1)) none), .tuple xs.reverse] : List D), Sm 12 3000 d := by
  have h1 := h.items
  intro d m
  simp only [List.mem_cons, List.not_mem_nil, or_false] at m
  rcases m with rfl | rfl | rfl | rfl
  · exact h1.lst.mono (by decide) (by decide)
  · exact h1.cut.tup.mono (by decide) (by decide)
  · exact (h1.app h1.cut).tup.mono (by decide) (by decide)
  · exact h1.rev.tup.mono (by decide) (by decide)
theorem isi_pl (d : D) (h : DI.pl d = true) : isi d "tuple" = some (isTup d) := isi_tup d h
theorem sem_bent {o : MO} (ho : PotOk o) {v : D} (hv : Sm 10 1000 v) : ∃ (r : D) (o' : MO), PotOk o' ∧ Sm 40 10000 r ∧ F__law_bent.sem [.own o, .val v] = .ok (.val r, some o') := by
  rw [sd__law_bent, run_pos ⟨rfl, by decide, rfl⟩]
  simp only [C__law_bent]
  obtain ⟨k, o1, hk, ho1, e1⟩ := draw_pot ho 4 (by decide) (by decide)
  have e1' : F__law_draw.sem [B.own o, B.val (PyData.int 4)] = .ok (.val (.int k), some o1) := e1
  have hb : bnd62 (k : Int) = true := bnd_ok (by omega) (by omega)
  simp [DI.run, callF, namesAll, noOwn, wipeE, unwipe, DI.settle, setvs, puts, news, ps__law_draw, e1', hb]
  generalize hL : loopC _ _ _ _ _ _ = L
  obtain ⟨ρ', ⟨o2, way, here, x, ho2, hway, hlen, hhere, rfl⟩, e2⟩ := loop_pre hL (fun done ρ => ∃ (o : MO) (way : List D) (here : D) (x : Option D), PotOk o ∧ (∀ e ∈ way, WayOk e) ∧ way.length ≤ done.length ∧ Sm 10 1000 here ∧
      ρ = [some (.own o), some (.val v), some (.own (.lst way)), some (.val here), x.map .val, none, none, none, none]) (by
    rintro pre d rest ρ hd ⟨o, way, here, x, ho, hway, hlen, hhere, rfl⟩
    have hi := isi_pl here hhere.pl
    have hdl : pre.length < 4 := by
      have := congrArg List.length hd
      simp [rngL] at this
      omega
    simp [DI.run, callF, namesAll, noOwn, wipeE, unwipe, hi]
    cases here with
    | tuple xs =>
      have hsh := sm_shaped hhere.sm (Nat.le_trans hhere.dep (by decide))
      have hne : co .ne (.tuple xs) (.tuple []) = .ok (!decide (xs = [])) := by
        have h2 : SeqAt.shaped (.tuple []) = true := rfl
        cases xs with
        | nil => rfl
        | cons x xs => simp [co, hsh, h2, PyData.eqv, PyData.eqvAll]
      simp [hne]
      by_cases hx : xs = []
      · subst hx
        simp
        exact ⟨o, ho, way, hway, by omega, _, hhere, rfl, rfl, rfl⟩
      · have hpos : 0 < xs.length := List.length_pos_iff.mpr hx
        have hl1 := hhere.items.len
        obtain ⟨i, o', hi', ho', e⟩ := draw_pot ho xs.length (by omega) (by omega)
        simp [hx, isL, ps__law_draw, e]
        have hlast : ix (PyData.list (way ++ [PyData.tuple [PyData.tuple xs, PyData.int ↑i]])) (PyData.int (-1)) = .ok (.tuple [PyData.tuple xs, PyData.int ↑i]) := s_ix_last (by simp)
        have hix : ix (.tuple xs) (.int (i : Int)) = .ok xs[i] := s_ix_tuple (by rw [DI.atI_nat]; simp [hi'])
        have hz : way.length < SZ := by have : SZ = 16777216 := rfl; omega
        simp [hlast, hix, hz]
        refine ⟨o', ho', way ++ [.tuple [.tuple xs, .int (i : Int)]], ?_, by simp; omega, _, hhere.items.mem (List.getElem_mem hi') |>.mono (by decide) (by decide), rfl, rfl, rfl⟩
        intro e m
        rcases List.mem_append.mp m with m | m
        · exact hway e m
        · rw [List.mem_singleton.mp m]
          exact ⟨xs, i, rfl, hi', hhere.items.mono (by decide) (by decide)⟩
    | dict _ => have := hhere.pl; simp [DI.pl] at this
    | _ => simp; exact ⟨o, ho, way, hway, by omega, _, hhere, rfl, rfl, rfl⟩) ⟨o1, [], v, none, ho1, by simp, by simp, hv, by simp⟩
  rw [e2]
  have hwl : way.length ≤ 3 := by simp [rngL] at hlen; omega
  have hi := isi_pl here hhere.pl
  have hodds := odds_ok hhere
  have key : ∀ (late : D) (o3 : MO) (odds : Option B), Sm 12 3000 late → ∃ (late' : D) (a b : Option D), Sm 40 10000 late' ∧ loopC (Ge.of L__law_bent cs) (some 0) (.tup (.cons (.name 7) (.cons (.name 8) .nil))) (.cons (.asg (.name 6) (.bin .add (.bin .add (.slc (.var 7) (.lit .none) (.bnd (.var 8))) (.tup (.cons (.var 6) .nil))) (.slc (.var 7) (.bnd (.bin .add (.var 8) (.lit (.int 1)))) (.lit .none)))) .nil) way.reverse
      [some (.own o3), some (.val v), some (.own (.lst way)), some (.val here), x.map .val, odds, some (.val late), none, none] = .ok (.next, [some (.own o3), some (.val v), some (.own (.lst way)), some (.val here), x.map .val, odds, some (.val late'), a.map .val, b.map .val]) := by
    intro late o3 odds hlate
    generalize hL2 : loopC _ _ _ _ _ _ = L2
    obtain ⟨ρ', ⟨late', a, b, hl', rfl⟩, e3⟩ := loop_pre hL2 (fun done ρ => ∃ (late : D) (a b : Option D), Sm (12 + done.length) (3000 + 1001 * done.length) late ∧ ρ = [some (.own o3), some (.val v), some (.own (.lst way)), some (.val here), x.map .val, odds, some (.val late), a.map .val, b.map .val]) (by
      rintro pre d rest ρ hd ⟨late, a, b, hl, rfl⟩
      obtain ⟨xs, i, rfl, hi', hxs⟩ := hway d (by
        have : d ∈ way.reverse := by rw [hd]; simp
        simpa using this)
      have hpl : pre.length < 3 := by
        have := congrArg List.length hd
        simp at this
        omega
      have h1 : Sms (12 + pre.length) (1000 + (3000 + 1001 * pre.length + 0)) (cutD xs none (some (i : Int)) ++ [late]) := Sms.app (hxs.cut.mono (by omega) (Nat.le_refl _)) (Sms.cons hl Sms.nil)
      have h2 : Sms (12 + pre.length) (1000 + (3000 + 1001 * pre.length + 0)) ((cutD xs none (some (i : Int)) ++ [late]) ++ cutD xs (some ((i : Int) + 1)) none) := by
        have e : wts ((cutD xs none (some (i : Int)) ++ [late]) ++ cutD xs (some ((i : Int) + 1)) none) ≤ 1000 + (3000 + 1001 * pre.length + 0) := by
          have c1 : cutD xs none (some (i : Int)) = xs.take i := by
            unfold cutD
            rw [HT.sIx_none, HT.sIx_nat]
            simp [Nat.min_eq_left (Nat.le_of_lt hi')]
          have c2 : cutD xs (some ((i : Int) + 1)) none = xs.drop (i + 1) := by
            unfold cutD
            rw [HT.sIx_none, show ((i : Int) + 1) = ((i + 1 : Nat) : Int) from rfl, HT.sIx_nat, Nat.min_eq_left hi', List.take_of_length_le (by rw [List.length_drop]; omega)]
          rw [c1, c2, wts_app, wts_app]
          have e1 : wts xs = wts (xs.take i) + wts (xs.drop i) := by rw [← wts_app, List.take_append_drop]
          have e2 : wts (xs.drop i) = wt xs[i] + wts (xs.drop (i + 1)) := by
            rw [List.drop_eq_getElem_cons hi']
            rfl
          have h3 := hxs.wt
          have h4 := hl.wt
          simp only [wts]
          omega
        have h3 := Sms.app h1 ((hxs.cut (lo := some ((i : Int) + 1)) (hi := none)).mono (m := 12 + pre.length) (by omega) (Nat.le_refl _))
        exact ⟨h3.sm, h3.dep, e⟩
      have l1 := h1.len
      have l2 := h2.len
      have hz : SZ = 16777216 := rfl
      have l3 : (cutD xs none (some (i : Int))).length + 1 ≤ SZ := by simp at l1; omega
      have l4 : (cutD xs none (some (i : Int))).length + (1 + (cutD xs (some ((i : Int) + 1)) none).length) ≤ SZ := by simp at l2; omega
      have l5 : (cutD xs none (some (i : Int))).length + 1 + (cutD xs (some ((i : Int) + 1)) none).length ≤ SZ := by simp at l2; omega
      have h6 := h2.tup
      simp at h6
      simp [DI.run, callF, namesAll, noOwn, wipeE, unwipe, l3, l4, l5]
      exact h6.mono (by omega) (by omega)) ⟨late, none, none, by simpa using hlate, rfl⟩
    rw [e3]
    simp at hl'
    exact ⟨late', a, b, hl'.mono (by omega) (by omega), rfl⟩
  have hz13 : 13 ≤ SZ := by decide
  have hz17 : 17 ≤ SZ := by decide
  cases here with
  | tuple xs =>
    obtain ⟨late, hm, o3, ho3, ep⟩ := pick_pot ho2 ([.none, .int 0, .int 1, .int 2, .int 9, .int (-1), .bool true, .str (S [48]), .tuple [], .list [.tuple xs], .tuple [.tuple xs], .tuple [.int 0], .tuple [.int 0, .int 0]] ++ [.list xs, .tuple (cutD xs none (some (-1))), .tuple (xs ++ cutD xs (some (-1)) none), .tuple xs.reverse]) (by simp) (by simp)
    have hlate : Sm 12 3000 late := by
      rcases List.mem_append.mp hm with m | m
      · exact hodds late m
      · exact tup_ok hhere late m
    have l1 := (hhere.items.app (hhere.items.cut (lo := some (-1)) (hi := none))).len
    have l2 : xs.length + (cutD xs (some (-1)) none).length ≤ SZ := by
      have : SZ = 16777216 := rfl
      simp at l1
      omega
    obtain ⟨late', a, b, hl', ek⟩ := key late o3 (some (.own (.lst [.none, .int 0, .int 1, .int 2, .int 9, .int (-1), .bool true, .str (S [48]), .tuple [], .list [.tuple xs], .tuple [.tuple xs], .tuple [.int 0], .tuple [.int 0, .int 0]]))) hlate
    refine ⟨late', o3, ho3, hl', ?_⟩
    simp at hi
    simp at ep
    simp [hi, l2, hz13, hz17, ps__law_pick, ep, ek]
  | dict _ => have := hhere.pl; simp [DI.pl] at this
  | none =>
    obtain ⟨late, hm, o3, ho3, ep⟩ := pick_pot ho2 _ (show 1 ≤ ([.none, .int 0, .int 1, .int 2, .int 9, .int (-1), .bool true, .str (S [48]), .tuple [], .list [.none], .tuple [.none], .tuple [.int 0], .tuple [.int 0, .int 0]] : List D).length by simp) (by simp)
    obtain ⟨late', a, b, hl', ek⟩ := key late o3 (some (.own (.lst ([.none, .int 0, .int 1, .int 2, .int 9, .int (-1), .bool true, .str (S [48]), .tuple [], .list [.none], .tuple [.none], .tuple [.int 0], .tuple [.int 0, .int 0]] : List D)))) (hodds late hm)
    refine ⟨late', o3, ho3, hl', ?_⟩
    simp [hi, hz13, hz17, ps__law_pick, ep, ek]
  | bool b =>
    obtain ⟨late, hm, o3, ho3, ep⟩ := pick_pot ho2 _ (show 1 ≤ ([.none, .int 0, .int 1, .int 2, .int 9, .int (-1), .bool true, .str (S [48]), .tuple [], .list [.bool b], .tuple [.bool b], .tuple [.int 0], .tuple [.int 0, .int 0]] : List D).length by simp) (by simp)
    obtain ⟨late', a, b, hl', ek⟩ := key late o3 (some (.own (.lst ([.none, .int 0, .int 1, .int 2, .int 9, .int (-1), .bool true, .str (S [48]), .tuple [], .list [.bool b], .tuple [.bool b], .tuple [.int 0], .tuple [.int 0, .int 0]] : List D)))) (hodds late hm)
    refine ⟨late', o3, ho3, hl', ?_⟩
    simp [hi, hz13, hz17, ps__law_pick, ep, ek]
  | int b =>
    obtain ⟨late, hm, o3, ho3, ep⟩ := pick_pot ho2 _ (show 1 ≤ ([.none, .int 0, .int 1, .int 2, .int 9, .int (-1), .bool true, .str (S [48]), .tuple [], .list [.int b], .tuple [.int b], .tuple [.int 0], .tuple [.int 0, .int 0]] : List D).length by simp) (by simp)
    obtain ⟨late', a, b, hl', ek⟩ := key late o3 (some (.own (.lst ([.none, .int 0, .int 1, .int 2, .int 9, .int (-1), .bool true, .str (S [48]), .tuple [], .list [.int b], .tuple [.int b], .tuple [.int 0], .tuple [.int 0, .int 0]] : List D)))) (hodds late hm)
    refine ⟨late', o3, ho3, hl', ?_⟩
    simp [hi, hz13, hz17, ps__law_pick, ep, ek]
  | str b =>
    obtain ⟨late, hm, o3, ho3, ep⟩ := pick_pot ho2 _ (show 1 ≤ ([.none, .int 0, .int 1, .int 2, .int 9, .int (-1), .bool true, .str (S [48]), .tuple [], .list [.str b], .tuple [.str b], .tuple [.int 0], .tuple [.int 0, .int 0]] : List D).length by simp) (by simp)
    obtain ⟨late', a, b, hl', ek⟩ := key late o3 (some (.own (.lst ([.none, .int 0, .int 1, .int 2, .int 9, .int (-1), .bool true, .str (S [48]), .tuple [], .list [.str b], .tuple [.str b], .tuple [.int 0], .tuple [.int 0, .int 0]] : List D)))) (hodds late hm)
    refine ⟨late', o3, ho3, hl', ?_⟩
    simp [hi, hz13, hz17, ps__law_pick, ep, ek]
  | list b =>
    obtain ⟨late, hm, o3, ho3, ep⟩ := pick_pot ho2 _ (show 1 ≤ ([.none, .int 0, .int 1, .int 2, .int 9, .int (-1), .bool true, .str (S [48]), .tuple [], .list [.list b], .tuple [.list b], .tuple [.int 0], .tuple [.int 0, .int 0]] : List D).length by simp) (by simp)
    obtain ⟨late', a, b, hl', ek⟩ := key late o3 (some (.own (.lst ([.none, .int 0, .int 1, .int 2, .int 9, .int (-1), .bool true, .str (S [48]), .tuple [], .list [.list b], .tuple [.list b], .tuple [.int 0], .tuple [.int 0, .int 0]] : List D)))) (hodds late hm)
    refine ⟨late', o3, ho3, hl', ?_⟩
    simp [hi, hz13, hz17, ps__law_pick, ep, ek]
end K76
end

section
set_option maxRecDepth 100000
/-! k76: _law_spoilt. -/
namespace K76
open PySem L2 DI SX NumText
def cutL {α : Type} (xs : List α) (lo hi : Option Int) : List α := (xs.drop (HT.sIx xs.length 0 lo)).take (HT.sIx xs.length xs.length hi - HT.sIx xs.length 0 lo)
@[simp] theorem cutD_map {α : Type} (f : α → D) (xs : List α) (lo hi : Option Int) : cutD (xs.map f) lo hi = (cutL xs lo hi).map f := by
  unfold cutD cutL
  rw [List.length_map, ← List.map_drop, ← List.map_take]
@[simp] theorem cutS_S (t : List Nat) (lo hi : Option Int) : cutS (S t) lo hi = S (cutL t lo hi) := by
  unfold cutS cutL
  rw [S_len]
theorem cutL_mem {α : Type} {xs : List α} {lo hi : Option Int} {x : α} (h : x ∈ cutL xs lo hi) : x ∈ xs := List.mem_of_mem_drop (List.mem_of_mem_take h)
theorem cutL_len {α : Type} (xs : List α) (lo hi : Option Int) : (cutL xs lo hi).length ≤ xs.length := by
  unfold cutL
  rw [List.length_take, List.length_drop]
  omega
/-- the signs that part tokens -/
abbrev seps : List Nat := [10, 32]
structure Short (z : List Nat) : Prop where
  runs : Runs seps 29 z
  len : z.length ≤ 600000
theorem sp_infix {c : Nat} : ∀ {l p : List Nat}, p ∈ sp c l → ∃ u w, l = u ++ p ++ w ∧ (u = [] ∨ p = (sp c l).head (sp_ne c l) ∨ True)
  | [], p, h => by simp [sp] at h; subst h; exact ⟨[], [], rfl, .inl rfl⟩
  | d :: r, p, h => by
    unfold sp at h
    by_cases hd : d = c
    · rw [if_pos hd] at h
      rcases List.mem_cons.mp h with e | m
      · subst e; exact ⟨[], d :: r, rfl, .inl rfl⟩
      · obtain ⟨u, w, e, _⟩ := sp_infix m
        exact ⟨d :: u, w, by rw [e]; rfl, .inr (.inr trivial)⟩
    · rw [if_neg hd] at h
      cases e : sp c r with
      | nil => exact absurd e (sp_ne c r)
      | cons a b =>
        rw [e] at h
        rcases List.mem_cons.mp h with e2 | m
        · subst e2
          have hh : ∃ w, r = a ++ w := sp_head e
          obtain ⟨w, hw⟩ := hh
          exact ⟨[], w, by rw [hw]; rfl, .inl rfl⟩
        · obtain ⟨u, w, e3, _⟩ := sp_infix (c := c) (l := r) (p := p) (by rw [e]; exact List.mem_cons_of_mem _ m)
          exact ⟨d :: u, w, by rw [e3]; rfl, .inr (.inr trivial)⟩
where
  sp_head {c : Nat} : ∀ {l a : List Nat} {b : List (List Nat)}, sp c l = a :: b → ∃ w, l = a ++ w
    | [], a, b, h => by simp [sp] at h; exact ⟨[], by simp [h.1]⟩
    | d :: r, a, b, h => by
      unfold sp at h
      by_cases hd : d = c
      · rw [if_pos hd] at h
        injection h with h1 h2
        exact ⟨d :: r, by rw [← h1]; rfl⟩
      · rw [if_neg hd] at h
        cases e : sp c r with
        | nil => exact absurd e (sp_ne c r)
        | cons x y =>
          rw [e] at h
          injection h with h1 h2
          obtain ⟨w, hw⟩ := sp_head e
          exact ⟨w, by rw [← h1, hw]; rfl⟩
theorem Runs.tok {k : Nat} {z : List Nat} (h : Runs seps k z) : ∀ l ∈ sp 10 z, ∀ x ∈ sp 32 l, x.length ≤ k := by
  intro l hl x hx
  obtain ⟨u, w, e, _⟩ := sp_infix hl
  obtain ⟨u2, w2, e2, _⟩ := sp_infix hx
  refine h (u ++ u2) x (w2 ++ w) (by rw [e, e2]; simp) fun c hc => ?_
  simp only [List.mem_cons, List.not_mem_nil, or_false]
  rintro (rfl | rfl)
  · exact sp_free hl (sp_mem_mem hx _ hc)
  · exact sp_free hx hc
theorem Runs.line {k : Nat} {z : List Nat} (h : Runs seps k z) : ∀ l ∈ sp 10 z, Runs seps k l := by
  intro l hl
  obtain ⟨u, w, e, _⟩ := sp_infix hl
  exact h.sub e
theorem lines_runs {k : Nat} : ∀ {ls : List (List Nat)}, (∀ l ∈ ls, Runs seps k l) → Runs seps k (ls.flatMap fun l => l ++ [10])
  | [], _ => Runs.short (Nat.zero_le _)
  | l :: ls, h => by
    have := lines_runs fun x m => h x (List.mem_cons_of_mem l m)
    have e : (l :: ls).flatMap (fun l => l ++ [10]) = l ++ 10 :: ls.flatMap (fun l => l ++ [10]) := by simp
    rw [e]
    exact Runs.part (by simp) (h l List.mem_cons_self) this
theorem text_runs {k : Nat} {rows : List Row} (T : TR k rows) : Runs seps 4 (textR k rows) := by
  refine lines_runs fun l m => ?_
  have h6 := T.k6
  rcases List.mem_cons.mp m with e | m
  · rw [e, dg_small (by omega)]
    exact Runs.part (by simp) (Runs.short (by decide)) (Runs.short (by simp))
  · obtain ⟨r, hr, rfl⟩ := List.mem_map.mp m
    refine join_runs (by simp) fun p hp => Runs.short ?_
    rcases List.mem_cons.mp hp with e | hp
    · rw [e]; exact word_len _
    · obtain ⟨v, hv, rfl⟩ := List.mem_map.mp hp
      exact dg_len4 (T.val r hr v hv)
theorem text_len {k : Nat} {rows : List Row} (T : TR k rows) : (textR k rows).length ≤ 41 * (rows.length + 1) := by
  have hll := lines_len T
  have h1 := sum_le (ls := (linesR k rows).map fun l => l ++ [10]) (n := 41) (fun l m => by
    obtain ⟨l', m', rfl⟩ := List.mem_map.mp m
    have := hll l' m'
    simp
    omega)
  have h4 : (linesR k rows).length = rows.length + 1 := by simp [linesR]
  rw [List.length_map, h4] at h1
  have e : (textR k rows).length = (((linesR k rows).map fun l => l ++ [10]).map (·.length)).sum := by
    unfold textR
    rw [List.length_flatMap, List.map_map]
    rfl
  omega
theorem join_short {ls : List (List Nat)} (h : ∀ l ∈ ls, Runs seps 29 l ∧ l.length ≤ 500) (hn : ls.length ≤ 1100) : Short (TL.joinL [10] ls) := by
  refine ⟨join_runs (by simp) fun p m => (h p m).1, ?_⟩
  have h1 := joinL_len [10] ls
  have h2 := sum_le (ls := ls) (n := 500) fun l m => (h l m).2
  simp at h1
  omega
def odds : List (List Nat) := [[103,111,111,100,32,48], wBad, wGood, [99,111,100,101,32,49], [99,111,100,101,32,55], [99,111,100,101,32,48], [103,111,111,100,32,48,48], [103,111,111,100,32,48,32,48], [98,97,100,32,57], [98,97,100,32,57,57,57,57,57,57,57,57,57,57,57], [], [32], [103,111,111,100,32,32,48], [71,111,111,100,32,48], [103,111,111,100,32,48,32], [98,97,100,32,45,49], [120]]
def signs : List (List Nat) := [[48], [49], [57], [32], [10], [120], [], [48, 48]]
theorem odds_len : ∀ o ∈ odds, o.length ≤ 15 := by decide
theorem signs_len : ∀ o ∈ signs, o.length ≤ 2 := by decide
@[simp] theorem l_o1 : (Str.ofString "good 0") = S [103,111,111,100,32,48] := by decide +kernel
@[simp] theorem l_o2 : (Str.ofString "code 1") = S [99,111,100,101,32,49] := by decide +kernel
@[simp] theorem l_o3 : (Str.ofString "code 7") = S [99,111,100,101,32,55] := by decide +kernel
@[simp] theorem l_o4 : (Str.ofString "code 0") = S [99,111,100,101,32,48] := by decide +kernel
@[simp] theorem l_o5 : (Str.ofString "good 00") = S [103,111,111,100,32,48,48] := by decide +kernel
@[simp] theorem l_o6 : (Str.ofString "good 0 0") = S [103,111,111,100,32,48,32,48] := by decide +kernel
@[simp] theorem l_o7 : (Str.ofString "bad 9") = S [98,97,100,32,57] := by decide +kernel
@[simp] theorem l_o8 : (Str.ofString "bad 99999999999") = S [98,97,100,32,57,57,57,57,57,57,57,57,57,57,57] := by decide +kernel
@[simp] theorem l_o9 : (Str.ofString "good  0") = S [103,111,111,100,32,32,48] := by decide +kernel
@[simp] theorem l_o10 : (Str.ofString "Good 0") = S [71,111,111,100,32,48] := by decide +kernel
@[simp] theorem l_o11 : (Str.ofString "good 0 ") = S [103,111,111,100,32,48,32] := by decide +kernel
@[simp] theorem l_o12 : (Str.ofString "bad -1") = S [98,97,100,32,45,49] := by decide +kernel
@[simp] theorem l_o13 : (Str.ofString "x") = S [120] := by decide +kernel
@[simp] theorem l_o14 : (Str.ofString "9") = S [57] := by decide +kernel
@[simp] theorem l_o15 : (Str.ofString "00") = S [48, 48] := by decide +kernel
theorem pick_strs {o : MO} (h : PotOk o) (xs : List (List Nat)) (h1 : 1 ≤ xs.length) (h2 : xs.length < 1073741824) : ∃ z ∈ xs, ∃ o' : MO, PotOk o' ∧ F__law_pick.sem [.own o, .val (.list (xs.map fun x => PyData.str (S x)))] = .ok (.val (.str (S z)), some o') := by
  obtain ⟨d, hd, o', ho', e⟩ := pick_pot h (xs.map fun x => PyData.str (S x)) (by simpa using h1) (by simpa using h2)
  obtain ⟨z, hz, rfl⟩ := List.mem_map.mp hd
  exact ⟨z, hz, o', ho', e⟩
theorem sem_spoilt {o : MO} (ho : PotOk o) {t : List Nat} (hr : Runs seps 4 t) (hl : t.length ≤ 500) (h1 : 1 ≤ t.length) : ∃ (z : List Nat) (o' : MO), PotOk o' ∧ Short z ∧ F__law_spoilt.sem [.own o, .val (.str (S t))] = .ok (.val (.str (S z)), some o') := by
  rw [sd__law_spoilt, run_pos ⟨rfl, by decide, rfl⟩]
  simp only [C__law_spoilt]
  have hz : SZ = 16777216 := rfl
  have hs2 : t.length + 2 ≤ SZ := by omega
  have hs0 : t.length ≤ SZ := by omega
  have hlen := sp_length 10 t
  have hpos : 0 < (sp 10 t).length := List.length_pos_iff.mpr (sp_ne 10 t)
  obtain ⟨at_, o1, hat, ho1, e1⟩ := draw_pot ho (sp 10 t).length (by omega) (by omega)
  obtain ⟨pl, o2, hpl, ho2, e2⟩ := draw_pot ho1 t.length (by omega) (by omega)
  obtain ⟨odd, hodd, o3, ho3, e3⟩ := pick_strs ho2 odds (by decide) (by decide)
  obtain ⟨sign, hsign, o4, ho4, e4⟩ := pick_strs ho3 signs (by decide) (by decide)
  simp [odds] at e3
  simp [signs] at e4
  have hcl : ∀ lo hi, (cutL (sp 10 t) lo hi).length ≤ 501 := fun lo hi => Nat.le_trans (cutL_len _ lo hi) (by omega)
  have hct : ∀ lo hi, (cutL t lo hi).length ≤ 500 := fun lo hi => Nat.le_trans (cutL_len _ lo hi) (by omega)
  have f1 : ∀ lo hi, (cutL (sp 10 t) lo hi).length + 1 ≤ SZ := fun lo hi => by have := hcl lo hi; omega
  have f2 : ∀ lo hi lo' hi', (cutL (sp 10 t) lo hi).length + (1 + (cutL (sp 10 t) lo' hi').length) ≤ SZ := fun lo hi lo' hi' => by have := hcl lo hi; have := hcl lo' hi'; omega
  have f3 : ∀ lo hi lo' hi', (cutL (sp 10 t) lo hi).length + 1 + (cutL (sp 10 t) lo' hi').length ≤ SZ := fun lo hi lo' hi' => by have := hcl lo hi; have := hcl lo' hi'; omega
  have f4 : ∀ lo hi lo' hi', (cutL (sp 10 t) lo hi).length + (cutL (sp 10 t) lo' hi').length ≤ SZ := fun lo hi lo' hi' => by have := hcl lo hi; have := hcl lo' hi'; omega
  have ol := odds_len odd hodd
  have sl := signs_len sign hsign
  have g1 : ∀ lo hi, (cutL t lo hi).length + sign.length ≤ SZ := fun lo hi => by have := hct lo hi; omega
  have g2 : ∀ lo hi lo' hi', (cutL t lo hi).length + (sign.length + (cutL t lo' hi').length) ≤ SZ := fun lo hi lo' hi' => by have := hct lo hi; have := hct lo' hi'; omega
  have g3 : ∀ lo hi lo' hi', (cutL t lo hi).length + sign.length + (cutL t lo' hi').length ≤ SZ := fun lo hi lo' hi' => by have := hct lo hi; have := hct lo' hi'; omega
  have g4 : t.length + odd.length ≤ SZ := by omega
  simp [DI.run, callF, namesAll, noOwn, wipeE, unwipe, DI.settle, setvs, puts, news, ps__law_draw, ps__law_pick, s_split, hs2, hs0, e1, e2, e3, e4, f1, f2, f3, f4]
  let A : Option Int := some (at_ : Int)
  let A1 : Option Int := some ((at_ : Int) + 1)
  let L := sp 10 t
  let ws : List (List (List Nat)) := [cutL L none A ++ odd :: cutL L A none, cutL L none A ++ odd :: cutL L A1 none, cutL L none A ++ cutL L A1 none, cutL L none A1 ++ cutL L A none, L.reverse, cutL L none (some (-1))]
  have hL : ∀ l ∈ L, Runs seps 29 l ∧ l.length ≤ 500 := fun l m => ⟨(Runs.line hr l m).mono (by decide), Nat.le_trans (sp_mem_len m) hl⟩
  have hO : Runs seps 29 odd ∧ odd.length ≤ 500 := ⟨Runs.short (by omega), by omega⟩
  have hws : ∀ w ∈ ws, (∀ l ∈ w, Runs seps 29 l ∧ l.length ≤ 500) ∧ w.length ≤ 1100 := by
    intro w m
    have hc : ∀ lo hi, ∀ l ∈ cutL L lo hi, Runs seps 29 l ∧ l.length ≤ 500 := fun lo hi l m => hL l (cutL_mem m)
    have hcl' : ∀ lo hi, (cutL L lo hi).length ≤ 501 := hcl
    simp only [ws, List.mem_cons, List.not_mem_nil, or_false] at m
    rcases m with rfl | rfl | rfl | rfl | rfl | rfl
    · have a := hcl' none A; have b := hcl' A none
      refine ⟨fun l m => ?_, by simp; omega⟩
      rcases List.mem_append.mp m with m | m
      · exact hc _ _ l m
      · rcases List.mem_cons.mp m with e | m
        · rw [e]; exact hO
        · exact hc _ _ l m
    · have a := hcl' none A; have b := hcl' A1 none
      refine ⟨fun l m => ?_, by simp; omega⟩
      rcases List.mem_append.mp m with m | m
      · exact hc _ _ l m
      · rcases List.mem_cons.mp m with e | m
        · rw [e]; exact hO
        · exact hc _ _ l m
    · have a := hcl' none A; have b := hcl' A1 none
      refine ⟨fun l m => ?_, by simp; omega⟩
      rcases List.mem_append.mp m with m | m <;> exact hc _ _ l m
    · have a := hcl' none A1; have b := hcl' A none
      refine ⟨fun l m => ?_, by simp; omega⟩
      rcases List.mem_append.mp m with m | m <;> exact hc _ _ l m
    · refine ⟨fun l m => hL l (List.mem_reverse.mp m), ?_⟩
      have : L.length ≤ 501 := by show (sp 10 t).length ≤ 501; omega
      rw [List.length_reverse]
      omega
    · have a := hcl' none (some (-1))
      exact ⟨hc _ _, by omega⟩
  generalize hC : compC _ _ _ _ _ _ _ _ = C
  have hC' : compC (Ge.of L__law_spoilt cs) (some 0) (.name 8) none (.meth .join (.lit (.str (S [10]))) (.cons (.var 8) .nil)) [8] (ws.map fun w => PyData.list (w.map fun x => PyData.str (S x)))
      [some (.own o4), some (.val (.str (S t))), some (.own (.lst ((sp 10 t).map fun x => PyData.str (S x)))), some (.val (.int (at_ : Int))), some (.val (.int (pl : Int))), some (.val (.str (S odd))), some (.val (.str (S sign))), some (.val (.list (ws.map fun w => PyData.list (w.map fun x => PyData.str (S x))))), none] = C := by
    rw [← hC]
    simp [ws, A, A1, L]
  have e5 := comp_mapL hC' (fun w => .str (S (TL.joinL [10] w))) (fun w m => by
    obtain ⟨h1, h2⟩ := hws w m
    have hj := s_joinS (a := [10]) (ys := w) (by
      have := sum_le (ls := w) (n := 500) fun l m => (h1 l m).2
      simp only [List.length_singleton]
      omega)
    simp [compB, DI.run, callF, namesAll, noOwn, wipeE, unwipe, hj])
  subst e5
  have hsh : ∀ z ∈ (ws.map fun w => TL.joinL [10] w) ++ [cutL t none (some (pl : Int)) ++ (sign ++ cutL t (some ((pl : Int) + 1)) none), cutL t none (some (pl : Int)), t ++ odd], Short z := by
    intro z m
    have hci : ∀ lo hi, Runs seps 4 (cutL t lo hi) := fun lo hi => hr.drop.take
    rcases List.mem_append.mp m with m | m
    · obtain ⟨w, hw, rfl⟩ := List.mem_map.mp m
      exact join_short (hws w hw).1 (hws w hw).2
    · simp only [List.mem_cons, List.not_mem_nil, or_false] at m
      have a := hct none (some (pl : Int)); have b := hct (some ((pl : Int) + 1)) none
      rcases m with rfl | rfl | rfl
      · refine ⟨((hci _ _).app ((Runs.short sl).app (hci _ _))).mono (by decide), ?_⟩
        simp
        omega
      · exact ⟨(hci _ _).mono (by decide), by omega⟩
      · exact ⟨(hr.app (Runs.short ol)).mono (by decide), by simp; omega⟩
  obtain ⟨z, hz', o5, ho5, e6⟩ := pick_strs ho4 ((ws.map fun w => TL.joinL [10] w) ++ [cutL t none (some (pl : Int)) ++ (sign ++ cutL t (some ((pl : Int) + 1)) none), cutL t none (some (pl : Int)), t ++ odd]) (by simp) (by simp [ws])
  refine ⟨z, o5, ho5, hsh z hz', ?_⟩
  have h6 : 6 ≤ SZ := by decide
  have h9 : 9 ≤ SZ := by decide
  have hwl : ws.length = 6 := rfl
  simp [Function.comp_def] at e6
  simp [DI.run, callF, namesAll, noOwn, wipeE, unwipe, hwl, h6, h9, ps__law_pick, S_app, hs0, g1, g2, g3, g4, e6, Function.comp_def]
end K76
end

section
set_option maxRecDepth 100000
/-! k76: the law's parts. -/
namespace K76
open PySem L2 DI SX NumText
mutual
theorem eqv_refl : ∀ d : D, DI.pl d = true → PyData.eqv d d = true
  | .none, _ => rfl
  | .bool b, _ => by simp [PyData.eqv]
  | .int i, _ => by simp [PyData.eqv]
  | .str x, _ => by simp [PyData.eqv]
  | .list xs, h => by simp only [PyData.eqv]; exact eqvs_refl xs (by simpa [DI.pl] using h)
  | .tuple xs, h => by simp only [PyData.eqv]; exact eqvs_refl xs (by simpa [DI.pl] using h)
  | .dict _, h => by simp [DI.pl] at h
theorem eqvs_refl : ∀ xs : List D, DI.pls xs = true → PyData.eqvAll xs xs = true
  | [], _ => rfl
  | x :: xs, h => by
    have h' : DI.pl x = true ∧ DI.pls xs = true := by simpa [DI.pls] using h
    simp [PyData.eqvAll, eqv_refl x h'.1, eqvs_refl xs h'.2]
end
theorem canLay_pl : ∀ d : D, PyData.canLay0 d = true → DI.pl d = true := fun d h => by
  have := PyData.hasDict_of_canLay d h
  exact (nodict_pl d).mp this
where
  nodict_pl (d : D) : d.hasDict = false ↔ DI.pl d = true := ⟨pl_of_no d, noDict_pl d⟩
  pl_of_no : ∀ d : D, d.hasDict = false → DI.pl d = true
    | .none, _ => rfl
    | .bool _, _ => rfl
    | .int _, _ => rfl
    | .str _, _ => rfl
    | .list xs, h => by simp only [DI.pl]; exact pls_of_no xs (by simpa [PyData.hasDict] using h)
    | .tuple xs, h => by simp only [DI.pl]; exact pls_of_no xs (by simpa [PyData.hasDict] using h)
    | .dict _, h => by simp [PyData.hasDict] at h
  pls_of_no : ∀ xs : List D, PyData.hasDictAll xs = false → DI.pls xs = true
    | [], _ => rfl
    | x :: xs, h => by
      have h' : x.hasDict = false ∧ PyData.hasDictAll xs = false := by simpa [PyData.hasDictAll] using h
      simp [DI.pls, pl_of_no x h'.1, pls_of_no xs h'.2]
theorem co_self {d : D} (h : SeqAt.shaped d = true) (hs : ∀ x, d ≠ .str x) : co .eq d d = .ok true ∧ co .ne d d = .ok false := by
  have hp : DI.pl d = true := by
    unfold SeqAt.shaped at h
    rw [Bool.and_eq_true] at h
    exact canLay_pl d h.1
  have e := eqv_refl d hp
  cases d <;> first | (exact absurd rfl (hs _)) | simp [co, h, e]
theorem nums_small {ns : List Nat} (h : ∀ v ∈ ns, v < 3000) : Sms 0 ns.length (ns.map fun n : Nat => PyData.int (n : Int)) := by
  induction ns with
  | nil => exact Sms.nil
  | cons n ns ih =>
    have h1 : Sm 0 1 (.int (n : Int)) := ⟨by have := h n List.mem_cons_self; simp [sm]; omega, Nat.le_refl _, Nat.le_refl _⟩
    have h2 := Sms.cons h1 (ih fun v m => h v (List.mem_cons_of_mem _ m))
    simpa [Nat.add_comm] using h2
theorem rows_small {k : Nat} {rows : List Row} (hl : ∀ r ∈ rows, r.2.length ≤ 6) (hv : ∀ r ∈ rows, ∀ v ∈ r.2, v < 3000) : Sms 1 (7 * rows.length) (rows.map fun r => eNums r.2) := by
  induction rows with
  | nil => exact Sms.nil
  | cons r rows ih =>
    have h1 : Sm 1 7 (eNums r.2) := (nums_small (hv r List.mem_cons_self)).tup.mono (by decide) (by have := hl r List.mem_cons_self; omega)
    have h2 := Sms.cons h1 (ih (fun r m => hl r (List.mem_cons_of_mem _ m)) fun r m => hv r (List.mem_cons_of_mem _ m))
    exact h2.mono (Nat.le_refl _) (by simp; omega)
theorem code_small {k : Nat} {rows : List Row} (T : TR k rows) : Sm 3 (8 * rows.length + 3) (eCode rows) := by
  have h1 := (rows_small (k := k) (fun r m => by rw [T.len r m]; exact T.k6) T.val).tup
  have h2 : Sms 0 (rows.map (·.1)).length ((rows.map (·.1)).map fun n : Nat => PyData.int (n : Int)) := nums_small fun v m => by
    obtain ⟨r, hr, rfl⟩ := List.mem_map.mp m
    have := T.good r hr
    omega
  rw [List.map_map, List.length_map] at h2
  have h3 := Sms.cons h1 (Sms.cons (h2.tup.mono (m := 2) (by decide) (Nat.le_refl _)) (Sms.nil (w := 0)))
  exact h3.tup.mono (by decide) (by omega)
theorem sem_want_code {d : D} (h : DI.pl d = true) (hc : isCodeB d = true) : F_want_code.sem [.val d] = .ok (.val .none, none) := by
  have e := sem_is_code_value d h
  rw [sd_want_code]
  simp [DI.run, callF, namesAll, noOwn, wipeE, unwipe, C_want_code, ps_is_code_value, e, hc]
theorem sem_is_code {d : D} (h : DI.pl d = true) : F_is_code.sem [.val d] = .ok (.val (.bool (isCodeB d)), none) := by
  have e := sem_is_code_value d h
  rw [sd_is_code]
  simp [DI.run, callF, namesAll, noOwn, wipeE, unwipe, C_is_code, ps_is_code_value, e]
theorem within_nat {v m : Nat} (h : v < m) : within (.int (v : Int)) 0 ((m : Int) - 1) = true := by
  simp [within]
  omega
theorem code_is {k : Nat} {rows : List Row} (V : VC k rows) : isCodeB (eCode rows) = true := by
  obtain ⟨r0, rest, rfl⟩ : ∃ r0 rest, rows = r0 :: rest := by
    cases h : rows with
    | nil => exact absurd h V.n1
    | cons a b => exact ⟨a, b, rfl⟩
  have hn := V.n3
  have h0 : r0.2.length = k := V.len r0 List.mem_cons_self
  have hrow : ∀ r ∈ (r0 :: rest), rowOk k (rest.length + 1) (eNums r.2) = true := by
    intro r m
    have h1 := V.len r m
    have h2 := V.val r m
    simp only [rowOk, eNums, List.length_map, h1, decide_true, Bool.true_and, List.all_map, List.all_eq_true]
    intro v mv
    exact within_nat (h2 v mv)
  have hg : ∀ r ∈ (r0 :: rest), within (.int (r.1 : Int)) 0 1 = true := by
    intro r m
    have := V.good r m
    simp [within]
    omega
  simp only [eCode, List.map_cons, isCodeB, codeB, eNums, List.length_map]
  have a1 : ((PyData.tuple (r0.2.map fun n : Nat => PyData.int (n : Int)) :: rest.map fun r => PyData.tuple (r.2.map fun n : Nat => PyData.int (n : Int))).all (rowOk r0.2.length (rest.length + 1))) = true := by
    rw [List.all_eq_true]
    intro d m
    rcases List.mem_cons.mp m with e | m
    · rw [e, h0]; exact hrow r0 List.mem_cons_self
    · obtain ⟨r, hr, rfl⟩ := List.mem_map.mp m
      rw [h0]
      exact hrow r (List.mem_cons_of_mem _ hr)
  have a2 : goodsOk (rest.length + 1) (.tuple (PyData.int (r0.1 : Int) :: rest.map fun r => PyData.int (r.1 : Int))) = true := by
    simp only [goodsOk, List.length_cons, List.length_map, decide_true, Bool.true_and, List.all_eq_true]
    intro d m
    rcases List.mem_cons.mp m with e | m
    · rw [e]; exact hg r0 List.mem_cons_self
    · obtain ⟨r, hr, rfl⟩ := List.mem_map.mp m
      exact hg r (List.mem_cons_of_mem _ hr)
  rw [a1, a2]
  have := V.k1; have := V.k6
  simp at hn
  simp
  omega
theorem sem_code_text {k : Nat} {rows : List Row} (V : VC k rows) : F_code_text.sem [.val (eCode rows)] = .ok (.val (.str (S (textR k rows))), none) := by
  have h1 := sem_want_code (code_small V.tr).pl (code_is V)
  have h2 := sem_text_by V.tr
  rw [sd_code_text]
  simp [DI.run, callF, namesAll, noOwn, wipeE, unwipe, C_code_text, ps_want_code, ps_text_by, h1, h2]
theorem sem_want_text (x : Str) : F_want_text.sem [.val (.str x)] = .ok (.val .none, none) := by
  rw [sd_want_text]
  simp [DI.run, callF, namesAll, noOwn, wipeE, unwipe, C_want_text]
theorem sem_read_code {t : List Nat} {rows : List Row} (hl : t.length + 2 ≤ SZ) (h : readR numP t = .inr rows) : F_read_code.sem [.val (.str (S t))] = .ok (.val (eCode rows), none) := by
  have h1 := sem_want_text (S t)
  have h2 := sem_code_or_line t hl
  rw [h] at h2
  rw [sd_read_code]
  simp [DI.run, callF, namesAll, noOwn, wipeE, unwipe, C_read_code, ps_want_text, ps_code_or_line, h1, h2, eCode]
theorem sem_heard {t : List Nat} (hl : t.length + 2 ≤ SZ) : F__law_heard.sem [.val (.str (S t))] = .ok (.new (.lst (match readR numP t with | .inl a => [.str (S wBad), .int (a : Int)] | .inr rows => [.str (S [108, 101, 116]), eCode rows])), none) := by
  have h2 := sem_code_or_line t hl
  have e0 : F__law_heard.sem [.val (.str (S t))] = heardSem [.val (.str (S t))] := rfl
  rw [e0]
  simp only [heardSem, h2, t_ok]
  have e1 : (Str.ofString "let") = S [108, 101, 116] := by decide +kernel
  cases readR numP t with
  | inl a => simp [badD]
  | inr rows => simp [eCode, e1]
end K76
end

section
set_option maxRecDepth 100000
/-! k76: the law's parts, 2. -/
namespace K76
open PySem L2 DI SX NumText
theorem ps__law_heard : F__law_heard.ps.length = 1 ∧ F__law_heard.mx = none := ⟨rfl, rfl⟩
theorem rowsR_bound {num : List Nat → Option Nat} {k : Nat} : ∀ {ls : List (List Nat)} {a b : Nat} {r : List Row}, rowsR num k a r ls = .inl b → b < a + ls.length
  | [], a, b, r, e => by cases e
  | l :: ls, a, b, r, e => by
    unfold rowsR at e
    split at e
    · cases e; simp
    · split at e
      · cases e; simp
      · have := rowsR_bound e
        simp
        omega
theorem greatR_bound {n : Nat} : ∀ {rs : List Row} {a b : Nat}, greatR n a rs = some b → b < a + rs.length
  | [], a, b, e => by cases e
  | r :: rs, a, b, e => by
    unfold greatR at e
    split at e
    · cases e; simp
    · have := greatR_bound e
      simp
      omega
theorem read_bound {num : List Nat → Option Nat} {t : List Nat} {a : Nat} (h : readR num t = .inl a) : a ≤ t.length + 3001 := by
  unfold readR at h
  have hlen := sp_length 10 t
  split at h
  · cases h; omega
  · rename_i l0 rest e
    rw [e] at hlen
    simp at hlen
    split at h
    · cases h; omega
    · split at h
      · rename_i hr
        cases h
        have := rowsR_bound hr
        simp at this
        omega
      · rename_i rows hr
        have h3 := rows_most (by simp) hr
        split at h
        · cases h; omega
        · split at h
          · rename_i hg
            cases h
            have := greatR_bound hg
            omega
          · cases h
theorem bad_small {a : Nat} (h : a < 1000000) : Sm 1 3 (.list [.str (S wBad), .int (a : Int)]) := by
  have h1 : Sm 0 1 (.str (S wBad)) := ⟨by decide +kernel, Nat.le_refl _, Nat.le_refl _⟩
  have h2 : Sm 0 1 (.int (a : Int)) := ⟨by simp [sm]; omega, Nat.le_refl _, Nat.le_refl _⟩
  exact (Sms.cons h1 (Sms.cons h2 (Sms.nil (w := 0)))).lst.mono (by decide) (by decide)
theorem let_small {k : Nat} {rows : List Row} (T : TR k rows) : Sm 4 30000 (.list [.str (S [108, 101, 116]), eCode rows]) := by
  have h1 : Sm 3 1 (.str (S [108, 101, 116])) := ⟨by decide +kernel, Nat.zero_le _, Nat.le_refl _⟩
  exact (Sms.cons h1 (Sms.cons (code_small T) (Sms.nil (w := 0)))).lst.mono (by decide) (by have := T.n3; omega)
@[simp] theorem lit_let : (Str.ofString "let") = S [108, 101, 116] := by decide +kernel
theorem repr_of {n w : Nat} {d : D} (h : Sm n w d) (hn : n ≤ 64) (hw : w ≤ 400000) : DI.bi .repr [d] = .ok (.val (.str d.shown)) := s_repr h.sm (Nat.le_trans h.dep hn) (Nat.le_trans h.wt hw)
theorem sem_string_right {z : List Nat} (h : Short z) : F__law_string_right.sem [.val (.str (S z))] = .ok (.val (.bool true), none) := by
  have hz : SZ = 16777216 := rfl
  have hl : z.length + 2 ≤ SZ := by have := h.len; omega
  have h1 := sem_law_read z hl
  have h2 := sem_heard hl
  rw [← read_near (fun l hl x hx => by have := Runs.tok h.runs l hl x hx; omega)] at h1
  rw [sd__law_string_right]
  cases hr : readR numP z with
  | inl a =>
    rw [hr] at h1 h2
    have hb := read_bound hr
    have hs := repr_of (bad_small (a := a) (by have := h.len; omega)) (by decide) (by decide)
    simp [DI.run, callF, namesAll, noOwn, wipeE, unwipe, C__law_string_right, ps__law_read, ps__law_heard, h1, h2, badD, hs]
  | inr rows =>
    rw [hr] at h1 h2
    obtain ⟨k, V⟩ := read_vc hr
    have hs := repr_of (let_small V.tr) (by decide) (by decide)
    simp [eCode] at h2 hs
    simp [DI.run, callF, namesAll, noOwn, wipeE, unwipe, C__law_string_right, ps__law_read, ps__law_heard, h1, h2, hs]
/-! ### the great code -/
def great (n : Nat) : List Row := List.replicate n (1, [0])
theorem great_vc {n : Nat} (h1 : 1 ≤ n) (h2 : n ≤ 3000) : VC 1 (great n) := by
  have hm : ∀ r ∈ great n, r = (1, [0]) := fun r m => (List.mem_replicate.mp m).2
  refine ⟨by decide, by decide, ?_, by simp [great, h2], fun r m => by rw [hm r m]; rfl, fun r m v mv => ?_, fun r m => by rw [hm r m]; decide⟩
  · intro e
    have := congrArg List.length e
    simp [great] at this
    omega
  · rw [hm r m] at mv
    simp at mv
    rw [mv]
    simp [great]
    omega
theorem flat_rep {α : Type} (x : α) : ∀ n : Nat, (List.replicate n [x]).flatten = List.replicate n x
  | 0 => rfl
  | n + 1 => by simp [List.replicate_succ, flat_rep x n]
theorem great_code (n : Nat) : eCode (great n) = .tuple [.tuple (List.replicate n (.tuple [.int 0])), .tuple (List.replicate n (.int 1))] := by
  simp [eCode, great, eNums]
def goodLine : List Nat := [103, 111, 111, 100, 32, 48]
theorem great_text (n : Nat) : textR 1 (great n) = [99, 111, 100, 101, 32, 49, 10] ++ (List.replicate n (goodLine ++ [10])).flatten := by
  have e : (1 : Nat) < 10 := by decide
  have e1 : lineR (1, [0]) = goodLine := by decide +kernel
  unfold textR linesR
  rw [dg_small e, great, List.map_replicate, e1]
  simp [List.flatMap, wCode]
theorem great_over : readR numP (textR 1 (great 3000) ++ [98, 97, 100, 32, 48, 10]) = .inl 3001 := by
  have key : ∀ (rs done : List Row) (a : Nat) (l : List Nat) (q : Row), (∀ r ∈ rs, rowR numP 1 (lineR r) = some r) → rowR numP 1 l = some q → done.length + rs.length = 3000 → rowsR numP 1 a done (rs.map lineR ++ [l]) = .inl (a + rs.length) := by
    intro rs
    induction rs with
    | nil =>
      intro done a l q _ hq hl
      simp at hl
      simp [rowsR, hq, hl]
    | cons r rs ih =>
      intro done a l q h hq hl
      simp only [List.length_cons] at hl
      simp only [List.map_cons, List.cons_append, rowsR, h r List.mem_cons_self]
      rw [if_neg (by omega), ih (done ++ [r]) (a + 1) l q (fun x m => h x (List.mem_cons_of_mem _ m)) hq (by simp; omega)]
      simp
      omega
  have V := great_vc (n := 3000) (by decide) (by decide)
  have hr : ∀ r ∈ great 3000, rowR numP 1 (lineR r) = some r := fun r m => row_back (V.good r m) (V.len r m) fun v mv => by
    have := V.val r m v mv
    simp [great] at this
    omega
  have hsp : sp 10 (textR 1 (great 3000) ++ [98, 97, 100, 32, 48, 10]) = (linesR 1 (great 3000) ++ [[98, 97, 100, 32, 48]]) ++ [[]] := by
    have e : textR 1 (great 3000) ++ [98, 97, 100, 32, 48, 10] = (linesR 1 (great 3000) ++ [[98, 97, 100, 32, 48]]).flatMap fun l => l ++ [10] := by
      simp [textR]
    rw [e]
    refine sp_lines fun p m => ?_
    rcases List.mem_append.mp m with m | m
    · rcases List.mem_cons.mp m with e | m
      · rw [e, dg_small (by decide)]; decide
      · obtain ⟨r, _, rfl⟩ := List.mem_map.mp m
        exact line_no r
    · rw [List.mem_singleton.mp m]; decide
  unfold readR
  rw [hsp]
  simp only [linesR, List.cons_append]
  rw [head_back (by decide) (by decide)]
  have hq : rowR numP 1 [98, 97, 100, 32, 48] = some (0, [0]) := by decide +kernel
  simp only [List.dropLast_concat]
  rw [key (great 3000) [] 1 _ _ hr hq (by simp [great])]
  simp [great]
theorem mul_txt (x : List Nat) {n : Nat} (h : 2 ≤ n) (hx : x ≠ []) : Txt.mul (S x) (n : Int) = S (List.replicate n x).flatten := by
  have hl : ¬ ((S x).length = 0) := by rw [S_len]; intro e; exact hx (List.length_eq_zero_iff.mp e)
  unfold Txt.mul
  rw [if_neg (by omega), if_neg (by simp [hl]; constructor; omega; exact fun e => hx e)]
  refine TL.ext_tl ?_
  have key : ∀ (k : Nat) (acc : Array Nat), ((List.replicate k (S x).cps).foldl (· ++ ·) acc).toList = acc.toList ++ (List.replicate k x).flatten := by
    intro k
    induction k with
    | zero => intro acc; simp
    | succ k ih =>
      intro acc
      rw [List.replicate_succ, List.foldl_cons, ih, Array.toList_append, List.replicate_succ, List.flatten_cons, List.append_assoc]
  have := key n #[]
  simpa using this
end K76
end

section
set_option maxRecDepth 100000
/-! k76: the great case. -/
namespace K76
open PySem L2 DI SX NumText
@[simp] theorem l_g1 : (Str.ofString "code 1\n") = S [99, 111, 100, 101, 32, 49, 10] := by decide +kernel
@[simp] theorem l_g2 : (Str.ofString "good 0\n") = S (goodLine ++ [10]) := by decide +kernel
@[simp] theorem l_g3 : (Str.ofString "bad 0\n") = S [98, 97, 100, 32, 48, 10] := by decide +kernel
@[simp] theorem co_notB (a b : Bool) : co .notB (.bool a) (.bool b) = .ok (!decide (a = b)) := Eq.trans rfl rfl
@[simp] theorem rep2 : (List.replicate 2 none : ES) = [none, none] := Eq.trans rfl rfl
theorem mul_tup {x : D} {n : Nat} (h : 2 ≤ n) (h2 : n ≤ 10000) : bo .mul (.tuple [x]) (.int (n : Int)) = .ok (.val (.tuple (List.replicate n x))) := by
  have hc : 0 < [x].length ∧ (2 : Int) ≤ n ∧ (n : Int) ≤ 10000 ∧ [x].length ≤ 1000 := ⟨by simp, by omega, by omega, by simp⟩
  have e : bo .mul (.tuple [x]) (.int (n : Int)) = .ok (.val (.tuple (List.replicate (n : Int).toNat [x]).flatten)) := by
    simp only [bo]
    exact if_pos hc
  rw [e, Int.toNat_natCast, flat_rep]
theorem mul_3000 (x : D) : bo .mul (.tuple [x]) (.int 3000) = .ok (.val (.tuple (List.replicate 3000 x))) := mul_tup (n := 3000) (by decide) (by decide)
theorem mul_3001 (x : D) : bo .mul (.tuple [x]) (.int 3001) = .ok (.val (.tuple (List.replicate 3001 x))) := mul_tup (n := 3001) (by decide) (by decide)
theorem mul_str3000 : bo .mul (.str (S (goodLine ++ [10]))) (.int 3000) = .ok (.val (.str (S (List.replicate 3000 (goodLine ++ [10])).flatten))) := by
  have hc : (0 : Int) ≤ 3000 ∧ (3000 : Int) ≤ 10000 ∧ (S (goodLine ++ [10])).length ≤ 1000 := ⟨by decide, by decide, by decide⟩
  have e : bo .mul (.str (S (goodLine ++ [10]))) (.int 3000) = .ok (.val (.str (Txt.mul (S (goodLine ++ [10])) 3000))) := by
    simp only [bo]
    exact if_pos hc
  rw [e]
  have := mul_txt (goodLine ++ [10]) (n := 3000) (by decide) (by decide)
  rw [show ((3000 : Nat) : Int) = 3000 from rfl] at this
  rw [this]
def G0 : D := .tuple [.tuple (List.replicate 3000 (.tuple [.int 0])), .tuple (List.replicate 3000 (.int 1))]
def G1 : D := .tuple [.tuple (List.replicate 3001 (.tuple [.int 0])), .tuple (List.replicate 3001 (.int 1))]
def T0 : List Nat := [99, 111, 100, 101, 32, 49, 10] ++ (List.replicate 3000 (goodLine ++ [10])).flatten
theorem rep_sms {x : D} {n w : Nat} (h : Sm n w x) : ∀ k, Sms n (k * w) (List.replicate k x)
  | 0 => by simpa using Sms.nil
  | k + 1 => by
    have := Sms.cons h (rep_sms h k)
    rw [List.replicate_succ]
    exact this.mono (Nat.le_refl _) (by rw [Nat.succ_mul]; omega)
theorem great_small (n : Nat) : Sm 3 (4 * n + 10) (.tuple [.tuple (List.replicate n (.tuple [.int 0])), .tuple (List.replicate n (.int 1))]) := by
  have h1 : Sm 1 2 (.tuple [.int 0]) := ⟨by decide, by decide, by decide⟩
  have h2 : Sm 1 1 (.int 1) := ⟨by decide, by decide, by decide⟩
  have h3 := (rep_sms h1 n).tup
  have h4 := (rep_sms h2 n).tup
  exact (Sms.cons h3 (Sms.cons h4 (Sms.nil (w := 0)))).tup.mono (by decide) (by omega)
theorem G0_eq : eCode (great 3000) = G0 := great_code 3000
theorem G0_is : isCodeB G0 = true := by rw [← G0_eq]; exact code_is (great_vc (by decide) (by decide))
theorem G1_not : isCodeB G1 = false := by
  have e : G1 = .tuple [.tuple (.tuple [.int 0] :: List.replicate 3000 (.tuple [.int 0])), .tuple (List.replicate 3001 (.int 1))] := by
    unfold G1
    rw [show (3001 : Nat) = 3000 + 1 from rfl, List.replicate_succ]
  rw [e]
  simp only [isCodeB, codeB, List.length_replicate]
  simp
theorem T0_len : T0.length = 21007 := by
  have h : ∀ n : Nat, (List.replicate n (goodLine ++ [10])).flatten.length = 7 * n := by
    intro n
    induction n with
    | zero => rfl
    | succ n ih =>
      rw [List.replicate_succ, List.flatten_cons, List.length_append, ih]
      have : (goodLine ++ [10]).length = 7 := rfl
      omega
  unfold T0
  rw [List.length_append, h]
  rfl
theorem sem_great_right : F__law_great_right.sem [] = .ok (.val (.bool true), none) := by
  have hz : SZ = 16777216 := rfl
  have V := great_vc (n := 3000) (by decide) (by decide)
  have t1 := sem_code_text V
  have e1 : textR 1 (great 3000) = T0 := great_text 3000
  rw [G0_eq, e1] at t1
  have hr := read_text V
  rw [e1] at hr
  have hl : T0.length + 2 ≤ SZ := by rw [T0_len]; decide
  have t2 := sem_read_code hl hr
  rw [G0_eq] at t2
  have s0 : Sm 3 (4 * 3000 + 10) G0 := great_small 3000
  have s1 : Sm 3 (4 * 3001 + 10) G1 := great_small 3001
  have t3 := sem_is_code s0.pl
  rw [G0_is] at t3
  have t4 := sem_is_code s1.pl
  rw [G1_not] at t4
  have ho := great_over
  rw [e1] at ho
  have hl2 : (T0 ++ [98, 97, 100, 32, 48, 10]).length + 2 ≤ SZ := by simp [T0_len]; decide
  have t5 := sem_heard hl2
  rw [ho] at t5
  have c1 : co .ne G0 G0 = .ok false := (co_self (sm_shaped s0.sm (Nat.le_trans s0.dep (by decide))) (by intro x e; cases e)).2
  have c2 : co .eq (.list [.str (S wBad), .int 3001]) (.list [.str (S wBad), .int 3001]) = .ok true := (co_self (d := .list [.str (S wBad), .int 3001]) (by decide +kernel) (by intro x e; cases e)).1
  have a1 : bo .add (.str (S [99, 111, 100, 101, 32, 49, 10])) (.str (S (List.replicate 3000 (goodLine ++ [10])).flatten)) = .ok (.val (.str (S T0))) := s_add_S (by
    have := T0_len
    unfold T0 at this
    rw [List.length_append] at this
    omega)
  have a2 : bo .add (.str (S T0)) (.str (S [98, 97, 100, 32, 48, 10])) = .ok (.val (.str (S (T0 ++ [98, 97, 100, 32, 48, 10])))) := s_add_S (by rw [T0_len]; decide)
  rw [sd__law_great_right, run_pos ⟨rfl, by decide, rfl⟩]
  simp only [C__law_great_right]
  have g0 : PyData.tuple [.tuple (List.replicate 3000 (.tuple [.int 0])), .tuple (List.replicate 3000 (.int 1))] = G0 := rfl
  have g1 : PyData.tuple [.tuple (List.replicate 3001 (.tuple [.int 0])), .tuple (List.replicate 3001 (.int 1))] = G1 := rfl
  simp [DI.run, callF, namesAll, noOwn, wipeE, unwipe, -List.reduceReplicate, mul_3000, mul_3001, mul_str3000, a1, a2, g0, g1, c1, c2, t1, t2, t3, t4, t5, ps_code_text, ps_read_code, ps_is_code, ps__law_heard]
end K76
end

section
set_option maxRecDepth 100000
/-! k76: _law_right, law. -/
namespace K76
open PySem L2 DI SX NumText
def natOf : D → Nat
  | .int i => i.toNat
  | _ => 0
def rowOf (r g : D) : Row := (natOf g, (cellsD r).map natOf)
theorem nat_of {m : Nat} {d : D} (h : IntIn m d) : PyData.int (natOf d : Int) = d ∧ natOf d < m := by
  obtain ⟨i, hi, rfl⟩ := h
  simp [natOf]
  exact hi
theorem rows_of {t m : Nat} : ∀ {rows goods : List D}, goods.length = rows.length → (∀ r ∈ rows, RowIn t m r) → (∀ g ∈ goods, IntIn 2 g) →
    (List.zipWith rowOf rows goods).map (fun r => eNums r.2) = rows ∧ (List.zipWith rowOf rows goods).map (fun r => PyData.int (r.1 : Int)) = goods ∧ ∀ r ∈ List.zipWith rowOf rows goods, r.2.length = t ∧ (∀ v ∈ r.2, v < m) ∧ r.1 < 2
  | [], [], _, _, _ => ⟨rfl, rfl, by simp⟩
  | [], g :: goods, h, _, _ => by simp at h
  | r :: rows, [], h, _, _ => by simp at h
  | r :: rows, g :: goods, h, hr, hg => by
    obtain ⟨h1, h2, h3⟩ := rows_of (rows := rows) (goods := goods) (by simpa using h) (fun x m => hr x (List.mem_cons_of_mem _ m)) (fun x m => hg x (List.mem_cons_of_mem _ m))
    obtain ⟨es, rfl, he, hi⟩ := hr r List.mem_cons_self
    obtain ⟨g1, g2⟩ := nat_of (hg g List.mem_cons_self)
    have e1 : eNums ((cellsD (.tuple es)).map natOf) = .tuple es := by
      simp only [eNums, cellsD, List.map_map]
      congr 1
      refine (List.map_congr_left fun d m => ?_).trans (List.map_id _)
      exact (nat_of (hi d m)).1
    refine ⟨by simp only [List.zipWith_cons_cons, List.map_cons, h1, rowOf, e1], by simp only [List.zipWith_cons_cons, List.map_cons, h2, rowOf, g1], ?_⟩
    intro x m
    rcases List.mem_cons.mp m with e | m
    · subst e
      refine ⟨by simp [rowOf, cellsD, he], fun v mv => ?_, g2⟩
      simp only [rowOf, cellsD] at mv
      obtain ⟨d, hd, rfl⟩ := List.mem_map.mp mv
      exact (nat_of (hi d hd)).2
    · exact h3 x m
theorem code_rows {d : D} {rows goods : List D} {t : Nat} (C : CodeIn d rows goods t) : ∃ rs : List Row, d = eCode rs ∧ VC t rs ∧ rs.length ≤ 9 := by
  obtain ⟨h1, h2, h3⟩ := rows_of C.len C.row C.good
  have hl : (List.zipWith rowOf rows goods).length = rows.length := by
    rw [List.length_zipWith, C.len, Nat.min_self]
  refine ⟨List.zipWith rowOf rows goods, by rw [C.eq, eCode, h1, h2], ⟨C.t1, Nat.le_trans C.t3 (by decide), ?_, by rw [hl]; exact Nat.le_trans C.r9 (by decide), fun r m => (h3 r m).1, fun r m => by rw [hl]; exact (h3 r m).2.1, fun r m => (h3 r m).2.2⟩, by rw [hl]; exact C.r9⟩
  intro e
  rw [e] at hl
  have := C.r1
  simp at hl
  omega
theorem text_ok {k : Nat} {rows : List Row} (T : TR k rows) : PyData.strOk (S (textR k rows)) = true := by
  have hd : ∀ v : Nat, ∀ c ∈ dg v, c < 200 := fun v c m => by have := dg_digits v c m; omega
  have hj : ∀ (s : Nat) (hs : s < 200) (ps : List (List Nat)), (∀ p ∈ ps, ∀ c ∈ p, c < 200) → ∀ c ∈ TL.joinL [s] ps, c < 200 := by
    intro s hs ps
    induction ps with
    | nil => intro _ c m; simp [TL.joinL] at m
    | cons p r ih =>
      intro h c m
      cases r with
      | nil => exact h p List.mem_cons_self c m
      | cons q r =>
        have m' : c ∈ p ++ ([s] ++ TL.joinL [s] (q :: r)) := m
        simp only [List.mem_append, List.mem_singleton] at m'
        rcases m' with m' | m' | m'
        · exact h p List.mem_cons_self c m'
        · omega
        · exact ih (fun x mx => h x (List.mem_cons_of_mem _ mx)) c m'
  have hw : ∀ g : Nat, ∀ c ∈ wordR g, c < 200 := by
    intro g
    unfold wordR
    split <;> decide
  have hl : ∀ l ∈ linesR k rows, ∀ c ∈ l, c < 200 := by
    intro l m c mc
    rcases List.mem_cons.mp m with e | m
    · rw [e] at mc
      simp only [List.mem_append, List.mem_cons] at mc
      rcases mc with mc | mc | mc
      · have : ∀ c ∈ wCode, c < 200 := by decide
        exact this c mc
      · omega
      · exact hd k c mc
    · obtain ⟨r, _, rfl⟩ := List.mem_map.mp m
      refine hj 32 (by decide) _ ?_ c mc
      intro p mp
      rcases List.mem_cons.mp mp with e | mp
      · rw [e]; exact hw r.1
      · obtain ⟨v, _, rfl⟩ := List.mem_map.mp mp
        exact hd v
  unfold PyData.strOk
  rw [← Array.all_toList]
  show (textR k rows).all _ = true
  rw [List.all_eq_true]
  intro c m
  unfold textR at m
  rw [List.mem_flatMap] at m
  obtain ⟨l, ml, mc⟩ := m
  rw [List.mem_append, List.mem_singleton] at mc
  refine decide_eq_true ?_
  rcases mc with mc | mc
  · have := hl l ml c mc; omega
  · omega
theorem all_map_of {α : Type} {f : α → D} {P : α → Prop} : ∀ {ys : List D}, (∀ y ∈ ys, ∃ a, y = f a ∧ P a) → ∃ as : List α, ys = as.map f ∧ ∀ a ∈ as, P a
  | [], _ => ⟨[], rfl, by simp⟩
  | y :: ys, h => by
    obtain ⟨a, e, p⟩ := h y List.mem_cons_self
    obtain ⟨as, e2, p2⟩ := all_map_of fun x m => h x (List.mem_cons_of_mem y m)
    refine ⟨a :: as, by rw [e, e2]; rfl, fun b m => ?_⟩
    rcases List.mem_cons.mp m with e | m
    · rw [e]; exact p
    · exact p2 b m
def fixed : List (List Nat) := [[], [10], wCode, [99,111,100,101,32,49], [99,111,100,101,32,49,10], [99,111,100,101,32,49,10,103,111,111,100,32,48], [99,111,100,101,32,55,10], [99,111,100,101,32,49,10,103,111,111,100,32,49,10,98,97,100,32,50,10], [99,111,100,101,32,49,10,103,111,111,100,32,49,10,98,97,100,32,48,10], [103,111,111,100,32,48,10]]
@[simp] theorem l_f5 : (Str.ofString "code 1\ngood 0") = S [99,111,100,101,32,49,10,103,111,111,100,32,48] := by decide +kernel
@[simp] theorem l_f6 : (Str.ofString "code 7\n") = S [99,111,100,101,32,55,10] := by decide +kernel
@[simp] theorem l_f7 : (Str.ofString "code 1\ngood 1\nbad 2\n") = S [99,111,100,101,32,49,10,103,111,111,100,32,49,10,98,97,100,32,50,10] := by decide +kernel
@[simp] theorem l_f8 : (Str.ofString "code 1\ngood 1\nbad 0\n") = S [99,111,100,101,32,49,10,103,111,111,100,32,49,10,98,97,100,32,48,10] := by decide +kernel
theorem fixed_short : ∀ z ∈ fixed, Short z := fun z m => by
  have h : ∀ z ∈ fixed, z.length ≤ 29 := by decide
  exact ⟨Runs.short (h z m), Nat.le_trans (h z m) (by decide)⟩
theorem sem_right {o : MO} (ho : PotOk o) : ∃ o' : MO, PotOk o' ∧ F__law_right.sem [.own o] = .ok (.val (.bool true), some o') := by
  have hz : SZ = 16777216 := rfl
  obtain ⟨d, rows0, goods0, t, o1, hC, ho1, e1⟩ := sem_code ho
  obtain ⟨rows, rfl, V, h9⟩ := code_rows hC
  have T := V.tr
  have s0 : Sm 3 100 (eCode rows) := (code_small T).mono (by decide) (by omega)
  have r0 := repr_of s0 (by decide) (by decide)
  have t1 := sem_law_text T
  have t2 := sem_code_text V
  have tl := text_len T
  have hl : (textR t rows).length + 2 ≤ SZ := by omega
  have t3 := sem_read_code hl (read_text V)
  have c1 : co .ne (.list [.str (S (textR t rows)), .str (S (textR t rows))]) (.list [.str (S (textR t rows)), .str (S (textR t rows))]) = .ok false := (co_self (by
    refine shaped_list _ fun d m => ?_
    have : d = .str (S (textR t rows)) := by simpa using m
    rw [this]
    exact ⟨by simpa [PyData.canLay0] using text_ok T, Nat.zero_le _⟩) (by intro x e; cases e)).2
  have s2 : Sm 4 201 (.list [eCode rows, eCode rows]) := (Sms.cons s0 (Sms.cons s0 (Sms.nil (w := 0)))).lst
  have c2 : co .ne (.list [eCode rows, eCode rows]) (.list [eCode rows, eCode rows]) = .ok false := (co_self (sm_shaped s2.sm (Nat.le_trans s2.dep (by decide))) (by intro x e; cases e)).2
  rw [sd__law_right, run_pos ⟨rfl, by decide, rfl⟩]
  simp only [C__law_right]
  have hp1 : F_code_text.ps = [S wCode] := by decide +kernel
  have hp2 : F_read_code.ps = [Str.ofString "text"] := rfl
  have hp3 : F_is_code.ps = [Str.ofString "value"] := rfl
  have hb16 : bnd62 16 = true := rfl
  have hb14 : bnd62 14 = true := rfl
  have i0 : ix (eCode rows) (.int 0) = .ok (.tuple (rows.map fun r => eNums r.2)) := by simp [eCode]
  have i1 : ix (eCode rows) (.int 1) = .ok (.tuple (rows.map fun r => PyData.int (r.1 : Int))) := by simp [eCode]
  have l0 : DI.bi .list [eCode rows] = .ok (.new (.lst [.tuple (rows.map fun r => eNums r.2), .tuple (rows.map fun r => PyData.int (r.1 : Int))])) := rfl
  simp [DI.run, callF, namesAll, noOwn, wipeE, unwipe, DI.settle, setvs, puts, news, ps__law_code, ps__law_text, ps_code_text, ps_read_code, e1, r0, t1, t2, t3, c1, c2, i0, i1, l0, hb16, hp1, hp2]
  generalize hC1 : compC _ _ _ _ _ _ _ _ = C1
  obtain ⟨bents, ρ1, e2, ⟨o2, ho2, rfl⟩, hB⟩ := comp_inv hC1 (fun ρ => ∃ o, PotOk o ∧ ρ = [some (.own o), some (.val (eCode rows)), some (.val (.str (PyData.shown (eCode rows)))), some (.val (.str (S (textR t rows)))), none, none, none, none, none, none]) (fun _ y => Sm 40 10000 y) (by
    rintro d _ ρ ⟨o, ho, rfl⟩
    obtain ⟨r, o', ho', hs, e⟩ := sem_bent ho (s0.mono (by decide) (by decide))
    refine ⟨r, _, ?_, ⟨o', ho', rfl⟩, hs⟩
    simp [compB, DI.run, callF, namesAll, noOwn, wipeE, unwipe, ps__law_bent, e]) ⟨o1, ho1, rfl⟩
  have hbl : bents.length = 16 := by
    have := hB.length
    simpa [rngL] using this
  have hbz : bents.length ≤ SZ := by omega
  have hbz2 : 6 + bents.length ≤ SZ := by omega
  rw [e2]
  simp [hbz, hbz2]
  generalize hL : loopC _ _ _ _ _ _ = L
  obtain ⟨ρ', ⟨x, y, z, rfl⟩, e3⟩ := loop_pre hL (fun done ρ => ∃ x y z : Option D, ρ = [some (.own o2), some (.val (eCode rows)), some (.val (.str (PyData.shown (eCode rows)))), some (.val (.str (S (textR t rows)))), x.map .val, y.map .val, z.map .val, none, none, none]) (by
    rintro pre d rest ρ hd ⟨x, y, z, rfl⟩
    have hs : Sm 40 10000 d := by
      have hm : d ∈ ([eCode rows, .list [.tuple (rows.map fun r => eNums r.2), .tuple (rows.map fun r => PyData.int (r.1 : Int))], .none, .tuple [], .tuple [.tuple [], .tuple []], .tuple [.tuple (rows.map fun r => eNums r.2), .list (rows.map fun r => PyData.int (r.1 : Int))]] ++ bents : List D) := by
        have : d ∈ pre ++ d :: rest := by simp
        rw [← hd] at this
        simpa using this
      rcases List.mem_append.mp hm with m | m
      · have hi : Sms 2 99 [.tuple (rows.map fun r => eNums r.2), .tuple (rows.map fun r => PyData.int (r.1 : Int))] := by
          have h1 := s0.dep
          have h2 := s0.wt
          have h3 := s0.sm
          simp only [eCode, PyData.depth] at h1
          simp only [eCode, K76.wt] at h2
          simp only [eCode, K76.sm] at h3
          exact ⟨h3, Nat.le_of_succ_le_succ h1, Nat.le_of_succ_le_succ h2⟩
        have ha := hi.mem (List.mem_cons_self)
        have hb := (hi.mem (x := .tuple (rows.map fun r => PyData.int (r.1 : Int))) (by simp)).items
        simp only [List.mem_cons, List.not_mem_nil, or_false] at m
        rcases m with rfl | rfl | rfl | rfl | rfl | rfl
        · exact s0.mono (by decide) (by decide)
        · exact hi.lst.mono (by decide) (by decide)
        · exact ⟨by decide, by decide, by decide⟩
        · exact ⟨by decide, by decide, by decide⟩
        · exact ⟨by decide, by decide, by decide⟩
        · exact (Sms.cons (ha.mono (m := 3) (by decide) (Nat.le_refl _)) (Sms.cons (hb.lst.mono (m := 3) (by decide) (Nat.le_refl _)) (Sms.nil (w := 0)))).tup.mono (by decide) (by decide)
      · obtain ⟨_, _, p⟩ := hB.right d m
        exact p
    have b1 := sem_law_is_code d hs.pl
    have b2 := sem_is_code hs.pl
    have b3 := repr_of hs (by decide) (by decide)
    have b4 : Sm 1 3 (.list [.bool (isCodeB d), .bool (isCodeB d)]) := by
      cases isCodeB d <;> exact ⟨by decide, by decide, by decide⟩
    have b5 := repr_of b4 (by decide) (by decide)
    simp [DI.run, callF, namesAll, noOwn, wipeE, unwipe, DI.settle, setvs, puts, news, ps__law_is_code, ps_is_code, b1, b2, b3, b5, hp3]) ⟨none, none, none, by simp⟩
  rw [e3]
  simp [hb14]
  generalize hC2 : compC _ _ _ _ _ _ _ _ = C2
  obtain ⟨sps, ρ2, e4, ⟨o3, ho3, rfl⟩, hS⟩ := comp_inv hC2 (fun ρ => ∃ o, PotOk o ∧ ρ = [some (.own o), some (.val (eCode rows)), some (.val (.str (PyData.shown (eCode rows)))), some (.val (.str (S (textR t rows)))), x.map .val, y.map .val, z.map .val, none, some (.own (.lst (fixed.map fun x => PyData.str (S x)))), none]) (fun _ y => ∃ z, y = PyData.str (S z) ∧ Short z) (by
    rintro d _ ρ ⟨o, ho, rfl⟩
    have h1 : 1 ≤ (textR t rows).length := by
      unfold textR linesR
      simp
      omega
    obtain ⟨z, o', ho', hs, e⟩ := sem_spoilt ho (text_runs T) (by omega) h1
    refine ⟨_, _, ?_, ⟨o', ho', rfl⟩, z, rfl, hs⟩
    simp [compB, DI.run, callF, namesAll, noOwn, wipeE, unwipe, ps__law_spoilt, e]) ⟨o2, ho2, by simp [fixed, goodLine]⟩
  obtain ⟨zs, rfl, hzs⟩ := all_map_of (f := fun z => PyData.str (S z)) (P := Short) (ys := sps) (fun y m => by
    obtain ⟨_, _, p⟩ := hS.right y m
    exact p)
  have hzl : zs.length = 14 := by
    have := hS.length
    simpa [rngL] using this
  have hz1 : zs.length ≤ SZ := by omega
  have hz2 : 10 + zs.length ≤ SZ := by omega
  have hz3 : zs.length + 10 ≤ SZ := by omega
  rw [e4]
  simp [hz1, hz2, fixed]
  generalize hC3 : compC _ _ _ _ _ _ _ _ = C3
  have hC3' : compC (Ge.of L__law_right cs) (some 0) (.name 9) none (.fn "_law_string_right" (.cons (.var 9) .nil)) [9] ((fixed ++ zs).map fun x => PyData.str (S x)) [some (.own o3), some (.val (eCode rows)), some (.val (.str (PyData.shown (eCode rows)))), some (.val (.str (S (textR t rows)))), x.map .val, y.map .val, z.map .val, none, some (.own (.lst (fixed.map fun x => PyData.str (S x)))), none] = C3 := by
    rw [← hC3]
    simp [fixed, goodLine]
  have e5 := comp_mapL hC3' (fun z => .bool true) (fun z m => by
    have hs : Short z := by
      rcases List.mem_append.mp m with m | m
      · exact fixed_short z m
      · exact hzs z m
    have := sem_string_right hs
    simp [compB, DI.run, callF, namesAll, noOwn, wipeE, unwipe, ps__law_string_right, this])
  subst e5
  have hall : DI.bi .all [.list ((fixed ++ zs).map fun _ => PyData.bool true)] = .ok (.val (.bool true)) := by
    have h := all_mapB (fun _ : List Nat => true) (fixed ++ zs)
    have h2 : (fixed ++ zs).all (fun _ => true) = true := List.all_eq_true.mpr fun _ _ => rfl
    rw [h2] at h
    exact h
  have hfl : (fixed ++ zs).length ≤ SZ := by
    rw [List.length_append, hzl]
    decide
  refine ⟨o3, ho3, ?_⟩
  simp only [t_ok, List.length_map, hfl, if_true, s_conts_cons, s_cont_new, s_lst_d, s_conts_nil, hall]
  simp [r0]
theorem plain (ns : List Int) (h : ns.length ≤ 63) : F_law.sem [.val (scr (ns.map PyData.int))] = .ok (.val (.bool true), none) := by
  have g := sem_great_right
  have hb3 : bnd62 3 = true := rfl
  rw [sd_law, run_pos ⟨rfl, by decide, rfl⟩]
  simp only [C_law]
  simp [DI.run, callF, namesAll, noOwn, wipeE, unwipe, ps__law_great_right, g, hb3]
  generalize hC : compC _ _ _ _ _ _ _ _ = C
  have hr : rngL 0 3 = ([0, 1, 2] : List Nat).map fun k : Nat => PyData.int (k : Int) := rfl
  rw [hr] at hC
  have e := comp_mapL hC (fun _ => .bool true) (fun k _ => by
    obtain ⟨a, b, ha, hb, e1⟩ := sem_pot ns k
    obtain ⟨o', _, e2⟩ := sem_right (o := .lst [.int a, .int b]) ⟨a, b, ha, hb, rfl⟩
    simp [compB, DI.run, callF, namesAll, noOwn, wipeE, unwipe, ps__law_pot, ps__law_right, e1, e2, news])
  subst e
  have h3 : 3 ≤ SZ := by decide
  have hall : DI.bi .all [.list [PyData.bool true, .bool true, .bool true]] = .ok (.val (.bool true)) := rfl
  simp [h3, hall]
end K76
end

section
set_option maxRecDepth 100000
set_option maxHeartbeats 0
/-! k76: the head. -/
namespace K76
open PySem PySem.Spec PyProof.Rows L2 DI
abbrev Rw0 : PySem.W.OpenRow := PySem.W.OpenLaw.row PySem.Challenge.rw_anypicks_k76_any_value_as_code_or_text
def loose1 : List Str := ["is_integer", "is_within", "is_tuple", "PickError", "StateError", "InvalidText", "InvalidCode", "NotCode", "MOST_TABLES", "want_text", "MOST_VECTORS", "WORDS", "is_code_value", "text_by", "number_of", "row_of_line", "tables_of_line", "code_or_line", "want_code", "is_code"]
def loose2 : List Str := ["code_text", "read_code", "_law_pot", "_law_draw", "_law_pick", "_law_code", "_law_is_number", "_law_is_code", "_law_text", "_law_count", "_law_read", "_law_bent", "_law_spoilt", "_law_heard", "_law_string_right", "_law_great_right", "_law_right"]
abbrev loose : List Str := loose1 ++ loose2
abbrev hk : PySem.W.Hook := hookG 4 fa fn cs ex0
def ob (s : PySem.W.SharedT) : AlG := obsG 4 fa fn cs ex0 (HandSHeadRun.getT s)
theorem ob_eq (s : PySem.W.SharedT) : ob s = hk.obs s.abs := obsG_eq (HandSHeadRun.getT_eq s)
theorem run_eq (w : World) : HandSHeadRun.RunEq Rw0 (PySem.W.view Rw0.prog [42]) hk ob 6000 loose w := by
  intro os
  kernel_rfl
end K76
end

section
set_option maxRecDepth 100000
set_option maxHeartbeats 0
/-! k76: the statement, from the plain law. -/
open PySem PySem.W PySem.Calls PyProof.Rows
theorem PySem.Challenge.cw_anypicks_k76_any_value_as_code_or_text_holds : PySem.Challenge.rw_anypicks_k76_any_value_as_code_or_text.Holds := by
  w_on; o_law
  refine HandSHeadRun.head_any (r := OpenLaw.row PySem.Challenge.rw_anypicks_k76_any_value_as_code_or_text) (q := view (OpenLaw.row PySem.Challenge.rw_anypicks_k76_any_value_as_code_or_text).prog [42]) (H := K76.hk) (ob := K76.ob) (M := 6000) (loose := K76.loose)
    (d := HandSHeadRun.topDef (OpenLaw.row PySem.Challenge.rw_anypicks_k76_any_value_as_code_or_text).prog 42) (kwd := []) K76.ob_eq
    (by kernel_rfl) (fun s => by kernel_rfl) K76.run_eq (by kernel_rfl) (by kernel_rfl) (by kernel_rfl) (by rfl) (by first | assumption | decide +kernel) (by decide +kernel) ⟨rfl, rfl, rfl, rfl, rfl, by decide +kernel⟩ ?hw ?hc
  case hw => w_witness2
  case hc =>
    refine DI.walk_end (l := PySem.Challenge.rw_anypicks_k76_any_value_as_code_or_text) (n := 63) (k := 9) (x := "script") rfl (by decide) (by kernel_rfl) ⟨rfl, by decide, by decide⟩ ?_
    intro w mg fa h Y G hmg0
    obtain ⟨K, KX, c⟩ := Y
    have hmg : mg ("law" : PySem.Str) = some (.ref fa) := by
      have e : (HandSHeadRun.topDef (OpenLaw.row PySem.Challenge.rw_anypicks_k76_any_value_as_code_or_text).prog 42).name = ("law" : PySem.Str) := by kernel_rfl
      rw [← e]
      exact hmg0
    obtain ⟨fd, F⟩ := K76.law_at c
    have e := hmg.symm.trans (K76.law_glo c KX G)
    cases e
    exact ⟨K, fd, K76.F_law, KX, K76.law_bind F, rfl, K76.plain, fun base _ _ => K76.fn_law c KX G F⟩
end
