import PyProof.Rows.All
import Wide.All
import OpenK.AllK
import Wide.FinOn
import HandS.ForMost
import HandS.ForExc
import HandS.Wide
import HandS.WideBits
import HandS.Style
import HandS.Flow
import HandS.IsInst
import HandS.CallSlots
import HandS.SortInts
import HandS.TupAny
import HandS.TupMul
import HandS.Conv
import HandS.Zip
import HandS.Deep
import HandS.Small
import HandS.EndBits
import PySem.Challenge.RW_primessure_k77_whole_false_papers_and_fr
set_option Elab.async false
set_option linter.all false
set_option maxRecDepth 100000
namespace Mi
open PySem PySem.Spec L2
open PyProof.Rows hiding St

/-! ### data -/
inductive D where
  | non | bl (b : Bool) | int (i : Int) | str (s : Str) | tup (l : List D) | lst (l : List D)
  | dct (ks : List Key) (l : List D) | fn (x : Str) | cell (i : Nat) | scr (ns : List Int)

structure Wd where
  F : Addr → Prop
  cells : List Addr

/-- the module's own facts -/
structure Md where
  K : PySem.W.Frag
  mg : Str → Option Value

mutual
inductive Rep (M : Md) (w : Wd) (H : Hp) : V → D → Prop
  | non : Rep M w H .non .non
  | bl (b : Bool) : Rep M w H (.bl b) (.bl b)
  | int (i : Int) : Rep M w H (.int i) (.int i)
  | str (x : Str) : Rep M w H (.str x) (.str x)
  | tup {a : Addr} {xs : List V} {l : List D} : w.F a → H a = some (.tup xs) → RepL M w H xs l → Rep M w H (.ref a) (.tup l)
  | lst {a : Addr} {xs : List V} {l : List D} : w.F a → H a = some (.lst xs) → RepL M w H xs l → Rep M w H (.ref a) (.lst l)
  | dct {a : Addr} {kvs : List (Key × V)} {l : List D} : w.F a → H a = some (.dK kvs) → RepL M w H (kvs.map (·.2)) l → Rep M w H (.ref a) (.dct (kvs.map (·.1)) l)
  | fn {x : Str} {f : Addr} : M.mg x = some (.ref f) → Rep M w H (.ref f) (.fn x)
  | cell {i : Nat} {a : Addr} : w.cells[i]? = some a → Rep M w H (.ref a) (.cell i)
  | scr {ns : List Int} {a : Addr} {o : Obj} : w.F a → H a = some (.frz o (.lst (ns.map V.int))) → Rep M w H (.ref a) (.scr ns)
  | scrK {ns : List Int} {a : Addr} : (∀ H : Hp, SqL M.K H a (ns.map V.int)) → Rep M w H (.ref a) (.scr ns)
inductive RepL (M : Md) (w : Wd) (H : Hp) : List V → List D → Prop
  | nil : RepL M w H [] []
  | cons {v : V} {d : D} {xs : List V} {l : List D} : Rep M w H v d → RepL M w H xs l → RepL M w H (v :: xs) (d :: l)
end

/-- what is frozen stays -/
structure SExt (w : Wd) (H : Hp) (w' : Wd) (H' : Hp) : Prop where
  F : ∀ a, w.F a → w'.F a
  keep : ∀ a, w.F a → H' a = H a
  cells : ∀ (i : Nat) (a : Addr), w.cells[i]? = some a → w'.cells[i]? = some a
section
variable {M : Md} {w w' w'' : Wd} {H H' H'' H0 : Hp}
theorem SExt.refl : SExt w H w H := ⟨fun _ h => h, fun _ _ => rfl, fun _ _ h => h⟩
theorem SExt.trans (a : SExt w H w' H') (b : SExt w' H' w'' H'') : SExt w H w'' H'' :=
  ⟨fun x h => b.F x (a.F x h), fun x h => (b.keep x (a.F x h)).trans (a.keep x h), fun i x h => b.cells i x (a.cells i x h)⟩
mutual
theorem Rep.mono (e : SExt w H w' H') : ∀ {v : V} {d : D}, Rep M w H v d → Rep M w' H' v d
  | _, _, .non => .non
  | _, _, .bl b => .bl b
  | _, _, .int i => .int i
  | _, _, .str x => .str x
  | _, _, .tup hF hH hl => .tup (e.F _ hF) ((e.keep _ hF).trans hH) (RepL.mono e hl)
  | _, _, .lst hF hH hl => .lst (e.F _ hF) ((e.keep _ hF).trans hH) (RepL.mono e hl)
  | _, _, .dct hF hH hl => .dct (e.F _ hF) ((e.keep _ hF).trans hH) (RepL.mono e hl)
  | _, _, .fn h => .fn h
  | _, _, .cell h => .cell (e.cells _ _ h)
  | _, _, .scr hF hH => .scr (e.F _ hF) ((e.keep _ hF).trans hH)
  | _, _, .scrK h => .scrK h
theorem RepL.mono (e : SExt w H w' H') : ∀ {xs : List V} {l : List D}, RepL M w H xs l → RepL M w' H' xs l
  | _, _, .nil => .nil
  | _, _, .cons h t => .cons (Rep.mono e h) (RepL.mono e t)
end
theorem RepL.length {xs : List V} {l : List D} : RepL M w H xs l → xs.length = l.length
  | .nil => rfl
  | .cons _ t => by simp [RepL.length t]
theorem RepL.append {xs ys : List V} {l m : List D} : RepL M w H xs l → RepL M w H ys m → RepL M w H (xs ++ ys) (l ++ m)
  | .nil, h => h
  | .cons a t, h => .cons a (RepL.append t h)
theorem RepL.get : ∀ {xs : List V} {l : List D} {i : Nat} {d : D}, RepL M w H xs l → l[i]? = some d → ∃ v, xs[i]? = some v ∧ Rep M w H v d
  | _, _, _, _, .nil, e => by simp at e
  | _, _, 0, _, .cons r _, e => by simp at e; subst e; exact ⟨_, rfl, r⟩
  | _, _, i + 1, _, .cons _ t, e => by
    obtain ⟨u, h1, h2⟩ := RepL.get (i := i) t (by simpa using e)
    exact ⟨u, by simpa using h1, h2⟩
theorem RepL.getV : ∀ {xs : List V} {l : List D} {i : Nat} {v : V}, RepL M w H xs l → xs[i]? = some v → ∃ d, l[i]? = some d ∧ Rep M w H v d
  | _, _, _, _, .nil, e => by simp at e
  | _, _, 0, _, .cons r _, e => by simp at e; subst e; exact ⟨_, rfl, r⟩
  | _, _, i + 1, _, .cons _ t, e => by
    obtain ⟨u, h1, h2⟩ := RepL.getV (i := i) t (by simpa using e)
    exact ⟨u, by simpa using h1, h2⟩
theorem RepL.set {v : V} {d : D} (r : Rep M w H v d) : ∀ {xs : List V} {l : List D} (i : Nat), RepL M w H xs l → RepL M w H (xs.set i v) (l.set i d)
  | _, _, _, .nil => .nil
  | _, _, 0, .cons _ t => .cons r t
  | _, _, i + 1, .cons q t => .cons q (RepL.set r i t)
theorem RepL.take : ∀ {xs : List V} {l : List D} (n : Nat), RepL M w H xs l → RepL M w H (xs.take n) (l.take n)
  | _, _, 0, _ => .nil
  | _, _, _ + 1, .nil => .nil
  | _, _, n + 1, .cons r t => .cons r (RepL.take n t)
theorem RepL.drop : ∀ {xs : List V} {l : List D} (n : Nat), RepL M w H xs l → RepL M w H (xs.drop n) (l.drop n)
  | _, _, 0, r => r
  | _, _, _ + 1, .nil => .nil
  | _, _, n + 1, .cons _ t => RepL.drop n t
theorem RepL.reverse {xs : List V} {l : List D} (h : RepL M w H xs l) : RepL M w H xs.reverse l.reverse := by
  induction l generalizing xs with
  | nil => cases h; exact .nil
  | cons d l ih =>
    cases h with
    | cons a t => rw [List.reverse_cons, List.reverse_cons]; exact (ih t).append (.cons a .nil)
theorem RepL.dropLast {xs : List V} {l : List D} (h : RepL M w H xs l) : RepL M w H xs.dropLast l.dropLast := by
  rw [List.dropLast_eq_take, List.dropLast_eq_take, h.length]
  exact h.take _
theorem RepL.rep {xs : List V} {l : List D} (h : RepL M w H xs l) : ∀ k : Nat, RepL M w H (List.replicate k xs).flatten (List.replicate k l).flatten
  | 0 => .nil
  | k + 1 => by
    rw [List.replicate_succ, List.replicate_succ, List.flatten_cons, List.flatten_cons]
    exact h.append (RepL.rep h k)
theorem RepL.ints {l : List D} : ∀ {ns : List Int}, l = ns.map D.int → ∀ {xs : List V}, RepL M w H xs l → xs = ns.map V.int
  | [], e, _, h => by subst e; cases h; rfl
  | n :: ns, e, _, h => by
    subst e
    cases h with
    | cons a t => cases a; rw [RepL.ints rfl t]; rfl
end

/-- behind an expression -/
structure Ext (w : Wd) (H : Hp) (w' : Wd) (H' : Hp) : Prop where
  F : ∀ a, w.F a → w'.F a
  F' : ∀ a, w'.F a → w.F a ∨ H a = none
  keep : ∀ a o, H a = some o → a ∉ w.cells → H' a = some o
  there : ∀ a, H a ≠ none → H' a ≠ none
  cells : ∃ t, w'.cells = w.cells ++ t ∧ ∀ a ∈ t, H a = none
structure WOk (w : Wd) (H : Hp) : Prop where
  Fh : ∀ a, w.F a → H a ≠ none
  Fc : ∀ a ∈ w.cells, ¬ w.F a
  ch : ∀ a ∈ w.cells, H a ≠ none
  nd : w.cells.Nodup
abbrev Store := List (List D)
structure StOk (M : Md) (w : Wd) (H : Hp) (st : Store) : Prop where
  ok : WOk w H
  len : w.cells.length = st.length
  at_ : ∀ (i : Nat) (l : List D), st[i]? = some l → ∃ a xs, w.cells[i]? = some a ∧ H a = some (.lst xs) ∧ RepL M w H xs l
section
variable {M : Md} {w w' w'' : Wd} {H H' H'' H0 : Hp} {st st' : Store}
theorem Ext.refl : Ext w H w H := ⟨fun _ h => h, fun _ h => .inl h, fun _ _ h _ => h, fun _ h => h, [], by simp, by simp⟩
theorem Ext.trans (a : Ext w H w' H') (b : Ext w' H' w'' H'') : Ext w H w'' H'' := by
  obtain ⟨t, e1, n1⟩ := a.cells
  obtain ⟨u, e2, n2⟩ := b.cells
  have un : ∀ x, H' x = none → H x = none := fun x h => Classical.byContradiction fun z => a.there x z h
  refine ⟨fun x h => b.F x (a.F x h), fun x h => ?_, fun x o h hc => ?_, fun x h => b.there x (a.there x h), t ++ u, by rw [e2, e1, List.append_assoc], fun x hx => ?_⟩
  · rcases b.F' x h with h | h
    · exact a.F' x h
    · exact .inr (un x h)
  · refine b.keep x o (a.keep x o h hc) fun hx => ?_
    rw [e1] at hx
    rcases List.mem_append.mp hx with hx | hx
    · exact hc hx
    · rw [n1 x hx] at h; cases h
  · rcases List.mem_append.mp hx with hx | hx
    · exact n1 x hx
    · exact un x (n2 x hx)
theorem Ext.s (e : Ext w H w' H') (o : WOk w H) : SExt w H w' H' := by
  obtain ⟨t, e1, _⟩ := e.cells
  refine ⟨e.F, fun a hF => ?_, fun i a h => ?_⟩
  · cases q : H a with
    | none => exact absurd q (o.Fh a hF)
    | some x => exact e.keep a x q fun hc => o.Fc a hc hF
  · rw [e1, List.getElem?_append_left (List.getElem?_eq_some_iff.mp h).1]; exact h
theorem Ext.none (e : Ext w H w' H') {a : Addr} (h : H' a = Option.none) : H a = Option.none := Classical.byContradiction fun z => e.there a z h
theorem Ext.notF (e : Ext w H w' H') {a : Addr} (h : H a ≠ Option.none) (n : ¬ w.F a) : ¬ w'.F a := fun z => (e.F' a z).elim n h
theorem Ext.notC (e : Ext w H w' H') {a : Addr} (h : H a ≠ Option.none) (n : a ∉ w.cells) : a ∉ w'.cells := fun z => by
  obtain ⟨t, e1, n1⟩ := e.cells
  rw [e1] at z
  rcases List.mem_append.mp z with z | z
  · exact n z
  · exact h (n1 a z)
end

/-! ### open things: a list or a dict that is not frozen -/
inductive Kd where | s | f | b
def OpenA (M : Md) (w : Wd) (H : Hp) (a : Addr) (d : D) : Prop :=
  ¬ w.F a ∧ a ∉ w.cells ∧ match d with
    | .lst l => ∃ xs, H a = some (.lst xs) ∧ RepL M w H xs l
    | .dct ks l => ∃ kvs : List (Key × V), H a = some (.dK kvs) ∧ kvs.map (·.1) = ks ∧ RepL M w H (kvs.map (·.2)) l
    | _ => False
/-- a result, from the heap H0 on -/
def Top (M : Md) (H0 : Hp) (w : Wd) (H : Hp) (v : V) : Kd → D → Prop
  | .s, d => Rep M w H v d
  | .f, d => ∃ a, v = .ref a ∧ H0 a = none ∧ OpenA M w H a d
  | .b, d => ∃ a, v = .ref a ∧ OpenA M w H a d
section
variable {M : Md} {w w' w'' : Wd} {H H' H'' H0 H1 : Hp} {st st' : Store} {v : V} {k : Kd} {d : D} {a : Addr}
theorem OpenA.there (o : OpenA M w H a d) : H a ≠ none := by
  obtain ⟨_, _, h⟩ := o
  cases d with
  | lst l => obtain ⟨xs, e, _⟩ := h; rw [e]; exact fun z => nomatch z
  | dct ks l => obtain ⟨xs, e, _⟩ := h; rw [e]; exact fun z => nomatch z
  | _ => exact h.elim
theorem OpenA.ext (o : OpenA M w H a d) (e : Ext w H w' H') (ok : WOk w H) : OpenA M w' H' a d := by
  have th := o.there
  obtain ⟨n1, n2, h⟩ := o
  refine ⟨e.notF th n1, e.notC th n2, ?_⟩
  cases d with
  | lst l => obtain ⟨xs, q, r⟩ := h; exact ⟨xs, e.keep a _ q n2, r.mono (e.s ok)⟩
  | dct ks l => obtain ⟨xs, q, q2, r⟩ := h; exact ⟨xs, e.keep a _ q n2, q2, r.mono (e.s ok)⟩
  | _ => exact h.elim
theorem Top.ext (t : Top M H0 w H v k d) (e : Ext w H w' H') (ok : WOk w H) : Top M H0 w' H' v k d := by
  cases k with
  | s => exact Rep.mono (e.s ok) t
  | f => obtain ⟨a, e1, e2, o⟩ := t; exact ⟨a, e1, e2, o.ext e ok⟩
  | b => obtain ⟨a, e1, o⟩ := t; exact ⟨a, e1, o.ext e ok⟩
theorem Top.back (t : Top M H1 w' H' v k d) (e : Ext w H w1 H1) : Top M H w' H' v k d := by
  cases k with
  | s => exact t
  | f => obtain ⟨a, e1, e2, o⟩ := t; exact ⟨a, e1, e.none e2, o⟩
  | b => exact t
theorem StOk.mono (s : StOk M w H st) (e : SExt w H w' H') (hc : w'.cells = w.cells) (hk : ∀ a ∈ w.cells, H' a = H a) (ok : WOk w' H') : StOk M w' H' st := by
  refine ⟨ok, by rw [hc]; exact s.len, fun i l h => ?_⟩
  obtain ⟨a, xs, h1, h2, h3⟩ := s.at_ i l h
  exact ⟨a, xs, by rw [hc]; exact h1, by rw [hk a (List.mem_of_getElem? h1)]; exact h2, h3.mono e⟩
/-- a fresh thing is frozen -/
theorem OpenA.freeze (o : OpenA M w H a d) (s : StOk M w H st) : ∃ w', w' = { w with F := fun x => w.F x ∨ x = a } ∧ SExt w H w' H ∧ StOk M w' H st ∧ Rep M w' H (.ref a) d := by
  have th := o.there
  obtain ⟨n1, n2, h⟩ := o
  have se : SExt w H { w with F := fun x => w.F x ∨ x = a } H := ⟨fun _ h => .inl h, fun _ _ => rfl, fun _ _ h => h⟩
  have ok : WOk { w with F := fun x => w.F x ∨ x = a } H := by
    refine ⟨fun x hx => ?_, fun x hx hF => ?_, s.ok.ch, s.ok.nd⟩
    · rcases hx with hx | rfl
      · exact s.ok.Fh x hx
      · exact th
    · rcases hF with hF | rfl
      · exact s.ok.Fc x hx hF
      · exact n2 hx
  refine ⟨_, rfl, se, s.mono se rfl (fun _ _ => rfl) ok, ?_⟩
  cases d with
  | lst l => obtain ⟨xs, q, r⟩ := h; exact .lst (.inr rfl) q (r.mono se)
  | dct ks l =>
    obtain ⟨xs, q, q2, r⟩ := h
    subst q2
    exact .dct (.inr rfl) q (r.mono se)
  | _ => exact h.elim
/-- a result that is no borrowed thing, as frozen data -/
theorem Top.strong (t : Top M H w' H' v k d) (e : Ext w H w' H') (s : StOk M w' H' st) (hk : k ≠ .b) : ∃ w2, Ext w H w2 H' ∧ SExt w' H' w2 H' ∧ (∀ a, w2.F a → w'.F a ∨ H a = none) ∧ w2.cells = w'.cells ∧ StOk M w2 H' st ∧ Rep M w2 H' v d := by
  cases k with
  | s => exact ⟨w', e, .refl, fun a h => .inl h, rfl, s, t⟩
  | b => exact absurd rfl hk
  | f =>
    obtain ⟨a, rfl, h0, o⟩ := t
    obtain ⟨w2, e2, se, s2, r⟩ := o.freeze s
    have fF : ∀ x, w2.F x → w'.F x ∨ x = a := fun x h => by rw [e2] at h; exact h
    have fC : w2.cells = w'.cells := by rw [e2]
    refine ⟨w2, ⟨fun x h => se.F x (e.F x h), fun x h => ?_, e.keep, e.there, by rw [fC]; exact e.cells⟩, se, fun x h => ?_, fC, s2, r⟩
    · rcases fF x h with h | h
      · exact e.F' x h
      · subst h; exact .inr h0
    · rcases fF x h with h | h
      · exact .inl h
      · subst h; exact .inr h0
end

/-! ### slots and the state relation -/
inductive Slot where | no | val (d : D) | own (d : D)
abbrev Env := List Slot
structure Ent where
  w : Wd
  H : Hp
def SlotR (M : Md) (E : Ent) (w : Wd) (H : Hp) (o : Option (Option V)) : Slot → Prop
  | .no => True
  | .val d => ∃ v, o = some (some v) ∧ Rep M w H v d
  | .own d => ∃ a, o = some (some (.ref a)) ∧ E.H a = none ∧ OpenA M w H a d
structure Rel (M : Md) (E : Ent) (w : Wd) (H : Hp) (σ : St) (ρ : Env) (st : Store) : Prop where
  st : StOk M w H st
  ext : Ext E.w E.H w H
  len : σ.length = ρ.length
  slot : ∀ (i : Nat) (s : Slot), ρ[i]? = some s → SlotR M E w H (σ[i]?) s
  dist : ∀ (i j : Nat) (d1 d2 : D) (a : Addr), i ≠ j → ρ[i]? = some (.own d1) → ρ[j]? = some (.own d2) → σ[i]? = some (some (.ref a)) → σ[j]? ≠ some (some (.ref a))
section
variable {M : Md} {E : Ent} {w w' w'' : Wd} {H H' H'' H0 H1 : Hp} {st st' : Store} {v : V} {k : Kd} {d : D} {a : Addr} {σ : St} {ρ : Env}
theorem Rel.next (R : Rel M E w H σ ρ st) (e : Ext w H w' H') (s : StOk M w' H' st') : Rel M E w' H' σ ρ st' := by
  refine ⟨s, R.ext.trans e, R.len, fun i sl h => ?_, R.dist⟩
  have q := R.slot i sl h
  cases sl with
  | no => trivial
  | val d => obtain ⟨v, e1, r⟩ := q; exact ⟨v, e1, r.mono (e.s R.st.ok)⟩
  | own d => obtain ⟨a, e1, e2, o⟩ := q; exact ⟨a, e1, e2, o.ext e R.st.ok⟩
/-- a value is stored -/
theorem Rel.setVal (R : Rel M E w H σ ρ st) (i : Nat) (r : Rep M w H v d) : Rel M E w H (σ.set i (some v)) (ρ.set i (.val d)) st := by
  refine ⟨R.st, R.ext, by simp [R.len], fun j s h => ?_, fun j l d1 d2 a hjl h1 h2 h3 h4 => ?_⟩
  · by_cases hj : i = j
    · subst hj
      by_cases hl : i < ρ.length
      · rw [List.getElem?_set_self hl] at h
        cases h
        exact ⟨v, by rw [List.getElem?_set_self (by rw [R.len]; exact hl)], r⟩
      · rw [List.getElem?_eq_none (by simpa using hl)] at h; cases h
    · rw [List.getElem?_set_ne hj] at h ⊢
      exact R.slot j s h
  · have hj : i ≠ j := fun z => by
      subst z
      by_cases hl : i < ρ.length
      · rw [List.getElem?_set_self hl] at h1; cases h1
      · rw [List.getElem?_eq_none (by simpa using hl)] at h1; cases h1
    have hl : i ≠ l := fun z => by
      subst z
      by_cases hl : i < ρ.length
      · rw [List.getElem?_set_self hl] at h2; cases h2
      · rw [List.getElem?_eq_none (by simpa using hl)] at h2; cases h2
    rw [List.getElem?_set_ne hj] at h1 h3
    rw [List.getElem?_set_ne hl] at h2 h4
    exact R.dist j l d1 d2 a hjl h1 h2 h3 h4
/-- a fresh thing (from H0 on, where the slots stood) is stored -/
theorem Rel.setOwn (R : Rel M E w H σ ρ st) (i : Nat) (o : OpenA M w H a d) (hE : E.H a = none) (hn : ∀ (j : Nat) (d' : D), ρ[j]? = some (.own d') → i ≠ j → σ[j]? ≠ some (some (.ref a))) : Rel M E w H (σ.set i (some (.ref a))) (ρ.set i (.own d)) st := by
  refine ⟨R.st, R.ext, by simp [R.len], fun j s h => ?_, fun j l d1 d2 b hjl h1 h2 h3 h4 => ?_⟩
  · by_cases hj : i = j
    · subst hj
      by_cases hl : i < ρ.length
      · rw [List.getElem?_set_self hl] at h
        cases h
        exact ⟨a, by rw [List.getElem?_set_self (by rw [R.len]; exact hl)], hE, o⟩
      · rw [List.getElem?_eq_none (by simpa using hl)] at h; cases h
    · rw [List.getElem?_set_ne hj] at h ⊢
      exact R.slot j s h
  · have at_i : ∀ {x d0}, (ρ.set i (.own d))[i]? = some (Slot.own d0) → (σ.set i (some (.ref a)))[i]? = some (some (.ref x)) → x = a := fun {x d0} h1 h3 => by
      by_cases hl : i < σ.length
      · rw [List.getElem?_set_self hl] at h3
        cases h3; rfl
      · rw [List.getElem?_eq_none (by simpa using hl)] at h3; cases h3
    by_cases hj : i = j
    · subst hj
      have e := at_i h1 h3
      subst e
      rw [List.getElem?_set_ne hjl] at h2 h4
      exact hn l d2 h2 hjl h4
    · by_cases hl : i = l
      · subst hl
        have e := at_i h2 h4
        subst e
        rw [List.getElem?_set_ne hj] at h1 h3
        exact hn j d1 h1 hj h3
      · rw [List.getElem?_set_ne hj] at h1 h3
        rw [List.getElem?_set_ne hl] at h2 h4
        exact R.dist j l d1 d2 b hjl h1 h2 h3 h4
/-- a slot is forgotten -/
theorem Rel.setNo (R : Rel M E w H σ ρ st) (i : Nat) (x : Option V) : Rel M E w H (σ.set i x) (ρ.set i .no) st := by
  refine ⟨R.st, R.ext, by simp [R.len], fun j s h => ?_, fun j l d1 d2 a hjl h1 h2 h3 h4 => ?_⟩
  · by_cases hj : i = j
    · subst hj
      by_cases hl : i < ρ.length
      · rw [List.getElem?_set_self hl] at h
        cases h
        trivial
      · rw [List.getElem?_eq_none (by simpa using hl)] at h; cases h
    · rw [List.getElem?_set_ne hj] at h ⊢
      exact R.slot j s h
  · have hj : i ≠ j := fun z => by
      subst z
      by_cases hl : i < ρ.length
      · rw [List.getElem?_set_self hl] at h1; cases h1
      · rw [List.getElem?_eq_none (by simpa using hl)] at h1; cases h1
    have hl : i ≠ l := fun z => by
      subst z
      by_cases hl : i < ρ.length
      · rw [List.getElem?_set_self hl] at h2; cases h2
      · rw [List.getElem?_eq_none (by simpa using hl)] at h2; cases h2
    rw [List.getElem?_set_ne hj] at h1 h3
    rw [List.getElem?_set_ne hl] at h2 h4
    exact R.dist j l d1 d2 a hjl h1 h2 h3 h4
def wipeE (ρ : Env) : List Nat → Env
  | [] => ρ
  | v :: vs => (wipeE ρ vs).set v .no
theorem Rel.wipe (R : Rel M E w H σ ρ st) : ∀ vs : List Nat, Rel M E w H (wipe σ vs) (wipeE ρ vs) st
  | [] => R
  | v :: vs => (Rel.wipe R vs).setNo v none
/-- the owned things of other slots, when one at a is changed -/
theorem Rel.fresh (R : Rel M E w H σ ρ st) (e : Ext w H w' H') (h0 : H a = none) : ∀ (j : Nat) (d' : D), ρ[j]? = some (.own d') → σ[j]? ≠ some (some (.ref a)) := fun j d' h z => by
  obtain ⟨b, e1, _, o⟩ := R.slot j _ h
  rw [z] at e1
  cases e1
  exact o.there h0
end
end Mi

set_option maxRecDepth 100000
namespace Mi
open PySem PySem.Spec L2
open PyProof.Rows hiding St

/-! ### results -/
inductive ER where
  | ok (d : D) (k : Kd) (st : Store) | exc (c : Str) (st : Store) | bad
abbrev ME := Env → Store → ER
def ER.bind (r : ER) (f : D → Kd → Store → ER) : ER := match r with
  | .ok d k st => f d k st
  | .exc c st => .exc c st
  | .bad => .bad
def ClsOf (M : Md) (c : Str) (cls : Value) : Prop := M.mg c = some cls ∨ (M.mg c = none ∧ bootBuiltins c = some cls)
def Post (M : Md) (W : WX) (E : Ent) (w : Wd) (H : Hp) (σ : St) (ρ : Env) (Q : VK) : ER → Prop
  | .ok d k st' => ∀ w' H' v, Ext w H w' H' → StOk M w' H' st' → Top M H w' H' v k d → Q v H'
  | .exc c st' => ∀ w' H' cls, SExt w H w' H' → Rel M E w' H' σ ρ st' → ClsOf M c cls → W cls none σ H'
  | .bad => False
def tE (M : Md) (W : WX) (m : ME) : TE := fun σ H Q => ∃ E w ρ st, Rel M E w H σ ρ st ∧ Post M W E w H σ ρ Q (m ρ st)
theorem PE.imp {X : Cx} {e : Expr} {t t' : TE} (h : PE X e t) (i : ∀ σ H Q, t' σ H Q → t σ H Q) : PE X e t' := ⟨fun pins s σ H Q I q => h.run pins s σ H Q I (i σ H Q q)⟩
theorem PT.imp {X : Cx} {e : Expr} {t t' : TT} (h : PT X e t) (i : ∀ σ H Q, t' σ H Q → t σ H Q) : PT X e t' := ⟨fun pins s σ H Q I q => h.run pins s σ H Q I (i σ H Q q)⟩
theorem PW.imp {X : Cx} {e : Expr} {t t' : TT} (h : PW X e t) (i : ∀ σ H Q, t' σ H Q → t σ H Q) : PW X e t' := ⟨fun wh pins s σ H Q I q => h.run wh pins s σ H Q I (i σ H Q q)⟩
theorem PA.imp {X : Cx} {e : List Expr} {t t' : TA} (h : PA X e t) (i : ∀ σ H Q, t' σ H Q → t σ H Q) : PA X e t' := ⟨fun pos pins s σ H Q I q => h.run pos pins s σ H Q I (i σ H Q q)⟩
theorem PS.imp {X : Cx} {e : Stmt} {t t' : TS} (h : PS X e t) (i : ∀ D σ H, t' D σ H → t D σ H) : PS X e t' := ⟨fun pins s σ H D I q => h.run pins s σ H D I (i D σ H q)⟩
theorem PSs.imp {X : Cx} {e : List Stmt} {t t' : TS} (h : PSs X e t) (i : ∀ D σ H, t' D σ H → t D σ H) : PSs X e t' := ⟨fun pins s σ H D I q => h.run pins s σ H D I (i D σ H q)⟩
theorem PI.imp {X : Cx} {tg e : Expr} {t t' : TI} (h : PI X tg e t) (i : ∀ σ H Q, t' σ H Q → t σ H Q) : PI X tg e t' := ⟨fun pins s σ H Q I q => h.run pins s σ H Q I (i σ H Q q)⟩

/-! ### what a value shows -/
inductive See (M : Md) (w : Wd) (H : Hp) (v : V) (d : D) : Prop
  | rep (r : Rep M w H v d) : See M w H v d
  | opn (a : Addr) (e : v = .ref a) (o : OpenA M w H a d) : See M w H v d
section
variable {M : Md} {W : WX} {E : Ent} {w w' w'' : Wd} {H H' H'' H0 H1 : Hp} {st st' : Store} {v u : V} {k : Kd} {d : D} {a : Addr} {σ : St} {ρ : Env} {l : List D} {xs : List V}
theorem Top.see (t : Top M H0 w H v k d) : See M w H v d := by
  cases k with
  | s => exact .rep t
  | f => obtain ⟨a, e1, _, o⟩ := t; exact .opn a e1 o
  | b => obtain ⟨a, e1, o⟩ := t; exact .opn a e1 o
theorem See.ext (s : See M w H v d) (e : Ext w H w' H') (ok : WOk w H) : See M w' H' v d := by
  rcases s with r | ⟨a, e1, o⟩
  · exact .rep (r.mono (e.s ok))
  · exact .opn a e1 (o.ext e ok)
theorem See.lst (s : See M w H v (.lst l)) : ∃ a xs, v = .ref a ∧ H a = some (.lst xs) ∧ RepL M w H xs l := by
  rcases s with r | ⟨a, e1, _, _, xs, h, q⟩
  · cases r with
    | lst hF hH hl => exact ⟨_, _, rfl, hH, hl⟩
  · exact ⟨a, xs, e1, h, q⟩
theorem See.dct {ks : List Key} (s : See M w H v (.dct ks l)) : ∃ (a : Addr) (kvs : List (Key × V)), v = .ref a ∧ H a = some (.dK kvs) ∧ kvs.map (·.1) = ks ∧ RepL M w H (kvs.map (·.2)) l := by
  rcases s with r | ⟨a, e1, _, _, xs, h, q, q2⟩
  · cases r with
    | dct hF hH hl => exact ⟨_, _, rfl, hH, rfl, hl⟩
  · exact ⟨a, xs, e1, h, q, q2⟩
theorem See.tup (s : See M w H v (.tup l)) : ∃ a xs, v = .ref a ∧ H a = some (.tup xs) ∧ RepL M w H xs l := by
  rcases s with r | ⟨a, e1, o⟩
  · cases r with
    | tup hF hH hl => exact ⟨_, _, rfl, hH, hl⟩
  · exact o.2.2.elim
theorem See.int {i : Int} (s : See M w H v (.int i)) : v = .int i := by
  rcases s with r | ⟨a, e1, o⟩
  · cases r; rfl
  · exact o.2.2.elim
theorem See.bl {i : Bool} (s : See M w H v (.bl i)) : v = .bl i := by
  rcases s with r | ⟨a, e1, o⟩
  · cases r; rfl
  · exact o.2.2.elim
theorem See.non (s : See M w H v .non) : v = .non := by
  rcases s with r | ⟨a, e1, o⟩
  · cases r; rfl
  · exact o.2.2.elim
theorem See.str {x : Str} (s : See M w H v (.str x)) : v = .str x := by
  rcases s with r | ⟨a, e1, o⟩
  · cases r; rfl
  · exact o.2.2.elim

/-! ### new things -/
theorem new_keep {o : HO} (hp : H a = none) : ∀ b x, H b = some x → upd H a o b = some x := fun b x h => by rw [upd_ne (ne_of_none h hp)]; exact h
theorem new_ext {o : HO} (hp : H a = none) : Ext w H w (upd H a o) := by
  refine ⟨fun _ h => h, fun _ h => .inl h, fun b x h _ => new_keep hp b x h, fun b h => ?_, [], by simp, by simp⟩
  cases q : H b with
  | none => exact absurd q h
  | some x => rw [new_keep hp b x q]; exact fun z => nomatch z
theorem new_st {o : HO} (s : StOk M w H st) (hp : H a = none) : StOk M w (upd H a o) st := by
  have e : Ext w H w (upd H a o) := new_ext hp
  refine s.mono (e.s s.ok) rfl (fun b hb => ?_) ⟨fun b h => e.there b (s.ok.Fh b h), s.ok.Fc, fun b h => e.there b (s.ok.ch b h), s.ok.nd⟩
  exact upd_ne fun z => s.ok.ch b hb (z ▸ hp)
theorem new_list (s : StOk M w H st) (hp : H a = none) (r : RepL M w H xs l) : Ext w H w (upd H a (.lst xs)) ∧ StOk M w (upd H a (.lst xs)) st ∧ Top M H w (upd H a (.lst xs)) (.ref a) .f (.lst l) := by
  have e : Ext w H w (upd H a (.lst xs)) := new_ext hp
  exact ⟨e, new_st s hp, a, rfl, hp, fun z => s.ok.Fh a z hp, fun z => s.ok.ch a z hp, xs, upd_same, r.mono (e.s s.ok)⟩
theorem new_dict {kvs : List (Key × V)} (s : StOk M w H st) (hp : H a = none) (r : RepL M w H (kvs.map (·.2)) l) : Ext w H w (upd H a (.dK kvs)) ∧ StOk M w (upd H a (.dK kvs)) st ∧ Top M H w (upd H a (.dK kvs)) (.ref a) .f (.dct (kvs.map (·.1)) l) := by
  have e : Ext w H w (upd H a (.dK kvs)) := new_ext hp
  exact ⟨e, new_st s hp, a, rfl, hp, fun z => s.ok.Fh a z hp, fun z => s.ok.ch a z hp, kvs, upd_same, rfl, r.mono (e.s s.ok)⟩
theorem new_tup (s : StOk M w H st) (hp : H a = none) (r : RepL M w H xs l) : ∃ w', Ext w H w' (upd H a (.tup xs)) ∧ StOk M w' (upd H a (.tup xs)) st ∧ Rep M w' (upd H a (.tup xs)) (.ref a) (.tup l) := by
  have e : Ext w H w (upd H a (.tup xs)) := new_ext hp
  have s1 : StOk M w (upd H a (.tup xs)) st := new_st s hp
  have se : SExt w (upd H a (.tup xs)) { w with F := fun x => w.F x ∨ x = a } (upd H a (.tup xs)) := ⟨fun _ h => .inl h, fun _ _ => rfl, fun _ _ h => h⟩
  refine ⟨{ w with F := fun x => w.F x ∨ x = a }, ⟨fun x h => .inl h, fun x h => ?_, e.keep, e.there, e.cells⟩, s1.mono se rfl (fun _ _ => rfl) ⟨fun x h => ?_, fun x hx hF => ?_, s1.ok.ch, s1.ok.nd⟩, .tup (.inr rfl) upd_same ((r.mono (e.s s.ok)).mono se)⟩
  · rcases h with h | h
    · exact .inl h
    · subst h; exact .inr hp
  · rcases h with h | h
    · exact s1.ok.Fh x h
    · subst h; rw [upd_same]; exact fun z => nomatch z
  · rcases hF with hF | hF
    · exact s1.ok.Fc x hx hF
    · subst hF; exact s.ok.ch x hx hp

/-! ### names, constants -/
def mC (d : D) : ME := fun _ st => .ok d .s st
def mV (i : Nat) : ME := fun ρ st => match ρ[i]? with
  | some (.val d) => .ok d .s st
  | some (.own d) => .ok d .b st
  | _ => .bad
theorem slot_top (R : Rel M E w H σ ρ st) {i : Nat} (h : mV i ρ st = .ok d k st') : st' = st ∧ ∃ v, σ[i]? = some (some v) ∧ Top M H w H v k d := by
  unfold mV at h
  cases q : ρ[i]? with
  | none => rw [q] at h; cases h
  | some s =>
    rw [q] at h
    cases s with
    | no => cases h
    | val d =>
      cases h
      obtain ⟨v, e, r⟩ := R.slot i _ q
      exact ⟨rfl, v, e, r⟩
    | own d =>
      cases h
      obtain ⟨a, e, _, o⟩ := R.slot i _ q
      exact ⟨rfl, _, e, a, rfl, o⟩
theorem c_var {i : Nat} {Q : VK} (h : tE M W (mV i) σ H Q) : tVar i σ H Q := by
  obtain ⟨E, w, ρ, st, R, h⟩ := h
  cases q : mV i ρ st with
  | bad => rw [q] at h; exact h.elim
  | exc c s => unfold mV at q; split at q <;> cases q
  | ok d k st' =>
    rw [q] at h
    obtain ⟨rfl, v, e, t⟩ := slot_top R q
    exact ⟨v, e, h w H v .refl R.st t⟩
theorem c_const {Q : VK} (r : ∀ w H, Rep M w H v d) (h : tE M W (mC d) σ H Q) : tC v σ H Q := by
  obtain ⟨E, w, ρ, st, R, h⟩ := h
  exact h w H v .refl R.st (r w H)

/-! ### one, two operands -/
def D.kd : D → Kd
  | .lst _ => .f
  | .dct _ _ => .f
  | _ => .s
def mk (o : Option D) (st : Store) : ER := match o with
  | some d => .ok d d.kd st
  | none => .bad
def mOp1 (f : D → Option D) (ma : ME) : ME := fun ρ st => (ma ρ st).bind fun x _ st1 => mk (f x) st1
def mOp2 (f : D → D → Option D) (ma mb : ME) : ME := fun ρ st => (ma ρ st).bind fun x _ st1 => (mb ρ st1).bind fun y _ st2 => mk (f x y) st2
/-- what is wanted of a new value -/
def Fin (M : Md) (w : Wd) (H : Hp) (st : Store) (d : D) (Q : VK) : Prop := ∀ w' H' z, Ext w H w' H' → StOk M w' H' st → Top M H w' H' z d.kd d → Q z H'
def Op1 (M : Md) (f : D → Option D) (r : V → Hp → VK → Prop) : Prop := ∀ w H st v x d Q, StOk M w H st → See M w H v x → f x = some d → Fin M w H st d Q → r v H Q
def Op2 (M : Md) (f : D → D → Option D) (r : R2) : Prop := ∀ w H st v u x y d Q, StOk M w H st → See M w H v x → See M w H u y → f x y = some d → Fin M w H st d Q → r v u H Q
theorem Fin.rep {Q : VK} (h : Fin M w H st d Q) (s : StOk M w H st) (hk : d.kd = .s) (r : Rep M w H v d) : Q v H := h w H v .refl s (by rw [hk]; exact r)
/-- as Post, seen from a later heap -/
def PostB (M : Md) (W : WX) (E : Ent) (w : Wd) (H H0 : Hp) (σ : St) (ρ : Env) (Q : VK) : ER → Prop
  | .ok d k st' => ∀ w' H' v, Ext w H w' H' → StOk M w' H' st' → Top M H0 w' H' v k d → Q v H'
  | .exc c st' => ∀ w' H' cls, SExt w H w' H' → Rel M E w' H' σ ρ st' → ClsOf M c cls → W cls none σ H'
  | .bad => False
theorem PostB.bind {Q : VK} {w1 : Wd} {r : ER} {f : D → Kd → Store → ER} (h : PostB M W E w H H0 σ ρ Q (r.bind f)) (R : Rel M E w H σ ρ st) {Q' : VK} (e0 : Ext w1 H0 w H)
    (go : ∀ w1 H1 v x k st1, Ext w H w1 H1 → Rel M E w1 H1 σ ρ st1 → Top M H w1 H1 v k x → PostB M W E w1 H1 H0 σ ρ Q (f x k st1) → Q' v H1) : Post M W E w H σ ρ Q' r := by
  cases r with
  | bad => exact h.elim
  | exc c st' => exact h
  | ok x k st1 =>
    have h : PostB M W E w H H0 σ ρ Q (f x k st1) := h
    intro w1 H1 v e1 s1 t1
    refine go w1 H1 v x k st1 e1 (R.next e1 s1) t1 ?_
    revert h
    cases f x k st1 with
    | bad => exact id
    | exc c s => exact fun h w' H' cls e => h w' H' cls ((e1.s R.st.ok).trans e)
    | ok d k st' => exact fun h w' H' z e s t => h w' H' z (e1.trans e) s t
/-- the first operand -/
theorem bind1 {ma : ME} {f : D → Kd → Store → Env → ER} {Q : VK} {R : V → Hp → Prop} (h : tE M W (fun ρ st => (ma ρ st).bind fun x k s => f x k s ρ) σ H Q)
    (go : ∀ E w ρ st w1 H1 v x k st1, Rel M E w H σ ρ st → Ext w H w1 H1 → Rel M E w1 H1 σ ρ st1 → Top M H w1 H1 v k x →
      PostB M W E w1 H1 H σ ρ Q (f x k st1 ρ) → R v H1) : tE M W ma σ H R := by
  obtain ⟨E, w, ρ, st, R0, h⟩ := h
  refine ⟨E, w, ρ, st, R0, ?_⟩
  have h : Post M W E w H σ ρ Q ((ma ρ st).bind fun x k s => f x k s ρ) := h
  cases q : ma ρ st with
  | bad => rw [q] at h; exact h.elim
  | exc c st' => rw [q] at h; exact h
  | ok x k st1 =>
    rw [q] at h
    have h : Post M W E w H σ ρ Q (f x k st1 ρ) := h
    intro w1 H1 v e1 s1 t1
    refine go E w ρ st w1 H1 v x k st1 R0 e1 (R0.next e1 s1) t1 ?_
    revert h
    cases f x k st1 ρ with
    | bad => exact id
    | exc c s => exact fun h w' H' cls e => h w' H' cls ((e1.s R0.st.ok).trans e)
    | ok d k st' => exact fun h w' H' z e s t => h w' H' z (e1.trans e) s t
theorem c_op1 {f : D → Option D} {r : V → Hp → VK → Prop} {ma : ME} {Q : VK} (hf : Op1 M f r) (h : tE M W (mOp1 f ma) σ H Q) : tUn r (tE M W ma) σ H Q := by
  refine bind1 (f := fun x _ s _ => mk (f x) s) h fun E w ρ st w1 H1 v x k st1 R0 e1 R1 t1 q => ?_
  cases qf : f x with
  | none => rw [qf] at q; exact q.elim
  | some d =>
    rw [qf] at q
    exact hf w1 H1 st1 v x d Q R1.st t1.see qf fun w' H' z e s t => q w' H' z e s (t.back e1)
theorem c_op2 {f : D → D → Option D} {r : R2} {ma mb : ME} {Q : VK} (hf : Op2 M f r) (h : tE M W (mOp2 f ma mb) σ H Q) : tOp r (tE M W ma) (tE M W mb) σ H Q := by
  refine bind1 (f := fun x _ s ρ => (mb ρ s).bind fun y _ st2 => mk (f x y) st2) h fun E w ρ st w1 H1 v x k st1 R0 e1 R1 t1 q => ?_
  refine ⟨E, w1, ρ, st1, R1, q.bind R1 e1 fun w2 H2 u y ky st2 e2 R2 t2 q => ?_⟩
  cases qf : f x y with
  | none => rw [qf] at q; exact q.elim
  | some d =>
    rw [qf] at q
    exact hf w2 H2 st2 v u x y d Q R2.st (t1.see.ext e2 R1.st.ok) t2.see qf fun w' H' z e s t => q w' H' z e s ((t.back e2).back e1)
end
section
variable {X : Cx} {M : Md} {W : WX} {a b c : Expr} {ma mb mc : ME} {pos : Pos}
theorem x_op {op : Operator} {f : D → D → Option D} {r : R2} (ho : OpR X (binaryOp op) r) (hf : Op2 M f r) (ha : PE X a (tE M W ma)) (hb : PE X b (tE M W mb)) : PE X (.BinOp a op b pos) (tE M W (mOp2 f ma mb)) := PE.imp (pe_op ho ha hb) fun _ _ _ => c_op2 hf
theorem x_un {op : UnaryOp} {f : D → Option D} {r : V → Hp → VK → Prop} (ho : UnR X (unaryOp op) r) (hf : Op1 M f r) (ha : PE X a (tE M W ma)) : PE X (.UnaryOp op a pos) (tE M W (mOp1 f ma)) := PE.imp (pe_un ho ha) fun _ _ _ => c_op1 hf
theorem x_name (i : Nat) {x : Str} (hN : X.N[i]? = some x := by rfl) (hv : Vis X.env.scope x := by first | exact Or.inl rfl | exact Or.inr (Or.inl rfl) | exact Or.inr (Or.inr rfl)) (hd : (x == ("__debug__" : Str)) = false := by decide)
    (hcd : (x == ("__classdict__" : Str)) = false := by decide) : PE X (.Name x pos) (tE M W (mV i)) := PE.imp (pe_var hN hv hd hcd) fun _ _ _ => c_var
theorem x_int {i : Int} {j : Nat} : PE X (.Constant (.int i) j pos) (tE M W (mC (.int i))) := PE.imp pe_int fun _ _ _ => c_const fun _ _ => .int i
theorem x_bl {i : Bool} {j : Nat} : PE X (.Constant (.bool i) j pos) (tE M W (mC (.bl i))) := PE.imp pe_bl fun _ _ _ => c_const fun _ _ => .bl i
theorem x_non {j : Nat} : PE X (.Constant .none j pos) (tE M W (mC .non)) := PE.imp pe_non fun _ _ _ => c_const fun _ _ => .non
theorem x_str {x : Str} {j : Nat} : PE X (.Constant (.str x) j pos) (tE M W (mC (.str x))) := PE.imp pe_str fun _ _ _ => c_const fun _ _ => .str x
/-- a module's constant (an int, a text) -/
theorem x_globI {x : Str} {i : Int} {u : Value} (hg : Gl X x) (hm : X.mg x = some u) (hu : ∃ t, u = .int i t) (hd : (x == ("__debug__" : Str)) = false := by decide) : PE X (.Name x pos) (tE M W (mC (.int i))) :=
  PE.imp (pe_glob (v := .int i) hg hm hu hd) fun _ _ _ => c_const fun _ _ => .int i
theorem x_globS {x : Str} {i : Str} {u : Value} (hg : Gl X x) (hm : X.mg x = some u) (hu : ∃ t, u = .str i t) (hd : (x == ("__debug__" : Str)) = false := by decide) : PE X (.Name x pos) (tE M W (mC (.str i))) :=
  PE.imp (pe_glob (v := .str i) hg hm hu hd) fun _ _ _ => c_const fun _ _ => .str i
/-- a def as a value -/
theorem x_globF {x : Str} {f : Addr} (hg : Gl X x) (hm : X.mg x = some (.ref f)) (hM : M.mg = X.mg := by rfl) (hd : (x == ("__debug__" : Str)) = false := by decide) : PE X (.Name x pos) (tE M W (mC (.fn x))) :=
  PE.imp (pe_glob (v := .ref f) hg hm rfl hd) fun _ _ _ => c_const fun _ _ => .fn (by rw [hM]; exact hm)
end
end Mi

set_option maxRecDepth 100000
namespace Mi
open PySem PySem.Spec L2
open PyProof.Rows hiding St

/-! ### tests -/
def D.tru : D → Option Bool
  | .non => some false
  | .bl b => some b
  | .int i => some (i != 0)
  | .str s => if s.length ≤ 16777216 then some ((s.length : Int) != 0) else none
  | .tup l => some !l.isEmpty
  | .lst l => some !l.isEmpty
  | .dct ks _ => some !ks.isEmpty
  | _ => none
def PostT (M : Md) (W : WX) (E : Ent) (w : Wd) (H : Hp) (σ : St) (ρ : Env) (Q : Bool → Hp → Prop) : ER → Prop
  | .ok d k st' => ∃ b, d.tru = some b ∧ ∀ w' H', Ext w H w' H' → StOk M w' H' st' → Q b H'
  | .exc c st' => ∀ w' H' cls, SExt w H w' H' → Rel M E w' H' σ ρ st' → ClsOf M c cls → W cls none σ H'
  | .bad => False
def tT (M : Md) (W : WX) (m : ME) : TT := fun σ H Q => ∃ E w ρ st, Rel M E w H σ ρ st ∧ PostT M W E w H σ ρ Q (m ρ st)
section
variable {M : Md} {W : WX} {E : Ent} {w w' w'' : Wd} {H H' H'' H0 H1 : Hp} {st st' : Store} {v u : V} {k : Kd} {d : D} {a : Addr} {σ : St} {ρ : Env} {l : List D} {xs : List V}
theorem RepL.isEmpty (h : RepL M w H xs l) : xs.isEmpty = l.isEmpty := by cases h <;> rfl
theorem See.tru (s : See M w H v d) {b : Bool} (h : d.tru = some b) : TruV M.K v H b := by
  cases d with
  | non => cases h; rw [s.non]; rfl
  | bl c => cases h; rw [s.bl]; rfl
  | int i => cases h; rw [s.int]; rfl
  | str x =>
    have h : (if x.length ≤ 16777216 then some ((x.length : Int) != 0) else none) = some b := h
    by_cases q : x.length ≤ 16777216
    · rw [if_pos q] at h; cases h; rw [s.str]; exact ⟨by rw [sizeLine_eq]; exact q, rfl⟩
    · rw [if_neg q] at h; cases h
  | tup l => cases h; obtain ⟨a, xs, rfl, e, r⟩ := s.tup; exact .inr (.inl ⟨xs, SqT.of e, by rw [r.isEmpty]⟩)
  | lst l => cases h; obtain ⟨a, xs, rfl, e, r⟩ := s.lst; exact .inl ⟨xs, SqL.of e, by rw [r.isEmpty]⟩
  | dct ks l => cases h; obtain ⟨a, kvs, rfl, e, r, r2⟩ := s.dct; exact .inr (.inr ⟨kvs, e, by subst r; cases kvs <;> rfl⟩)
  | fn x => cases h
  | cell i => cases h
  | scr i => cases h
theorem c_test {m : ME} {Q : Bool → Hp → Prop} (h : tT M W m σ H Q) : tE M W m σ H fun x H' => ∃ k, TruV M.K x H' k ∧ Q k H' := by
  obtain ⟨E, w, ρ, st, R, h⟩ := h
  refine ⟨E, w, ρ, st, R, ?_⟩
  cases q : m ρ st with
  | bad => rw [q] at h; exact h
  | exc c s => rw [q] at h; exact h
  | ok d k st' =>
    rw [q] at h
    obtain ⟨b, e, h⟩ := h
    exact fun w' H' v e1 s t => ⟨b, t.see.tru e, h w' H' e1 s⟩
theorem c_testB {m : ME} {Q : Bool → Hp → Prop} (hb : ∀ ρ st d k st', m ρ st = .ok d k st' → ∃ b, d = .bl b) (h : tT M W m σ H Q) : tE M W m σ H fun x H' => ∃ k, x = .bl k ∧ Q k H' := by
  obtain ⟨E, w, ρ, st, R, h⟩ := h
  refine ⟨E, w, ρ, st, R, ?_⟩
  cases q : m ρ st with
  | bad => rw [q] at h; exact h
  | exc c s => rw [q] at h; exact h
  | ok d k st' =>
    rw [q] at h
    obtain ⟨b, e, h⟩ := h
    obtain ⟨c, rfl⟩ := hb _ _ _ _ _ q
    cases e
    exact fun w' H' v e1 s t => ⟨b, t.see.bl, h w' H' e1 s⟩

def mNot (ma : ME) : ME := fun ρ st => (ma ρ st).bind fun x _ st1 => match x.tru with | some b => .ok (.bl !b) .s st1 | none => .bad
def mAnd (ma mb : ME) : ME := fun ρ st => (ma ρ st).bind fun x k st1 => match x.tru with | some true => mb ρ st1 | some false => .ok x k st1 | none => .bad
def mOr (ma mb : ME) : ME := fun ρ st => (ma ρ st).bind fun x k st1 => match x.tru with | some true => .ok x k st1 | some false => mb ρ st1 | none => .bad
def mIf (mc ma mb : ME) : ME := fun ρ st => (mc ρ st).bind fun x k st1 => match x.tru with | some true => ma ρ st1 | some false => mb ρ st1 | none => .bad

/-- a test first, then something whose end is P -/
theorem bindT {ma : ME} {f : D → Kd → Store → ER} {R : Bool → Hp → Prop} {P : Ent → Wd → Hp → Env → ER → Prop}
    (hP0 : ∀ E w H ρ, ¬ P E w H ρ .bad) (hPx : ∀ E w ρ c st', P E w H ρ (.exc c st') → ∀ w' H' cls, SExt w H w' H' → Rel M E w' H' σ ρ st' → ClsOf M c cls → W cls Option.none σ H')
    (h : ∃ E w ρ st, Rel M E w H σ ρ st ∧ P E w H ρ ((ma ρ st).bind f)) (hf : ∀ x k s, x.tru = none → f x k s = .bad)
    (go : ∀ E w ρ w1 H1 x k st1 b, WOk w H → Ext w H w1 H1 → Rel M E w1 H1 σ ρ st1 → x.tru = some b → P E w H ρ (f x k st1) → R b H1) : tT M W ma σ H R := by
  obtain ⟨E, w, ρ, st, R0, h⟩ := h
  refine ⟨E, w, ρ, st, R0, ?_⟩
  cases q : ma ρ st with
  | bad => rw [q] at h; exact absurd h (hP0 _ _ _ _)
  | exc c st' => rw [q] at h; exact hPx _ _ _ _ _ h
  | ok x k st1 =>
    rw [q] at h
    have h : P E w H ρ (f x k st1) := h
    cases qt : x.tru with
    | none => rw [hf x k st1 qt] at h; exact absurd h (hP0 _ _ _ _)
    | some b => exact ⟨b, qt, fun w' H' e s => go E w ρ w' H' x k st1 b R0.st.ok e (R0.next e s) qt h⟩
theorem c_notT {ma : ME} {Q : Bool → Hp → Prop} (h : tT M W (mNot ma) σ H Q) : tNot (tT M W ma) σ H Q := by
  refine bindT (P := fun E w H ρ r => PostT M W E w H σ ρ Q r) (fun _ _ _ _ h => h) (fun _ _ _ _ _ h => h) h (fun x k s e => by simp only [e]) fun E w ρ w1 H1 x k st1 b ok e R1 qt q => ?_
  simp only [qt] at q
  obtain ⟨c, e2, q⟩ := q
  cases e2
  exact q w1 H1 e R1.st
theorem PostT.ext {Q : Bool → Hp → Prop} {r : ER} {w1 : Wd} (h : PostT M W E w H σ ρ Q r) (e : Ext w H w1 H1) (ok : WOk w H) : PostT M W E w1 H1 σ ρ Q r := by
  cases r with
  | bad => exact h
  | exc c s => exact fun w' H' cls e2 => h w' H' cls ((e.s ok).trans e2)
  | ok d k s =>
    obtain ⟨b, e1, h⟩ := h
    exact ⟨b, e1, fun w' H' e2 s2 => h w' H' (e.trans e2) s2⟩
theorem Post.ext {Q : VK} {r : ER} {w1 : Wd} (h : Post M W E w H σ ρ Q r) (e : Ext w H w1 H1) (ok : WOk w H) : Post M W E w1 H1 σ ρ Q r := by
  cases r with
  | bad => exact h
  | exc c s => exact fun w' H' cls e2 => h w' H' cls ((e.s ok).trans e2)
  | ok d k s => exact fun w' H' v e2 s2 t => h w' H' v (e.trans e2) s2 (t.back e)
theorem c_andT {ma mb : ME} {Q : Bool → Hp → Prop} (h : tT M W (mAnd ma mb) σ H Q) : tAnd (tT M W ma) (tT M W mb) σ H Q := by
  obtain ⟨E0, w0, ρ0, st0, R0, h⟩ := h
  refine bindT (ma := ma) (f := fun x k st1 => match x.tru with | some true => mb ρ0 st1 | some false => .ok x k st1 | none => .bad) (P := fun E w H ρ r => ρ = ρ0 ∧ PostT M W E w H σ ρ Q r) (fun _ _ _ _ h => h.2) (fun _ _ _ _ _ h => h.2) ⟨E0, w0, ρ0, st0, R0, rfl, h⟩ (fun x k s e => by simp only [e]) fun E w ρ w1 H1 x k st1 b ok e R1 qt q => ?_
  obtain ⟨rfl, q⟩ := q
  simp only [qt] at q
  cases b with
  | true => rw [if_pos rfl]; exact ⟨E, w1, ρ, st1, R1, q.ext e ok⟩
  | false =>
    rw [if_neg Bool.false_ne_true]
    obtain ⟨c, e2, q⟩ := q
    rw [qt] at e2
    cases e2
    exact q w1 H1 e R1.st
theorem c_orT {ma mb : ME} {Q : Bool → Hp → Prop} (h : tT M W (mOr ma mb) σ H Q) : tOr (tT M W ma) (tT M W mb) σ H Q := by
  obtain ⟨E0, w0, ρ0, st0, R0, h⟩ := h
  refine bindT (ma := ma) (f := fun x k st1 => match x.tru with | some true => .ok x k st1 | some false => mb ρ0 st1 | none => .bad) (P := fun E w H ρ r => ρ = ρ0 ∧ PostT M W E w H σ ρ Q r) (fun _ _ _ _ h => h.2) (fun _ _ _ _ _ h => h.2) ⟨E0, w0, ρ0, st0, R0, rfl, h⟩ (fun x k s e => by simp only [e]) fun E w ρ w1 H1 x k st1 b ok e R1 qt q => ?_
  obtain ⟨rfl, q⟩ := q
  simp only [qt] at q
  cases b with
  | true =>
    rw [if_pos rfl]
    obtain ⟨c, e2, q⟩ := q
    rw [qt] at e2
    cases e2
    exact q w1 H1 e R1.st
  | false => rw [if_neg Bool.false_ne_true]; exact ⟨E, w1, ρ, st1, R1, q.ext e ok⟩
theorem c_if {mc ma mb : ME} {Q : VK} (h : tE M W (mIf mc ma mb) σ H Q) : tIf (tT M W mc) (tE M W ma) (tE M W mb) σ H Q := by
  obtain ⟨E0, w0, ρ0, st0, R0, h⟩ := h
  refine bindT (ma := mc) (f := fun x k st1 => match x.tru with | some true => ma ρ0 st1 | some false => mb ρ0 st1 | none => .bad) (P := fun E w H ρ r => ρ = ρ0 ∧ Post M W E w H σ ρ Q r) (fun _ _ _ _ h => h.2) (fun _ _ _ _ _ h => h.2) ⟨E0, w0, ρ0, st0, R0, rfl, h⟩ (fun x k s e => by simp only [e]) fun E w ρ w1 H1 x k st1 b ok e R1 qt q => ?_
  obtain ⟨rfl, q⟩ := q
  simp only [qt] at q
  cases b with
  | true => rw [if_pos rfl]; exact ⟨E, w1, ρ, st1, R1, q.ext e ok⟩
  | false => rw [if_neg Bool.false_ne_true]; exact ⟨E, w1, ρ, st1, R1, q.ext e ok⟩
theorem c_ifT {mc ma mb : ME} {Q : Bool → Hp → Prop} (h : tT M W (mIf mc ma mb) σ H Q) : tT M W mc σ H fun c H1 => if c = true then tT M W ma σ H1 Q else tT M W mb σ H1 Q := by
  obtain ⟨E0, w0, ρ0, st0, R0, h⟩ := h
  refine bindT (ma := mc) (f := fun x k st1 => match x.tru with | some true => ma ρ0 st1 | some false => mb ρ0 st1 | none => .bad) (P := fun E w H ρ r => ρ = ρ0 ∧ PostT M W E w H σ ρ Q r) (fun _ _ _ _ h => h.2) (fun _ _ _ _ _ h => h.2) ⟨E0, w0, ρ0, st0, R0, rfl, h⟩ (fun x k s e => by simp only [e]) fun E w ρ w1 H1 x k st1 b ok e R1 qt q => ?_
  obtain ⟨rfl, q⟩ := q
  simp only [qt] at q
  cases b with
  | true => rw [if_pos rfl]; exact ⟨E, w1, ρ, st1, R1, q.ext e ok⟩
  | false => rw [if_neg Bool.false_ne_true]; exact ⟨E, w1, ρ, st1, R1, q.ext e ok⟩
/-- and, or as values -/
theorem c_andV {ma mb : ME} {Q : VK} (h : tE M W (mAnd ma mb) σ H Q) : tAndT M.K (tE M W ma) (tE M W mb) σ H Q := by
  refine bind1 (f := fun x k s ρ => match x.tru with | some true => mb ρ s | some false => .ok x k s | none => .bad) h fun E w ρ st w1 H1 v x k st1 R0 e1 R1 t1 q => ?_
  cases qt : x.tru with
  | none => simp only [qt] at q; exact q.elim
  | some b =>
    simp only [qt] at q
    refine ⟨b, t1.see.tru qt, ?_⟩
    cases b with
    | true =>
      rw [if_pos rfl]
      refine ⟨E, w1, ρ, st1, R1, ?_⟩
      revert q
      cases mb ρ st1 with
      | bad => exact id
      | exc c s => exact id
      | ok d k st' => exact fun q w' H' z e s t => q w' H' z e s (t.back e1)
    | false => rw [if_neg Bool.false_ne_true]; exact q w1 H1 v .refl R1.st t1
theorem c_orV {ma mb : ME} {Q : VK} (h : tE M W (mOr ma mb) σ H Q) : tOrT M.K (tE M W ma) (tE M W mb) σ H Q := by
  refine bind1 (f := fun x k s ρ => match x.tru with | some true => .ok x k s | some false => mb ρ s | none => .bad) h fun E w ρ st w1 H1 v x k st1 R0 e1 R1 t1 q => ?_
  cases qt : x.tru with
  | none => simp only [qt] at q; exact q.elim
  | some b =>
    simp only [qt] at q
    refine ⟨b, t1.see.tru qt, ?_⟩
    cases b with
    | false =>
      rw [if_neg Bool.false_ne_true]
      refine ⟨E, w1, ρ, st1, R1, ?_⟩
      revert q
      cases mb ρ st1 with
      | bad => exact id
      | exc c s => exact id
      | ok d k st' => exact fun q w' H' z e s t => q w' H' z e s (t.back e1)
    | true => rw [if_pos rfl]; exact q w1 H1 v .refl R1.st t1
theorem c_notV {ma : ME} {Q : VK} (h : tE M W (mNot ma) σ H Q) : tNotT M.K (tE M W ma) σ H Q := by
  refine bind1 (f := fun x k s ρ => match x.tru with | some b => .ok (.bl !b) .s s | none => .bad) h fun E w ρ st w1 H1 v x k st1 R0 e1 R1 t1 q => ?_
  cases qt : x.tru with
  | none => simp only [qt] at q; exact q.elim
  | some b =>
    simp only [qt] at q
    exact ⟨b, t1.see.tru qt, q w1 H1 (.bl !b) .refl R1.st (.bl _)⟩

/-! ### a chain of two comparisons -/
def mChain (f g : D → D → Option D) (ma mb mc : ME) : ME := fun ρ st => (ma ρ st).bind fun x _ s1 => (mb ρ s1).bind fun y _ s2 => match f x y with
  | some (.bl true) => (mc ρ s2).bind fun z _ s3 => mk (g y z) s3
  | some (.bl false) => .ok (.bl false) .s s2
  | _ => .bad
theorem c_chain {f g : D → D → Option D} {r r' : R2} {ma mb mc : ME} {Q : VK} (hf : Op2 M f r) (hg : Op2 M g r') (h : tE M W (mChain f g ma mb mc) σ H Q) : tChain r r' (tE M W ma) (tE M W mb) (tE M W mc) σ H Q := by
  refine bind1 (f := fun x _ s1 ρ => (mb ρ s1).bind fun y _ s2 => match f x y with
    | some (.bl true) => (mc ρ s2).bind fun z _ s3 => mk (g y z) s3
    | some (.bl false) => .ok (.bl false) .s s2
    | _ => .bad) h fun E w ρ st w1 H1 v x k st1 R0 e1 R1 t1 q => ?_
  refine ⟨E, w1, ρ, st1, R1, q.bind R1 e1 fun w2 H2 u y ky st2 e2 R2 t2 q => ?_⟩
  cases qf : f x y with
  | none => rw [qf] at q; exact q.elim
  | some d =>
    rw [qf] at q
    refine hf w2 H2 st2 v u x y d _ R2.st (t1.see.ext e2 R1.st.ok) t2.see qf fun w3 H3 z e3 s3 t3 => ?_
    cases d with
    | bl b =>
      refine ⟨b, t3.see.bl, ?_⟩
      cases b with
      | true =>
        rw [if_pos rfl]
        have e13 := (e1.trans e2).trans e3
        have R3 := R2.next e3 s3
        have q : PostB M W E w2 H2 H σ ρ Q ((mc ρ st2).bind fun z _ s3 => mk (g y z) s3) := q
        have q' : PostB M W E w3 H3 H σ ρ Q ((mc ρ st2).bind fun z _ s3 => mk (g y z) s3) := by
          revert q
          cases ((mc ρ st2).bind fun z _ s3 => mk (g y z) s3) with
          | bad => exact id
          | exc c s => exact fun q w' H' cls e => q w' H' cls ((e3.s R2.st.ok).trans e)
          | ok d k s => exact fun q w' H' z e s t => q w' H' z (e3.trans e) s t
        refine ⟨E, w3, ρ, st2, R3, q'.bind R3 e13 fun w4 H4 z z' kz st3 e4 R4 t4 q => ?_⟩
        cases qg : g y z' with
        | none => rw [qg] at q; exact q.elim
        | some d =>
          rw [qg] at q
          exact hg w4 H4 st3 u z y z' d Q R4.st (t2.see.ext (e3.trans e4) R2.st.ok) t4.see qg fun w' H' z e s t => q w' H' z e s ((t.back e4).back e13)
      | false => rw [if_neg Bool.false_ne_true]; exact q w3 H3 (.bl false) e3 s3 (.bl _)
    | _ => exact q.elim
theorem mChain_bl {f g : D → D → Option D} {ma mb mc : ME} (hg : ∀ x y d, g x y = some d → ∃ b, d = .bl b) : ∀ ρ st d k st', mChain f g ma mb mc ρ st = .ok d k st' → ∃ b, d = .bl b := by
  intro ρ st d k st' h
  unfold mChain at h
  cases qa : ma ρ st with
  | bad => rw [qa] at h; cases h
  | exc c s => rw [qa] at h; cases h
  | ok x kx s1 =>
    rw [qa] at h
    dsimp only [ER.bind] at h
    cases qb : mb ρ s1 with
    | bad => rw [qb] at h; cases h
    | exc c s => rw [qb] at h; cases h
    | ok y ky s2 =>
      rw [qb] at h
      dsimp only [ER.bind] at h
      split at h
      · cases qc : mc ρ s2 with
        | bad => rw [qc] at h; cases h
        | exc c s => rw [qc] at h; cases h
        | ok z kz s3 =>
          rw [qc] at h
          dsimp only [ER.bind] at h
          cases qg : g y z with
          | none => rw [qg] at h; cases h
          | some e => rw [qg] at h; cases h; exact hg _ _ _ qg
      · cases h; exact ⟨false, rfl⟩
      · cases h
theorem mOp2_bl {g : D → D → Option D} {ma mb : ME} (hg : ∀ x y d, g x y = some d → ∃ b, d = .bl b) : ∀ ρ st d k st', mOp2 g ma mb ρ st = .ok d k st' → ∃ b, d = .bl b := by
  intro ρ st d k st' h
  unfold mOp2 at h
  cases qa : ma ρ st with
  | bad => rw [qa] at h; cases h
  | exc c s => rw [qa] at h; cases h
  | ok x kx s1 =>
    rw [qa] at h
    dsimp only [ER.bind] at h
    cases qb : mb ρ s1 with
    | bad => rw [qb] at h; cases h
    | exc c s => rw [qb] at h; cases h
    | ok y ky s2 =>
      rw [qb] at h
      dsimp only [ER.bind] at h
      cases qg : g x y with
      | none => rw [qg] at h; cases h
      | some e => rw [qg] at h; cases h; exact hg _ _ _ qg
end
section
variable {X : Cx} {M : Md} {W : WX} {a b c : Expr} {ma mb mc : ME} {pos : Pos} {rest : List Expr}
theorem x_test (ha : PE X a (tE M W ma)) (hM : M.K = X.K := by rfl) (he : ∀ whole, isTrue a X.env whole = (do let v ← whole; standAt a.pos; holding [v] (truthy v)) := by intro _; rfl) : PT X a (tT M W ma) := by
  obtain ⟨K, mg⟩ := M
  cases hM
  exact PT.imp (pt_truth ha he) fun _ _ _ h => c_test h
theorem x_cmp {op : CmpOp} {f : D → D → Option D} {r : R2} (ho : OpR X (compareOp op) r) (hf : Op2 M f r) (ha : PE X a (tE M W ma)) (hb : PE X b (tE M W mb)) (hm : behindInMarks op b = false) : PE X (.Compare a [op] [b] pos) (tE M W (mOp2 f ma mb)) :=
  PE.imp (pe_cmpR ho ha hb hm) fun _ _ _ => c_op2 hf
theorem x_cmpT {op : CmpOp} {f : D → D → Option D} {r : R2} (ho : OpR X (compareOp op) r) (hf : Op2 M f r) (hl : ∀ x y d, f x y = some d → ∃ b, d = .bl b) (ha : PE X a (tE M W ma)) (hb : PE X b (tE M W mb)) (hm : behindInMarks op b = false) : PT X (.Compare a [op] [b] pos) (tT M W (mOp2 f ma mb)) :=
  PT.imp (pt_cmpR ho ha hb hm) fun _ _ _ h => c_op2 hf (c_testB (mOp2_bl hl) h)
theorem x_chain {op op' : CmpOp} {f g : D → D → Option D} {r r' : R2} (ho : OpR X (compareOp op) r) (ho' : OpR X (compareOp op') r') (hf : Op2 M f r) (hg : Op2 M g r') (ha : PE X a (tE M W ma)) (hb : PE X b (tE M W mb)) (hc : PE X c (tE M W mc))
    (hm : lastMarks [op, op'] [b, c] = false := by with_unfolding_all rfl) : PE X (.Compare a [op, op'] [b, c] pos) (tE M W (mChain f g ma mb mc)) := PE.imp (pe_chain ho ho' ha hb hc hm) fun _ _ _ => c_chain hf hg
theorem x_chainT {op op' : CmpOp} {f g : D → D → Option D} {r r' : R2} (ho : OpR X (compareOp op) r) (ho' : OpR X (compareOp op') r') (hf : Op2 M f r) (hg : Op2 M g r') (hl : ∀ x y d, g x y = some d → ∃ b, d = .bl b) (ha : PE X a (tE M W ma)) (hb : PE X b (tE M W mb)) (hc : PE X c (tE M W mc))
    (hm : lastMarks [op, op'] [b, c] = false := by with_unfolding_all rfl) : PT X (.Compare a [op, op'] [b, c] pos) (tT M W (mChain f g ma mb mc)) := PT.imp (pt_chain ho ho' ha hb hc hm) fun _ _ _ h => c_chain hf hg (c_testB (mChain_bl hl) h)
theorem x_not (ha : PE X a (tE M W ma)) (hM : M.K = X.K := by rfl) : PE X (.UnaryOp .Not a pos) (tE M W (mNot ma)) := by
  obtain ⟨K, mg⟩ := M
  cases hM
  exact PE.imp (pe_notT ha) fun _ _ _ h => c_notV h
theorem x_notT (ha : PT X a (tT M W ma)) : PT X (.UnaryOp .Not a pos) (tT M W (mNot ma)) := PT.imp (pt_not ha) fun _ _ _ h => c_notT h
/-- and, or as tests: PW -/
theorem x_and1 (ha : PT X a (tT M W ma)) : PW X (.BoolOp .And [a] pos) (tT M W ma) := pw_and1 ha
theorem x_or1 (ha : PT X a (tT M W ma)) : PW X (.BoolOp .Or [a] pos) (tT M W ma) := pw_or1 ha
theorem x_andT (ha : PT X a (tT M W ma)) (hb : PW X (.BoolOp .And (b :: rest) pos) (tT M W mb)) : PW X (.BoolOp .And (a :: b :: rest) pos) (tT M W (mAnd ma mb)) := PW.imp (pw_and ha hb) fun _ _ _ h => c_andT h
theorem x_orT (ha : PT X a (tT M W ma)) (hb : PW X (.BoolOp .Or (b :: rest) pos) (tT M W mb)) : PW X (.BoolOp .Or (a :: b :: rest) pos) (tT M W (mOr ma mb)) := PW.imp (pw_or ha hb) fun _ _ _ h => c_orT h
/-- .. as values -/
theorem x_one {op : BoolOp} (ha : PE X a (tE M W ma)) : PE X (.BoolOp op [a] pos) (tE M W ma) := pe_one ha
theorem x_and (ha : PE X a (tE M W ma)) (hb : PE X (.BoolOp .And (b :: rest) pos) (tE M W mb)) (hM : M.K = X.K := by rfl) : PE X (.BoolOp .And (a :: b :: rest) pos) (tE M W (mAnd ma mb)) := by
  obtain ⟨K, mg⟩ := M
  cases hM
  exact PE.imp (pe_andT ha hb) fun _ _ _ h => c_andV h
theorem x_or (ha : PE X a (tE M W ma)) (hb : PE X (.BoolOp .Or (b :: rest) pos) (tE M W mb)) (hM : M.K = X.K := by rfl) : PE X (.BoolOp .Or (a :: b :: rest) pos) (tE M W (mOr ma mb)) := by
  obtain ⟨K, mg⟩ := M
  cases hM
  exact PE.imp (pe_orT ha hb) fun _ _ _ h => c_orV h
theorem x_if (hc : PT X c (tT M W mc)) (ha : PE X a (tE M W ma)) (hb : PE X b (tE M W mb)) : PE X (.IfExp c a b pos) (tE M W (mIf mc ma mb)) := PE.imp (pe_ifExp hc ha hb) fun _ _ _ h => c_if h
end
end Mi

set_option maxRecDepth 100000
namespace Mi
open PySem PySem.Spec L2
open PyProof.Rows hiding St

/-! ### the operators on data -/
def dAdd : D → D → Option D
  | .int a, .int b => some (.int (a + b))
  | .lst a, .lst b => if a.length + b.length ≤ 16777216 then some (.lst (a ++ b)) else none
  | .tup a, .tup b => if a.length + b.length ≤ 16777216 then some (.tup (a ++ b)) else none
  | .str a, .str b => if a.length + b.length ≤ 16777216 then some (.str (a ++ b)) else none
  | _, _ => none
def dSub : D → D → Option D
  | .int a, .int b => some (.int (a - b))
  | _, _ => none
def dMul : D → D → Option D
  | .int a, .int b => if a.natAbs.log2 + b.natAbs.log2 ≤ 134217000 then some (.int (a * b)) else none
  | .lst a, .int k => if k < 2 ^ 62 ∧ -(2 ^ 62) < k ∧ a.length * k.toNat ≤ 16777216 then some (.lst (List.replicate k.toNat a).flatten) else none
  | .tup a, .int k => if a ≠ [] ∧ 2 ≤ k ∧ k ≤ 1000 ∧ a.length ≤ 1000 then some (.tup (List.replicate k.toNat a).flatten) else none
  | _, _ => none
def dFdiv : D → D → Option D
  | .int a, .int b => if 0 < b ∧ b.natAbs.log2 < 9000 then some (.int (a / b)) else none
  | _, _ => none
def dMod : D → D → Option D
  | .int a, .int b => if 0 < b then some (.int (a % b)) else none
  | _, _ => none
def dPow : D → D → Option D
  | .int a, .int b => if 0 ≤ b ∧ b ≤ 1000000 ∧ a.natAbs.log2 < 64 then some (.int (a ^ b.toNat)) else none
  | _, _ => none
def dShl : D → D → Option D
  | .int a, .int b => if 0 ≤ b ∧ b ≤ 1000000 ∧ a.natAbs.log2 < 64 then some (.int (a * 2 ^ b.toNat)) else none
  | _, _ => none
def dShr : D → D → Option D
  | .int a, .int b => if 0 ≤ b then some (.int (a / 2 ^ b.toNat)) else none
  | _, _ => none
def dBand : D → D → Option D
  | .int a, .int b => some (.int (Builtin.bitAnd a b))
  | _, _ => none
def dNeg : D → Option D
  | .int a => some (.int (-a))
  | _ => none
def dLt : D → D → Option D
  | .int a, .int b => some (.bl (decide (a < b)))
  | _, _ => none
def dLe : D → D → Option D
  | .int a, .int b => some (.bl (decide (a ≤ b)))
  | _, _ => none
def dGt : D → D → Option D
  | .int a, .int b => some (.bl (decide (b < a)))
  | _, _ => none
def dGe : D → D → Option D
  | .int a, .int b => some (.bl (decide (b ≤ a)))
  | _, _ => none

theorem log2_64 {n : Nat} (h : n.log2 < 64) : n < 2 ^ 64 := by
  by_cases h0 : n = 0
  · subst h0; decide
  · exact (Nat.log2_lt h0).mp h

section
variable {X : Cx} {M : Md} {W : WX} {a b c : Expr} {ma mb mc : ME} {pos : Pos}
abbrev rAdd4 (K : PySem.W.Frag) : R2 := fun x y H Q => ((rI0 (fun i j => .int (i + j)) x y H Q ∨ rCat x y H Q) ∨ rCatA K x y H Q) ∨ (∃ i j, x = .str i ∧ y = .str j ∧ i.length + j.length ≤ sizeLine ∧ Q (.str (i ++ j)) H)
theorem op_add4 : OpR X (binaryOp .Add) (rAdd4 X.K) := ((op_add.or op_cat).or op_catA).or op_add_str
theorem o_add : Op2 M dAdd (rAdd4 M.K) := by
  intro w H st v u x y d Q s sx sy h fin
  unfold dAdd at h
  split at h
  · cases h; exact .inl (.inl (.inl ⟨_, _, sx.int, sy.int, fin.rep s rfl (.int _)⟩))
  · split at h
    · rename_i hl
      cases h
      obtain ⟨p, xs, rfl, e1, r1⟩ := sx.lst
      obtain ⟨q, ys, rfl, e2, r2⟩ := sy.lst
      refine .inl (.inl (.inr ⟨p, q, xs, ys, rfl, rfl, e1, e2, by rw [r1.length, r2.length, sizeLine_eq]; exact hl, fun z hz => ?_⟩))
      obtain ⟨e, s', t⟩ := new_list s hz (r1.append r2)
      exact fin w _ _ e s' t
    · cases h
  · split at h
    · rename_i hl
      cases h
      have key : ∀ {p q : Addr} {xs ys : List V} {l m : List D}, v = .ref p → u = .ref q → Rep M w H v (.tup l) → Rep M w H u (.tup m) → H p = some (.tup xs) → H q = some (.tup ys) → RepL M w H xs l → RepL M w H ys m → l.length + m.length ≤ 16777216 → Fin M w H st (.tup (l ++ m)) Q → rCatA M.K v u H Q := by
        intro p q xs ys l m ev eu rv ru e1 e2 r1 r2 hl fin
        refine ⟨p, q, xs, ys, ev, eu, SqT.of e1, SqT.of e2, by rw [r1.length, r2.length, sizeLine_eq]; exact hl, fun h0 => ?_, fun h1 h0 => ?_, fun h1 h2 z hz => ?_⟩
        · subst h0; cases r1; rw [← eu]; exact fin.rep s rfl ru
        · subst h0; cases r2; rw [List.append_nil] at fin; rw [← ev]; exact fin.rep s rfl rv
        · obtain ⟨w', e, s', t⟩ := new_tup s hz (r1.append r2)
          exact fin w' _ _ e s' t
      have rx : Rep M w H v (.tup _) := sx.casesOn id fun _ _ o => o.2.2.elim
      have ry : Rep M w H u (.tup _) := sy.casesOn id fun _ _ o => o.2.2.elim
      obtain ⟨p, xs, ev, e1, r1⟩ := sx.tup
      obtain ⟨q, ys, eu, e2, r2⟩ := sy.tup
      exact .inl (.inr (key ev eu rx ry e1 e2 r1 r2 hl fin))
    · cases h
  · split at h
    · rename_i hl
      cases h
      exact .inr ⟨_, _, sx.str, sy.str, by rw [sizeLine_eq]; exact hl, fin.rep s rfl (.str _)⟩
    · cases h
  · cases h
theorem o_sub : Op2 M dSub (rI0 fun i j => .int (i - j)) := by
  intro w H st v u x y d Q s sx sy h fin
  unfold dSub at h
  split at h
  · cases h; exact ⟨_, _, sx.int, sy.int, fin.rep s rfl (.int _)⟩
  · cases h
abbrev rMul3 (K : PySem.W.Frag) : R2 := fun x y H Q => (rI CMulX (fun i j => .int (i * j)) x y H Q ∨ rRep x y H Q) ∨ rRepT K x y H Q
theorem op_mul3 : OpR X (binaryOp .Mult) (rMul3 X.K) := (op_mulX.or op_rep).or op_repT
theorem mulx_log {i j : Int} (h : i.natAbs.log2 + j.natAbs.log2 ≤ 134217000) : CMulX i j := by
  have b : ∀ x : Int, Builtin.Int.intBits x ≤ x.natAbs.log2 + 1 := fun x => by
    unfold Builtin.Int.intBits
    split <;> omega
  have h1 := b i
  have h2 := b j
  unfold CMulX
  omega
theorem o_mul : Op2 M dMul (rMul3 M.K) := by
  intro w H st v u x y d Q s sx sy h fin
  unfold dMul at h
  split at h
  · split at h
    · rename_i hl
      cases h; exact .inl (.inl ⟨_, _, sx.int, sy.int, mulx_log hl, fin.rep s rfl (.int _)⟩)
    · cases h
  · split at h
    · rename_i hl
      obtain ⟨h1, h2, h3⟩ := hl
      cases h
      obtain ⟨p, xs, rfl, e1, r1⟩ := sx.lst
      refine .inl (.inr ⟨p, _, xs, rfl, sy.int, e1, by omega, by omega, by rw [r1.length, sizeLine_eq]; exact h3, fun z hz => ?_⟩)
      obtain ⟨e, s', t⟩ := new_list s hz (r1.rep _)
      exact fin w _ _ e s' t
    · cases h
  · split at h
    · rename_i hl
      obtain ⟨h1, h2, h3, h4⟩ := hl
      cases h
      obtain ⟨p, xs, rfl, e1, r1⟩ := sx.tup
      refine .inr ⟨p, _, xs, rfl, sy.int, SqT.of e1, fun z => ?_, h2, h3, by rw [r1.length]; exact h4, fun z hz => ?_⟩
      · subst z; cases r1; exact h1 rfl
      · obtain ⟨w', e, s', t⟩ := new_tup s hz (r1.rep _)
        exact fin w' _ _ e s' t
    · cases h
  · cases h
theorem o_fdiv : Op2 M dFdiv (rI CDivW fun i j => .int (i / j)) := by
  intro w H st v u x y d Q s sx sy h fin
  unfold dFdiv at h
  split at h
  · split at h
    · rename_i hl
      cases h; exact ⟨_, _, sx.int, sy.int, hl, fin.rep s rfl (.int _)⟩
    · cases h
  · cases h
theorem o_mod : Op2 M dMod (rI (fun _ j => 0 < j) fun i j => .int (i % j)) := by
  intro w H st v u x y d Q s sx sy h fin
  unfold dMod at h
  split at h
  · split at h
    · rename_i hl
      cases h; exact ⟨_, _, sx.int, sy.int, hl, fin.rep s rfl (.int _)⟩
    · cases h
  · cases h
theorem o_pow : Op2 M dPow (rI CPow fun i j => .int (i ^ j.toNat)) := by
  intro w H st v u x y d Q s sx sy h fin
  unfold dPow at h
  split at h
  · split at h
    · rename_i hl
      cases h; exact ⟨_, _, sx.int, sy.int, ⟨hl.1, hl.2.1, log2_64 hl.2.2⟩, fin.rep s rfl (.int _)⟩
    · cases h
  · cases h
theorem o_shl : Op2 M dShl (rI CPow fun i j => .int (i * 2 ^ j.toNat)) := by
  intro w H st v u x y d Q s sx sy h fin
  unfold dShl at h
  split at h
  · split at h
    · rename_i hl
      cases h; exact ⟨_, _, sx.int, sy.int, ⟨hl.1, hl.2.1, log2_64 hl.2.2⟩, fin.rep s rfl (.int _)⟩
    · cases h
  · cases h
theorem o_shr : Op2 M dShr (rI (fun _ j => 0 ≤ j) fun i j => .int (i / 2 ^ j.toNat)) := by
  intro w H st v u x y d Q s sx sy h fin
  unfold dShr at h
  split at h
  · split at h
    · rename_i hl
      cases h; exact ⟨_, _, sx.int, sy.int, hl, fin.rep s rfl (.int _)⟩
    · cases h
  · cases h
theorem o_band : Op2 M dBand (rI0 fun i j => .int (Builtin.bitAnd i j)) := by
  intro w H st v u x y d Q s sx sy h fin
  unfold dBand at h
  split at h
  · cases h; exact ⟨_, _, sx.int, sy.int, fin.rep s rfl (.int _)⟩
  · cases h
theorem o_neg : Op1 M dNeg (rU fun i => .int (-i)) := by
  intro w H st v x d Q s sx h fin
  unfold dNeg at h
  split at h
  · cases h; exact ⟨_, sx.int, fin.rep s rfl (.int _)⟩
  · cases h
theorem o_lt : Op2 M dLt (rI0 fun i j => .bl (decide (i < j))) := by
  intro w H st v u x y d Q s sx sy h fin
  unfold dLt at h
  split at h
  · cases h; exact ⟨_, _, sx.int, sy.int, fin.rep s rfl (.bl _)⟩
  · cases h
theorem o_le : Op2 M dLe (rI0 fun i j => .bl (decide (i ≤ j))) := by
  intro w H st v u x y d Q s sx sy h fin
  unfold dLe at h
  split at h
  · cases h; exact ⟨_, _, sx.int, sy.int, fin.rep s rfl (.bl _)⟩
  · cases h
theorem o_gt : Op2 M dGt (rI0 fun i j => .bl (decide (j < i))) := by
  intro w H st v u x y d Q s sx sy h fin
  unfold dGt at h
  split at h
  · cases h; exact ⟨_, _, sx.int, sy.int, fin.rep s rfl (.bl _)⟩
  · cases h
theorem o_ge : Op2 M dGe (rI0 fun i j => .bl (decide (j ≤ i))) := by
  intro w H st v u x y d Q s sx sy h fin
  unfold dGe at h
  split at h
  · cases h; exact ⟨_, _, sx.int, sy.int, fin.rep s rfl (.bl _)⟩
  · cases h
theorem b_lt : ∀ x y d, dLt x y = some d → ∃ b, d = .bl b := fun x y d h => by unfold dLt at h; split at h <;> cases h; exact ⟨_, rfl⟩
theorem b_le : ∀ x y d, dLe x y = some d → ∃ b, d = .bl b := fun x y d h => by unfold dLe at h; split at h <;> cases h; exact ⟨_, rfl⟩
theorem b_gt : ∀ x y d, dGt x y = some d → ∃ b, d = .bl b := fun x y d h => by unfold dGt at h; split at h <;> cases h; exact ⟨_, rfl⟩
theorem b_ge : ∀ x y d, dGe x y = some d → ∃ b, d = .bl b := fun x y d h => by unfold dGe at h; split at h <;> cases h; exact ⟨_, rfl⟩

/-! ### equality of data -/
mutual
def D.py : D → PyData
  | .non => .none
  | .bl b => .bool b
  | .int i => .int i
  | .str x => .str x
  | .tup l => .tuple (pyL l)
  | .lst l => .list (pyL l)
  | .dct _ _ => .none
  | .fn _ => .none
  | .cell _ => .none
  | .scr _ => .none
def pyL : List D → List PyData
  | [] => []
  | d :: l => d.py :: pyL l
end
mutual
/-- data that == speaks of, of at most this depth -/
def D.flat : Nat → D → Bool
  | _, .non => true
  | _, .bl _ => true
  | _, .int _ => true
  | _, .str x => x.cps.all (· < 0x110000)
  | n, .tup l => match n with | 0 => false | n + 1 => flatL n l
  | n, .lst l => match n with | 0 => false | n + 1 => flatL n l
  | _, _ => false
def flatL : Nat → List D → Bool
  | _, [] => true
  | n, d :: l => d.flat n && flatL n l
end
mutual
def D.eqd : D → D → Bool
  | .non, y => match y with | .non => true | _ => false
  | .bl a, y => match y with | .bl b => a == b | .int j => (if a then 1 else 0) == j | _ => false
  | .int i, y => match y with | .bl b => i == (if b then 1 else 0) | .int j => i == j | _ => false
  | .str x, y => match y with | .str z => x == z | _ => false
  | .lst l, y => match y with | .lst m => eqdL l m | _ => false
  | .tup l, y => match y with | .tup m => eqdL l m | _ => false
  | _, _ => false
def eqdL : List D → List D → Bool
  | [], m => match m with | [] => true | _ :: _ => false
  | x :: l, m => match m with | [] => false | y :: m => x.eqd y && eqdL l m
end
mutual
theorem D.flat_lay : ∀ (d : D) (n : Nat), d.flat n = true → d.py.canLay0 = true ∧ d.py.depth ≤ n
  | .non, n, _ => ⟨by simp [D.py, PyData.canLay0], by simp [D.py, PyData.depth]⟩
  | .bl _, n, _ => ⟨by simp [D.py, PyData.canLay0], by simp [D.py, PyData.depth]⟩
  | .int _, n, _ => ⟨by simp [D.py, PyData.canLay0], by simp [D.py, PyData.depth]⟩
  | .str x, n, h => ⟨by simpa [D.py, PyData.canLay0, PyData.strOk, D.flat] using h, by simp [D.py, PyData.depth]⟩
  | .tup l, 0, h => by simp [D.flat] at h
  | .tup l, n + 1, h => by
    have h : flatL n l = true := by simpa [D.flat] using h
    obtain ⟨a, b⟩ := flatL_lay l n h
    exact ⟨by simpa [D.py, PyData.canLay0] using a, by simp only [D.py, PyData.depth]; omega⟩
  | .lst l, 0, h => by simp [D.flat] at h
  | .lst l, n + 1, h => by
    have h : flatL n l = true := by simpa [D.flat] using h
    obtain ⟨a, b⟩ := flatL_lay l n h
    exact ⟨by simpa [D.py, PyData.canLay0] using a, by simp only [D.py, PyData.depth]; omega⟩
  | .dct _ _, n, h => by simp [D.flat] at h
  | .fn _, n, h => by simp [D.flat] at h
  | .cell _, n, h => by simp [D.flat] at h
  | .scr _, n, h => by simp [D.flat] at h
theorem flatL_lay : ∀ (l : List D) (n : Nat), flatL n l = true → PyData.canLayAll0 (pyL l) = true ∧ PyData.depthAll (pyL l) ≤ n
  | [], n, _ => ⟨by simp [pyL, PyData.canLayAll0], by simp [pyL, PyData.depthAll]⟩
  | d :: l, n, h => by
    have h : d.flat n = true ∧ flatL n l = true := by simpa [flatL] using h
    obtain ⟨a, b⟩ := D.flat_lay d n h.1
    obtain ⟨a', b'⟩ := flatL_lay l n h.2
    exact ⟨by simp [pyL, PyData.canLayAll0, a, a'], by simp only [pyL, PyData.depthAll]; omega⟩
end
mutual
theorem D.eqd_py : ∀ (x y : D) (n m : Nat), x.flat n = true → y.flat m = true → PyData.eqv x.py y.py = x.eqd y
  | .non, y, n, m, h, h' => by cases y <;> simp_all [D.py, PyData.eqv, D.eqd, D.flat]
  | .bl _, y, n, m, h, h' => by cases y <;> simp_all [D.py, PyData.eqv, D.eqd, D.flat]
  | .int _, y, n, m, h, h' => by cases y <;> simp_all [D.py, PyData.eqv, D.eqd, D.flat]
  | .str _, y, n, m, h, h' => by cases y <;> simp_all [D.py, PyData.eqv, D.eqd, D.flat]
  | .tup l, y, 0, m, h, h' => by simp [D.flat] at h
  | .lst l, y, 0, m, h, h' => by simp [D.flat] at h
  | .tup l, y, n + 1, m, h, h' => by
    cases y with
    | tup r =>
      cases m with
      | zero => simp [D.flat] at h'
      | succ m => simpa [D.py, PyData.eqv, D.eqd] using eqdL_py l r n m (by simpa [D.flat] using h) (by simpa [D.flat] using h')
    | _ => first | (simp [D.py, PyData.eqv, D.eqd]; done) | (simp [D.flat] at h')
  | .lst l, y, n + 1, m, h, h' => by
    cases y with
    | lst r =>
      cases m with
      | zero => simp [D.flat] at h'
      | succ m => simpa [D.py, PyData.eqv, D.eqd] using eqdL_py l r n m (by simpa [D.flat] using h) (by simpa [D.flat] using h')
    | _ => first | (simp [D.py, PyData.eqv, D.eqd]; done) | (simp [D.flat] at h')
  | .dct _ _, _, n, _, h, _ => by simp [D.flat] at h
  | .fn _, _, n, _, h, _ => by simp [D.flat] at h
  | .cell _, _, n, _, h, _ => by simp [D.flat] at h
  | .scr _, _, n, _, h, _ => by simp [D.flat] at h
theorem eqdL_py : ∀ (l r : List D) (n m : Nat), flatL n l = true → flatL m r = true → PyData.eqvAll (pyL l) (pyL r) = eqdL l r
  | [], [], n, m, _, _ => by simp [pyL, PyData.eqvAll, eqdL]
  | [], _ :: _, n, m, _, _ => by simp [pyL, PyData.eqvAll, eqdL]
  | _ :: _, [], n, m, _, _ => by simp [pyL, PyData.eqvAll, eqdL]
  | x :: l, y :: r, n, m, h, h' => by
    have h : x.flat n = true ∧ flatL n l = true := by simpa [flatL] using h
    have h' : y.flat m = true ∧ flatL m r = true := by simpa [flatL] using h'
    simp only [pyL, PyData.eqvAll, eqdL]
    rw [D.eqd_py x y n m h.1 h'.1, eqdL_py l r n m h.2 h'.2]
end
section
variable {w : Wd} {H : Hp} {st : Store}
mutual
theorem Rep.dp : ∀ (d : D) (n : Nat) (v : V), Rep M w H v d → d.flat n = true → Dp M.K H v d.py
  | .non, _, _, .non, _ => .non
  | .bl _, _, _, .bl b, _ => .bl b
  | .int _, _, _, .int i, _ => .int i
  | .str _, _, _, .str x, _ => .str x
  | .tup l, 0, _, _, h => by simp [D.flat] at h
  | .tup l, n + 1, _, .tup hF hH hl, h => .tup (SqT.of hH) (RepL.dp l n _ hl (by simpa [D.flat] using h))
  | .lst l, 0, _, _, h => by simp [D.flat] at h
  | .lst l, n + 1, _, .lst hF hH hl, h => .lst (SqL.of hH) (RepL.dp l n _ hl (by simpa [D.flat] using h))
  | .dct _ _, _, _, _, h => by simp [D.flat] at h
  | .fn _, _, _, _, h => by simp [D.flat] at h
  | .cell _, _, _, _, h => by simp [D.flat] at h
  | .scr _, _, _, _, h => by simp [D.flat] at h
theorem RepL.dp : ∀ (l : List D) (n : Nat) (xs : List V), RepL M w H xs l → flatL n l = true → DpAll M.K H xs (pyL l)
  | [], _, _, .nil, _ => .nil
  | d :: l, n, _, .cons r t, h => by
    have h : d.flat n = true ∧ flatL n l = true := by simpa [flatL] using h
    exact .cons (Rep.dp d n _ r h.1) (RepL.dp l n _ t h.2)
end
theorem See.dp {d : D} {n : Nat} {v : V} (s : See M w H v d) (h : d.flat n = true) : Dp M.K H v d.py := by
  rcases s with r | ⟨a, rfl, _, _, o⟩
  · exact r.dp d n v h
  · cases d with
    | lst l =>
      obtain ⟨xs, e, r⟩ := o
      cases n with
      | zero => simp [D.flat] at h
      | succ n => exact .lst (SqL.of e) (RepL.dp l n _ r (by simpa [D.flat] using h))
    | dct ks l => simp [D.flat] at h
    | _ => exact o.elim
end
def dEq (x y : D) : Option D := if x.flat 60 && y.flat 60 then some (.bl (x.eqd y)) else none
def dNe (x y : D) : Option D := if x.flat 60 && y.flat 60 then some (.bl (!x.eqd y)) else none
theorem flat_shaped {d : D} (h : d.flat 60 = true) : SeqAt.shaped d.py = true := by
  obtain ⟨a, b⟩ := d.flat_lay 60 h
  unfold SeqAt.shaped
  rw [a, Bool.true_and]
  exact decide_eq_true (by omega)
theorem o_eq : Op2 M dEq (rEqD M.K) := by
  intro w H st v u x y d Q s sx sy h fin
  unfold dEq at h
  split at h
  · rename_i hl
    rw [Bool.and_eq_true] at hl
    cases h
    exact ⟨x.py, y.py, sx.dp hl.1, sy.dp hl.2, flat_shaped hl.1, flat_shaped hl.2, by rw [D.eqd_py x y 60 60 hl.1 hl.2]; exact fin.rep s rfl (.bl _)⟩
  · cases h
theorem o_ne : Op2 M dNe (rNeD M.K) := by
  intro w H st v u x y d Q s sx sy h fin
  unfold dNe at h
  split at h
  · rename_i hl
    rw [Bool.and_eq_true] at hl
    cases h
    exact ⟨x.py, y.py, sx.dp hl.1, sy.dp hl.2, flat_shaped hl.1, flat_shaped hl.2, by rw [D.eqd_py x y 60 60 hl.1 hl.2]; exact fin.rep s rfl (.bl _)⟩
  · cases h
theorem b_eq : ∀ x y d, dEq x y = some d → ∃ b, d = .bl b := fun x y d h => by unfold dEq at h; split at h <;> cases h; exact ⟨_, rfl⟩
theorem b_ne : ∀ x y d, dNe x y = some d → ∃ b, d = .bl b := fun x y d h => by unfold dNe at h; split at h <;> cases h; exact ⟨_, rfl⟩
/-- is None, is a bool -/
def dIsN : D → D → Option D
  | .fn _, _ => none
  | .cell _, _ => none
  | .scr _, _ => none
  | .non, .non => some (.bl true)
  | _, .non => some (.bl false)
  | .bl a, .bl b => some (.bl (decide (a = b)))
  | _, _ => none
def dNotN : D → D → Option D
  | .fn _, _ => none
  | .cell _, _ => none
  | .scr _, _ => none
  | .non, .non => some (.bl false)
  | _, .non => some (.bl true)
  | .bl a, .bl b => some (.bl (!decide (a = b)))
  | _, _ => none
end
end Mi

set_option maxRecDepth 100000
namespace Mi
open PySem PySem.Spec L2
open PyProof.Rows hiding St

/-! ### argument lists -/
inductive AR where
  | ok (ds : List D) (st : Store) | exc (c : Str) (st : Store) | bad
abbrev MA := Env → Store → AR
def AR.bind (r : AR) (f : List D → Store → ER) : ER := match r with
  | .ok d st => f d st
  | .exc c st => .exc c st
  | .bad => .bad
def PostA (M : Md) (W : WX) (E : Ent) (w : Wd) (H : Hp) (σ : St) (ρ : Env) (Q : List V → Hp → Prop) : AR → Prop
  | .ok ds st' => ∀ w' H' vs, Ext w H w' H' → StOk M w' H' st' → RepL M w' H' vs ds → Q vs H'
  | .exc c st' => ∀ w' H' cls, SExt w H w' H' → Rel M E w' H' σ ρ st' → ClsOf M c cls → W cls none σ H'
  | .bad => False
/-- all of them frozen -/
def tA (M : Md) (W : WX) (m : MA) : TA := fun σ H Q => ∃ E w ρ st, Rel M E w H σ ρ st ∧ PostA M W E w H σ ρ Q (m ρ st)
inductive SeeL (M : Md) (w : Wd) (H : Hp) : List V → List D → Prop
  | nil : SeeL M w H [] []
  | cons {v : V} {d : D} {xs : List V} {l : List D} : See M w H v d → SeeL M w H xs l → SeeL M w H (v :: xs) (d :: l)
def PostL (M : Md) (W : WX) (E : Ent) (w : Wd) (H : Hp) (σ : St) (ρ : Env) (Q : List V → Hp → Prop) : AR → Prop
  | .ok ds st' => ∀ w' H' vs, Ext w H w' H' → StOk M w' H' st' → SeeL M w' H' vs ds → Q vs H'
  | .exc c st' => ∀ w' H' cls, SExt w H w' H' → Rel M E w' H' σ ρ st' → ClsOf M c cls → W cls none σ H'
  | .bad => False
/-- only read -/
def tAL (M : Md) (W : WX) (m : MA) : TA := fun σ H Q => ∃ E w ρ st, Rel M E w H σ ρ st ∧ PostL M W E w H σ ρ Q (m ρ st)
def aNil : MA := fun _ st => .ok [] st
def aCons (ma : ME) (ms : MA) : MA := fun ρ st => match ma ρ st with
  | .ok d k s1 => match k with
    | .b => .bad
    | _ => match ms ρ s1 with
      | .ok ds s2 => .ok (d :: ds) s2
      | .exc c s2 => .exc c s2
      | .bad => .bad
  | .exc c s1 => .exc c s1
  | .bad => .bad
def lCons (ma : ME) (ms : MA) : MA := fun ρ st => match ma ρ st with
  | .ok d _ s1 => match ms ρ s1 with
    | .ok ds s2 => .ok (d :: ds) s2
    | .exc c s2 => .exc c s2
    | .bad => .bad
  | .exc c s1 => .exc c s1
  | .bad => .bad
section
variable {M : Md} {W : WX} {E : Ent} {w w' w'' : Wd} {H H' H'' H0 H1 : Hp} {st st' : Store} {v u : V} {k : Kd} {d : D} {a : Addr} {σ : St} {ρ : Env} {l : List D} {xs : List V}
theorem SeeL.ext (e : Ext w H w' H') (ok : WOk w H) : ∀ {xs : List V} {l : List D}, SeeL M w H xs l → SeeL M w' H' xs l
  | _, _, .nil => .nil
  | _, _, .cons s t => .cons (s.ext e ok) (SeeL.ext e ok t)
theorem c_anil {Q : List V → Hp → Prop} (h : tA M W aNil σ H Q) : tNil σ H Q := by
  obtain ⟨E, w, ρ, st, R, h⟩ := h
  exact h w H [] .refl R.st .nil
theorem c_lnil {Q : List V → Hp → Prop} (h : tAL M W aNil σ H Q) : tNil σ H Q := by
  obtain ⟨E, w, ρ, st, R, h⟩ := h
  exact h w H [] .refl R.st .nil
theorem c_acons {ma : ME} {ms : MA} {Q : List V → Hp → Prop} (h : tA M W (aCons ma ms) σ H Q) : tCons (tE M W ma) (tA M W ms) σ H Q := by
  obtain ⟨E, w, ρ, st, R, h⟩ := h
  refine ⟨E, w, ρ, st, R, ?_⟩
  unfold aCons at h
  cases qa : ma ρ st with
  | bad => rw [qa] at h; exact h
  | exc c s => rw [qa] at h; exact h
  | ok d k s1 =>
    rw [qa] at h
    intro w1 H1 v e1 st1 t1
    have hk : k ≠ .b := fun z => by subst z; exact h
    obtain ⟨w2, e2, se, _, _, s2, r2⟩ := t1.strong e1 st1 hk
    refine ⟨E, w2, ρ, s1, R.next e2 s2, ?_⟩
    have h : PostA M W E w H σ ρ Q (match ms ρ s1 with | .ok ds s2 => .ok (d :: ds) s2 | .exc c s2 => .exc c s2 | .bad => .bad) := by
      cases k with
      | b => exact absurd rfl hk
      | s => exact h
      | f => exact h
    cases qs : ms ρ s1 with
    | bad => rw [qs] at h; exact h
    | exc c s => rw [qs] at h; exact fun w' H' cls e => h w' H' cls ((e2.s R.st.ok).trans e)
    | ok ds s3 =>
      rw [qs] at h
      exact fun w' H' vs e s r => h w' H' (v :: vs) (e2.trans e) s (.cons (r2.mono (e.s s2.ok)) r)
theorem c_lcons {ma : ME} {ms : MA} {Q : List V → Hp → Prop} (h : tAL M W (lCons ma ms) σ H Q) : tCons (tE M W ma) (tAL M W ms) σ H Q := by
  obtain ⟨E, w, ρ, st, R, h⟩ := h
  refine ⟨E, w, ρ, st, R, ?_⟩
  unfold lCons at h
  cases qa : ma ρ st with
  | bad => rw [qa] at h; exact h
  | exc c s => rw [qa] at h; exact h
  | ok d k s1 =>
    rw [qa] at h
    intro w1 H1 v e1 st1 t1
    refine ⟨E, w1, ρ, s1, R.next e1 st1, ?_⟩
    have h : PostL M W E w H σ ρ Q (match ms ρ s1 with | .ok ds s2 => .ok (d :: ds) s2 | .exc c s2 => .exc c s2 | .bad => .bad) := h
    cases qs : ms ρ s1 with
    | bad => rw [qs] at h; exact h
    | exc c s => rw [qs] at h; exact fun w' H' cls e => h w' H' cls ((e1.s R.st.ok).trans e)
    | ok ds s3 =>
      rw [qs] at h
      exact fun w' H' vs e s r => h w' H' (v :: vs) (e1.trans e) s (.cons (t1.see.ext e st1.ok) r)

/-! ### displays -/
def mTup (ms : MA) : ME := fun ρ st => (ms ρ st).bind fun ds s => if ds.length ≤ 16777216 then .ok (.tup ds) .s s else .bad
def mLst (ms : MA) : ME := fun ρ st => (ms ρ st).bind fun ds s => if ds.length ≤ 16777216 then .ok (.lst ds) .f s else .bad
theorem bindA {ms : MA} {f : List D → Store → ER} {Q : VK} {R : List V → Hp → Prop} (h : tE M W (fun ρ st => (ms ρ st).bind f) σ H Q)
    (go : ∀ E w ρ st w1 H1 vs ds st1, Rel M E w H σ ρ st → Ext w H w1 H1 → Rel M E w1 H1 σ ρ st1 → RepL M w1 H1 vs ds → PostB M W E w1 H1 H σ ρ Q (f ds st1) → R vs H1) : tA M W ms σ H R := by
  obtain ⟨E, w, ρ, st, R0, h⟩ := h
  refine ⟨E, w, ρ, st, R0, ?_⟩
  have h : Post M W E w H σ ρ Q ((ms ρ st).bind f) := h
  cases q : ms ρ st with
  | bad => rw [q] at h; exact h.elim
  | exc c st' => rw [q] at h; exact h
  | ok ds st1 =>
    rw [q] at h
    have h : Post M W E w H σ ρ Q (f ds st1) := h
    intro w1 H1 vs e1 s1 t1
    refine go E w ρ st w1 H1 vs ds st1 R0 e1 (R0.next e1 s1) t1 ?_
    revert h
    cases f ds st1 with
    | bad => exact id
    | exc c s => exact fun h w' H' cls e => h w' H' cls ((e1.s R0.st.ok).trans e)
    | ok d k st' => exact fun h w' H' z e s t => h w' H' z (e1.trans e) s t
theorem bindL {ms : MA} {f : List D → Store → ER} {Q : VK} {R : List V → Hp → Prop} (h : tE M W (fun ρ st => (ms ρ st).bind f) σ H Q)
    (go : ∀ E w ρ st w1 H1 vs ds st1, Rel M E w H σ ρ st → Ext w H w1 H1 → Rel M E w1 H1 σ ρ st1 → SeeL M w1 H1 vs ds → PostB M W E w1 H1 H σ ρ Q (f ds st1) → R vs H1) : tAL M W ms σ H R := by
  obtain ⟨E, w, ρ, st, R0, h⟩ := h
  refine ⟨E, w, ρ, st, R0, ?_⟩
  have h : Post M W E w H σ ρ Q ((ms ρ st).bind f) := h
  cases q : ms ρ st with
  | bad => rw [q] at h; exact h.elim
  | exc c st' => rw [q] at h; exact h
  | ok ds st1 =>
    rw [q] at h
    have h : Post M W E w H σ ρ Q (f ds st1) := h
    intro w1 H1 vs e1 s1 t1
    refine go E w ρ st w1 H1 vs ds st1 R0 e1 (R0.next e1 s1) t1 ?_
    revert h
    cases f ds st1 with
    | bad => exact id
    | exc c s => exact fun h w' H' cls e => h w' H' cls ((e1.s R0.st.ok).trans e)
    | ok d k st' => exact fun h w' H' z e s t => h w' H' z (e1.trans e) s t
theorem c_tup {ms : MA} {Q : VK} (h : tE M W (mTup ms) σ H Q) : tTup (tA M W ms) σ H Q := by
  refine bindA h fun E w ρ st w1 H1 vs ds st1 R0 e1 R1 r q => ?_
  by_cases hl : ds.length ≤ 16777216
  · rw [if_pos hl] at q
    refine ⟨by rw [r.length, sizeLine_eq]; exact hl, fun p hp => ?_⟩
    obtain ⟨w', e, s', t⟩ := new_tup R1.st hp r
    exact q w' _ _ e s' t
  · rw [if_neg hl] at q; exact q.elim
theorem c_lst {ms : MA} {Q : VK} (h : tE M W (mLst ms) σ H Q) : tLst (tA M W ms) σ H Q := by
  refine bindA h fun E w ρ st w1 H1 vs ds st1 R0 e1 R1 r q => ?_
  by_cases hl : ds.length ≤ 16777216
  · rw [if_pos hl] at q
    refine ⟨by rw [r.length, sizeLine_eq]; exact hl, fun p hp => ?_⟩
    obtain ⟨e, s', t⟩ := new_list R1.st hp r
    exact q w1 _ _ e s' (t.back e1)
  · rw [if_neg hl] at q; exact q.elim

/-- a list that lives in the store -/
def mCell (ms : MA) : ME := fun ρ st => (ms ρ st).bind fun ds s => if ds.length ≤ 16777216 then .ok (.cell s.length) .s (s ++ [ds]) else .bad
theorem new_cell (s : StOk M w H st) (hp : H a = none) (r : RepL M w H xs l) : ∃ w', Ext w H w' (upd H a (.lst xs)) ∧ StOk M w' (upd H a (.lst xs)) (st ++ [l]) ∧ Rep M w' (upd H a (.lst xs)) (.ref a) (.cell st.length) := by
  have e : Ext w H w (upd H a (.lst xs)) := new_ext hp
  have s1 : StOk M w (upd H a (.lst xs)) st := new_st s hp
  have nF : ¬ w.F a := fun z => s.ok.Fh a z hp
  have nC : a ∉ w.cells := fun z => s.ok.ch a z hp
  have se : SExt w (upd H a (.lst xs)) { w with cells := w.cells ++ [a] } (upd H a (.lst xs)) := ⟨fun _ h => h, fun _ _ => rfl, fun i b h => by
    show (w.cells ++ [a])[i]? = some b
    rw [List.getElem?_append_left (List.getElem?_eq_some_iff.mp h).1]; exact h⟩
  refine ⟨{ w with cells := w.cells ++ [a] }, ⟨e.F, e.F', e.keep, e.there, [a], rfl, fun b hb => ?_⟩, ⟨⟨s1.ok.Fh, fun b hb hF => ?_, fun b hb => ?_, ?_⟩, ?_, fun i l' h => ?_⟩, .cell ?_⟩
  · rw [List.mem_singleton.mp hb]; exact hp
  · rcases List.mem_append.mp hb with hb | hb
    · exact s1.ok.Fc b hb hF
    · rw [List.mem_singleton.mp hb] at hF; exact nF hF
  · rcases List.mem_append.mp hb with hb | hb
    · exact s1.ok.ch b hb
    · rw [List.mem_singleton.mp hb, upd_same]; exact fun z => nomatch z
  · show (w.cells ++ [a]).Nodup
    rw [List.nodup_append]
    exact ⟨s.ok.nd, by simp, fun x hx y hy => by rw [List.mem_singleton.mp hy]; exact fun z => nC (z ▸ hx)⟩
  · show (w.cells ++ [a]).length = (st ++ [l]).length
    rw [List.length_append, List.length_append, s.len]; rfl
  · by_cases hi : i < st.length
    · rw [List.getElem?_append_left hi] at h
      obtain ⟨b, ys, h1, h2, h3⟩ := s1.at_ i l' h
      exact ⟨b, ys, se.cells i b h1, h2, h3.mono se⟩
    · have hi' : i = st.length := by
        have := (List.getElem?_eq_some_iff.mp h).1
        rw [List.length_append] at this
        simp at this
        omega
      subst hi'
      rw [List.getElem?_append_right (Nat.le_refl _), Nat.sub_self] at h
      cases h
      refine ⟨a, xs, ?_, upd_same, (r.mono (e.s s.ok)).mono se⟩
      show (w.cells ++ [a])[st.length]? = some a
      rw [← s.len, List.getElem?_append_right (Nat.le_refl _), Nat.sub_self]; rfl
  · show (w.cells ++ [a])[st.length]? = some a
    rw [← s.len, List.getElem?_append_right (Nat.le_refl _), Nat.sub_self]; rfl
theorem c_cell {ms : MA} {Q : VK} (h : tE M W (mCell ms) σ H Q) : tLst (tA M W ms) σ H Q := by
  refine bindA h fun E w ρ st w1 H1 vs ds st1 R0 e1 R1 r q => ?_
  by_cases hl : ds.length ≤ 16777216
  · rw [if_pos hl] at q
    refine ⟨by rw [r.length, sizeLine_eq]; exact hl, fun p hp => ?_⟩
    obtain ⟨w', e, s', t⟩ := new_cell R1.st hp r
    exact q w' _ _ e s' t
  · rw [if_neg hl] at q; exact q.elim

/-! ### built-ins that only read -/
def CallOp (M : Md) (f : List D → Option D) (r : List V → Hp → VK → Prop) : Prop := ∀ w H st vs ds d Q, StOk M w H st → SeeL M w H vs ds → f ds = some d → Fin M w H st d Q → r vs H Q
def mB (f : List D → Option D) (ms : MA) : ME := fun ρ st => (ms ρ st).bind fun ds s => mk (f ds) s
theorem c_B {f : List D → Option D} {r : List V → Hp → VK → Prop} {ms : MA} {Q : VK} (hf : CallOp M f r) (h : tE M W (mB f ms) σ H Q) : tCB r (tAL M W ms) σ H Q := by
  refine bindL h fun E w ρ st w1 H1 vs ds st1 R0 e1 R1 r q => ?_
  cases qf : f ds with
  | none => rw [qf] at q; exact q.elim
  | some d =>
    rw [qf] at q
    exact hf w1 H1 st1 vs ds d Q R1.st r qf fun w' H' z e s t => q w' H' z e s (t.back e1)
end
section
variable {X : Cx} {M : Md} {W : WX} {a b c e : Expr} {es : List Expr} {ma mb mc : ME} {ms : MA} {pos p : Pos} {x : Str} {id T : String} {r : List V → Hp → VK → Prop} {f : List D → Option D}
theorem xa_nil : PA X [] (tA M W aNil) := PA.imp pa_nil fun _ _ _ h => c_anil h
theorem xl_nil : PA X [] (tAL M W aNil) := PA.imp pa_nil fun _ _ _ h => c_lnil h
theorem xa_cons (ha : PE X e (tE M W ma)) (hr : PA X es (tA M W ms)) (hs : starEach (e :: es) X.env = (false, eval e X.env) :: starEach es X.env := by rfl) : PA X (e :: es) (tA M W (aCons ma ms)) := PA.imp (pa_cons ha hr hs) fun _ _ _ h => c_acons h
theorem xl_cons (ha : PE X e (tE M W ma)) (hr : PA X es (tAL M W ms)) (hs : starEach (e :: es) X.env = (false, eval e X.env) :: starEach es X.env := by rfl) : PA X (e :: es) (tAL M W (lCons ma ms)) := PA.imp (pa_cons ha hr hs) fun _ _ _ h => c_lcons h
theorem x_tup {k : Nat} (h : PA X es (tA M W ms)) : PE X (.Tuple es k pos) (tE M W (mTup ms)) := PE.imp (pe_tup h) fun _ _ _ h => c_tup h
theorem x_lst (h : PA X es (tA M W ms)) : PE X (.List es pos) (tE M W (mLst ms)) := PE.imp (pe_lst h) fun _ _ _ h => c_lst h
theorem x_cell (h : PA X es (tA M W ms)) : PE X (.List es pos) (tE M W (mCell ms)) := PE.imp (pe_lst h) fun _ _ _ h => c_cell h
theorem x_B (hc : CallR X (.builtin id) r) (hf : CallOp M f r) (hg : Gl X x) (hm : X.mg x = none) (hv : bootBuiltins x = some (.builtin id)) (ha : PA X (e :: es) (tAL M W ms)) (hn : x ≠ "__name__" := by decide) (hdb : (x == ("__debug__" : Str)) = false := by decide)
    (he : starEach (e :: es) X.env = (false, eval e X.env) :: starEach es X.env := by rfl) (hpl : (backTo pos (starEach es X.env)).any (·.1) = false := by rfl) : PE X (.Call (.Name x p) (e :: es) [] pos) (tE M W (mB f ms)) :=
  PE.imp (pe_callB hc hg hm hv ha hn hdb he hpl) fun _ _ _ h => c_B hf h
theorem x_BT (hc : CallR X (.type T) r) (hf : CallOp M f r) (hg : Gl X x) (hm : X.mg x = none) (hv : bootBuiltins x = some (.type T)) (ha : PA X (e :: es) (tAL M W ms)) (hn : x ≠ "__name__" := by decide) (hdb : (x == ("__debug__" : Str)) = false := by decide)
    (he : starEach (e :: es) X.env = (false, eval e X.env) :: starEach es X.env := by rfl) (hpl : (backTo pos (starEach es X.env)).any (·.1) = false := by rfl) : PE X (.Call (.Name x p) (e :: es) [] pos) (tE M W (mB f ms)) :=
  PE.imp (pe_callTy hc hg hm hv ha hn hdb he hpl) fun _ _ _ h => c_B hf h

/-! #### each of them -/
def bLen : List D → Option D
  | [.lst l] => some (.int l.length)
  | [.tup l] => some (.int l.length)
  | [.str s] => if s.length ≤ 16777216 then some (.int s.length) else none
  | _ => none
def bAbs : List D → Option D
  | [.int i] => some (.int (if i < 0 then -i else i))
  | _ => none
def bMax2 : List D → Option D
  | [.int i, .int j] => some (.int (if j > i then j else i))
  | _ => none
def bMin2 : List D → Option D
  | [.int i, .int j] => some (.int (if j < i then j else i))
  | _ => none
def bInt : List D → Option D
  | [.int i] => some (.int i)
  | [.bl b] => some (.int (if b then 1 else 0))
  | _ => none
def bTuple : List D → Option D
  | [.lst l] => some (.tup l)
  | [.tup l] => some (.tup l)
  | _ => none
def bList : List D → Option D
  | [.lst l] => some (.lst l)
  | [.tup l] => some (.lst l)
  | [.scr ns] => some (.lst (ns.map D.int))
  | _ => none
theorem repL_ints {w : Wd} {H : Hp} : ∀ ns : List Int, RepL M w H (ns.map V.int) (ns.map D.int)
  | [] => .nil
  | n :: ns => .cons (.int n) (repL_ints ns)
theorem SeeL.one {w : Wd} {H : Hp} {vs : List V} {d : D} (s : SeeL M w H vs [d]) : ∃ v, vs = [v] ∧ See M w H v d := by
  cases s with
  | cons a t => cases t; exact ⟨_, rfl, a⟩
theorem SeeL.two {w : Wd} {H : Hp} {vs : List V} {d e : D} (s : SeeL M w H vs [d, e]) : ∃ v u, vs = [v, u] ∧ See M w H v d ∧ See M w H u e := by
  cases s with
  | cons a t =>
    obtain ⟨u, rfl, s2⟩ := t.one
    exact ⟨_, u, rfl, a, s2⟩
theorem k_len : CallOp M bLen (fun xs H Q => ∃ x n, xs = [x] ∧ LenV M.K x H n ∧ Q (.int n) H) := by
  intro w H st vs ds d Q s sl h fin
  unfold bLen at h
  split at h
  · cases h
    obtain ⟨v, rfl, s1⟩ := sl.one
    obtain ⟨a, xs, rfl, e, r⟩ := s1.lst
    exact ⟨_, _, rfl, .inl ⟨xs, SqL.of e, r.length.symm⟩, fin.rep s rfl (.int _)⟩
  · cases h
    obtain ⟨v, rfl, s1⟩ := sl.one
    obtain ⟨a, xs, rfl, e, r⟩ := s1.tup
    exact ⟨_, _, rfl, .inr ⟨xs, SqT.of e, r.length.symm⟩, fin.rep s rfl (.int _)⟩
  · split at h
    · rename_i hl
      cases h
      obtain ⟨v, rfl, s1⟩ := sl.one
      rw [s1.str]
      exact ⟨_, _, rfl, ⟨by rw [sizeLine_eq]; exact hl, rfl⟩, fin.rep s rfl (.int _)⟩
    · cases h
  · cases h
theorem k_abs : CallOp M bAbs (fun xs H Q => ∃ i, xs = [.int i] ∧ Q (.int (if i < 0 then -i else i)) H) := by
  intro w H st vs ds d Q s sl h fin
  unfold bAbs at h
  split at h
  · cases h
    obtain ⟨v, rfl, s1⟩ := sl.one
    exact ⟨_, by rw [s1.int], fin.rep s rfl (.int _)⟩
  · cases h
theorem k_max2 : CallOp M bMax2 (fun xs H Q => ∃ i j, xs = [.int i, .int j] ∧ Q (.int (if j > i then j else i)) H) := by
  intro w H st vs ds d Q s sl h fin
  unfold bMax2 at h
  split at h
  · cases h
    obtain ⟨v, u, rfl, s1, s2⟩ := sl.two
    exact ⟨_, _, by rw [s1.int, s2.int], fin.rep s rfl (.int _)⟩
  · cases h
theorem k_min2 : CallOp M bMin2 (fun xs H Q => ∃ i j, xs = [.int i, .int j] ∧ Q (.int (if j < i then j else i)) H) := by
  intro w H st vs ds d Q s sl h fin
  unfold bMin2 at h
  split at h
  · cases h
    obtain ⟨v, u, rfl, s1, s2⟩ := sl.two
    exact ⟨_, _, by rw [s1.int, s2.int], fin.rep s rfl (.int _)⟩
  · cases h
theorem k_int : CallOp M bInt (fun xs H Q => (∃ i, xs = [.int i] ∧ Q (.int i) H) ∨ ∃ k, xs = [.bl k] ∧ Q (.int (if k then 1 else 0)) H) := by
  intro w H st vs ds d Q s sl h fin
  unfold bInt at h
  split at h
  · cases h
    obtain ⟨v, rfl, s1⟩ := sl.one
    exact .inl ⟨_, by rw [s1.int], fin.rep s rfl (.int _)⟩
  · cases h
    obtain ⟨v, rfl, s1⟩ := sl.one
    exact .inr ⟨_, by rw [s1.bl], fin.rep s rfl (.int _)⟩
  · cases h
theorem See.repT {w : Wd} {H : Hp} {v : V} {l : List D} (s : See M w H v (.tup l)) : Rep M w H v (.tup l) := s.casesOn id fun _ _ o => o.2.2.elim
theorem k_tuple : CallOp M bTuple (fun xs H Q => ∃ p ys, xs = [.ref p] ∧ ((SqL M.K H p ys ∧ ∀ l, H l = none → Q (.ref l) (upd H l (.tup ys))) ∨ (SqT M.K H p ys ∧ Q (.ref p) H))) := by
  intro w H st vs ds d Q s sl h fin
  unfold bTuple at h
  split at h
  · cases h
    obtain ⟨v, rfl, s1⟩ := sl.one
    obtain ⟨a, xs, rfl, e, r⟩ := s1.lst
    refine ⟨a, xs, rfl, .inl ⟨SqL.of e, fun z hz => ?_⟩⟩
    obtain ⟨w', e, s', t⟩ := new_tup s hz r
    exact fin w' _ _ e s' t
  · cases h
    obtain ⟨v, rfl, s1⟩ := sl.one
    have rp := s1.repT
    obtain ⟨a, xs, rfl, e, r⟩ := s1.tup
    exact ⟨a, xs, rfl, .inr ⟨SqT.of e, fin.rep s rfl rp⟩⟩
  · cases h
theorem k_list : CallOp M bList (fun xs H Q => ∃ p ys, xs = [.ref p] ∧ (SqL M.K H p ys ∨ SqT M.K H p ys) ∧ ∀ l, H l = none → Q (.ref l) (upd H l (.lst ys))) := by
  intro w H st vs ds d Q s sl h fin
  unfold bList at h
  split at h
  · cases h
    obtain ⟨v, rfl, s1⟩ := sl.one
    obtain ⟨a, xs, rfl, e, r⟩ := s1.lst
    refine ⟨a, xs, rfl, .inl (SqL.of e), fun z hz => ?_⟩
    obtain ⟨e, s', t⟩ := new_list s hz r
    exact fin w _ _ e s' t
  · cases h
    obtain ⟨v, rfl, s1⟩ := sl.one
    obtain ⟨a, xs, rfl, e, r⟩ := s1.tup
    refine ⟨a, xs, rfl, .inr (SqT.of e), fun z hz => ?_⟩
    obtain ⟨e, s', t⟩ := new_list s hz r
    exact fin w _ _ e s' t
  · rename_i ns
    cases h
    obtain ⟨v, rfl, s1⟩ := sl.one
    have key : ∃ a, v = .ref a ∧ SqL M.K H a (ns.map V.int) := by
      rcases s1 with r | ⟨a, e1, o⟩
      · cases r with
        | scr hF hH => exact ⟨_, rfl, .inl (.inr ⟨_, hH⟩)⟩
        | scrK hS => exact ⟨_, rfl, hS H⟩
      · exact o.2.2.elim
    obtain ⟨a, rfl, hS⟩ := key
    refine ⟨a, _, rfl, .inl hS, fun z hz => ?_⟩
    have r : RepL M w H (ns.map V.int) (ns.map D.int) := repL_ints ns
    obtain ⟨e, s', t⟩ := new_list s hz r
    exact fin w _ _ e s' t
  · cases h
end

/-! ### isinstance against a built-in type -/
def D.ty : D → Option String
  | .non => some "NoneType"
  | .bl _ => some "bool"
  | .int _ => some "int"
  | .str _ => some "str"
  | .tup _ => some "tuple"
  | .lst _ => some "list"
  | .dct _ _ => some "dict"
  | _ => none
inductive TyN where | int | bool | str | tuple | list
def TyN.s : TyN → String
  | .int => "int" | .bool => "bool" | .str => "str" | .tuple => "tuple" | .list => "list"
def dIsI (T : TyN) (d : D) : Option D := match T, d with
  | .int, .int _ => some (.bl true)
  | .int, .bl _ => some (.bl true)
  | .bool, .bl _ => some (.bl true)
  | .str, .str _ => some (.bl true)
  | .tuple, .tup _ => some (.bl true)
  | .list, .lst _ => some (.bl true)
  | _, .fn _ => none
  | _, .cell _ => none
  | _, .scr _ => none
  | _, _ => some (.bl false)
section
variable {M : Md} {W : WX} {E : Ent} {w : Wd} {H : Hp} {st : Store} {v : V} {d : D} {σ : St}
theorem See.tyx (s : See M w H v d) {T : String} (h : d.ty = some T) : TyX M.K H v (.type T) := by
  cases d with
  | non => cases h; rw [s.non]; exact .base .non
  | bl b => cases h; rw [s.bl]; exact .base (.bl b)
  | int i => cases h; rw [s.int]; exact .base (.int i)
  | str x => cases h; rw [s.str]; exact .base (.str x)
  | tup l => cases h; obtain ⟨a, xs, rfl, e, r⟩ := s.tup; exact .base (.tup e)
  | lst l => cases h; obtain ⟨a, xs, rfl, e, r⟩ := s.lst; exact .base (.lst e)
  | dct ks l => cases h; obtain ⟨a, xs, rfl, e, r⟩ := s.dct; exact .base (.dK e)
  | fn x => cases h
  | cell i => cases h
  | scr i => cases h
theorem kit_T (K : PySem.W.Frag) (T : TyN) (d : D) (b : Bool) (h : dIsI T d = some (.bl b)) : ∃ t, d.ty = some t ∧ PySem.W.kitOne K (.type t) (.type T.s) = some b := by
  cases T <;> cases d <;> simp only [dIsI, Option.some.injEq, D.bl.injEq, reduceCtorEq] at h <;> first | (cases h; exact ⟨_, rfl, rfl⟩) | exact h.elim
def mIsI (T : TyN) (ma : ME) : ME := mOp1 (dIsI T) ma
theorem c_isI {T : TyN} {ma : ME} {Q : VK} (h : tE M W (mIsI T ma) σ H Q) : tCB (rIsi M.K) (tCons (tE M W ma) (tCons (tC (.ty T.s)) tNil)) σ H Q := by
  refine bind1 (f := fun x _ s _ => mk (dIsI T x) s) h fun E w ρ st w1 H1 v x k st1 R0 e1 R1 t1 q => ?_
  cases qf : dIsI T x with
  | none => rw [qf] at q; exact q.elim
  | some d =>
    rw [qf] at q
    obtain ⟨b, rfl⟩ : ∃ b, d = .bl b := by
      unfold dIsI at qf
      split at qf <;> cases qf <;> exact ⟨_, rfl⟩
    obtain ⟨t, ht, hk⟩ := kit_T M.K T x b qf
    exact ⟨v, .ty T.s, .type t, .type T.s, b, rfl, .ty _, t1.see.tyx ht, hk, q w1 H1 (.bl b) .refl R1.st (.bl b)⟩
end
theorem x_isI {X : Cx} {M : Md} {W : WX} {a : Expr} {ma : ME} {pos p q : Pos} {y : Str} (T : TyN) (hg : Gl X "isinstance") (hm : X.mg "isinstance" = none) (hgT : Gl X y) (hmT : X.mg y = none) (hy : y = T.s) (ha : PE X a (tE M W ma)) (hM : M.K = X.K := by rfl)
    (he : starEach [a, .Name y q] X.env = (false, eval a X.env) :: starEach [.Name y q] X.env := by rfl) (he2 : starEach [.Name y q] X.env = (false, eval (.Name y q) X.env) :: starEach [] X.env := by rfl) (hpl : (backTo pos (starEach [.Name y q] X.env)).any (·.1) = false := by rfl) :
    PE X (.Call (.Name "isinstance" p) [a, .Name y q] [] pos) (tE M W (mIsI T ma)) := by
  obtain ⟨K, mg⟩ := M
  cases hM
  have hb : bootBuiltins y = some (.type T.s) := by subst hy; cases T <;> rfl
  have hn : y ≠ "__name__" := by subst hy; cases T <;> decide
  have hd : (y == ("__debug__" : Str)) = false := by subst hy; cases T <;> decide
  exact PE.imp (pe_callB call_isi hg hm (by rfl) (pa_cons ha (pa_cons (pe_bltn (v := .ty T.s) hgT hmT hb rfl hn hd) pa_nil he2) he) (by decide) (by decide) he hpl) fun _ _ _ h => c_isI h

/-! ### items, slices, in -/
def dIx : D → D → Option D
  | .lst l, .int i => atI l i
  | .tup l, .int i => atI l i
  | .str s, .int i => if s.length ≤ 16777216 then (atI s.cps.toList i).map fun c => .str ⟨#[c]⟩ else none
  | _, _ => none
section
variable {M : Md} {W : WX} {E : Ent} {w : Wd} {H : Hp} {st : Store} {v u : V} {d : D} {σ : St} {l : List D} {xs : List V}
theorem RepL.atI {i : Int} (r : RepL M w H xs l) (h : L2.atI l i = some d) : ∃ v, L2.atI xs i = some v ∧ Rep M w H v d := by
  unfold L2.atI at h ⊢
  rw [r.length]
  cases q : ixN l.length i with
  | none => rw [q] at h; cases h
  | some j =>
    rw [q] at h
    exact r.get h
def ixS (x y : D) (st : Store) : Option D := match x with
  | .cell c => match st[c]? with
    | some l => match y with
      | .int i => atI l i
      | _ => none
    | none => none
  | _ => dIx x y
def mIx (ma mb : ME) : ME := fun ρ st => (ma ρ st).bind fun x _ st1 => (mb ρ st1).bind fun y _ st2 => match ixS x y st2 with | some d => .ok d .s st2 | none => .bad
theorem c_ix {ma mb : ME} {Q : VK} (h : tE M W (mIx ma mb) σ H Q) : tOp (rIx M.K) (tE M W ma) (tE M W mb) σ H Q := by
  refine bind1 (f := fun x _ s ρ => (mb ρ s).bind fun y _ st2 => match ixS x y st2 with | some d => .ok d .s st2 | none => .bad) h fun E w ρ st w1 H1 v x k st1 R0 e1 R1 t1 q => ?_
  refine ⟨E, w1, ρ, st1, R1, q.bind R1 e1 fun w2 H2 u y ky st2 e2 R2 t2 q2 => ?_⟩
  clear q
  have sx := t1.see.ext e2 R1.st.ok
  have sy := t2.see
  cases qf : ixS x y st2 with
  | none => rw [qf] at q2; exact q2.elim
  | some d =>
    rw [qf] at q2
    have q : ∀ w' H' z, Ext w2 H2 w' H' → StOk M w' H' st2 → Top M H w' H' z .s d → Q z H' := q2
    clear q2
    have cellCase : ∀ c, x = .cell c → rIx M.K v u H2 Q := by
      rintro c rfl
      unfold ixS at qf
      dsimp only at qf
      cases ql : st2[c]? with
      | none => rw [ql] at qf; cases qf
      | some l =>
        rw [ql] at qf
        cases y with
        | int i =>
          dsimp only at qf
          obtain ⟨a, xs, h1, h2, r⟩ := R2.st.at_ c l ql
          obtain ⟨z, hz, rz⟩ := r.atI qf
          have ev : v = .ref a := by
            rcases sx with r | ⟨b, e1, o⟩
            · cases r with
              | cell hc => rw [hc] at h1; cases h1; rfl
            · exact o.2.2.elim
          subst ev
          exact .inl ⟨a, xs, _, z, rfl, sy.int, SqL.of h2, hz, q w2 H2 z .refl R2.st rz⟩
        | _ => cases qf
    by_cases hcell : ∃ c, x = .cell c
    · obtain ⟨c, hc⟩ := hcell
      exact cellCase c hc
    have qf : dIx x y = some d := by
      unfold ixS at qf
      split at qf
      · exact absurd ⟨_, rfl⟩ hcell
      · exact qf
    clear cellCase hcell
    unfold dIx at qf
    split at qf
    · obtain ⟨a, xs, rfl, e, r⟩ := sx.lst
      obtain ⟨z, hz, rz⟩ := r.atI qf
      exact .inl ⟨a, xs, _, z, rfl, sy.int, SqL.of e, hz, q w2 H2 z .refl R2.st rz⟩
    · obtain ⟨a, xs, rfl, e, r⟩ := sx.tup
      obtain ⟨z, hz, rz⟩ := r.atI qf
      exact .inr (.inl ⟨a, xs, _, z, rfl, sy.int, SqT.of e, hz, q w2 H2 z .refl R2.st rz⟩)
    · split at qf
      · rename_i hl
        obtain ⟨c, hc, rfl⟩ := Option.map_eq_some_iff.mp qf
        exact .inr (.inr ⟨_, _, c, sx.str, sy.int, by rw [sizeLine_eq]; exact hl, hc, q w2 H2 _ .refl R2.st (.str _)⟩)
      · cases qf
    · cases qf
end
theorem x_ix {X : Cx} {M : Md} {W : WX} {a b : Expr} {ma mb : ME} {pos : Pos} (ha : PE X a (tE M W ma)) (hb : PE X b (tE M W mb)) (hM : M.K = X.K := by rfl) (hs : PlainIx b := by intro _ _; rfl) : PE X (.Subscript a b pos) (tE M W (mIx ma mb)) := by
  obtain ⟨K, mg⟩ := M
  cases hM
  exact PE.imp (pe_ix ix_seq ha hb hs) fun _ _ _ h => c_ix h

/-- x in xs: flat things in a list or a tuple -/
def D.plain : D → Bool
  | .non => true | .bl _ => true | .int _ => true | .str _ => true
  | _ => false
def dInP (neg : Bool) : D → D → Option D
  | x, .lst l => if x.plain && l.all D.plain then some (.bl (if neg then !(l.any fun y => y.eqd x) else l.any fun y => y.eqd x)) else none
  | x, .tup l => if x.plain && l.all D.plain then some (.bl (if neg then !(l.any fun y => y.eqd x) else l.any fun y => y.eqd x)) else none
  | _, _ => none
section
variable {M : Md} {w : Wd} {H : Hp}
theorem See.flat {v : V} {d : D} (s : See M w H v d) (h : d.plain = true) : flatV v = true := by
  cases d with
  | non => rw [s.non]; rfl
  | bl b => rw [s.bl]; rfl
  | int i => rw [s.int]; rfl
  | str x => rw [s.str]; rfl
  | _ => cases h
theorem Rep.eqV {v u : V} {x y : D} (r : Rep M w H v x) (q : See M w H u y) (h : x.plain = true) (h' : y.plain = true) : L2.eqV v u = x.eqd y := by
  cases r <;> first
    | (cases y with
      | non => rw [q.non]; simp [L2.eqV, D.eqd]; done
      | bl b => rw [q.bl]; simp [L2.eqV, D.eqd]; done
      | int i => rw [q.int]; simp [L2.eqV, D.eqd]; done
      | str x => rw [q.str]; simp [L2.eqV, D.eqd]; done
      | _ => cases h')
    | cases h
theorem RepL.flat {xs : List V} {l : List D} (r : RepL M w H xs l) (h : l.all D.plain = true) : xs.all flatV = true := by
  induction l generalizing xs with
  | nil => cases r; rfl
  | cons d l ih =>
    cases r with
    | cons a t =>
      rw [List.all_cons, Bool.and_eq_true] at h
      rw [List.all_cons, (See.rep a).flat h.1, ih t h.2]; rfl
theorem RepL.inV {xs : List V} {l : List D} {u : V} {x : D} (r : RepL M w H xs l) (q : See M w H u x) (h : l.all D.plain = true) (hx : x.plain = true) : L2.inV u xs = l.any fun y => y.eqd x := by
  unfold L2.inV
  induction l generalizing xs with
  | nil => cases r; rfl
  | cons d l ih =>
    cases r with
    | cons a t =>
      rw [List.all_cons, Bool.and_eq_true] at h
      rw [List.any_cons, List.any_cons, a.eqV q h.1 hx, ih t h.2]
theorem o_inP (neg : Bool) : Op2 M (dInP neg) (rIn M.K neg) := by
  intro w H st v u x y d Q s sx sy h fin
  unfold dInP at h
  split at h
  · split at h
    · rename_i hl
      rw [Bool.and_eq_true] at hl
      cases h
      obtain ⟨a, xs, rfl, e, r⟩ := sy.lst
      exact ⟨a, xs, rfl, .inl (SqL.of e), sx.flat hl.1, r.flat hl.2, by rw [r.inV sx hl.2 hl.1]; exact fin.rep s rfl (.bl _)⟩
    · cases h
  · split at h
    · rename_i hl
      rw [Bool.and_eq_true] at hl
      cases h
      obtain ⟨a, xs, rfl, e, r⟩ := sy.tup
      exact ⟨a, xs, rfl, .inr (SqT.of e), sx.flat hl.1, r.flat hl.2, by rw [r.inV sx hl.2 hl.1]; exact fin.rep s rfl (.bl _)⟩
    · cases h
  · cases h
theorem b_inP (neg : Bool) : ∀ x y d, dInP neg x y = some d → ∃ b, d = .bl b := fun x y d h => by
  unfold dInP at h
  split at h <;> first | (split at h <;> cases h <;> exact ⟨_, rfl⟩) | cases h
abbrev rIs2 : R2 := fun x y H Q => (y = .non ∧ Q (.bl (decide (x = .non))) H) ∨ rIsB x y H Q
abbrev rNot2 : R2 := fun x y H Q => (y = .non ∧ Q (.bl (!decide (x = .non))) H) ∨ rNotB x y H Q
theorem op_is2 {X : Cx} : OpR X (compareOp .Is) rIs2 := op_isN.or op_isBl
theorem op_not2 {X : Cx} : OpR X (compareOp .IsNot) rNot2 := op_notN.or op_notBl
def D.isNon : D → Bool
  | .non => true
  | _ => false
theorem See.nonD {v : V} {d : D} (s : See M w H v d) (h : d.ty ≠ none) : decide (v = .non) = d.isNon := by
  cases d with
  | non => rw [s.non]; rfl
  | bl b => rw [s.bl]; rfl
  | int i => rw [s.int]; rfl
  | str x => rw [s.str]; rfl
  | tup l => obtain ⟨a, xs, rfl, _⟩ := s.tup; rfl
  | lst l => obtain ⟨a, xs, rfl, _⟩ := s.lst; rfl
  | dct ks l => obtain ⟨a, xs, rfl, _⟩ := s.dct; rfl
  | _ => exact absurd rfl h
theorem o_is : Op2 M dIsN rIs2 := by
  intro w H st v u x y d Q s sx sy h fin
  unfold dIsN at h
  split at h
  · cases h
  · cases h
  · cases h
  · cases h; exact .inl ⟨sy.non, by rw [sx.nonD (by simp [D.ty])]; exact fin.rep s rfl (.bl _)⟩
  · cases h
    have hx : x.ty ≠ none := by cases x <;> simp_all [D.ty]
    refine .inl ⟨sy.non, ?_⟩
    rw [sx.nonD hx]
    have : x.isNon = false := by cases x <;> simp_all [D.isNon]
    rw [this]
    exact fin.rep s rfl (.bl _)
  · cases h; exact .inr ⟨_, _, sx.bl, sy.bl, fin.rep s rfl (.bl _)⟩
  · cases h
theorem o_isnot : Op2 M dNotN rNot2 := by
  intro w H st v u x y d Q s sx sy h fin
  unfold dNotN at h
  split at h
  · cases h
  · cases h
  · cases h
  · cases h; exact .inl ⟨sy.non, by rw [sx.nonD (by simp [D.ty])]; exact fin.rep s rfl (.bl _)⟩
  · cases h
    have hx : x.ty ≠ none := by cases x <;> simp_all [D.ty]
    refine .inl ⟨sy.non, ?_⟩
    rw [sx.nonD hx]
    have : x.isNon = false := by cases x <;> simp_all [D.isNon]
    rw [this]
    exact fin.rep s rfl (.bl _)
  · cases h; exact .inr ⟨_, _, sx.bl, sy.bl, fin.rep s rfl (.bl _)⟩
  · cases h
theorem b_is : ∀ x y d, dIsN x y = some d → ∃ b, d = .bl b := fun x y d h => by unfold dIsN at h; split at h <;> cases h <;> exact ⟨_, rfl⟩
theorem b_isnot : ∀ x y d, dNotN x y = some d → ∃ b, d = .bl b := fun x y d h => by unfold dNotN at h; split at h <;> cases h <;> exact ⟨_, rfl⟩
end
end Mi

set_option maxRecDepth 100000
namespace Mi
open PySem PySem.Spec L2
open PyProof.Rows hiding St

/-! ### calls of the text's own defs -/
abbrev Fn := List D → Store → ER
def PostF (M : Md) (w : Wd) (H : Hp) (Q : VK) (X : XK) : ER → Prop
  | .ok d k st' => k ≠ .b ∧ ∀ w' H' v, Ext w H w' H' → StOk M w' H' st' → Top M H w' H' v k d → Q v H'
  | .exc c st' => ∀ w' H' cls, Ext w H w' H' → StOk M w' H' st' → ClsOf M c cls → X cls none H'
  | .bad => False
/-- what a def promises whose mirror is F -/
def spF (M : Md) (n : Nat) (F : Fn) : Sp := fun vs H Q X => vs.length = n ∧ ∃ w ds st, StOk M w H st ∧ RepL M w H vs ds ∧ PostF M w H Q X (F ds st)
def mCall (F : Fn) (ms : MA) : ME := fun ρ st => (ms ρ st).bind F
section
variable {M : Md} {W : WX} {E : Ent} {w w' w'' : Wd} {H H' H'' H0 H1 : Hp} {st st' : Store} {v u : V} {k : Kd} {d : D} {a : Addr} {σ : St} {ρ : Env} {l : List D} {xs : List V} {n : Nat}
theorem c_call {F : Fn} {ms : MA} {Q : VK} (hn : ∀ ds st, ds.length ≠ n → F ds st = .bad) (hk : ∀ ds st d s, F ds st ≠ .ok d .b s) (h : tE M W (mCall F ms) σ H Q) : tCallSD (spF M n F) [] (WE W) (tA M W ms) σ H Q := by
  refine bindA h fun E w ρ st w1 H1 vs ds st1 R0 e1 R1 r q => ?_
  rw [List.append_nil]
  have hl : ds.length = n := Classical.byContradiction fun z => by rw [hn ds st1 z] at q; exact q.elim
  refine ⟨by rw [r.length]; exact hl, w1, ds, st1, R1.st, r, ?_⟩
  cases qf : F ds st1 with
  | bad => rw [qf] at q; exact q.elim
  | exc c s => rw [qf] at q; exact fun w' H' cls e s c => q w' H' cls (e.s R1.st.ok) (R1.next e s) c
  | ok d k s => rw [qf] at q; exact ⟨fun z => hk ds st1 d s (by rw [qf, z]), fun w' H' v e s t => q w' H' v e s (t.back e1)⟩
end
section
variable {X : Cx} {M : Md} {W : WX} {e : Expr} {es : List Expr} {ms : MA} {pos p : Pos} {x : Str} {k n : Nat} {f : Addr} {fd : FuncData} {ps : List Str}
theorem x_call {F : Fn} (G : FnOk X.prog X.w X.K X.mg X.base (L2.CX X.prog X.w) k f fd ps (spF M n F)) (hr : Room k X.A) (hg : Gl X x) (hm : X.mg x = some (.ref f)) (hkp : PySem.W.keepIn X.K (.ref f) = true) (hb : Binds X.K fd ps [])
    (hn : ∀ ds st, ds.length ≠ n → F ds st = .bad) (hk : ∀ ds st d s, F ds st ≠ .ok d .b s) (tk : Takes X W) (ha : PA X (e :: es) (tA M W ms)) (hdb : (x == ("__debug__" : Str)) = false := by decide)
    (he : starEach (e :: es) X.env = (false, eval e X.env) :: starEach es X.env := by rfl) (hpl : (backTo pos (starEach es X.env)).any (·.1) = false := by rfl) : PE X (.Call (.Name x p) (e :: es) [] pos) (tE M W (mCall F ms)) :=
  PE.imp (pe_callSD G hr hg hm hkp hb .nil (passAt tk) ha hdb he hpl) fun _ _ _ h => c_call hn hk h
end

/-! ### slices -/
def cutD (xs : List D) (lo hi : Option Int) : List D := (xs.drop (HT.sIx xs.length 0 lo)).take (HT.sIx xs.length xs.length hi - HT.sIx xs.length 0 lo)
def dSl (lo hi : Option Int) : D → Option D
  | .lst l => some (.lst (cutD l lo hi))
  | .tup l => some (.tup (cutD l lo hi))
  | .str s => if s.length ≤ 16777216 then some (.str (cutS s lo hi)) else none
  | _ => none
def part (lo : Option ME) (ρ : Env) (st : Store) (f : Option Int → Store → ER) : ER := match lo with
  | none => f none st
  | some m => (m ρ st).bind fun d _ s => match d with
    | .int i => f (some i) s
    | _ => .bad
def mSl (ma : ME) (lo hi : Option ME) : ME := fun ρ st => (ma ρ st).bind fun x _ s1 => part lo ρ s1 fun l s2 => part hi ρ s2 fun h s3 => mk (dSl l h x) s3
def tO (M : Md) (W : WX) : Option ME → TO
  | none => tNoPart
  | some m => tPart (tE M W m)
section
variable {M : Md} {W : WX} {E : Ent} {w w' w'' : Wd} {H H' H'' H0 H1 : Hp} {st st' : Store} {v u : V} {k : Kd} {d : D} {a : Addr} {σ : St} {ρ : Env} {l : List D} {xs : List V}
theorem RepL.cut {lo hi : Option Int} (r : RepL M w H xs l) : RepL M w H (cutV xs lo hi) (cutD l lo hi) := by
  unfold cutV cutD
  rw [r.length]
  exact (r.drop _).take _
theorem c_part {lo : Option ME} {f : Option Int → Store → ER} {Q : VK} {R : Option Int → Hp → Prop} {w1 : Wd} (h : PostB M W E w H H0 σ ρ Q (part lo ρ st f)) (R0 : Rel M E w H σ ρ st) (e0 : Ext w1 H0 w H)
    (go : ∀ w1 H1 l s1, Ext w H w1 H1 → Rel M E w1 H1 σ ρ s1 → PostB M W E w1 H1 H0 σ ρ Q (f l s1) → R l H1) : tO M W lo σ H R := by
  cases lo with
  | none => exact go w H none st .refl R0 h
  | some m =>
    refine ⟨E, w, ρ, st, R0, PostB.bind h R0 e0 fun w1 H1 v x k s1 e1 R1 t1 q => ?_⟩
    cases x with
    | int i => exact ⟨i, t1.see.int, go w1 H1 (some i) s1 e1 R1 q⟩
    | _ => exact q.elim
abbrev rSl3 (K : PySem.W.Frag) : V → Option Int → Option Int → Hp → VK → Prop := fun x lo hi H Q => (rSlL K x lo hi H Q ∨ rSlA K x lo hi H Q) ∨ rSlS x lo hi H Q
theorem sl_3 {X : Cx} : SlR X (rSl3 X.K) := (sl_list.or sl_tupA).or sl_str
theorem c_sl {ma : ME} {lo hi : Option ME} {Q : VK} (h : tE M W (mSl ma lo hi) σ H Q) : tSl (rSl3 M.K) (tE M W ma) (tO M W lo) (tO M W hi) σ H Q := by
  refine bind1 (f := fun x _ s1 ρ => part lo ρ s1 fun l s2 => part hi ρ s2 fun h s3 => mk (dSl l h x) s3) h fun E w ρ st w1 H1 v x k st1 R0 e1 R1 t1 q => ?_
  refine c_part q R1 e1 fun w2 H2 l s2 e2 R2 q => ?_
  refine c_part q R2 (e1.trans e2) fun w3 H3 hh s3 e3 R3 q => ?_
  have e23 := e2.trans e3
  have sx := t1.see.ext e23 R1.st.ok
  have back : ∀ {w' H' z k d}, Top M H3 w' H' z k d → Top M H w' H' z k d := fun t => ((t.back e3).back e2).back e1
  cases qf : dSl l hh x with
  | none => rw [qf] at q; exact q.elim
  | some d =>
    rw [qf] at q
    have q : ∀ w' H' z, Ext w3 H3 w' H' → StOk M w' H' s3 → Top M H w' H' z d.kd d → Q z H' := q
    unfold dSl at qf
    split at qf
    · cases qf
      obtain ⟨a, xs, rfl, e, r⟩ := sx.lst
      refine .inl (.inl ⟨a, xs, rfl, SqL.of e, fun p hp => ?_⟩)
      obtain ⟨e, s', t⟩ := new_list R3.st hp (r.cut (lo := l) (hi := hh))
      exact q w3 _ _ e s' (back t)
    · cases qf
      have rp := sx.repT
      obtain ⟨a, xs, rfl, e, r⟩ := sx.tup
      refine .inl (.inr ⟨a, xs, rfl, SqT.of e, fun hw => ?_, fun hw p hp => ?_⟩)
      · rename_i ll q01 q02 q03
        have e2 : cutD ll l hh = ll := by
          obtain ⟨h1, h2⟩ := hw
          unfold cutD
          rw [← r.length, h1, h2, List.drop_zero, Nat.sub_zero, r.length]
          exact List.take_length
        rw [e2] at q
        exact q w3 H3 _ .refl R3.st rp
      · obtain ⟨w', e, s', t⟩ := new_tup R3.st hp (r.cut (lo := l) (hi := hh))
        exact q w' _ _ e s' t
    · split at qf
      · rename_i hl
        cases qf
        exact .inr ⟨_, sx.str, by rw [sizeLine_eq]; exact hl, q w3 H3 _ .refl R3.st (.str _)⟩
      · cases qf
    · cases qf
/-- xs[::-1], a list -/
def mRev (ma : ME) : ME := fun ρ st => (ma ρ st).bind fun x _ s1 => match x with | .lst l => .ok (.lst l.reverse) .f s1 | _ => .bad
theorem c_rev {ma : ME} {Q : VK} (h : tE M W (mRev ma) σ H Q) : tRevL M.K (tE M W ma) σ H Q := by
  refine bind1 (f := fun x _ s1 _ => match x with | .lst l => .ok (.lst l.reverse) .f s1 | _ => .bad) h fun E w ρ st w1 H1 v x k st1 R0 e1 R1 t1 q => ?_
  cases x with
  | lst l =>
    obtain ⟨a, xs, rfl, e, r⟩ := t1.see.lst
    refine ⟨a, xs, rfl, SqL.of e, fun p hp => ?_⟩
    obtain ⟨e, s', t⟩ := new_list R1.st hp r.reverse
    exact q w1 _ _ e s' (t.back e1)
  | _ => exact q.elim
end
section
variable {X : Cx} {M : Md} {W : WX} {a b c e : Expr} {ma mb mc : ME} {pos p2 : Pos} {lo hi : Option Expr} {ml mh : Option ME}
theorem xo_none : PO X none (tO M W none) := po_none
theorem xo_some (h : PE X a (tE M W ma)) : PO X (some a) (tO M W (some ma)) := po_some h
theorem x_sl (ha : PE X a (tE M W ma)) (hl : PO X lo (tO M W ml)) (hh : PO X hi (tO M W mh)) (hM : M.K = X.K := by rfl) : PE X (.Subscript a (.Slice lo hi none p2) pos) (tE M W (mSl ma ml mh)) := by
  obtain ⟨K, mg⟩ := M
  cases hM
  exact PE.imp (pe_slice sl_3 ha hl hh) fun _ _ _ h => c_sl h
theorem x_rev {k : Nat} {p1 p3 p4 : Pos} (ha : PE X a (tE M W ma)) (hM : M.K = X.K := by rfl) : PE X (.Subscript a (.Slice none none (some (.UnaryOp .USub (.Constant (.int 1) k p1) p3)) p4) pos) (tE M W (mRev ma)) := by
  obtain ⟨K, mg⟩ := M
  cases hM
  exact PE.imp (pe_revL ha) fun _ _ _ h => c_rev h
end

/-! ### statements -/
inductive SR where
  | next (ρ : Env) (st : Store) | ret (d : D) (k : Kd) (st : Store) | brk (ρ : Env) (st : Store) | cont (ρ : Env) (st : Store) | exc (c : Str) (ρ : Env) (st : Store) | bad
abbrev MS := Env → Store → SR
def PostS (M : Md) (W : WX) (E : Ent) (w0 : Wd) (H0 : Hp) (Dn : Ends) : SR → Prop
  | .next ρ st => ∀ w H σ, SExt w0 H0 w H → Rel M E w H σ ρ st → Dn.nx σ H
  | .ret d k st => ∀ w H v, Ext E.w E.H w H → StOk M w H st → Top M E.H w H v k d → Dn.rt v H
  | .brk ρ st => ∀ w H σ, SExt w0 H0 w H → Rel M E w H σ ρ st → Dn.bk σ H
  | .cont ρ st => ∀ w H σ, SExt w0 H0 w H → Rel M E w H σ ρ st → Dn.ct σ H
  | .exc c ρ st => ∀ w H σ cls, SExt w0 H0 w H → Rel M E w H σ ρ st → ClsOf M c cls → W cls none σ H
  | .bad => False
def tS (M : Md) (W : WX) (m : MS) : TS := fun Dn σ H => ∃ E w ρ st, Rel M E w H σ ρ st ∧ PostS M W E w H Dn (m ρ st)
theorem PostS.later {M : Md} {W : WX} {E : Ent} {w w1 : Wd} {H H1 : Hp} {Dn : Ends} {r : SR} (h : PostS M W E w H Dn r) (e : SExt w H w1 H1) : PostS M W E w1 H1 Dn r := by
  cases r with
  | next ρ st => exact fun w' H' σ' e' R => h w' H' σ' (e.trans e') R
  | ret d k st => exact h
  | brk ρ st => exact fun w' H' σ' e' R => h w' H' σ' (e.trans e') R
  | cont ρ st => exact fun w' H' σ' e' R => h w' H' σ' (e.trans e') R
  | exc c ρ st => exact fun w' H' σ' cls e' R hc => h w' H' σ' cls (e.trans e') R hc
  | bad => exact h
def SR.bind (r : SR) (f : MS) : SR := match r with
  | .next ρ st => f ρ st
  | .ret d k st => .ret d k st
  | .brk ρ st => .brk ρ st
  | .cont ρ st => .cont ρ st
  | .exc c ρ st => .exc c ρ st
  | .bad => .bad
def mSkip : MS := fun ρ st => .next ρ st
def mSeq (a b : MS) : MS := fun ρ st => (a ρ st).bind b
/-- an expression ahead of a step -/
def withE (r : ER) (ρ : Env) (f : D → Kd → Store → SR) : SR := match r with
  | .ok d k st => f d k st
  | .exc c st => .exc c ρ st
  | .bad => .bad
def mExpr (ma : ME) : MS := fun ρ st => withE (ma ρ st) ρ fun _ _ s => .next ρ s
def mSet (i : Nat) (ma : ME) : MS := fun ρ st => withE (ma ρ st) ρ fun d k s => match k with
  | .s => .next (ρ.set i (.val d)) s
  | .f => .next (ρ.set i (.own d)) s
  | .b => .bad
def mRet (ma : ME) : MS := fun ρ st => withE (ma ρ st) ρ fun d k s => match k with
  | .b => .bad
  | _ => .ret d k s
/-- return of a name: a thing of this call's own is handed over -/
def mRetV (i : Nat) : MS := fun ρ st => match ρ[i]? with
  | some (.val d) => .ret d .s st
  | some (.own d) => .ret d .f st
  | _ => .bad
def mRetN : MS := fun _ st => .ret .non .s st
def mIfS (mc : ME) (a b : MS) : MS := fun ρ st => withE (mc ρ st) ρ fun x _ s => match x.tru with
  | some true => a ρ s
  | some false => b ρ s
  | none => .bad
def mFrz (i : Nat) : MS := fun ρ st => match ρ[i]? with
  | some (.own d) => .next (ρ.set i (.val d)) st
  | _ => .next ρ st
def mBrk : MS := fun ρ st => .brk ρ st
def mCont : MS := fun ρ st => .cont ρ st
section
variable {M : Md} {W : WX} {E : Ent} {w w' w'' : Wd} {H H' H'' H0 H1 : Hp} {st st' : Store} {v u : V} {k : Kd} {d : D} {a : Addr} {σ : St} {ρ : Env} {l : List D} {xs : List V} {Dn : Ends}
theorem c_seq {a b : MS} (h : tS M W (mSeq a b) Dn σ H) : tSeq (tS M W a) (tS M W b) Dn σ H := by
  obtain ⟨E, w, ρ, st, R, h⟩ := h
  refine ⟨E, w, ρ, st, R, ?_⟩
  unfold mSeq at h
  revert h
  cases a ρ st with
  | next ρ' st' => exact fun h w' H' σ' e' R' => ⟨E, w', ρ', st', R', PostS.later h e'⟩
  | ret d k st' => exact id
  | brk ρ' st' => exact id
  | cont ρ' st' => exact id
  | exc c ρ' st' => exact id
  | bad => exact id
theorem c_skip (h : tS M W mSkip Dn σ H) : tNext Dn σ H := by
  obtain ⟨E, w, ρ, st, R, h⟩ := h
  exact h w H σ .refl R
/-- a step behind an expression -/
theorem bindS {ma : ME} {f : D → Kd → Store → Env → SR} {R : VK} (h : tS M W (fun ρ st => withE (ma ρ st) ρ fun d k s => f d k s ρ) Dn σ H)
    (go : ∀ E w ρ st w1 H1 v x k st1, Rel M E w H σ ρ st → Ext w H w1 H1 → Rel M E w1 H1 σ ρ st1 → Top M H w1 H1 v k x → PostS M W E w H Dn (f x k st1 ρ) → R v H1) : tE M W ma σ H R := by
  obtain ⟨E, w, ρ, st, R0, h⟩ := h
  refine ⟨E, w, ρ, st, R0, ?_⟩
  have h : PostS M W E w H Dn (withE (ma ρ st) ρ fun d k s => f d k s ρ) := h
  cases q : ma ρ st with
  | bad => rw [q] at h; exact h.elim
  | exc c st' => rw [q] at h; exact fun w' H' cls e' R' hc => h w' H' σ cls e' R' hc
  | ok x k st1 =>
    rw [q] at h
    have h : PostS M W E w H Dn (f x k st1 ρ) := h
    exact fun w1 H1 v e1 s1 t1 => go E w ρ st w1 H1 v x k st1 R0 e1 (R0.next e1 s1) t1 h
theorem c_expr {ma : ME} (h : tS M W (mExpr ma) Dn σ H) : tDrop (tE M W ma) Dn σ H := by
  refine bindS (f := fun _ _ s ρ => .next ρ s) h fun E w ρ st w1 H1 v x k st1 R0 e1 R1 t1 q => ?_
  exact q w1 H1 σ (e1.s R0.st.ok) R1
theorem Rel.setTop (R0 : Rel M E w H σ ρ st) (e : Ext w H w' H') (R1 : Rel M E w' H' σ ρ st') (i : Nat) (t : Top M H w' H' v k d) (hk : k ≠ .b) : Rel M E w' H' (σ.set i (some v)) (ρ.set i (match k with | .f => .own d | _ => .val d)) st' := by
  cases k with
  | b => exact absurd rfl hk
  | s => exact R1.setVal i t
  | f =>
    obtain ⟨a, rfl, h0, o⟩ := t
    exact R1.setOwn i o (R0.ext.none h0) fun j d' h _ => R0.fresh e h0 j d' h
theorem c_set {i : Nat} {ma : ME} (h : tS M W (mSet i ma) Dn σ H) : tAsg (tE M W ma) (gName i) Dn σ H := by
  refine bindS (f := fun d k s ρ => match k with | .s => .next (ρ.set i (.val d)) s | .f => .next (ρ.set i (.own d)) s | .b => .bad) h fun E w ρ st w1 H1 v x k st1 R0 e1 R1 t1 q => ?_
  cases k with
  | b => exact q.elim
  | s => exact q w1 H1 _ (e1.s R0.st.ok) (R0.setTop e1 R1 i t1 (fun z => nomatch z))
  | f => exact q w1 H1 _ (e1.s R0.st.ok) (R0.setTop e1 R1 i t1 (fun z => nomatch z))
theorem c_ret {ma : ME} (h : tS M W (mRet ma) Dn σ H) : tRet (tE M W ma) Dn σ H := by
  refine bindS (f := fun d k s _ => match k with | .b => .bad | _ => .ret d k s) h fun E w ρ st w1 H1 v x k st1 R0 e1 R1 t1 q => ?_
  cases k with
  | b => exact q.elim
  | s => exact q w1 H1 v R1.ext R1.st (t1.back R0.ext)
  | f => exact q w1 H1 v R1.ext R1.st (t1.back R0.ext)
theorem c_retV {i : Nat} (h : tS M W (mRetV i) Dn σ H) : tRet (tVar i) Dn σ H := by
  obtain ⟨E, w, ρ, st, R, h⟩ := h
  unfold mRetV at h
  cases q : ρ[i]? with
  | none => rw [q] at h; exact h.elim
  | some s =>
    rw [q] at h
    cases s with
    | no => exact h.elim
    | val d =>
      obtain ⟨v, e, r⟩ := R.slot i _ q
      exact ⟨v, e, h w H v R.ext R.st r⟩
    | own d =>
      obtain ⟨a, e, h0, o⟩ := R.slot i _ q
      exact ⟨.ref a, e, h w H _ R.ext R.st ⟨a, rfl, h0, o⟩⟩
theorem c_retN (h : tS M W mRetN Dn σ H) : tRetN Dn σ H := by
  obtain ⟨E, w, ρ, st, R, h⟩ := h
  exact h w H .non R.ext R.st .non
theorem c_ifS {mc : ME} {a b : MS} (h : tS M W (mIfS mc a b) Dn σ H) : tIfS (tT M W mc) (tS M W a) (tS M W b) Dn σ H := by
  obtain ⟨E, w, ρ, st, R0, h⟩ := h
  refine ⟨E, w, ρ, st, R0, ?_⟩
  unfold mIfS at h
  cases q : mc ρ st with
  | bad => rw [q] at h; exact h.elim
  | exc c st' => rw [q] at h; exact fun w' H' cls e' R' hc => h w' H' σ cls e' R' hc
  | ok x k st1 =>
    rw [q] at h
    have h : PostS M W E w H Dn (match x.tru with | some true => a ρ st1 | some false => b ρ st1 | none => .bad) := h
    cases qt : x.tru with
    | none => rw [qt] at h; exact h.elim
    | some c =>
      rw [qt] at h
      refine ⟨c, qt, fun w1 H1 e s => ?_⟩
      cases c with
      | true => rw [if_pos rfl]; exact ⟨E, w1, ρ, st1, R0.next e s, PostS.later h (e.s R0.st.ok)⟩
      | false => rw [if_neg Bool.false_ne_true]; exact ⟨E, w1, ρ, st1, R0.next e s, PostS.later h (e.s R0.st.ok)⟩
/-- a slot's own thing is frozen -/
theorem Rel.frz (R : Rel M E w H σ ρ st) {i : Nat} (h : ρ[i]? = some (.own d)) : ∃ w', SExt w H w' H ∧ Rel M E w' H σ (ρ.set i (.val d)) st := by
  obtain ⟨a, e, h0, o⟩ := R.slot i _ h
  obtain ⟨w', ew, se, s', r⟩ := o.freeze R.st
  have fF : ∀ x, w'.F x → w.F x ∨ x = a := fun x h => by rw [ew] at h; exact h
  have fC : w'.cells = w.cells := by rw [ew]
  have hl : i < ρ.length := (List.getElem?_eq_some_iff.mp h).1
  refine ⟨w', se, s', ⟨fun x h => se.F x (R.ext.F x h), fun x hx => ?_, R.ext.keep, R.ext.there, by rw [fC]; exact R.ext.cells⟩, by simp [R.len], fun j s hj => ?_, fun j l d1 d2 b hjl h1 h2 h3 h4 => ?_⟩
  · rcases fF x hx with hx | hx
    · exact R.ext.F' x hx
    · subst hx; exact .inr h0
  · by_cases hji : i = j
    · subst hji
      rw [List.getElem?_set_self hl] at hj
      cases hj
      exact ⟨_, e, r⟩
    · rw [List.getElem?_set_ne hji] at hj
      have q := R.slot j s hj
      cases s with
      | no => trivial
      | val d' => obtain ⟨v, e1, r1⟩ := q; exact ⟨v, e1, r1.mono se⟩
      | own d' =>
        obtain ⟨b, e1, e2, n1, n2, o2⟩ := q
        refine ⟨b, e1, e2, fun z => ?_, by rw [fC]; exact n2, ?_⟩
        · rcases fF b z with z | z
          · exact n1 z
          · subst z
            exact R.dist i j d d' b hji h hj e e1
        · cases d' with
          | lst l => obtain ⟨xs, q1, q2⟩ := o2; exact ⟨xs, q1, q2.mono se⟩
          | dct ks l => obtain ⟨xs, q1, q2, q3⟩ := o2; exact ⟨xs, q1, q2, q3.mono se⟩
          | _ => exact o2.elim
  · have hj : i ≠ j := fun z => by subst z; rw [List.getElem?_set_self hl] at h1; cases h1
    have hl' : i ≠ l := fun z => by subst z; rw [List.getElem?_set_self hl] at h2; cases h2
    rw [List.getElem?_set_ne hj] at h1
    rw [List.getElem?_set_ne hl'] at h2
    exact R.dist j l d1 d2 b hjl h1 h2 h3 h4
theorem c_frz {i : Nat} {m : MS} (h : tS M W (mSeq (mFrz i) m) Dn σ H) : tS M W m Dn σ H := by
  obtain ⟨E, w, ρ, st, R, h⟩ := h
  unfold mSeq mFrz at h
  cases q : ρ[i]? with
  | none => rw [q] at h; exact ⟨E, w, ρ, st, R, h⟩
  | some s =>
    rw [q] at h
    cases s with
    | no => exact ⟨E, w, ρ, st, R, h⟩
    | val d => exact ⟨E, w, ρ, st, R, h⟩
    | own d =>
      obtain ⟨w', se, R'⟩ := R.frz q
      exact ⟨E, w', _, st, R', PostS.later h se⟩
end
section
variable {X : Cx} {M : Md} {W : WX} {e c : Expr} {s : Stmt} {l r : List Stmt} {ma mc : ME} {a b m : MS} {pos pos' : Pos}
theorem s_nil : PSs X [] (tS M W mSkip) := PSs.imp pss_nil fun _ _ _ h => c_skip h
theorem s_cons (h1 : PS X s (tS M W a)) (h2 : PSs X r (tS M W b)) : PSs X (s :: r) (tS M W (mSeq a b)) := PSs.imp (pss_cons h1 h2) fun _ _ _ h => c_seq h
theorem s_one (h1 : PS X s (tS M W a)) : PSs X [s] (tS M W a) := pss_one h1
theorem s_frz (i : Nat) (h : PS X s (tS M W m)) : PS X s (tS M W (mSeq (mFrz i) m)) := PS.imp h fun _ _ _ h => c_frz h
theorem s_pass : PS X (.Pass pos) (tS M W mSkip) := PS.imp ps_pass fun _ _ _ h => c_skip h
theorem s_expr (he : PE X e (tE M W ma)) (hs : swapsWith e none pos.line X.env = pure false := by rfl) : PS X (.Expr e pos) (tS M W (mExpr ma)) := PS.imp (ps_expr he hs) fun _ _ _ h => c_expr h
theorem s_set (i : Nat) {x : Str} (hN : X.N.Nodup) (he : PE X e (tE M W ma)) (hi : X.N[i]? = some x := by rfl) (hx : Loc X.env.scope x := by first | exact .inl rfl | exact .inr rfl) (hs : swapsWith e (some (.Name x pos')) pos.line X.env = pure false := by rfl)
    (hf : X.fn x = true ∨ X.env.scope.names.lookup x = some .local := by first | exact .inl rfl | exact .inr rfl) : PS X (.Assign [.Name x pos'] e pos) (tS M W (mSet i ma)) := PS.imp (ps_set hN hi hx he hs hf) fun _ _ _ h => c_set h
theorem s_ret (he : PE X e (tE M W ma)) : PS X (.Return (some e) pos) (tS M W (mRet ma)) := PS.imp (ps_ret he) fun _ _ _ h => c_ret h
theorem s_retV (i : Nat) {x : Str} (hN : X.N[i]? = some x := by rfl) (hv : Vis X.env.scope x := by first | exact Or.inl rfl | exact Or.inr (Or.inl rfl) | exact Or.inr (Or.inr rfl)) (hd : (x == ("__debug__" : Str)) = false := by decide)
    (hcd : (x == ("__classdict__" : Str)) = false := by decide) : PS X (.Return (some (.Name x pos')) pos) (tS M W (mRetV i)) := PS.imp (ps_ret (pe_var hN hv hd hcd)) fun _ _ _ h => c_retV h
theorem s_retN : PS X (.Return none pos) (tS M W mRetN) := PS.imp ps_retN fun _ _ _ h => c_retN h
theorem s_if (hc : PT X c (tT M W mc)) (ha : PSs X l (tS M W a)) (hb : PSs X r (tS M W b)) : PS X (.If c l r pos) (tS M W (mIfS mc a b)) := PS.imp (ps_if hc ha hb) fun _ _ _ h => c_ifS h
end
end Mi

set_option maxRecDepth 100000
namespace Mi
open PySem PySem.Spec L2
open PyProof.Rows hiding St

/-! ### targets -/
abbrev MG := D → Env → Option Env
def gN (i : Nat) : MG := fun d ρ => some (ρ.set i (.val d))
def gAll : List MG → List D → Env → Option Env
  | [], [], ρ => some ρ
  | g :: gs, d :: ds, ρ => (g d ρ).bind fun ρ' => gAll gs ds ρ'
  | _, _, _ => none
def gT (gs : List MG) : MG := fun d ρ => match d with
  | .tup l => gAll gs l ρ
  | _ => none
/-- nothing but these slots differs -/
def Out (is : List Nat) (σ σ' : St) : Prop := σ'.length = σ.length ∧ ∀ j, j ∉ is → σ'[j]? = σ[j]?
theorem Out.refl {is : List Nat} {σ : St} : Out is σ σ := ⟨rfl, fun _ _ => rfl⟩
theorem Out.trans {is : List Nat} {a b c : St} (h : Out is a b) (h' : Out is b c) : Out is a c := ⟨h'.1.trans h.1, fun j hj => (h'.2 j hj).trans (h.2 j hj)⟩
theorem wipe_get {σ : St} : ∀ {vs : List Nat} {j : Nat}, (wipe σ vs)[j]? = if j ∈ vs ∧ j < σ.length then some none else σ[j]?
  | [], j => by simp [wipe]
  | v :: vs, j => by
    unfold wipe
    rw [List.getElem?_set, wipe_length, wipe_get]
    by_cases h : v = j
    · subst h
      by_cases h2 : v < σ.length
      · simp [h2]
      · simp [h2]
    · rw [if_neg h]
      have : (j = v ∨ j ∈ vs) ↔ j ∈ vs := ⟨fun z => z.elim (fun e => absurd e.symm h) id, .inr⟩
      simp [this]
theorem Out.wipe {is vs : List Nat} {σ σ' : St} (h : Out is σ σ') (hs : ∀ i ∈ is, i ∈ vs) : L2.wipe σ' vs = L2.wipe σ vs := by
  refine List.ext_getElem? fun j => ?_
  rw [wipe_get, wipe_get, h.1]
  by_cases hj : j ∈ vs
  · by_cases hl : j < σ.length
    · simp [hj, hl]
    · simp only [hj, hl, and_false, if_false]
      rw [List.getElem?_eq_none (by rw [h.1]; omega), List.getElem?_eq_none (by omega)]
  · simp [hj]
    exact h.2 j fun z => hj (hs j z)
theorem wipe_wipe {σ : St} {vs : List Nat} : L2.wipe (L2.wipe σ vs) vs = L2.wipe σ vs := by
  refine List.ext_getElem? fun j => ?_
  rw [wipe_get, wipe_length, wipe_get]
  by_cases h : j ∈ vs ∧ j < σ.length
  · rw [if_pos h, if_pos h]
  · rw [if_neg h, if_neg h]
def PostG (M : Md) (is : List Nat) (E : Ent) (w : Wd) (H : Hp) (σ : St) (st : Store) (Q : St → Hp → Prop) : Option Env → Prop
  | some ρ' => ∀ σ', Out is σ σ' → Rel M E w H σ' ρ' st → Q σ' H
  | none => False
def tG (M : Md) (is : List Nat) (g : MG) : TG := fun v σ H Q => ∃ E w ρ st d, Rel M E w H σ ρ st ∧ Rep M w H v d ∧ PostG M is E w H σ st Q (g d ρ)
def tGs (M : Md) (is : List Nat) (gs : List MG) : TGs := fun vs σ H Q => ∃ E w ρ st ds, Rel M E w H σ ρ st ∧ RepL M w H vs ds ∧ PostG M is E w H σ st Q (gAll gs ds ρ)
theorem PG.imp {X : Cx} {e : Expr} {t t' : TG} (h : PG X e t) (i : ∀ v σ H Q, t' v σ H Q → t v σ H Q) : PG X e t' := ⟨fun pins s σ H v u Q I r q => h.run pins s σ H v u Q I r (i v σ H Q q)⟩
theorem PGs.imp {X : Cx} {e : List Expr} {t t' : TGs} (h : PGs X e t) (i : ∀ v σ H Q, t' v σ H Q → t v σ H Q) : PGs X e t' := ⟨fun pins s σ H v u Q I r q => h.run pins s σ H v u Q I r (i v σ H Q q)⟩
section
variable {M : Md} {W : WX} {E : Ent} {w w' w'' : Wd} {H H' H'' H0 H1 : Hp} {st st' : Store} {v u : V} {k : Kd} {d : D} {a : Addr} {σ : St} {ρ : Env} {l : List D} {xs : List V} {Dn : Ends} {is : List Nat}
theorem c_gN {i : Nat} {Q : St → Hp → Prop} (hi : i ∈ is) (h : tG M is (gN i) v σ H Q) : gName i v σ H Q := by
  obtain ⟨E, w, ρ, st, d, R, r, h⟩ := h
  refine h _ ⟨by simp, fun j hj => ?_⟩ (R.setVal i r)
  exact List.getElem?_set_ne fun z => hj (by rw [← z]; exact hi)
theorem c_gnil {Q : St → Hp → Prop} (h : tGs M is [] xs σ H Q) : gNil xs σ H Q := by
  obtain ⟨E, w, ρ, st, ds, R, r, h⟩ := h
  cases r with
  | nil => exact ⟨rfl, h σ .refl R⟩
  | cons a t => exact h.elim
theorem c_gcons {g : MG} {gs : List MG} {Q : St → Hp → Prop} (h : tGs M is (g :: gs) xs σ H Q) : gCons (tG M is g) (tGs M is gs) xs σ H Q := by
  obtain ⟨E, w, ρ, st, ds, R, r, h⟩ := h
  cases r with
  | nil => exact h.elim
  | @cons v d xs l r t =>
    refine ⟨v, xs, rfl, E, w, ρ, st, d, R, r, ?_⟩
    have h : PostG M is E w H σ st Q ((g d ρ).bind fun ρ' => gAll gs l ρ') := h
    cases q : g d ρ with
    | none => rw [q] at h; exact h.elim
    | some ρ' =>
      rw [q] at h
      intro σ' o R'
      refine ⟨E, w, ρ', st, l, R', t, ?_⟩
      have h : PostG M is E w H σ st Q (gAll gs l ρ') := h
      revert h
      cases gAll gs l ρ' with
      | none => exact id
      | some ρ2 => exact fun h σ2 o2 R2 => h σ2 (o.trans o2) R2
theorem c_gT {gs : List MG} {n : Nat} {Q : St → Hp → Prop} (hn : gs.length = n) (h : tG M is (gT gs) v σ H Q) : gTup M.K n (tGs M is gs) v σ H Q := by
  obtain ⟨E, w, ρ, st, d, R, r, h⟩ := h
  cases d with
  | tup l =>
    obtain ⟨a, xs, rfl, e, rl⟩ := (See.rep r).tup
    have len : ∀ (gs : List MG) (l : List D) (ρ ρ' : Env), gAll gs l ρ = some ρ' → l.length = gs.length := by
      intro gs
      induction gs with
      | nil => intro l ρ ρ' q; cases l with
        | nil => rfl
        | cons a t => cases q
      | cons g gs ih =>
        intro l ρ ρ' q
        cases l with
        | nil => cases q
        | cons a t =>
          have q : ((g a ρ).bind fun ρ' => gAll gs t ρ') = some ρ' := q
          cases qg : g a ρ with
          | none => rw [qg] at q; cases q
          | some ρ2 => rw [qg] at q; simp [ih t ρ2 ρ' q]
    have h : PostG M is E w H σ st Q (gAll gs l ρ) := h
    refine ⟨a, xs, rfl, SqT.of e, ?_, E, w, ρ, st, l, R, rl, h⟩
    cases q : gAll gs l ρ with
    | none => rw [q] at h; exact h.elim
    | some ρ' => rw [rl.length, len gs l ρ ρ' q, hn]
  | _ => exact h.elim
end
section
variable {X : Cx} {M : Md} {W : WX} {e : Expr} {es : List Expr} {is : List Nat} {g : MG} {gs : List MG} {pos : Pos}
theorem g_name (i : Nat) {x : Str} (hN : X.N.Nodup) (hi : X.N[i]? = some x := by rfl) (hx : Loc X.env.scope x := by first | exact .inl rfl | exact .inr rfl) (hm : i ∈ is := by decide)
    (hf : X.fn x = true ∨ X.env.scope.names.lookup x = some .local := by first | exact .inl rfl | exact .inr rfl) : PG X (.Name x pos) (tG M is (gN i)) := PG.imp (pg_name hN hi hx hf) fun _ _ _ _ h => c_gN hm h
theorem gs_nil : PGs X [] (tGs M is []) := PGs.imp pgs_nil fun _ _ _ _ h => c_gnil h
theorem gs_cons (h1 : PG X e (tG M is g)) (h2 : PGs X es (tGs M is gs)) (hs : (assignEach (e :: es) X.env).map (·.2) = assign e X.env :: (assignEach es X.env).map (·.2) := by rfl) : PGs X (e :: es) (tGs M is (g :: gs)) := PGs.imp (pgs_cons h1 h2 hs) fun _ _ _ _ h => c_gcons h
theorem g_tup {k : Nat} (hc : X.calm = true) (h : PGs X es (tGs M is gs)) (hM : M.K = X.K := by rfl) (hn : (assignEach es X.env).length = gs.length := by rfl) (hst : (assignEach es X.env).findIdx? (·.1) = none := by rfl) : PG X (.Tuple es k pos) (tG M is (gT gs)) := by
  obtain ⟨K, mg⟩ := M
  cases hM
  exact PG.imp (pg_tup hc h hn hst) fun _ _ _ _ h => c_gT rfl h
end

/-! ### target = value -/
def mAsg (g : MG) (ma : ME) : MS := fun ρ st => withE (ma ρ st) ρ fun d k s => match k with
  | .b => .bad
  | _ => match g d ρ with
    | some ρ' => .next ρ' s
    | none => .bad
section
variable {M : Md} {W : WX} {E : Ent} {w w' w'' : Wd} {H H' H'' H0 H1 : Hp} {st st' : Store} {v u : V} {k : Kd} {d : D} {a : Addr} {σ : St} {ρ : Env} {l : List D} {xs : List V} {Dn : Ends} {is : List Nat}
theorem c_asg {g : MG} {ma : ME} (h : tS M W (mAsg g ma) Dn σ H) : tAsg (tE M W ma) (tG M is g) Dn σ H := by
  refine bindS (f := fun d k s ρ => match k with
    | .b => .bad
    | _ => match g d ρ with
      | some ρ' => .next ρ' s
      | none => .bad) h fun E w ρ st w1 H1 v x k st1 R0 e1 R1 t1 q => ?_
  have hk : k ≠ .b := fun z => by subst z; exact q
  obtain ⟨w2, e2, se, _, _, s2, r2⟩ := t1.strong e1 R1.st hk
  have q : PostS M W E w H Dn (match g x ρ with | some ρ' => .next ρ' st1 | none => .bad) := by
    cases k with
    | b => exact absurd rfl hk
    | s => exact q
    | f => exact q
  refine ⟨E, w2, ρ, st1, x, R0.next e2 s2, r2, ?_⟩
  revert q
  cases g x ρ with
  | none => exact id
  | some ρ' => exact fun q σ' _ R' => q w2 H1 σ' (e2.s R0.st.ok) R'

/-! ### loops -/
def BIG : Nat := 2 ^ 400
def stepL (r : SR) (f : MS) : SR := match r with
  | .next ρ st => f ρ st
  | .cont ρ st => f ρ st
  | .brk ρ st => .next ρ st
  | .ret d k st => .ret d k st
  | .exc c ρ st => .exc c ρ st
  | .bad => .bad
noncomputable def whileN (mc : ME) (body : MS) (n : Nat) : MS := Nat.rec (motive := fun _ => MS) (fun _ _ => .bad) (fun _ ih ρ st => withE (mc ρ st) ρ fun x _ s => match x.tru with
  | some true => stepL (body ρ s) ih
  | some false => .next ρ s
  | none => .bad) n
noncomputable def mWhile (mc : ME) (body : MS) : MS := whileN mc body BIG
theorem whileN_zero (mc : ME) (body : MS) : whileN mc body 0 = fun _ _ => .bad := rfl
theorem whileN_succ (mc : ME) (body : MS) (n : Nat) (ρ : Env) (st : Store) : whileN mc body (n + 1) ρ st = withE (mc ρ st) ρ fun x _ s => match x.tru with
  | some true => stepL (body ρ s) (whileN mc body n)
  | some false => .next ρ s
  | none => .bad := rfl
theorem c_while {mc : ME} {body : MS} {n : Nat} (h : tS M W (whileN mc body n) Dn σ H) : tWhile (tT M W mc) (tS M W body) Dn σ H := by
  refine ⟨fun m σ H => tS M W (whileN mc body m) Dn σ H, ⟨n, h⟩, ?_⟩
  clear h
  rintro m σ H ⟨E, w, ρ, st, R0, h⟩
  cases m with
  | zero => exact h.elim
  | succ m =>
    rw [whileN_succ] at h
    refine ⟨E, w, ρ, st, R0, ?_⟩
    cases q : mc ρ st with
    | bad => rw [q] at h; exact h.elim
    | exc c st' => rw [q] at h; exact fun w' H' cls e' R' hc => h w' H' σ cls e' R' hc
    | ok x k st1 =>
      rw [q] at h
      have h : PostS M W E w H Dn (match x.tru with | some true => stepL (body ρ st1) (whileN mc body m) | some false => .next ρ st1 | none => .bad) := h
      cases qt : x.tru with
      | none => rw [qt] at h; exact h.elim
      | some c =>
        rw [qt] at h
        refine ⟨c, qt, fun w1 H1 e s => ?_⟩
        have se := e.s R0.st.ok
        cases c with
        | true =>
          refine iteT ⟨fun σ' H' => tS M W (whileN mc body m) Dn σ' H', fun σ' H' z => ⟨m, Nat.lt_succ_self _, z⟩, E, w1, ρ, st1, R0.next e s, ?_⟩
          have h : PostS M W E w1 H1 Dn (stepL (body ρ st1) (whileN mc body m)) := PostS.later h se
          revert h
          cases body ρ st1 with
          | next ρ' st' => exact fun h w' H' σ' e' R' => ⟨E, w', ρ', st', R', PostS.later h e'⟩
          | cont ρ' st' => exact fun h w' H' σ' e' R' => ⟨E, w', ρ', st', R', PostS.later h e'⟩
          | brk ρ' st' => exact id
          | ret d k st' => exact id
          | exc c ρ' st' => exact id
          | bad => exact id
        | false => exact iteF (h w1 H1 σ se (R0.next e s))

/-- what an iterator yields from (w, H) on -/
def ItOk (M : Md) (w : Wd) (H : Hp) (J : It) (ds : List D) : Prop := ∀ w2 H2, SExt w H w2 H2 → WOk w2 H2 → ∀ i,
  (∀ d, ds[i]? = some d → J.go i H2 ∧ ∀ x H3, J.yld i H2 x H3 → ∃ w3, Ext w2 H2 w3 H3 ∧ (∀ st, StOk M w2 H2 st → StOk M w3 H3 st) ∧ Rep M w3 H3 x d) ∧ (ds.length = i → J.stop i H2)
def PostI (M : Md) (W : WX) (E : Ent) (w : Wd) (H : Hp) (σ : St) (ρ : Env) (R : It → Hp → Prop) : AR → Prop
  | .ok ds st' => ∀ w' H' J, Ext w H w' H' → StOk M w' H' st' → ItOk M w' H' J ds → R J H'
  | .exc c st' => ∀ w' H' cls, SExt w H w' H' → Rel M E w' H' σ ρ st' → ClsOf M c cls → W cls none σ H'
  | .bad => False
abbrev MI := MA
def tI (M : Md) (W : WX) (mi : MI) : TI := fun σ H R => ∃ E w ρ st, Rel M E w H σ ρ st ∧ PostI M W E w H σ ρ R (mi ρ st)
def forL (g : MG) (body : MS) : List D → MS
  | [] => fun ρ st => .next ρ st
  | d :: ds => fun ρ st => match g d ρ with
    | some ρ' => stepL (body ρ' st) (forL g body ds)
    | none => .bad
def mFor (mi : MI) (g : MG) (body : MS) : MS := fun ρ st => match mi ρ st with
  | .ok ds s => forL g body ds ρ s
  | .exc c s => .exc c ρ s
  | .bad => .bad
theorem c_for {mi : MI} {g : MG} {body : MS} (h : tS M W (mFor mi g body) Dn σ H) : tFor (tI M W mi) (tG M is g) (tS M W body) Dn σ H := by
  obtain ⟨E, w, ρ, st, R0, h⟩ := h
  refine ⟨E, w, ρ, st, R0, ?_⟩
  unfold mFor at h
  cases q : mi ρ st with
  | bad => rw [q] at h; exact h.elim
  | exc c st' => rw [q] at h; exact fun w' H' cls e' R' hc => h w' H' σ cls e' R' hc
  | ok ds st1 =>
    rw [q] at h
    have h : PostS M W E w H Dn (forL g body ds ρ st1) := h
    intro w1 H1 J e1 s1 it
    refine ⟨fun i m σ H => m + i = ds.length ∧ ∃ w ρ st, SExt w1 H1 w H ∧ Rel M E w H σ ρ st ∧ PostS M W E w H Dn (forL g body (ds.drop i) ρ st), ⟨ds.length, rfl, w1, ρ, st1, .refl, R0.next e1 s1, PostS.later h (e1.s R0.st.ok)⟩, ?_⟩
    rintro i m σ2 H2 ⟨hi, w2, ρ2, st2, se, R2, h⟩
    cases m with
    | zero =>
      refine .inl ⟨(it w2 H2 se R2.st.ok i).2 (by omega), ?_⟩
      rw [List.drop_of_length_le (by omega)] at h
      exact h w2 H2 σ2 .refl R2
    | succ m =>
      have hlt : i < ds.length := by omega
      have hd : ds[i]? = some ds[i] := List.getElem?_eq_getElem hlt
      obtain ⟨go, yl⟩ := (it w2 H2 se R2.st.ok i).1 _ hd
      refine .inr ⟨go, fun σ' H' => ∃ w ρ st, SExt w1 H1 w H' ∧ Rel M E w H' σ' ρ st ∧ PostS M W E w H' Dn (forL g body (ds.drop (i + 1)) ρ st), fun σ' H' z => ⟨m, Nat.lt_succ_self _, by omega, z⟩, fun x H3 y => ?_⟩
      obtain ⟨w3, e3, s3, r3⟩ := yl x H3 y
      refine ⟨E, w3, ρ2, st2, ds[i], R2.next e3 (s3 _ R2.st), r3, ?_⟩
      have hdrop : ds.drop i = ds[i] :: ds.drop (i + 1) := List.drop_eq_getElem_cons hlt
      rw [hdrop] at h
      have h : PostS M W E w2 H2 Dn (match g ds[i] ρ2 with | some ρ' => stepL (body ρ' st2) (forL g body (ds.drop (i + 1))) | none => .bad) := h
      cases qg : g ds[i] ρ2 with
      | none => rw [qg] at h; exact h.elim
      | some ρ3 =>
        rw [qg] at h
        have se3 := e3.s R2.st.ok
        have h : PostS M W E w3 H3 Dn (stepL (body ρ3 st2) (forL g body (ds.drop (i + 1)))) := PostS.later h se3
        intro σ3 _ R3
        refine ⟨E, w3, ρ3, st2, R3, ?_⟩
        have se13 := se.trans se3
        revert h
        cases body ρ3 st2 with
        | next ρ' st' => exact fun h w' H' σ' e' R' => ⟨w', ρ', st', se13.trans e', R', PostS.later h e'⟩
        | cont ρ' st' => exact fun h w' H' σ' e' R' => ⟨w', ρ', st', se13.trans e', R', PostS.later h e'⟩
        | brk ρ' st' => exact id
        | ret d k st' => exact id
        | exc c ρ' st' => exact id
        | bad => exact id
end
section
variable {X : Cx} {M : Md} {W : WX} {e c tg iter : Expr} {s : Stmt} {l r : List Stmt} {ma mc : ME} {a b m body : MS} {pos pos' : Pos} {is : List Nat} {g : MG} {mi : MI}
theorem s_asg (he : PE X e (tE M W ma)) (hg : PG X tg (tG M is g)) (hs : swapsWithSole [tg] e pos.line X.env = pure false := by rfl) (hw : swappedStores [tg] e X.env = pure none := by rfl)
    (h1 : (assignEach [tg] X.env).map (·.2) = [assign tg X.env] := by rfl) : PS X (.Assign [tg] e pos) (tS M W (mAsg g ma)) := PS.imp (ps_asg he hg hs hw h1) fun _ _ _ h => c_asg h
theorem s_while (hp : PassesOwn (model X.prog X.w) X.A X.env X.xe) (hc : PT X c (tT M W mc)) (hb : PSs X l (tS M W body)) : PS X (.While c l [] pos) (tS M W (mWhile mc body)) := PS.imp (ps_while hp hc hb) fun _ _ _ h => c_while h
theorem s_for (hp : PassesOwn (model X.prog X.w) X.A X.env X.xe) (hi : PI X tg iter (tI M W mi)) (hg : PG X tg (tG M is g)) (hb : PSs X l (tS M W body)) (hc : X.calm = true := by rfl) (hs : ∀ x, foldedSetIterable iter X.env x = pure x := by intro _; rfl) :
    PS X (.For tg iter l [] pos) (tS M W (mFor mi g body)) := PS.imp (ps_for hp hc hi hg hb hs) fun _ _ _ h => c_for h
end

/-! ### what is walked -/
/-- a list or a tuple -/
def iSeq (ma : ME) : MI := fun ρ st => match ma ρ st with
  | .ok d k s => match k with
    | .b => .bad
    | _ => match d with
      | .lst l => .ok l s
      | .tup l => .ok l s
      | _ => .bad
  | .exc c s => .exc c s
  | .bad => .bad
def rangeD (lo : Int) : Nat → List D
  | 0 => []
  | n + 1 => .int lo :: rangeD (lo + 1) n
def rangeC (lo c : Int) : Nat → List D
  | 0 => []
  | n + 1 => .int lo :: rangeC (lo + c) c n
def iRange (ms : MA) : MI := fun ρ st => match ms ρ st with
  | .ok ds s => match ds with
    | [.int j] => if j < 2 ^ 62 ∧ -(2 ^ 62) ≤ j then .ok (rangeD 0 j.toNat) s else .bad
    | [.int i, .int j] => if i < 2 ^ 62 ∧ -(2 ^ 62) ≤ i ∧ j < 2 ^ 62 ∧ -(2 ^ 62) ≤ j then .ok (rangeD i (j - i).toNat) s else .bad
    | [.int i, .int j, .int c] => if c ≠ 0 ∧ c.natAbs < 1073741824 ∧ Builtin.Range.small i j c = true ∧ 0 ≤ Builtin.Range.rangeSize i j c then .ok (rangeC i c (Builtin.Range.rangeSize i j c).toNat) s else .bad
    | _ => .bad
  | .exc c s => .exc c s
  | .bad => .bad
def pairsD : Int → List D → List D
  | _, [] => []
  | n, d :: l => .tup [.int n, d] :: pairsD (n + 1) l
def iEnumD (ma : ME) : MI := fun ρ st => match ma ρ st with
  | .ok d k s => match k with
    | .b => .bad
    | _ => match d with
      | .lst l => .ok (pairsD 0 l) s
      | _ => .bad
  | .exc c s => .exc c s
  | .bad => .bad
def zipD : List D → List D → List D
  | a :: l, b :: m => .tup [a, b] :: zipD l m
  | _, _ => []
def zipI (ds : List D) (s : Store) : AR := match ds with
  | [.lst l, .lst m] => .ok (zipD l m) s
  | [.tup l, .tup m] => .ok (zipD l m) s
  | _ => .bad
def iZipD (ms : MA) : MI := fun ρ st => match ms ρ st with
  | .ok ds s => zipI ds s
  | .exc c s => .exc c s
  | .bad => .bad
end Mi

set_option maxRecDepth 100000
namespace Mi
open PySem PySem.Spec L2
open PyProof.Rows hiding St
open RZ

theorem PI.or {X : Cx} {tg e : Expr} {a b : TI} (h : PI X tg e a) (h' : PI X tg e b) : PI X tg e (fun σ H R => a σ H R ∨ b σ H R) :=
  ⟨fun pins s σ H R I q => q.elim (fun z => h.run pins s σ H R I z) fun z => h'.run pins s σ H R I z⟩
theorem rangeD_get : ∀ (n : Nat) (lo : Int) (i : Nat), (rangeD lo n)[i]? = if i < n then some (.int (lo + i)) else none
  | 0, lo, i => by simp [rangeD]
  | n + 1, lo, 0 => by simp [rangeD]
  | n + 1, lo, i + 1 => by
    rw [rangeD, List.getElem?_cons_succ, rangeD_get n (lo + 1) i]
    by_cases h : i < n
    · rw [if_pos h, if_pos (by omega)]; congr 2; omega
    · rw [if_neg h, if_neg (by omega)]
theorem rangeD_len : ∀ (n : Nat) (lo : Int), (rangeD lo n).length = n
  | 0, _ => rfl
  | n + 1, lo => by rw [rangeD, List.length_cons, rangeD_len n]
theorem rangeC_get : ∀ (n : Nat) (lo c : Int) (i : Nat), (rangeC lo c n)[i]? = if i < n then some (.int (lo + i * c)) else none
  | 0, lo, c, i => by simp [rangeC]
  | n + 1, lo, c, 0 => by simp [rangeC]
  | n + 1, lo, c, i + 1 => by
    rw [rangeC, List.getElem?_cons_succ, rangeC_get n (lo + c) c i]
    by_cases h : i < n
    · rw [if_pos h, if_pos (by omega)]
      congr 2
      rw [show ((i + 1 : Nat) : Int) = (i : Int) + 1 from rfl, Int.add_mul, Int.one_mul]
      omega
    · rw [if_neg h, if_neg (by omega)]
theorem rangeC_len : ∀ (n : Nat) (lo c : Int), (rangeC lo c n).length = n
  | 0, _, _ => rfl
  | n + 1, lo, c => by rw [rangeC, List.length_cons, rangeC_len n]
theorem pairsD_get : ∀ (l : List D) (n : Int) (i : Nat), (pairsD n l)[i]? = l[i]?.map fun d => .tup [.int (n + i), d]
  | [], n, i => by simp [pairsD]
  | d :: l, n, 0 => by simp [pairsD]
  | d :: l, n, i + 1 => by
    rw [pairsD, List.getElem?_cons_succ, List.getElem?_cons_succ, pairsD_get l (n + 1) i, show n + 1 + (i : Int) = n + ((i + 1 : Nat) : Int) by omega]
theorem pairsD_len : ∀ (l : List D) (n : Int), (pairsD n l).length = l.length
  | [], _ => rfl
  | d :: l, n => by rw [pairsD, List.length_cons, List.length_cons, pairsD_len l]
theorem zipD_get : ∀ (l m : List D) (i : Nat) (d : D), (zipD l m)[i]? = some d → ∃ a b, l[i]? = some a ∧ m[i]? = some b ∧ d = .tup [a, b]
  | [], m, i, d, h => by simp [zipD] at h
  | a :: l, [], i, d, h => by simp [zipD] at h
  | a :: l, b :: m, 0, d, h => by simp [zipD] at h; exact ⟨a, b, rfl, rfl, h.symm⟩
  | a :: l, b :: m, i + 1, d, h => by
    rw [zipD, List.getElem?_cons_succ] at h
    obtain ⟨x, y, h1, h2, h3⟩ := zipD_get l m i d h
    exact ⟨x, y, by simpa using h1, by simpa using h2, h3⟩
theorem zipD_len : ∀ (l m : List D), (zipD l m).length = min l.length m.length
  | [], m => by simp [zipD]
  | a :: l, [] => by simp [zipD]
  | a :: l, b :: m => by simp only [zipD, List.length_cons, zipD_len l m]; omega

section
variable {M : Md} {W : WX} {E : Ent} {w w' w'' : Wd} {H H' H'' H0 H1 : Hp} {st st' : Store} {v u : V} {k : Kd} {d : D} {a b : Addr} {σ : St} {ρ : Env} {l m : List D} {xs ys : List V} {Dn : Ends} {is : List Nat}
theorem new_pair {z : Addr} (hz : H z = none) (o : WOk w H) {p q : V} {x y : D} (hp : Rep M w H p x) (hq : Rep M w H q y) : ∃ w', Ext w H w' (upd H z (.tup [p, q])) ∧ (∀ st, StOk M w H st → StOk M w' (upd H z (.tup [p, q])) st) ∧ Rep M w' (upd H z (.tup [p, q])) (.ref z) (.tup [x, y]) := by
  have e : Ext w H w (upd H z (.tup [p, q])) := new_ext hz
  have se : SExt w (upd H z (.tup [p, q])) { w with F := fun x => w.F x ∨ x = z } (upd H z (.tup [p, q])) := ⟨fun _ h => .inl h, fun _ _ => rfl, fun _ _ h => h⟩
  refine ⟨{ w with F := fun x => w.F x ∨ x = z }, ⟨fun x h => .inl h, fun x h => ?_, e.keep, e.there, e.cells⟩, fun st s => ?_, .tup (.inr rfl) upd_same ((RepL.cons hp (.cons hq .nil)).mono (e.s o) |>.mono se)⟩
  · rcases h with h | h
    · exact .inl h
    · subst h; exact .inr hz
  · have s1 : StOk M w (upd H z (.tup [p, q])) st := new_st s hz
    refine s1.mono se rfl (fun _ _ => rfl) ⟨fun x h => ?_, fun x hx hF => ?_, s1.ok.ch, s1.ok.nd⟩
    · rcases h with h | h
      · exact s1.ok.Fh x h
      · subst h; rw [upd_same]; exact fun z => nomatch z
    · rcases hF with hF | hF
      · exact s1.ok.Fc x hx hF
      · subst hF; exact s.ok.ch x hx hz
theorem it_lst (hF : w.F a) (hH : H a = some (.lst xs)) (r : RepL M w H xs l) : ItOk M w H (Itl M.K a) l := by
  intro w2 H2 se ok i
  have hH2 : SqL M.K H2 a xs := SqL.of ((se.keep a hF).trans hH)
  have r2 := r.mono se
  refine ⟨fun d hd => ?_, fun hi => ⟨xs, hH2, by rw [r.length]; omega⟩⟩
  obtain ⟨v, hv, rv⟩ := r2.get hd
  refine ⟨⟨xs, v, hH2, hv⟩, fun x H3 y => ?_⟩
  obtain ⟨rfl, y⟩ := y
  have := y xs hH2
  rw [hv] at this
  cases this
  exact ⟨w2, .refl, fun _ s => s, rv⟩
theorem it_tup (hF : w.F a) (hH : H a = some (.tup xs)) (r : RepL M w H xs l) : ItOk M w H (Itt M.K a) l := by
  intro w2 H2 se ok i
  have hH2 : SqT M.K H2 a xs := SqT.of ((se.keep a hF).trans hH)
  have r2 := r.mono se
  refine ⟨fun d hd => ?_, fun hi => ⟨xs, hH2, by rw [r.length]; omega⟩⟩
  obtain ⟨v, hv, rv⟩ := r2.get hd
  refine ⟨⟨xs, v, hH2, hv⟩, fun x H3 y => ?_⟩
  obtain ⟨rfl, y⟩ := y
  have := y xs hH2
  rw [hv] at this
  cases this
  exact ⟨w2, .refl, fun _ s => s, rv⟩
theorem it_range {lo : Int} {n : Nat} : ItOk M w H (Itr lo n) (rangeD lo n) := by
  intro w2 H2 se ok i
  rw [rangeD_len, rangeD_get]
  refine ⟨fun d hd => ?_, fun hi => Nat.le_of_eq hi⟩
  by_cases h : i < n
  · rw [if_pos h] at hd
    cases hd
    refine ⟨h, fun x H3 y => ?_⟩
    obtain ⟨rfl, rfl⟩ := y
    exact ⟨w2, .refl, fun _ s => s, .int _⟩
  · rw [if_neg h] at hd; cases hd
theorem it_rangeC {lo c : Int} {n : Nat} : ItOk M w H (Itc lo c n) (rangeC lo c n) := by
  intro w2 H2 se ok i
  rw [rangeC_len, rangeC_get]
  refine ⟨fun d hd => ?_, fun hi => Nat.le_of_eq hi⟩
  by_cases h : i < n
  · rw [if_pos h] at hd
    cases hd
    refine ⟨h, fun x H3 y => ?_⟩
    obtain ⟨rfl, rfl⟩ := y
    exact ⟨w2, .refl, fun _ s => s, .int _⟩
  · rw [if_neg h] at hd; cases hd
theorem it_enum (hF : w.F a) (hH : H a = some (.lst xs)) (r : RepL M w H xs l) : ItOk M w H (Ite M.K a) (pairsD 0 l) := by
  intro w2 H2 se ok i
  have hH2 : SqL M.K H2 a xs := SqL.of ((se.keep a hF).trans hH)
  have r2 := r.mono se
  rw [pairsD_len, pairsD_get]
  refine ⟨fun d hd => ?_, fun hi => ⟨xs, hH2, by rw [r.length]; omega⟩⟩
  obtain ⟨d0, hd0, rfl⟩ := Option.map_eq_some_iff.mp hd
  obtain ⟨v, hv, rv⟩ := r2.get hd0
  refine ⟨⟨xs, v, hH2, hv⟩, fun x H3 y => ?_⟩
  obtain ⟨T, x0, rfl, hT, rfl, y⟩ := y
  have := y xs hH2
  rw [hv] at this
  cases this
  obtain ⟨w3, e3, s3, r3⟩ := new_pair hT ok (.int (i : Nat)) rv
  exact ⟨w3, e3, s3, by rw [show (0 : Int) + (i : Int) = (i : Int) from Int.zero_add _]; exact r3⟩
theorem it_zip (hF : w.F a) (hH : H a = some (.lst xs)) (r : RepL M w H xs l) (hF' : w.F b) (hH' : H b = some (.lst ys)) (r' : RepL M w H ys m) : ItOk M w H (Itz M.K a b) (zipD l m) := by
  intro w2 H2 se ok i
  have hH2 : SqL M.K H2 a xs := SqL.of ((se.keep a hF).trans hH)
  have hH2' : SqL M.K H2 b ys := SqL.of ((se.keep b hF').trans hH')
  have r2 := r.mono se
  have r2' := r'.mono se
  refine ⟨fun d hd => ?_, fun hi => ⟨xs, ys, hH2, hH2', by rw [zipD_len] at hi; rw [r.length, r'.length]; omega⟩⟩
  obtain ⟨d1, d2, h1, h2, rfl⟩ := zipD_get _ _ _ _ hd
  obtain ⟨v, hv, rv⟩ := r2.get h1
  obtain ⟨u, hu, ru⟩ := r2'.get h2
  refine ⟨⟨xs, ys, v, u, hH2, hH2', hv, hu⟩, fun x H3 y => ?_⟩
  obtain ⟨T, x0, y0, rfl, hT, rfl, y1, y2⟩ := y
  have q1 := y1 xs hH2
  have q2 := y2 ys hH2'
  rw [hv] at q1
  rw [hu] at q2
  cases q1
  cases q2
  exact new_pair hT ok rv ru |>.elim fun w3 z => ⟨w3, z⟩
theorem it_zipT (hF : w.F a) (hH : H a = some (.tup xs)) (r : RepL M w H xs l) (hF' : w.F b) (hH' : H b = some (.tup ys)) (r' : RepL M w H ys m) : ItOk M w H (ItzT M.K a b) (zipD l m) := by
  intro w2 H2 se ok i
  have hH2 : SqT M.K H2 a xs := SqT.of ((se.keep a hF).trans hH)
  have hH2' : SqT M.K H2 b ys := SqT.of ((se.keep b hF').trans hH')
  have r2 := r.mono se
  have r2' := r'.mono se
  refine ⟨fun d hd => ?_, fun hi => ⟨xs, ys, hH2, hH2', by rw [zipD_len] at hi; rw [r.length, r'.length]; omega⟩⟩
  obtain ⟨d1, d2, h1, h2, rfl⟩ := zipD_get _ _ _ _ hd
  obtain ⟨v, hv, rv⟩ := r2.get h1
  obtain ⟨u, hu, ru⟩ := r2'.get h2
  refine ⟨⟨xs, ys, v, u, hH2, hH2', hv, hu⟩, fun x H3 y => ?_⟩
  obtain ⟨T, x0, y0, rfl, hT, rfl, y1, y2⟩ := y
  have q1 := y1 xs hH2
  have q2 := y2 ys hH2'
  rw [hv] at q1
  rw [hu] at q2
  cases q1
  cases q2
  exact new_pair hT ok rv ru |>.elim fun w3 z => ⟨w3, z⟩

theorem Rep.lstF (r : Rep M w H v (.lst l)) : ∃ a xs, v = .ref a ∧ w.F a ∧ H a = some (.lst xs) ∧ RepL M w H xs l := by
  cases r with
  | lst hF hH hl => exact ⟨_, _, rfl, hF, hH, hl⟩
theorem Rep.tupF (r : Rep M w H v (.tup l)) : ∃ a xs, v = .ref a ∧ w.F a ∧ H a = some (.tup xs) ∧ RepL M w H xs l := by
  cases r with
  | tup hF hH hl => exact ⟨_, _, rfl, hF, hH, hl⟩
theorem c_iSeq {ma : ME} {R : It → Hp → Prop} (h : tI M W (iSeq ma) σ H R) : iList M.K (tE M W ma) σ H R ∨ iTup M.K (tE M W ma) σ H R := by
  obtain ⟨E, w, ρ, st, R0, h⟩ := h
  unfold iSeq at h
  cases q : ma ρ st with
  | bad => rw [q] at h; exact h.elim
  | exc c s => rw [q] at h; exact .inl ⟨E, w, ρ, st, R0, by rw [q]; exact h⟩
  | ok d k s =>
    rw [q] at h
    have hk : k ≠ .b := fun z => by subst z; exact h
    cases d with
    | lst l =>
      have h : PostI M W E w H σ ρ R (.ok l s) := by
        cases k with
        | b => exact absurd rfl hk
        | s => exact h
        | f => exact h
      refine .inl ⟨E, w, ρ, st, R0, ?_⟩
      rw [q]
      intro w1 H1 v e1 s1 t1
      obtain ⟨w2, e2, se, _, _, s2, r2⟩ := t1.strong e1 s1 hk
      obtain ⟨a, xs, rfl, hF, hH, rl⟩ := r2.lstF
      exact ⟨a, rfl, ⟨xs, SqL.of hH⟩, h w2 H1 _ e2 s2 (it_lst hF hH rl)⟩
    | tup l =>
      have h : PostI M W E w H σ ρ R (.ok l s) := by
        cases k with
        | b => exact absurd rfl hk
        | s => exact h
        | f => exact h
      refine .inr ⟨E, w, ρ, st, R0, ?_⟩
      rw [q]
      intro w1 H1 v e1 s1 t1
      obtain ⟨w2, e2, se, _, _, s2, r2⟩ := t1.strong e1 s1 hk
      obtain ⟨a, xs, rfl, hF, hH, rl⟩ := r2.tupF
      exact ⟨a, rfl, ⟨xs, SqT.of hH⟩, h w2 H1 _ e2 s2 (it_tup hF hH rl)⟩
    | _ =>
      cases k with
      | b => exact absurd rfl hk
      | s => exact h.elim
      | f => exact h.elim
/-- an iterator over evaluated arguments -/
theorem bindI {ms : MA} {f : List D → Store → AR} {R : It → Hp → Prop} {P : List V → Hp → Prop} (h : ∃ E w ρ st, Rel M E w H σ ρ st ∧ PostI M W E w H σ ρ R (match ms ρ st with | .ok ds s => f ds s | .exc c s => .exc c s | .bad => .bad))
    (go : ∀ E w ρ w1 H1 vs ds s, Ext w H w1 H1 → StOk M w1 H1 s → RepL M w1 H1 vs ds → PostI M W E w H σ ρ R (f ds s) → P vs H1) : tA M W ms σ H P := by
  obtain ⟨E, w, ρ, st, R0, h⟩ := h
  refine ⟨E, w, ρ, st, R0, ?_⟩
  cases q : ms ρ st with
  | bad => rw [q] at h; exact h.elim
  | exc c s => rw [q] at h; exact h
  | ok ds s =>
    rw [q] at h
    exact fun w1 H1 vs e1 s1 r => go E w ρ w1 H1 vs ds s e1 s1 r h
theorem c_range1 {ms : MA} {R : It → Hp → Prop} (h1 : ∀ ρ st ds s, ms ρ st = .ok ds s → ds.length = 1) (h : tI M W (iRange ms) σ H R) : iRng1 (tA M W ms) σ H R := by
  obtain ⟨E, w, ρ, st, R0, h⟩ := h
  refine ⟨E, w, ρ, st, R0, ?_⟩
  unfold iRange at h
  cases q : ms ρ st with
  | bad => rw [q] at h; exact h.elim
  | exc c s => rw [q] at h; exact h
  | ok ds s =>
    rw [q] at h
    have hl := h1 _ _ _ _ q
    match ds, hl with
    | [d], _ =>
      cases d with
      | int j =>
        have h : PostI M W E w H σ ρ R (if j < 2 ^ 62 ∧ -(2 ^ 62) ≤ j then .ok (rangeD 0 j.toNat) s else .bad) := h
        by_cases hb : j < 2 ^ 62 ∧ -(2 ^ 62) ≤ j
        · rw [if_pos hb] at h
          intro w1 H1 vs e1 s1 r
          cases r with
          | cons r t =>
            cases t
            cases r
            exact ⟨j, rfl, hb.2, hb.1, h w1 H1 _ e1 s1 it_range⟩
        · rw [if_neg hb] at h; exact h.elim
      | _ => exact h.elim
theorem c_range2 {ms : MA} {R : It → Hp → Prop} (h1 : ∀ ρ st ds s, ms ρ st = .ok ds s → ds.length = 2) (h : tI M W (iRange ms) σ H R) : iRng2 (tA M W ms) σ H R := by
  obtain ⟨E, w, ρ, st, R0, h⟩ := h
  refine ⟨E, w, ρ, st, R0, ?_⟩
  unfold iRange at h
  cases q : ms ρ st with
  | bad => rw [q] at h; exact h.elim
  | exc c s => rw [q] at h; exact h
  | ok ds s =>
    rw [q] at h
    have hl := h1 _ _ _ _ q
    match ds, hl with
    | [d, d'], _ =>
      cases d with
      | int i =>
        cases d' with
        | int j =>
          have h : PostI M W E w H σ ρ R (if i < 2 ^ 62 ∧ -(2 ^ 62) ≤ i ∧ j < 2 ^ 62 ∧ -(2 ^ 62) ≤ j then .ok (rangeD i (j - i).toNat) s else .bad) := h
          by_cases hb : i < 2 ^ 62 ∧ -(2 ^ 62) ≤ i ∧ j < 2 ^ 62 ∧ -(2 ^ 62) ≤ j
          · rw [if_pos hb] at h
            intro w1 H1 vs e1 s1 r
            cases r with
            | cons r t =>
              cases t with
              | cons r' t =>
                cases t
                cases r
                cases r'
                exact ⟨i, j, rfl, ⟨hb.2.1, hb.1, hb.2.2.2, hb.2.2.1⟩, h w1 H1 _ e1 s1 it_range⟩
          · rw [if_neg hb] at h; exact h.elim
        | _ => exact h.elim
      | _ => exact h.elim
theorem c_range3 {ms : MA} {R : It → Hp → Prop} (h1 : ∀ ρ st ds s, ms ρ st = .ok ds s → ds.length = 3) (h : tI M W (iRange ms) σ H R) : iRng3 (tA M W ms) σ H R := by
  obtain ⟨E, w, ρ, st, R0, h⟩ := h
  refine ⟨E, w, ρ, st, R0, ?_⟩
  unfold iRange at h
  cases q : ms ρ st with
  | bad => rw [q] at h; exact h.elim
  | exc c s => rw [q] at h; exact h
  | ok ds s =>
    rw [q] at h
    have hl := h1 _ _ _ _ q
    match ds, hl with
    | [d, d', d''], _ =>
      cases d with
      | int i =>
        cases d' with
        | int j =>
          cases d'' with
          | int c =>
            have h : PostI M W E w H σ ρ R (if c ≠ 0 ∧ c.natAbs < 1073741824 ∧ Builtin.Range.small i j c = true ∧ 0 ≤ Builtin.Range.rangeSize i j c then .ok (rangeC i c (Builtin.Range.rangeSize i j c).toNat) s else .bad) := h
            by_cases hb : c ≠ 0 ∧ c.natAbs < 1073741824 ∧ Builtin.Range.small i j c = true ∧ 0 ≤ Builtin.Range.rangeSize i j c
            · rw [if_pos hb] at h
              intro w1 H1 vs e1 s1 r
              cases r with
              | cons r t =>
                cases t with
                | cons r' t =>
                  cases t with
                  | cons r'' t =>
                    cases t
                    cases r
                    cases r'
                    cases r''
                    exact ⟨i, j, c, (Builtin.Range.rangeSize i j c).toNat, rfl, ⟨hb.1, hb.2.1, hb.2.2.1, (Int.toNat_of_nonneg hb.2.2.2).symm⟩, h w1 H1 _ e1 s1 it_rangeC⟩
            · rw [if_neg hb] at h; exact h.elim
          | _ => exact h.elim
        | _ => exact h.elim
      | _ => exact h.elim
theorem c_enum {ma : ME} {R : It → Hp → Prop} (h : tI M W (iEnumD ma) σ H R) : iEnum M.K (tCons (tE M W ma) tNil) σ H R := by
  obtain ⟨E, w, ρ, st, R0, h⟩ := h
  refine ⟨E, w, ρ, st, R0, ?_⟩
  unfold iEnumD at h
  cases q : ma ρ st with
  | bad => rw [q] at h; exact h.elim
  | exc c s => rw [q] at h; exact h
  | ok d k s =>
    rw [q] at h
    have hk : k ≠ .b := fun z => by subst z; exact h
    cases d with
    | lst l =>
      have h : PostI M W E w H σ ρ R (.ok (pairsD 0 l) s) := by
        cases k with
        | b => exact absurd rfl hk
        | s => exact h
        | f => exact h
      intro w1 H1 v e1 s1 t1
      obtain ⟨w2, e2, se, _, _, s2, r2⟩ := t1.strong e1 s1 hk
      obtain ⟨a, xs, rfl, hF, hH, rl⟩ := r2.lstF
      exact ⟨a, xs, rfl, SqL.of hH, h w2 H1 _ e2 s2 (it_enum hF hH rl)⟩
    | _ =>
      cases k with
      | b => exact absurd rfl hk
      | s => exact h.elim
      | f => exact h.elim
theorem c_zip {ms : MA} {R : It → Hp → Prop} (h : tI M W (iZipD ms) σ H R) : iZipA M.K (tA M W ms) σ H R := by
  obtain ⟨E, w, ρ, st, R0, h⟩ := h
  refine ⟨E, w, ρ, st, R0, ?_⟩
  unfold iZipD at h
  cases q : ms ρ st with
  | bad => rw [q] at h; exact h.elim
  | exc c s => rw [q] at h; exact h
  | ok ds s =>
    rw [q] at h
    intro w1 H1 vs e1 s1 r
    have h : PostI M W E w H σ ρ R (zipI ds s) := h
    unfold zipI at h
    split at h
    · cases r with
      | cons r t =>
        cases t with
        | cons r' t =>
          cases t
          obtain ⟨a, xs, rfl, hF, hH, rl⟩ := r.lstF
          obtain ⟨b, ys, rfl, hF', hH', rl'⟩ := r'.lstF
          exact ⟨a, b, xs, ys, rfl, .inl ⟨SqL.of hH, SqL.of hH', h w1 H1 _ e1 s1 (it_zip hF hH rl hF' hH' rl')⟩⟩
    · cases r with
      | cons r t =>
        cases t with
        | cons r' t =>
          cases t
          obtain ⟨a, xs, rfl, hF, hH, rl⟩ := r.tupF
          obtain ⟨b, ys, rfl, hF', hH', rl'⟩ := r'.tupF
          exact ⟨a, b, xs, ys, rfl, .inr ⟨SqT.of hH, SqT.of hH', h w1 H1 _ e1 s1 (it_zipT hF hH rl hF' hH' rl')⟩⟩
    · exact h.elim
theorem aCons_len {ma : ME} {ms : MA} {n : Nat} (h : ∀ ρ st ds s, ms ρ st = .ok ds s → ds.length = n) : ∀ ρ st ds s, aCons ma ms ρ st = .ok ds s → ds.length = n + 1 := by
  intro ρ st ds s q
  unfold aCons at q
  cases qa : ma ρ st with
  | bad => rw [qa] at q; cases q
  | exc c s => rw [qa] at q; cases q
  | ok d k s1 =>
    rw [qa] at q
    cases k with
    | b => cases q
    | s =>
      dsimp only at q
      cases qs : ms ρ s1 with
      | bad => rw [qs] at q; cases q
      | exc c s => rw [qs] at q; cases q
      | ok ds2 s2 => rw [qs] at q; cases q; rw [List.length_cons, h _ _ _ _ qs]
    | f =>
      dsimp only at q
      cases qs : ms ρ s1 with
      | bad => rw [qs] at q; cases q
      | exc c s => rw [qs] at q; cases q
      | ok ds2 s2 => rw [qs] at q; cases q; rw [List.length_cons, h _ _ _ _ qs]
theorem aNil_len : ∀ (ρ : Env) (st : Store) (ds : List D) (s : Store), aNil ρ st = .ok ds s → ds.length = 0 := by
  intro ρ st ds s q
  cases q
  rfl
end
section
variable {X : Cx} {M : Md} {W : WX} {a b c e tg : Expr} {ma mb mc : ME} {pos p tpos : Pos} {elts : List Expr} {kk : Nat} {ms : MA}
theorem i_seq (he : PE X e (tE M W ma)) (hM : M.K = X.K := by rfl) : PI X tg e (tI M W (iSeq ma)) := by
  obtain ⟨K, mg⟩ := M
  cases hM
  exact PI.imp (PI.or (pi_list he) (pi_tup he)) fun _ _ _ h => c_iSeq h
theorem i_range1 (hg : Gl X "range") (hm : X.mg "range" = none) (ha : PE X a (tE M W ma)) (hs : starEach [a] X.env = [(false, eval a X.env)] := by rfl) : PI X tg (.Call (.Name "range" p) [a] [] pos) (tI M W (iRange (aCons ma aNil))) :=
  PI.imp (pi_range1 hg hm (xa_cons ha xa_nil hs) hs) fun _ _ _ h => c_range1 (aCons_len aNil_len) h
theorem i_range2 (hg : Gl X "range") (hm : X.mg "range" = none) (ha : PE X a (tE M W ma)) (hb : PE X b (tE M W mb)) (hs : starEach [a, b] X.env = [(false, eval a X.env), (false, eval b X.env)] := by rfl) (hs2 : starEach [b] X.env = [(false, eval b X.env)] := by rfl) :
    PI X tg (.Call (.Name "range" p) [a, b] [] pos) (tI M W (iRange (aCons ma (aCons mb aNil)))) :=
  PI.imp (pi_range2 hg hm (xa_cons ha (xa_cons hb xa_nil hs2) (by rw [hs, hs2])) hs hs2) fun _ _ _ h => c_range2 (aCons_len (aCons_len aNil_len)) h
theorem i_range3 (hg : Gl X "range") (hm : X.mg "range" = none) (ha : PE X a (tE M W ma)) (hb : PE X b (tE M W mb)) (hc : PE X c (tE M W mc)) (hs : starEach [a, b, c] X.env = (false, eval a X.env) :: starEach [b, c] X.env := by rfl) (hs2 : starEach [b, c] X.env = (false, eval b X.env) :: starEach [c] X.env := by rfl) (hs3 : starEach [c] X.env = (false, eval c X.env) :: starEach [] X.env := by rfl)
    (hpl : (backTo pos (starEach [b, c] X.env)).any (·.1) = false := by rfl) : PI X tg (.Call (.Name "range" p) [a, b, c] [] pos) (tI M W (iRange (aCons ma (aCons mb (aCons mc aNil))))) :=
  PI.imp (pi_range3 hg hm (xa_cons ha (xa_cons hb (xa_cons hc xa_nil hs3) hs2) hs) hs hpl) fun _ _ _ h => c_range3 (aCons_len (aCons_len (aCons_len aNil_len))) h
theorem i_enum (hg : Gl X "enumerate") (hm : X.mg "enumerate" = none) (ha : PE X a (tE M W ma)) (hM : M.K = X.K := by rfl) (hs : starEach [a] X.env = [(false, eval a X.env)] := by rfl) : PI X (.Tuple elts kk tpos) (.Call (.Name "enumerate" p) [a] [] pos) (tI M W (iEnumD ma)) := by
  obtain ⟨K, mg⟩ := M
  cases hM
  exact PI.imp (pi_enum hg hm (pa_cons ha pa_nil hs) hs) fun _ _ _ h => c_enum h
theorem i_zip (hg : Gl X "zip") (hm : X.mg "zip" = none) (ha : PA X [a, b] (tA M W ms)) (hM : M.K = X.K := by rfl) (hs : starEach [a, b] X.env = (false, eval a X.env) :: starEach [b] X.env := by rfl) (hpl : (backTo pos (starEach [b] X.env)).any (·.1) = false := by rfl) :
    PI X (.Tuple elts kk tpos) (.Call (.Name "zip" p) [a, b] [] pos) (tI M W (iZipD ms)) := by
  obtain ⟨K, mg⟩ := M
  cases hM
  exact PI.imp (pi_zipA hg hm ha hs hpl) fun _ _ _ h => c_zip h
end
end Mi

set_option maxRecDepth 100000
namespace Mi
open PySem PySem.Spec L2
open PyProof.Rows hiding St

/-! ### changes of things that are not frozen -/
section
variable {M : Md} {W : WX} {E : Ent} {w w' w'' : Wd} {H H' H'' H0 H1 : Hp} {st st' : Store} {v u : V} {k : Kd} {d : D} {a b : Addr} {σ : St} {ρ : Env} {l m : List D} {xs ys : List V} {Dn : Ends} {is : List Nat} {o : HO}
theorem upd_s (h : ¬ w.F a) : SExt w H w (upd H a o) := ⟨fun _ h => h, fun x hx => upd_ne fun z => h (z ▸ hx), fun _ _ h => h⟩
theorem upd_st (s : StOk M w H st) (h : ¬ w.F a) (hc : a ∉ w.cells) : StOk M w (upd H a o) st := by
  have there : ∀ x, H x ≠ none → upd H a o x ≠ none := fun x hx => by
    by_cases e : x = a
    · subst e; rw [upd_same]; exact fun z => nomatch z
    · rw [upd_ne e]; exact hx
  exact s.mono (upd_s h) rfl (fun x hx => upd_ne fun z => hc (z ▸ hx)) ⟨fun x hx => there x (s.ok.Fh x hx), s.ok.Fc, fun x hx => there x (s.ok.ch x hx), s.ok.nd⟩
theorem Ext.upd (e : Ext w H w' H') (h0 : H a = Option.none) : Ext w H w' (L2.upd H' a o) := by
  refine ⟨e.F, e.F', fun x q hx hc => ?_, fun x hx => ?_, e.cells⟩
  · rw [upd_ne (ne_of_none hx h0)]; exact e.keep x q hx hc
  · by_cases z : x = a
    · subst z; rw [upd_same]; exact fun z => nomatch z
    · rw [upd_ne z]; exact e.there x hx
end

/-! ### list comprehensions -/
def testO (mt : Option ME) (ρ : Env) (st : Store) (f : Bool → Store → AR) : AR := match mt with
  | none => f true st
  | some m => match m ρ st with
    | .ok x _ s => match x.tru with
      | some b => f b s
      | none => .bad
    | _ => .bad
def compE (r : ER) (f : D → Store → AR) : AR := match r with
  | .ok y k s => match k with
    | .b => .bad
    | _ => f y s
  | _ => .bad
def consA (y : D) (r : AR) : AR := match r with
  | .ok ys s => .ok (y :: ys) s
  | _ => .bad
def compL (g : MG) (mt : Option ME) (me : ME) (ρ : Env) : List D → Store → AR
  | [], st => .ok [] st
  | d :: ds, st => match g d ρ with
    | none => .bad
    | some ρ1 => testO mt ρ1 st fun b s1 => if b = true then compE (me ρ1 s1) fun y s2 => consA y (compL g mt me ρ ds s2) else compL g mt me ρ ds s1
def mComp (vs : List Nat) (mi : MI) (g : MG) (mt : Option ME) (me : ME) : ME := fun ρ st => match mi ρ st with
  | .ok ds s1 => if ds.length ≤ 16777216 then (match compL g mt me (wipeE ρ vs) ds s1 with
    | .ok ys s2 => .ok (.lst ys) .f s2
    | _ => .bad) else .bad
  | .exc c s => .exc c s
  | .bad => .bad
def W0 : WX := fun _ _ _ _ => False
def tTO (M : Md) : Option ME → TT
  | none => tYes
  | some m => tT M W0 m
section
variable {M : Md} {W : WX} {E : Ent} {w w' w'' : Wd} {H H' H'' H0 H1 : Hp} {st st' : Store} {v u : V} {k : Kd} {d : D} {a b : Addr} {σ : St} {ρ : Env} {l m : List D} {xs ys : List V} {Dn : Ends} {is : List Nat}
theorem c_comp {vs : List Nat} {mi : MI} {g : MG} {mt : Option ME} {me : ME} {Q : VK} (hv : ∀ i ∈ is, i ∈ vs) (h : tE M W (mComp vs mi g mt me) σ H Q) : tLc (tI M W mi) (tG M is g) (tTO M mt) (tE M W0 me) vs σ H Q := by
  obtain ⟨E, w, ρ, st, R0, h⟩ := h
  refine ⟨E, w, ρ, st, R0, ?_⟩
  unfold mComp at h
  cases q : mi ρ st with
  | bad => rw [q] at h; exact h.elim
  | exc c s => rw [q] at h; exact h
  | ok ds st1 =>
    rw [q] at h
    have h : Post M W E w H σ ρ Q (if ds.length ≤ 16777216 then (match compL g mt me (wipeE ρ vs) ds st1 with | .ok ys s2 => .ok (.lst ys) .f s2 | _ => .bad) else .bad) := h
    by_cases hz : ds.length ≤ 16777216
    · rw [if_pos hz] at h
      cases qc : compL g mt me (wipeE ρ vs) ds st1 with
      | bad => rw [qc] at h; exact h.elim
      | exc c s => rw [qc] at h; exact h.elim
      | ok YS S2 =>
        rw [qc] at h
        have h : ∀ w' H' v, Ext w H w' H' → StOk M w' H' S2 → Top M H w' H' v .f (.lst YS) → Q v H' := h
        intro w1 H1 J e1 s1 it D hD
        refine ⟨fun i m H => m + i = ds.length ∧ ∃ w acc xs st ys, Ext w1 H1 w H ∧ StOk M w H st ∧ H D = some (.lst xs) ∧ RepL M w H xs acc ∧ ¬ w.F D ∧ D ∉ w.cells ∧ acc.length ≤ i ∧ compL g mt me (wipeE ρ vs) (ds.drop i) st = .ok ys S2 ∧ acc ++ ys = YS,
          ⟨ds.length, rfl, w1, [], [], st1, YS, new_ext hD, new_st s1 hD, upd_same, .nil, fun z => s1.ok.Fh D z hD, fun z => s1.ok.ch D z hD, Nat.le_refl _, qc, rfl⟩, ?_⟩
        rintro i m H2 ⟨hi, w2, acc, xs, st2, ys, e2, s2, eD, rD, nF, nC, hal, hc, hY⟩
        have e02 := e1.trans e2
        have se2 := e2.s s1.ok
        have thD : H2 D ≠ none := by rw [eD]; exact fun z => nomatch z
        cases m with
        | zero =>
          refine .inl ⟨(it w2 H2 se2 s2.ok i).2 (by omega), ?_⟩
          rw [List.drop_of_length_le (by omega)] at hc
          have hc : AR.ok [] st2 = .ok ys S2 := hc
          cases hc
          rw [List.append_nil] at hY
          subst hY
          exact h w2 H2 _ e02 s2 ⟨D, rfl, e1.none hD, nF, nC, xs, eD, rD⟩
        | succ m =>
          have hlt : i < ds.length := by omega
          have hd : ds[i]? = some ds[i] := List.getElem?_eq_getElem hlt
          obtain ⟨go, yl⟩ := (it w2 H2 se2 s2.ok i).1 _ hd
          refine .inr ⟨go, fun H' => ∃ w acc xs st ys, Ext w1 H1 w H' ∧ StOk M w H' st ∧ H' D = some (.lst xs) ∧ RepL M w H' xs acc ∧ ¬ w.F D ∧ D ∉ w.cells ∧ acc.length ≤ i + 1 ∧ compL g mt me (wipeE ρ vs) (ds.drop (i + 1)) st = .ok ys S2 ∧ acc ++ ys = YS,
            fun H' z => ⟨m, Nat.lt_succ_self _, by omega, z⟩, fun x H3 y => ?_⟩
          obtain ⟨w3, e3, s3, r3⟩ := yl x H3 y
          have s3 := s3 _ s2
          have hdrop : ds.drop i = ds[i] :: ds.drop (i + 1) := List.drop_eq_getElem_cons hlt
          rw [hdrop] at hc
          have R3 : Rel M E w3 H3 (wipe σ vs) (wipeE ρ vs) st2 := (R0.next (e02.trans e3) s3).wipe vs
          refine ⟨E, w3, wipeE ρ vs, st2, ds[i], R3, r3, ?_⟩
          unfold compL at hc
          cases qg : g ds[i] (wipeE ρ vs) with
          | none => rw [qg] at hc; cases hc
          | some ρ1 =>
            rw [qg] at hc
            have hc : testO mt ρ1 st2 (fun b s1 => if b = true then compE (me ρ1 s1) fun y s2 => consA y (compL g mt me (wipeE ρ vs) (ds.drop (i + 1)) s2) else compL g mt me (wipeE ρ vs) (ds.drop (i + 1)) s1) = .ok ys S2 := hc
            intro σ' o R4
            refine ⟨by rw [o.wipe hv, wipe_wipe], ?_⟩
            -- behind the test, at (w4, H4) with the store s4
            have tail : ∀ (c : Bool) (s4 : Store) (w4 : Wd) (H4 : Hp), Ext w3 H3 w4 H4 → StOk M w4 H4 s4 → (if c = true then compE (me ρ1 s4) fun y s2 => consA y (compL g mt me (wipeE ρ vs) (ds.drop (i + 1)) s2) else compL g mt me (wipeE ρ vs) (ds.drop (i + 1)) s4) = .ok ys S2 →
                if c = true then tE M W0 me σ' H4 fun y H5 => ∃ acc, H5 D = some (.lst acc) ∧ acc.length < sizeLine ∧ ∃ w acc_1 xs st ys, Ext w1 H1 w (upd H5 D (.lst (acc ++ [y]))) ∧ StOk M w (upd H5 D (.lst (acc ++ [y]))) st ∧ (upd H5 D (.lst (acc ++ [y]))) D = some (.lst xs) ∧ RepL M w (upd H5 D (.lst (acc ++ [y]))) xs acc_1 ∧ ¬ w.F D ∧ D ∉ w.cells ∧ acc_1.length ≤ i + 1 ∧ compL g mt me (wipeE ρ vs) (ds.drop (i + 1)) st = .ok ys S2 ∧ acc_1 ++ ys = YS
                else ∃ w acc xs st ys, Ext w1 H1 w H4 ∧ StOk M w H4 st ∧ H4 D = some (.lst xs) ∧ RepL M w H4 xs acc ∧ ¬ w.F D ∧ D ∉ w.cells ∧ acc.length ≤ i + 1 ∧ compL g mt me (wipeE ρ vs) (ds.drop (i + 1)) st = .ok ys S2 ∧ acc ++ ys = YS := by
              intro c s4 w4 H4 e4 s4ok hc
              have e34 := e3.trans e4
              have e24 := e2.trans e34
              have nF4 := e34.notF thD nF
              have nC4 := e34.notC thD nC
              have eD4 : H4 D = some (.lst xs) := e34.keep D _ eD nC
              have rD4 := rD.mono (e34.s s2.ok)
              have thD4 : H4 D ≠ none := by rw [eD4]; exact fun z => nomatch z
              cases c with
              | false =>
                refine iteF ⟨w4, acc, xs, s4, ys, e24, s4ok, eD4, rD4, nF4, nC4, by omega, ?_, hY⟩
                rw [if_neg Bool.false_ne_true] at hc
                exact hc
              | true =>
                rw [if_pos rfl] at hc
                have R5 := R4.next e4 s4ok
                refine iteT ⟨E, w4, ρ1, s4, R5, ?_⟩
                cases qe : me ρ1 s4 with
                | bad => rw [qe] at hc; cases hc
                | exc c s => rw [qe] at hc; cases hc
                | ok y k s5 =>
                  rw [qe] at hc
                  have hk : k ≠ .b := fun z => by subst z; cases hc
                  have hc : consA y (compL g mt me (wipeE ρ vs) (ds.drop (i + 1)) s5) = .ok ys S2 := by
                    cases k with
                    | b => exact absurd rfl hk
                    | s => exact hc
                    | f => exact hc
                  intro w5 H5 yv e5 s5ok t5
                  obtain ⟨w6, e6, se6, F6, c6, s6, r6⟩ := t5.strong e5 s5ok hk
                  cases qr : compL g mt me (wipeE ρ vs) (ds.drop (i + 1)) s5 with
                  | bad => rw [qr] at hc; cases hc
                  | exc c s => rw [qr] at hc; cases hc
                  | ok ys' S' =>
                    rw [qr] at hc
                    have hc : AR.ok (y :: ys') S' = .ok ys S2 := hc
                    cases hc
                    have nF6 := e6.notF thD4 nF4
                    have nC6 := e6.notC thD4 nC4
                    have eD6 : H5 D = some (.lst xs) := e6.keep D _ eD4 nC4
                    have rD6 := rD4.mono (e6.s s4ok.ok)
                    have up : SExt w6 H5 w6 (upd H5 D (.lst (xs ++ [yv]))) := upd_s nF6
                    refine ⟨xs, eD6, by rw [rD6.length, sizeLine_eq]; omega, w6, acc ++ [y], xs ++ [yv], s5, ys', ?_, upd_st s6 nF6 nC6, upd_same, ((rD6.append (.cons r6 .nil)).mono up), nF6, nC6, by rw [List.length_append]; simp; omega, qr, by rw [List.append_assoc]; exact hY⟩
                    exact (e24.trans e6).upd hD
            cases mt with
            | none => exact tail true st2 w3 H3 .refl s3 hc
            | some m0 =>
              refine ⟨E, w3, ρ1, st2, R4, ?_⟩
              unfold testO at hc
              dsimp only at hc
              cases qt : m0 ρ1 st2 with
              | bad => rw [qt] at hc; cases hc
              | exc c s => rw [qt] at hc; cases hc
              | ok x kx s4 =>
                rw [qt] at hc
                dsimp only at hc
                cases qb : x.tru with
                | none => rw [qb] at hc; cases hc
                | some c =>
                  rw [qb] at hc
                  exact ⟨c, qb, fun w4 H4 e4 s4ok => tail c s4 w4 H4 e4 s4ok hc⟩
    · rw [if_neg hz] at h; exact h.elim
end
section
variable {X : Cx} {M : Md} {W : WX} {elt tg iter : Expr} {ifs : List Expr} {scope : Scope} {own : List (Str × Nat)} {pos : Pos} {mi : MI} {g : MG} {mt : Option ME} {me : ME} {is : List Nat}
theorem xt_nil : PTs X [] (tTO M none) := pts_nil
theorem xt_one {c : Expr} {m : ME} (h : PT X c (tT M W0 m)) : PTs X [c] (tTO M (some m)) := pts_one h
theorem x_comp (hN : X.N.Nodup) (hi : PI X tg iter (tI M W mi)) (ok : BlkOk X.N X.env.scope scope own) (hv : ∀ i ∈ is, i ∈ own.map (·.2))
    (hg : ∀ (s : Shared) (H : Hp) (C : Addr) (cl : List (Str × Addr)) (fp : List Addr), PG (X.blk s H scope (compEnvC scope cl C X.env) fp) tg (tG M is g)) (ht : ∀ (s : Shared) (H : Hp) (C : Addr) (cl : List (Str × Addr)) (fp : List Addr), PTs (X.blk s H scope (compEnvC scope cl C X.env) fp) ifs (tTO M mt))
    (he : ∀ (s : Shared) (H : Hp) (C : Addr) (cl : List (Str × Addr)) (fp : List Addr), PE (X.blk s H scope (compEnvC scope cl C X.env) fp) elt (tE M W0 me)) (hc : X.calm = true := by rfl) (hs : ∀ x, foldedSetIterable iter X.env x = pure x := by intro _; rfl) :
    PE X (.ListComp elt [⟨tg, iter, ifs, 0⟩] scope pos) (tE M W (mComp (own.map (·.2)) mi g mt me)) := PE.imp (pe_lc hc hN hi ok hg ht he hs) fun _ _ _ h => c_comp hv h
theorem s_setLc (i : Nat) {y : Str} {py spos : Pos} (hN : X.N.Nodup) (hsw : swapsWith (.ListComp elt [⟨tg, iter, ifs, 0⟩] scope pos) (some (.Name y py)) spos.line X.env = pure true) (hi : PI X tg iter (tI M W mi)) (ok : BlkOk X.N X.env.scope scope own) (hv : ∀ i ∈ is, i ∈ own.map (·.2))
    (hg : ∀ (s : Shared) (H : Hp) (C : Addr) (cl : List (Str × Addr)) (fp : List Addr), PG (X.blk s H scope (compEnvC scope cl C X.env) fp) tg (tG M is g)) (ht : ∀ (s : Shared) (H : Hp) (C : Addr) (cl : List (Str × Addr)) (fp : List Addr), PTs (X.blk s H scope (compEnvC scope cl C X.env) fp) ifs (tTO M mt))
    (he : ∀ (s : Shared) (H : Hp) (C : Addr) (cl : List (Str × Addr)) (fp : List Addr), PE (X.blk s H scope (compEnvC scope cl C X.env) fp) elt (tE M W0 me)) (hy : X.N[i]? = some y := by rfl) (hyl : X.env.scope.names.lookup y = some .local := by rfl) (hc : X.calm = true := by rfl) (hs : ∀ x, foldedSetIterable iter X.env x = pure x := by intro _; rfl) :
    PS X (.Assign [.Name y py] (.ListComp elt [⟨tg, iter, ifs, 0⟩] scope pos) spos) (tS M W (mSet i (mComp (own.map (·.2)) mi g mt me))) := by
  refine PS.imp (ps_setLc hc hN hy hyl hsw hi ok hg ht he hs) fun D σ H h => ?_
  exact c_comp hv (c_set h)
end
end Mi

set_option maxRecDepth 100000
namespace Mi
open PySem PySem.Spec L2
open PyProof.Rows hiding St

/-! ### a, b = x, y -/
inductive KR where
  | ok (ds : List (D × Kd)) (st : Store) | exc (c : Str) (st : Store) | bad
abbrev MK := Env → Store → KR
def kNil : MK := fun _ st => .ok [] st
def kCons (ma : ME) (ms : MK) : MK := fun ρ st => match ma ρ st with
  | .ok d k s1 => match ms ρ s1 with
    | .ok ds s2 => .ok ((d, k) :: ds) s2
    | .exc c s2 => .exc c s2
    | .bad => .bad
  | .exc c s1 => .exc c s1
  | .bad => .bad
inductive Tops (M : Md) (H0 : Hp) (w : Wd) (H : Hp) : List V → List (D × Kd) → Prop
  | nil : Tops M H0 w H [] []
  | cons {v : V} {d : D} {k : Kd} {vs : List V} {ds : List (D × Kd)} : Top M H0 w H v k d → (∀ (i : Nat) (d' : D), k = .f → ds[i]? = some (d', .f) → vs[i]? ≠ some v) → Tops M H0 w H vs ds → Tops M H0 w H (v :: vs) ((d, k) :: ds)
def PostK (M : Md) (W : WX) (E : Ent) (w : Wd) (H : Hp) (σ : St) (ρ : Env) (Q : List V → Hp → Prop) : KR → Prop
  | .ok ds st' => ∀ w' H' vs, Ext w H w' H' → StOk M w' H' st' → Tops M H w' H' vs ds → Q vs H'
  | .exc c st' => ∀ w' H' cls, SExt w H w' H' → Rel M E w' H' σ ρ st' → ClsOf M c cls → W cls none σ H'
  | .bad => False
def tK (M : Md) (W : WX) (m : MK) : TA := fun σ H Q => ∃ E w ρ st, Rel M E w H σ ρ st ∧ PostK M W E w H σ ρ Q (m ρ st)
def setAll : List Nat → List (D × Kd) → Env → Option Env
  | [], [], ρ => some ρ
  | i :: is, (d, k) :: ds, ρ => match k with
    | .b => none
    | .f => setAll is ds (ρ.set i (.own d))
    | .s => setAll is ds (ρ.set i (.val d))
  | _, _, _ => none
def mPar (is : List Nat) (ms : MK) : MS := fun ρ st => match ms ρ st with
  | .ok ds s => match setAll is ds ρ with
    | some ρ' => .next ρ' s
    | none => .bad
  | .exc c s => .exc c ρ s
  | .bad => .bad
def setV : List Nat → List V → St → St
  | i :: is, v :: vs, σ => setV is vs (σ.set i (some v))
  | _, _, σ => σ
section
variable {M : Md} {W : WX} {E : Ent} {w w' w'' : Wd} {H H' H'' H0 H1 : Hp} {st st' : Store} {v u : V} {k : Kd} {d : D} {a b : Addr} {σ : St} {ρ : Env} {l m : List D} {xs ys vs : List V} {ds : List (D × Kd)} {Dn : Ends} {is : List Nat}
theorem Tops.fresh : ∀ {vs : List V} {ds : List (D × Kd)}, Tops M H0 w H vs ds → ∀ (i : Nat) (d' : D), ds[i]? = some (d', .f) → ∃ a, vs[i]? = some (.ref a) ∧ H0 a = none
  | _, _, .nil, i, d', h => by simp at h
  | _, _, .cons t n r, 0, d', h => by
    simp at h
    obtain ⟨rfl, rfl⟩ := h
    obtain ⟨a, rfl, h0, _⟩ := t
    exact ⟨a, rfl, h0⟩
  | _, _, .cons t n r, i + 1, d', h => by
    obtain ⟨a, h1, h2⟩ := Tops.fresh r i d' (by simpa using h)
    exact ⟨a, by simpa using h1, h2⟩
theorem Tops.back (e : Ext w H w' H') : ∀ {vs : List V} {ds : List (D × Kd)}, Tops M H' w'' H'' vs ds → Tops M H w'' H'' vs ds
  | _, _, .nil => .nil
  | _, _, .cons t n r => .cons (t.back e) n (Tops.back e r)
theorem Tops.length : ∀ {vs : List V} {ds : List (D × Kd)}, Tops M H0 w H vs ds → vs.length = ds.length
  | _, _, .nil => rfl
  | _, _, .cons t n r => by simp [Tops.length r]
theorem c_knil {Q : List V → Hp → Prop} (h : tK M W kNil σ H Q) : tNil σ H Q := by
  obtain ⟨E, w, ρ, st, R, h⟩ := h
  exact h w H [] .refl R.st .nil
theorem c_kcons {ma : ME} {ms : MK} {Q : List V → Hp → Prop} (h : tK M W (kCons ma ms) σ H Q) : tCons (tE M W ma) (tK M W ms) σ H Q := by
  obtain ⟨E, w, ρ, st, R, h⟩ := h
  refine ⟨E, w, ρ, st, R, ?_⟩
  unfold kCons at h
  cases qa : ma ρ st with
  | bad => rw [qa] at h; exact h
  | exc c s => rw [qa] at h; exact h
  | ok d k s1 =>
    rw [qa] at h
    have h : PostK M W E w H σ ρ Q (match ms ρ s1 with | .ok ds s2 => .ok ((d, k) :: ds) s2 | .exc c s2 => .exc c s2 | .bad => .bad) := h
    intro w1 H1 v e1 st1 t1
    refine ⟨E, w1, ρ, s1, R.next e1 st1, ?_⟩
    cases qs : ms ρ s1 with
    | bad => rw [qs] at h; exact h
    | exc c s => rw [qs] at h; exact fun w' H' cls e => h w' H' cls ((e1.s R.st.ok).trans e)
    | ok ds s3 =>
      rw [qs] at h
      refine fun w' H' vs e s r => h w' H' (v :: vs) (e1.trans e) s (.cons (t1.ext e st1.ok) (fun i d' hk hi hv => ?_) (Tops.back e1 r))
      subst hk
      obtain ⟨a, h1, h2⟩ := r.fresh i d' hi
      obtain ⟨b, rfl, _, o⟩ := t1
      rw [h1] at hv
      cases hv
      exact o.there h2
theorem Rel.setTops (hE : Ext E.w E.H w H0) : ∀ {is : List Nat} {vs : List V} {ds : List (D × Kd)} {σ : St} {ρ ρ' : Env}, Rel M E w' H' σ ρ st → Tops M H0 w' H' vs ds → (∀ (i : Nat) (d : D) (v : V), ds[i]? = some (d, .f) → vs[i]? = some v → ∀ (j : Nat) (d' : D), ρ[j]? = some (.own d') → σ[j]? ≠ some (some v)) →
    setAll is ds ρ = some ρ' → Rel M E w' H' (setV is vs σ) ρ' st
  | [], vs, ds, σ, ρ, ρ', R, t, _, h => by
    cases t with
    | nil => cases h; exact R
    | cons => cases h
  | i :: is, vs, ds, σ, ρ, ρ', R, t, hn, h => by
    cases t with
    | nil => cases h
    | @cons v d k vs ds t n r =>
      have lenset : ∀ (j : Nat) (x : Slot) (y : Option V) (d' : D), ρ.length = σ.length → (ρ.set i x)[j]? = some (.own d') → (j = i ∧ x = .own d' ∧ (σ.set i y)[j]? = some y) ∨ (ρ[j]? = some (.own d') ∧ (σ.set i y)[j]? = σ[j]?) := fun j x y d' hl q => by
        by_cases hj : i = j
        · subst hj
          by_cases hb : i < ρ.length
          · rw [List.getElem?_set_self hb] at q
            cases q
            exact .inl ⟨rfl, rfl, List.getElem?_set_self (by omega)⟩
          · rw [List.getElem?_eq_none (by simpa using hb)] at q; cases q
        · rw [List.getElem?_set_ne hj] at q
          exact .inr ⟨q, List.getElem?_set_ne hj⟩
      show Rel M E w' H' (setV is vs (σ.set i (some v))) ρ' st
      cases k with
      | b => cases h
      | s =>
        refine Rel.setTops hE (R.setVal i t) r (fun j d1 v1 h1 h2 l d2 h3 h4 => ?_) h
        rcases lenset l (.val d) (some v) d2 R.len.symm h3 with ⟨_, z, _⟩ | ⟨z, z2⟩
        · cases z
        · rw [z2] at h4
          exact hn (j + 1) d1 v1 (by simpa using h1) (by simpa using h2) l d2 z h4
      | f =>
        have t' := t
        obtain ⟨a, rfl, h0, o⟩ := t
        have own0 : ∀ (j : Nat) (d' : D), ρ[j]? = some (.own d') → σ[j]? ≠ some (some (.ref a)) := fun j d' hj => hn 0 d (.ref a) rfl rfl j d' hj
        refine Rel.setTops hE (R.setOwn i o (hE.none h0) fun j d' hj _ => own0 j d' hj) r (fun j d1 v1 h1 h2 l d2 h3 h4 => ?_) h
        rcases lenset l (.own d) (some (.ref a)) d2 R.len.symm h3 with ⟨e1, e2, z⟩ | ⟨z, z2⟩
        · rw [z] at h4
          cases h4
          exact n j d1 rfl h1 h2
        · rw [z2] at h4
          exact hn (j + 1) d1 v1 (by simpa using h1) (by simpa using h2) l d2 z h4
theorem setAll_len : ∀ {is : List Nat} {ds : List (D × Kd)} {ρ ρ' : Env}, setAll is ds ρ = some ρ' → is.length = ds.length
  | [], [], _, _, _ => rfl
  | [], _ :: _, _, _, h => by cases h
  | _ :: _, [], _, _, h => by cases h
  | i :: is, (d, k) :: ds, ρ, ρ', h => by
    cases k with
    | b => cases h
    | f => simp [setAll_len (show setAll is ds _ = some ρ' from h)]
    | s => simp [setAll_len (show setAll is ds _ = some ρ' from h)]
/-- the common part: the values have come, the stores are wanted -/
theorem c_parV {is : List Nat} {ms : MK} (h : tS M W (mPar is ms) Dn σ H) : tK M W ms σ H fun vs H1 => vs.length = is.length ∧ ∃ E w1 ρ' s, Rel M E w1 H1 (setV is vs σ) ρ' s ∧ PostS M W E w1 H1 Dn (.next ρ' s) := by
  obtain ⟨E, w, ρ, st, R, h⟩ := h
  refine ⟨E, w, ρ, st, R, ?_⟩
  unfold mPar at h
  cases q : ms ρ st with
  | bad => rw [q] at h; exact h.elim
  | exc c s => rw [q] at h; exact fun w' H' cls e' R' hc => h w' H' σ cls e' R' hc
  | ok ds s =>
    rw [q] at h
    have h : PostS M W E w H Dn (match setAll is ds ρ with | some ρ' => .next ρ' s | none => .bad) := h
    cases qs : setAll is ds ρ with
    | none => rw [qs] at h; exact h.elim
    | some ρ' =>
      rw [qs] at h
      intro w1 H1 vs e1 s1 t1
      have R1 := R.next e1 s1
      refine ⟨by rw [t1.length, setAll_len qs], E, w1, ρ', s, Rel.setTops R.ext R1 t1 (fun i d v h1 h2 j d' h3 h4 => ?_) qs, PostS.later h (e1.s R.st.ok)⟩
      obtain ⟨a, h5, h6⟩ := t1.fresh i d h1
      rw [h2] at h5
      cases h5
      exact R.fresh e1 h6 j d' h3 h4
theorem c_par2 {i j : Nat} {ms : MK} (h : tS M W (mPar [i, j] ms) Dn σ H) : tPar i j (tK M W ms) Dn σ H := by
  obtain ⟨E, w, ρ, st, R, h⟩ := c_parV h
  refine ⟨E, w, ρ, st, R, ?_⟩
  revert h
  cases ms ρ st with
  | bad => exact id
  | exc c s => exact id
  | ok ds s =>
    intro h w' H' vs e s t
    obtain ⟨hl, E', w1, ρ', s', R1, h⟩ := h w' H' vs e s t
    match vs, hl with
    | [v, u], _ => exact ⟨v, u, rfl, h w1 H' _ .refl R1⟩
theorem c_par3 {i j l : Nat} {ms : MK} (h : tS M W (mPar [i, j, l] ms) Dn σ H) : tPar3 i j l (tK M W ms) Dn σ H := by
  obtain ⟨E, w, ρ, st, R, h⟩ := c_parV h
  refine ⟨E, w, ρ, st, R, ?_⟩
  revert h
  cases ms ρ st with
  | bad => exact id
  | exc c s => exact id
  | ok ds s =>
    intro h w' H' vs e s t
    obtain ⟨hl, E', w1, ρ', s', R1, h⟩ := h w' H' vs e s t
    match vs, hl with
    | [v, u, z], _ => exact ⟨v, u, z, rfl, h w1 H' _ .refl R1⟩
def gNames : List Nat → TGs
  | [] => gNil
  | i :: is => gCons (gName i) (gNames is)
theorem gNames_set : ∀ {is : List Nat} {vs : List V} {σ : St} {H : Hp} {Q : St → Hp → Prop}, vs.length = is.length → Q (setV is vs σ) H → gNames is vs σ H Q
  | [], [], σ, H, Q, _, h => ⟨rfl, h⟩
  | [], _ :: _, σ, H, Q, hl, h => by simp at hl
  | _ :: _, [], σ, H, Q, hl, h => by simp at hl
  | i :: is, v :: vs, σ, H, Q, hl, h => ⟨v, vs, rfl, gNames_set (by simpa using hl) h⟩
theorem c_parN {is : List Nat} {ms : MK} (hz : is.length ≤ 1000) (h : tS M W (mPar is ms) Dn σ H) : tAsg (tTup (tK M W ms)) (gTup M.K is.length (gNames is)) Dn σ H := by
  obtain ⟨E, w, ρ, st, R, h⟩ := c_parV h
  refine ⟨E, w, ρ, st, R, ?_⟩
  revert h
  cases ms ρ st with
  | bad => exact id
  | exc c s => exact id
  | ok ds s =>
    intro h w' H' vs e s t
    obtain ⟨hl, E', w1, ρ', s', R1, h⟩ := h w' H' vs e s t
    refine ⟨by rw [hl, sizeLine_eq]; omega, fun p hp => ⟨p, vs, rfl, SqT.of upd_same, hl, gNames_set hl ?_⟩⟩
    have e2 : Ext w1 H' w1 (upd H' p (.tup vs)) := new_ext hp
    exact h w1 _ _ (e2.s R1.st.ok) (R1.next e2 (new_st R1.st hp))
end
section
variable {X : Cx} {M : Md} {W : WX} {a b c e : Expr} {es ts : List Expr} {ma mb mc : ME} {ms : MK} {pos px py pz pt pt2 : Pos} {kt k2 : Nat} {i j l : Nat} {x y z : Str} {is : List Nat}
theorem xk_nil : PA X [] (tK M W kNil) := PA.imp pa_nil fun _ _ _ h => c_knil h
theorem xk_cons (ha : PE X e (tE M W ma)) (hr : PA X es (tK M W ms)) (hs : starEach (e :: es) X.env = (false, eval e X.env) :: starEach es X.env := by rfl) : PA X (e :: es) (tK M W (kCons ma ms)) := PA.imp (pa_cons ha hr hs) fun _ _ _ h => c_kcons h
theorem s_par2 (i j : Nat) (hN : X.N.Nodup) (ha : PA X [a, b] (tK M W ms)) (hi : X.N[i]? = some x := by rfl) (hj : X.N[j]? = some y := by rfl) (hij : i ≠ j := by decide) (hx : X.env.scope.names.lookup x = some .local := by rfl) (hy : X.env.scope.names.lookup y = some .local := by rfl) (hc : X.calm = true := by rfl)
    (hw : swappedStores [.Tuple [.Name x px, .Name y py] kt pt] (.Tuple [a, b] k2 pt2) X.env = pure (some [x, y]) := by rfl)
    (hs : swapsWithSole [.Tuple [.Name x px, .Name y py] kt pt] (.Tuple [a, b] k2 pt2) pos.line X.env = pure false := by rfl) :
    PS X (.Assign [.Tuple [.Name x px, .Name y py] kt pt] (.Tuple [a, b] k2 pt2) pos) (tS M W (mPar [i, j] ms)) := PS.imp (ps_par hc hN hi hj hij hx hy ha hw hs) fun _ _ _ h => c_par2 h
theorem s_par3 (i j l : Nat) (hN : X.N.Nodup) (ha : PA X [a, b, c] (tK M W ms)) (hi : X.N[i]? = some x := by rfl) (hj : X.N[j]? = some y := by rfl) (hl : X.N[l]? = some z := by rfl) (hij : i ≠ j := by decide) (hil : i ≠ l := by decide) (hjl : j ≠ l := by decide)
    (hx : X.env.scope.names.lookup x = some .local := by rfl) (hy : X.env.scope.names.lookup y = some .local := by rfl) (hz : X.env.scope.names.lookup z = some .local := by rfl) (hc : X.calm = true := by rfl)
    (hw : swappedStores [.Tuple [.Name x px, .Name y py, .Name z pz] kt pt] (.Tuple [a, b, c] k2 pt2) X.env = pure (some [x, y, z]) := by rfl)
    (hs : swapsWithSole [.Tuple [.Name x px, .Name y py, .Name z pz] kt pt] (.Tuple [a, b, c] k2 pt2) pos.line X.env = pure false := by rfl) :
    PS X (.Assign [.Tuple [.Name x px, .Name y py, .Name z pz] kt pt] (.Tuple [a, b, c] k2 pt2) pos) (tS M W (mPar [i, j, l] ms)) := PS.imp (ps_par3 hc hN hi hj hl hij hil hjl hx hy hz ha hw hs) fun _ _ _ h => c_par3 h
/-- by a tuple that is made and unpacked -/
theorem gn_nil : PGs X [] (gNames []) := pgs_nil
theorem gn_cons (i : Nat) (hN : X.N.Nodup) (h2 : PGs X es (gNames is)) (hi : X.N[i]? = some x := by rfl) (hx : Loc X.env.scope x := by first | exact .inl rfl | exact .inr rfl)
    (hf : X.fn x = true ∨ X.env.scope.names.lookup x = some .local := by first | exact .inl rfl | exact .inr rfl) (hs : (assignEach (.Name x px :: es) X.env).map (·.2) = assign (.Name x px) X.env :: (assignEach es X.env).map (·.2) := by rfl) : PGs X (.Name x px :: es) (gNames (i :: is)) := pgs_cons (pg_name hN hi hx hf) h2 hs
theorem s_parN (is : List Nat) (hg : PGs X ts (gNames is)) (ha : PA X es (tK M W ms)) (hM : M.K = X.K := by rfl) (hz : is.length ≤ 1000 := by decide) (hc : X.calm = true := by rfl) (hn : (assignEach ts X.env).length = is.length := by rfl) (hst : (assignEach ts X.env).findIdx? (·.1) = none := by rfl)
    (hs : swapsWithSole [.Tuple ts kt pt] (.Tuple es k2 pt2) pos.line X.env = pure false := by rfl) (hw : swappedStores [.Tuple ts kt pt] (.Tuple es k2 pt2) X.env = pure none := by rfl)
    (h1 : (assignEach [.Tuple ts kt pt] X.env).map (·.2) = [assign (.Tuple ts kt pt) X.env] := by rfl) : PS X (.Assign [.Tuple ts kt pt] (.Tuple es k2 pt2) pos) (tS M W (mPar is ms)) := by
  obtain ⟨K, mg⟩ := M
  cases hM
  exact PS.imp (ps_asg (pe_tup ha) (pg_tup hc hg hn hst) hs hw h1) fun _ _ _ h => c_parN hz h
end

/-! ### x[i] = e, x.append(e), y = x.pop() -/
def setOwn (i : Nat) (l : List D) (d : D) (ρ : Env) (y : D) (st : Store) : SR := match y with
  | .int k => match ixN l.length k with
    | some j => .next (ρ.set i (.own (.lst (l.set j d)))) st
    | none => .bad
  | _ => .bad
def setCell (c : Nat) (d : D) (ρ : Env) (y : D) (st : Store) : SR := match y with
  | .int k => match st[c]? with
    | some l => match ixN l.length k with
      | some j => .next ρ (st.set c (l.set j d))
      | none => .bad
    | none => .bad
  | _ => .bad
def setIx (i : Nat) (mi : ME) (d : D) (ρ : Env) (s : Store) : SR := match ρ[i]? with
  | some (.own (.lst l)) => withE (mi ρ s) ρ fun y _ s2 => setOwn i l d ρ y s2
  | some (.val (.cell c)) => withE (mi ρ s) ρ fun y _ s2 => setCell c d ρ y s2
  | _ => .bad
def mSetIx (i : Nat) (mi me : ME) : MS := fun ρ st => withE (me ρ st) ρ fun d k s => match k with
  | .b => .bad
  | _ => setIx i mi d ρ s
def mAppend (i : Nat) (me : ME) : MS := fun ρ st => match ρ[i]? with
  | some (.own (.lst l)) => withE (me ρ st) ρ fun d k s => match k with
    | .b => .bad
    | _ => if l.length < 16777216 then .next (ρ.set i (.own (.lst (l ++ [d])))) s else .bad
  | _ => .bad
/-- j = i.pop() -/
def mPop (j i : Nat) : MS := fun ρ st => match ρ[i]? with
  | some (.own (.lst l)) => match l[l.length - 1]? with
    | some d => .next ((ρ.set i (.own (.lst l.dropLast))).set j (.val d)) st
    | none => .bad
  | _ => .bad
section
variable {M : Md} {W : WX} {E : Ent} {w w' w'' : Wd} {H H' H'' H0 H1 : Hp} {st st' : Store} {v u : V} {k : Kd} {d : D} {a b : Addr} {σ : St} {ρ : Env} {l m : List D} {xs ys vs : List V} {Dn : Ends} {is : List Nat}
/-- an owned list is changed -/
theorem Rel.chg (R : Rel M E w H σ ρ st) {i : Nat} (hi : ρ[i]? = some (.own (.lst l))) (hs : σ[i]? = some (some (.ref a))) (r : RepL M w H ys m) : Rel M E w (upd H a (.lst ys)) σ (ρ.set i (.own (.lst m))) st ∧ SExt w H w (upd H a (.lst ys)) := by
  obtain ⟨b, e, hE, nF, nC, xs, hH, rx⟩ := R.slot i _ hi
  rw [hs] at e
  cases e
  have se : SExt w H w (upd H a (.lst ys)) := upd_s nF
  have hl : i < ρ.length := (List.getElem?_eq_some_iff.mp hi).1
  refine ⟨⟨upd_st R.st nF nC, R.ext.upd hE, by simp [R.len], fun j s hj => ?_, fun j j' d1 d2 b hjl h1 h2 h3 h4 => ?_⟩, se⟩
  · by_cases hji : i = j
    · subst hji
      rw [List.getElem?_set_self hl] at hj
      cases hj
      exact ⟨a, hs, hE, nF, nC, ys, upd_same, r.mono se⟩
    · rw [List.getElem?_set_ne hji] at hj
      have q := R.slot j s hj
      cases s with
      | no => trivial
      | val d' => obtain ⟨v, e1, r1⟩ := q; exact ⟨v, e1, r1.mono se⟩
      | own d' =>
        obtain ⟨b, e1, e2, n1, n2, o2⟩ := q
        have ne : b ≠ a := fun z => by subst z; exact R.dist i j _ d' b hji hi hj hs e1
        refine ⟨b, e1, e2, n1, n2, ?_⟩
        cases d' with
        | lst l' => obtain ⟨xs', q1, q2⟩ := o2; exact ⟨xs', by rw [upd_ne ne]; exact q1, q2.mono se⟩
        | dct ks l' => obtain ⟨xs', q1, q2, q3⟩ := o2; exact ⟨xs', by rw [upd_ne ne]; exact q1, q2, q3.mono se⟩
        | _ => exact o2.elim
  · have g : ∀ (j : Nat) (d1 : D), (ρ.set i (.own (.lst m)))[j]? = some (.own d1) → ∃ d2, ρ[j]? = some (.own d2) := fun j d1 h => by
      by_cases hji : i = j
      · subst hji; exact ⟨_, hi⟩
      · rw [List.getElem?_set_ne hji] at h; exact ⟨_, h⟩
    obtain ⟨e1, h1⟩ := g j d1 h1
    obtain ⟨e2, h2⟩ := g j' d2 h2
    exact R.dist j j' e1 e2 b hjl h1 h2 h3 h4
/-- a cell is changed -/
theorem Rel.cell (R : Rel M E w H σ ρ st) {c : Nat} (hc : w.cells[c]? = some a) (r : RepL M w H ys m) : Rel M E w (upd H a (.lst ys)) σ ρ (st.set c m) ∧ SExt w H w (upd H a (.lst ys)) := by
  have mem : a ∈ w.cells := List.mem_of_getElem? hc
  have nF : ¬ w.F a := R.st.ok.Fc a mem
  have se : SExt w H w (upd H a (.lst ys)) := upd_s nF
  have there : ∀ x, H x ≠ none → upd H a (.lst ys) x ≠ none := fun x hx => by
    by_cases e : x = a
    · subst e; rw [upd_same]; exact fun z => nomatch z
    · rw [upd_ne e]; exact hx
  have inj : ∀ {i j : Nat} {x : Addr}, w.cells[i]? = some x → w.cells[j]? = some x → i = j := fun {i j x} h1 h2 => by
    obtain ⟨l1, e1⟩ := List.getElem?_eq_some_iff.mp h1
    obtain ⟨l2, e2⟩ := List.getElem?_eq_some_iff.mp h2
    exact (List.getElem_inj (h₀ := l1) (h₁ := l2) R.st.ok.nd).mp (e1.trans e2.symm)
  refine ⟨⟨⟨⟨fun x hx => there x (R.st.ok.Fh x hx), R.st.ok.Fc, fun x hx => there x (R.st.ok.ch x hx), R.st.ok.nd⟩, by simp [R.st.len], fun i l h => ?_⟩, ⟨R.ext.F, R.ext.F', fun x o hx hcx => ?_, fun x hx => there x (R.ext.there x hx), R.ext.cells⟩, R.len, fun j s hj => ?_, R.dist⟩, se⟩
  · by_cases hi : c = i
    · subst hi
      have hl : c < st.length := by rw [← R.st.len]; exact (List.getElem?_eq_some_iff.mp hc).1
      rw [List.getElem?_set_self hl] at h
      cases h
      exact ⟨a, ys, hc, upd_same, r.mono se⟩
    · rw [List.getElem?_set_ne hi] at h
      obtain ⟨b, xs, h1, h2, h3⟩ := R.st.at_ i l h
      have ne : b ≠ a := fun z => by subst z; exact hi (inj hc h1)
      exact ⟨b, xs, h1, by rw [upd_ne ne]; exact h2, h3.mono se⟩
  · have ne : x ≠ a := fun z => by
      subst z
      obtain ⟨t, e1, n1⟩ := R.ext.cells
      rw [e1] at mem
      rcases List.mem_append.mp mem with z | z
      · exact hcx z
      · rw [n1 x z] at hx; cases hx
    rw [upd_ne ne]
    exact R.ext.keep x o hx hcx
  · have q := R.slot j s hj
    cases s with
    | no => trivial
    | val d' => obtain ⟨v, e1, r1⟩ := q; exact ⟨v, e1, r1.mono se⟩
    | own d' =>
      obtain ⟨b, e1, e2, n1, n2, o2⟩ := q
      have ne : b ≠ a := fun z => by subst z; exact n2 mem
      refine ⟨b, e1, e2, n1, n2, ?_⟩
      cases d' with
      | lst l' => obtain ⟨xs', q1, q2⟩ := o2; exact ⟨xs', by rw [upd_ne ne]; exact q1, q2.mono se⟩
      | dct ks l' => obtain ⟨xs', q1, q2, q3⟩ := o2; exact ⟨xs', by rw [upd_ne ne]; exact q1, q2, q3.mono se⟩
      | _ => exact o2.elim
theorem c_setIx {i : Nat} {mi me : ME} (h : tS M W (mSetIx i mi me) Dn σ H) : tAsg (tE M W me) (gSub (tVar i) (tE M W mi) rSetL) Dn σ H := by
  refine bindS (f := fun d k s ρ => match k with
    | .b => .bad
    | _ => setIx i mi d ρ s) h fun E w ρ st w1 H1 v x k st1 R0 e1 R1 t1 q => ?_
  have hk : k ≠ .b := fun z => by subst z; exact q
  obtain ⟨w2, e2, se, _, _, s2, r2⟩ := t1.strong e1 R1.st hk
  have q : PostS M W E w H Dn (setIx i mi x ρ st1) := by
    cases k with
    | b => exact absurd rfl hk
    | s => exact q
    | f => exact q
  have R2 := R0.next e2 s2
  have se2 := e2.s R0.st.ok
  unfold setIx at q
  cases qs : ρ[i]? with
  | none => rw [qs] at q; exact q.elim
  | some sl =>
    rw [qs] at q
    cases sl with
    | no => exact q.elim
    | own d0 =>
      obtain ⟨a, ea, hE, o⟩ := R2.slot i _ qs
      cases d0 with
      | lst l =>
        refine ⟨.ref a, ea, ?_⟩
        refine ⟨E, w2, ρ, st1, R2, ?_⟩
        have q : PostS M W E w H Dn (withE (mi ρ st1) ρ fun y _ s2 => setOwn i l x ρ y s2) := q
        cases qm : mi ρ st1 with
        | bad => rw [qm] at q; exact q.elim
        | exc c s => rw [qm] at q; exact fun w' H' cls e R hc => q w' H' σ cls (se2.trans e) R hc
        | ok y ky s3 =>
          rw [qm] at q
          have q : PostS M W E w H Dn (setOwn i l x ρ y s3) := q
          intro w3 H3 yv e3 s3' t3
          have R3 := R2.next e3 s3'
          unfold setOwn at q
          cases y with
          | int kk =>
            dsimp only at q
            cases qj : ixN l.length kk with
            | none => rw [qj] at q; exact q.elim
            | some j =>
              rw [qj] at q
              obtain ⟨a', ea', _, _, _, xs, hH, rx⟩ := R3.slot i _ qs
              rw [ea] at ea'
              cases ea'
              have r3 := r2.mono (e3.s R2.st.ok)
              obtain ⟨R4, se4⟩ := R3.chg qs ea (rx.set r3 j)
              exact ⟨a, xs, kk, j, rfl, t3.see.int, hH, by rw [rx.length]; exact qj, q w3 _ σ ((se2.trans (e3.s R2.st.ok)).trans se4) R4⟩
          | _ => exact q.elim
      | _ => exact q.elim
    | val d0 =>
      obtain ⟨vv, ev, rv⟩ := R2.slot i _ qs
      cases d0 with
      | cell c =>
        refine ⟨vv, ev, E, w2, ρ, st1, R2, ?_⟩
        have q : PostS M W E w H Dn (withE (mi ρ st1) ρ fun y _ s2 => setCell c x ρ y s2) := q
        cases qm : mi ρ st1 with
        | bad => rw [qm] at q; exact q.elim
        | exc c s => rw [qm] at q; exact fun w' H' cls e R hc => q w' H' σ cls (se2.trans e) R hc
        | ok y ky s3 =>
          rw [qm] at q
          have q : PostS M W E w H Dn (setCell c x ρ y s3) := q
          intro w3 H3 yv e3 s3' t3
          have R3 := R2.next e3 s3'
          have rv3 := rv.mono (e3.s R2.st.ok)
          unfold setCell at q
          cases y with
          | int kk =>
            dsimp only at q
            cases ql : s3[c]? with
            | none => rw [ql] at q; exact q.elim
            | some l =>
              rw [ql] at q
              dsimp only at q
              cases qj : ixN l.length kk with
              | none => rw [qj] at q; exact q.elim
              | some j =>
                rw [qj] at q
                cases rv3 with
                | cell hc =>
                  obtain ⟨a, xs, h1, h2, h3⟩ := R3.st.at_ c l ql
                  rw [hc] at h1
                  cases h1
                  have r3 := r2.mono (e3.s R2.st.ok)
                  obtain ⟨R4, se4⟩ := R3.cell hc (h3.set r3 j)
                  exact ⟨_, xs, kk, j, rfl, t3.see.int, h2, by rw [h3.length]; exact qj, q w3 _ σ ((se2.trans (e3.s R2.st.ok)).trans se4) R4⟩
          | _ => exact q.elim
      | _ => exact q.elim
/-- an append -/
theorem c_append {i : Nat} {me : ME} (h : tS M W (mAppend i me) Dn σ H) : tDrop (tBM M.K "list" rAppend (tVar i) (tCons (tE M W me) tNil)) Dn σ H := by
  obtain ⟨E, w, ρ, st, R, h⟩ := h
  unfold mAppend at h
  cases qs : ρ[i]? with
  | none => rw [qs] at h; exact h.elim
  | some sl =>
    rw [qs] at h
    cases sl with
    | no => exact h.elim
    | val d => exact h.elim
    | own d0 =>
      cases d0 with
      | lst l =>
        obtain ⟨a, ea, hE, nF, nC, xs, hH, rx⟩ := R.slot i _ qs
        refine ⟨.ref a, ea, .inl ⟨rfl, xs, SqL.of hH⟩, E, w, ρ, st, R, ?_⟩
        have h : PostS M W E w H Dn (withE (me ρ st) ρ fun d k s => match k with
          | .b => .bad
          | _ => if l.length < 16777216 then .next (ρ.set i (.own (.lst (l ++ [d])))) s else .bad) := h
        cases qm : me ρ st with
        | bad => rw [qm] at h; exact h.elim
        | exc c s => rw [qm] at h; exact fun w' H' cls e R hc => h w' H' σ cls e R hc
        | ok d k s1 =>
          rw [qm] at h
          have hk : k ≠ .b := fun z => by subst z; exact h
          have h : PostS M W E w H Dn (if l.length < 16777216 then .next (ρ.set i (.own (.lst (l ++ [d])))) s1 else .bad) := by
            cases k with
            | b => exact absurd rfl hk
            | s => exact h
            | f => exact h
          by_cases hl : l.length < 16777216
          · rw [if_pos hl] at h
            intro w1 H1 v e1 st1 t1
            obtain ⟨w2, e2, se, _, _, s2, r2⟩ := t1.strong e1 st1 hk
            have R2 := R.next e2 s2
            obtain ⟨a', ea', _, _, _, xs2, hH2, rx2⟩ := R2.slot i _ qs
            rw [ea] at ea'
            cases ea'
            obtain ⟨R3, se3⟩ := R2.chg qs ea (rx2.append (.cons r2 .nil))
            exact ⟨a, xs2, v, rfl, rfl, hH2, by rw [rx2.length, sizeLine_eq]; exact hl, h w2 _ σ ((e2.s R.st.ok).trans se3) R3⟩
          · rw [if_neg hl] at h; exact h.elim
      | _ => exact h.elim
theorem c_pop {i j : Nat} (h : tS M W (mPop j i) Dn σ H) : tAsg (tBM0 M.K "list" rPop (tVar i)) (gName j) Dn σ H := by
  obtain ⟨E, w, ρ, st, R, h⟩ := h
  unfold mPop at h
  cases qs : ρ[i]? with
  | none => rw [qs] at h; exact h.elim
  | some sl =>
    rw [qs] at h
    cases sl with
    | no => exact h.elim
    | val d => exact h.elim
    | own d0 =>
      cases d0 with
      | lst l =>
        obtain ⟨a, ea, hE, nF, nC, xs, hH, rx⟩ := R.slot i _ qs
        have h : PostS M W E w H Dn (match l[l.length - 1]? with
          | some d => .next ((ρ.set i (.own (.lst l.dropLast))).set j (.val d)) st
          | none => .bad) := h
        cases ql : l[l.length - 1]? with
        | none => rw [ql] at h; exact h.elim
        | some d =>
          rw [ql] at h
          obtain ⟨v, hv, rv⟩ := rx.get ql
          obtain ⟨R3, se3⟩ := R.chg qs ea rx.dropLast
          exact ⟨.ref a, ea, .inl ⟨rfl, xs, SqL.of hH⟩, a, xs, v, rfl, rfl, hH, by rw [rx.length]; exact hv, h w _ _ se3 (R3.setVal j (rv.mono se3))⟩
      | _ => exact h.elim
end
section
variable {X : Cx} {M : Md} {W : WX} {a b c e o i' : Expr} {es ts : List Expr} {ma mb mc mi me : ME} {pos px py pz pt pt2 apos cpos spos : Pos} {x y : Str} {is : List Nat}
theorem s_setIx (i : Nat) (hi : PE X i' (tE M W mi)) (he : PE X e (tE M W me)) (hN : X.N[i]? = some x := by rfl) (hv : Vis X.env.scope x := by first | exact Or.inl rfl | exact Or.inr (Or.inl rfl) | exact Or.inr (Or.inr rfl))
    (hd : (x == ("__debug__" : Str)) = false := by decide) (hcd : (x == ("__classdict__" : Str)) = false := by decide)
    (ha : ∀ v, assign (.Subscript (.Name x px) i' pt) X.env v = (do
      let ov ← holding [v] (eval (.Name x px) X.env)
      let iv ← holding [v, ov] (eval i' X.env)
      standAt pt
      holding [v, ov, iv] (setItem ov iv v)
      release [v, ov, iv] []) := by intro _; rfl)
    (hs : swapsWithSole [.Subscript (.Name x px) i' pt] e pos.line X.env = pure false := by rfl) (hw : swappedStores [.Subscript (.Name x px) i' pt] e X.env = pure none := by rfl)
    (h1 : (assignEach [.Subscript (.Name x px) i' pt] X.env).map (·.2) = [assign (.Subscript (.Name x px) i' pt) X.env] := by rfl) : PS X (.Assign [.Subscript (.Name x px) i' pt] e pos) (tS M W (mSetIx i mi me)) :=
  PS.imp (ps_asg he (pg_sub (pe_var hN hv hd hcd) hi set_list ha) hs hw h1) fun _ _ _ h => c_setIx h
theorem s_append (i : Nat) (he : PE X e (tE M W me)) (hM : M.K = X.K := by rfl) (hN : X.N[i]? = some x := by rfl) (hv : Vis X.env.scope x := by first | exact Or.inl rfl | exact Or.inr (Or.inl rfl) | exact Or.inr (Or.inr rfl))
    (hd : (x == ("__debug__" : Str)) = false := by decide) (hcd : (x == ("__classdict__" : Str)) = false := by decide)
    (hbase : attributeBase (.Name x px) "append" X.env (eval (.Name x px) X.env) = eval (.Name x px) X.env := by rfl)
    (hfew : ((backTo cpos (starEach [e] X.env)).all (fun x => !x.1) && (backToKw cpos (keywordEach [] X.env)).all (fun x => x.1.isSome)
      && decide ([e].length + ([] : List Keyword).length + (if ([] : List Keyword).isEmpty then 0 else 1) < 30)) = true := by rfl)
    (hline : (apos.endLine == cpos.line) = true := by rfl) (hst : starEach [e] X.env = (false, eval e X.env) :: starEach [] X.env := by rfl) (hplain : (backTo cpos (starEach [] X.env)).any (·.1) = false := by rfl)
    (hs : swapsWith (.Call (.Attribute (.Name x px) "append" apos) [e] [] cpos) none spos.line X.env = pure false := by rfl) : PS X (.Expr (.Call (.Attribute (.Name x px) "append" apos) [e] [] cpos) spos) (tS M W (mAppend i me)) := by
  obtain ⟨K, mg⟩ := M
  cases hM
  exact PS.imp (ps_expr (pe_bm PySem.F.plainAttrs_list PySem.F.slot_list_append PySem.F.type_list_append mt_append (pe_var hN hv hd hcd) (pa_cons he pa_nil hst) hbase hfew hline hst hplain) hs) fun _ _ _ h => c_append h
theorem s_pop (j i : Nat) (hNd : X.N.Nodup) (hM : M.K = X.K := by rfl) (hN : X.N[i]? = some x := by rfl) (hv : Vis X.env.scope x := by first | exact Or.inl rfl | exact Or.inr (Or.inl rfl) | exact Or.inr (Or.inr rfl))
    (hd : (x == ("__debug__" : Str)) = false := by decide) (hcd : (x == ("__classdict__" : Str)) = false := by decide) (hj : X.N[j]? = some y := by rfl) (hy : Loc X.env.scope y := by first | exact .inl rfl | exact .inr rfl)
    (hf : X.fn y = true ∨ X.env.scope.names.lookup y = some .local := by first | exact .inl rfl | exact .inr rfl)
    (hbase : attributeBase (.Name x px) "pop" X.env (eval (.Name x px) X.env) = eval (.Name x px) X.env := by rfl) (hline : (apos.endLine == cpos.line) = true := by rfl)
    (hs : swapsWith (.Call (.Attribute (.Name x px) "pop" apos) [] [] cpos) (some (.Name y py)) spos.line X.env = pure false := by rfl) : PS X (.Assign [.Name y py] (.Call (.Attribute (.Name x px) "pop" apos) [] [] cpos) spos) (tS M W (mPop j i)) := by
  obtain ⟨K, mg⟩ := M
  cases hM
  exact PS.imp (ps_set hNd hj hy (pe_bm0 PySem.F.plainAttrs_list PySem.F.slot_list_pop PySem.F.type_list_pop mt_pop (pe_var hN hv hd hcd) hbase hline) hs hf) fun _ _ _ h => c_pop h
end

/-! ### a def by its mirror -/
def startE (ds : List D) (n : Nat) : Env := ds.map Slot.val ++ List.replicate n .no
def endF : SR → ER
  | .next _ s => .ok .non .s s
  | .ret d k s => match k with
    | .b => .bad
    | _ => .ok d k s
  | .exc c _ s => .exc c s
  | _ => .bad
def mFun (np n : Nat) (m : MS) : Fn := fun ds st => if ds.length = np then endF (m (startE ds (n - np)) st) else .bad
theorem mFun_len {np n : Nat} {m : MS} : ∀ ds st, ds.length ≠ np → mFun np n m ds st = .bad := fun ds st h => by unfold mFun; rw [if_neg h]
theorem mFun_nb {np n : Nat} {m : MS} : ∀ ds st d s, mFun np n m ds st ≠ .ok d .b s := fun ds st d s h => by
  unfold mFun at h
  split at h
  · cases q : m (startE ds (n - np)) st with
    | ret d' k s' =>
      rw [q] at h
      cases k with
      | b => cases h
      | s => cases h
      | f => cases h
    | next => rw [q] at h; cases h
    | exc => rw [q] at h; cases h
    | brk => rw [q] at h; cases h
    | cont => rw [q] at h; cases h
    | bad => rw [q] at h; cases h
  · cases h
theorem rel_start {M : Md} {w : Wd} {H : Hp} {st : Store} {vs : List V} {ds : List D} {N : List Str} (s : StOk M w H st) (r : RepL M w H vs ds) : Rel M ⟨w, H⟩ w H (L2.start N vs) (startE ds (N.length - ds.length)) st := by
  refine ⟨s, .refl, ?_, fun i sl h => ?_, fun i j d1 d2 a hij h1 => ?_⟩
  · unfold L2.start startE; simp [r.length]
  · unfold startE at h
    unfold L2.start
    by_cases hi : i < ds.length
    · rw [List.getElem?_append_left (by simpa using hi)] at h
      rw [List.getElem?_map] at h
      obtain ⟨d, hd, rfl⟩ := Option.map_eq_some_iff.mp h
      obtain ⟨v, hv, rv⟩ := r.get hd
      refine ⟨v, ?_, rv⟩
      rw [List.getElem?_append_left (by simpa [r.length] using hi), List.getElem?_map, hv]
      rfl
    · rw [List.getElem?_append_right (by simp; omega)] at h
      have : sl = .no := by
        have := List.mem_of_getElem? h
        exact (List.mem_replicate.mp this).2
      subst this
      trivial
  · exfalso
    unfold startE at h1
    by_cases hi : i < ds.length
    · rw [List.getElem?_append_left (by simpa using hi), List.getElem?_map] at h1
      obtain ⟨d, hd, e⟩ := Option.map_eq_some_iff.mp h1
      cases e
    · rw [List.getElem?_append_right (by simp; omega)] at h1
      have := (List.mem_replicate.mp (List.mem_of_getElem? h1)).2
      cases this
theorem fn_mk {P : Program} {w : World} {K : PySem.W.Frag} {mg : Str → Option Value} {base : Heap} {x qual : Str} {st : Stmt} {f : Addr} {fd : FuncData} {N ps : List Str} {k np n : Nat} {m : MS} (F : Fun K x qual st f fd) (S : FnScope N ps (defScope st)) (hnp : ps.length = np) (hn : N.length = n)
    (hbody : ∀ (cdv : Value) (A : Around) (outer : List PySem.Env) (s : Shared) (H : Hp) (E : XK), Room k (A.deeper (envOfC qual (defScope st) s.heap.objs.size f cdv)) →
      PSs (cxOf (L2.CX P w) P w K mg base N qual (defScope st) f cdv A outer s H E) (defBody st) (tS ⟨K, mg⟩ (fun cls d _ H => E cls d H) m)) : FnOk P w K mg base (L2.CX P w) (k + 1) f fd ps (spF ⟨K, mg⟩ np (mFun np n m)) := by
  refine F.okX S (fun vs H Q E h => by rw [hnp]; exact h.1) fun cdv A outer s H vs Q E hr h => ⟨_, hbody cdv A outer s H E hr, ?_⟩
  obtain ⟨hl, w0, ds, st0, s0, r0, h⟩ := h
  have hlen : ds.length = np := by rw [← r0.length]; exact hl
  refine ⟨⟨w0, H⟩, w0, _, st0, rel_start (N := N) s0 r0, ?_⟩
  unfold mFun at h
  rw [if_pos hlen] at h
  rw [hn, hlen]
  revert h
  cases m (startE ds (n - np)) st0 with
  | next ρ' s => exact fun h w' H' σ' _ R => h.2 w' H' _ R.ext R.st .non
  | ret d k s =>
    cases k with
    | b => exact fun h => h.elim
    | s => exact fun h w' H' v e s t => h.2 w' H' v e s t
    | f => exact fun h w' H' v e s t => h.2 w' H' v e s t
  | exc c ρ' s => exact fun h w' H' σ' cls _ R hc => h w' H' cls R.ext R.st hc
  | brk => exact fun h => h.elim
  | cont => exact fun h => h.elim
  | bad => exact fun h => h.elim

/-! ### the law's own call -/
theorem law_sp {K : PySem.W.Frag} {mg : Str → Option Value} {F : Fn} {H : Hp} {a : Addr} {ns : List Int} (hF : ∃ k st, F [.scr ns] [] = .ok (.bl true) k st ∧ k ≠ .b) (hO : Only H) (hS : SqL K H a (ns.map V.int)) : spF ⟨K, mg⟩ 1 F [.ref a] H (fun v _ => v = .bl true) fun _ _ _ => False := by
  obtain ⟨k, st, hF, hk⟩ := hF
  have fin : ∀ w : Wd, StOk ⟨K, mg⟩ w H [] → RepL ⟨K, mg⟩ w H [.ref a] [.scr ns] → spF ⟨K, mg⟩ 1 F [.ref a] H (fun v _ => v = .bl true) fun _ _ _ => False := fun w s r => by
    refine ⟨rfl, w, _, [], s, r, ?_⟩
    rw [hF]
    exact ⟨hk, fun w' H' v e s t => t.see.bl⟩
  rcases hS with hS | hS
  · obtain ⟨o, hfr⟩ : ∃ o, H a = some (.frz o (.lst (ns.map V.int))) := by
      rcases hS with h | h
      · rcases hO a with z | ⟨o, xs, z⟩
        · rw [z] at h; cases h
        · rw [z] at h; cases h
      · exact h
    refine fin ⟨fun x => x = a, []⟩ ⟨⟨fun x hx => ?_, fun x hx => absurd hx (by simp), fun x hx => absurd hx (by simp), by simp⟩, rfl, fun i l h => by simp at h⟩ (.cons (.scr rfl hfr) .nil)
    have hx : x = a := hx
    subst hx
    rw [hfr]
    exact fun z => nomatch z
  · exact fin ⟨fun _ => False, []⟩ ⟨⟨fun x hx => hx.elim, fun x hx => absurd hx (by simp), fun x hx => absurd hx (by simp), by simp⟩, rfl, fun i l h => by simp at h⟩ (.cons (.scrK fun H => .inr hS) .nil)
end Mi

namespace Mi
open PySem PySem.Spec L2
open PyProof.Rows hiding St
/-- a statement that is never come to -/
def mBad : MS := fun _ _ => .bad
theorem s_bad {X : Cx} {M : Md} {W : WX} {s : Stmt} : PS X s (tS M W mBad) := PS.imp ps_never fun _ _ _ h => by
  obtain ⟨E, w, ρ, st, R, h⟩ := h
  exact h
/-- what a caller of a def leans on -/
structure Fx (P : Program) (w : World) (K : PySem.W.Frag) (mg : Str → Option Value) (base : Heap) (x : Str) (k : Nat) (ps : List Str) (np : Nat) (F : Fn) : Prop where
  ex : ∃ (fa : Addr) (fd : FuncData), FnOk P w K mg base (L2.CX P w) k fa fd ps (spF ⟨K, mg⟩ np F) ∧ mg x = some (.ref fa) ∧ PySem.W.keepIn K (.ref fa) = true ∧ Binds K fd ps []
  len : ∀ ds st, ds.length ≠ np → F ds st = .bad
  nb : ∀ ds st d s, F ds st ≠ .ok d .b s
theorem Fx.mono {P : Program} {w : World} {K : PySem.W.Frag} {mg : Str → Option Value} {base : Heap} {x : Str} {j k : Nat} {ps : List Str} {np : Nat} {F : Fn} (f : Fx P w K mg base x j ps np F) (h : j ≤ k) : Fx P w K mg base x k ps np F := by
  obtain ⟨fa, fd, G, a, b, c⟩ := f.ex
  exact ⟨⟨fa, fd, G.mono h, a, b, c⟩, f.len, f.nb⟩
section
variable {X : Cx} {M : Md} {W : WX} {e : Expr} {es : List Expr} {ms : MA} {pos p : Pos} {x : Str} {k np : Nat} {ps : List Str} {F : Fn}
theorem x_f (f : Fx X.prog X.w M.K M.mg X.base x k ps np F) (hr : Room k X.A) (tk : Takes X W) (ha : PA X (e :: es) (tA M W ms)) (hg : Gl X x := by rfl) (hK : M.K = X.K := by rfl) (hmg : M.mg = X.mg := by rfl) (hdb : (x == ("__debug__" : Str)) = false := by decide)
    (he : starEach (e :: es) X.env = (false, eval e X.env) :: starEach es X.env := by rfl) (hpl : (backTo pos (starEach es X.env)).any (·.1) = false := by rfl) : PE X (.Call (.Name x p) (e :: es) [] pos) (tE M W (mCall F ms)) := by
  obtain ⟨K, mg⟩ := M
  cases hK
  cases hmg
  obtain ⟨fa, fd, G, a, b, c⟩ := f.ex
  exact x_call G hr hg a b c f.len f.nb tk ha hdb he hpl
end
end Mi

namespace Mi
open PySem PySem.Spec L2
open PyProof.Rows hiding St
section
variable {X : Cx} {M : Md} {W : WX} {pos : Pos} {x : Str}
theorem x_gI {i : Int} (hg : Gl X x) (hm : ∃ t, X.mg x = some (.int i t)) (hd : (x == ("__debug__" : Str)) = false := by decide) : PE X (.Name x pos) (tE M W (mC (.int i))) := by
  obtain ⟨t, h⟩ := hm
  exact x_globI hg h ⟨t, rfl⟩ hd
theorem x_gS {i : Str} (hg : Gl X x) (hm : ∃ t, X.mg x = some (.str i t)) (hd : (x == ("__debug__" : Str)) = false := by decide) : PE X (.Name x pos) (tE M W (mC (.str i))) := by
  obtain ⟨t, h⟩ := hm
  exact x_globS hg h ⟨t, rfl⟩ hd
theorem x_fv {P : Program} {w : World} {base : Heap} {k np : Nat} {ps : List Str} {F : Fn} (f : Fx P w M.K M.mg base x k ps np F) (hg : Gl X x) (hmg : M.mg = X.mg := by rfl) (hd : (x == ("__debug__" : Str)) = false := by decide) : PE X (.Name x pos) (tE M W (mC (.fn x))) := by
  obtain ⟨K, mg⟩ := M
  cases hmg
  obtain ⟨fa, fd, G, a, b, c⟩ := f.ex
  exact x_globF hg a rfl hd
end
/-- a def's mirror has come to its end with this value -/
def ER.isT : ER → Bool
  | .ok (.bl b) _ _ => b
  | _ => false
end Mi

namespace Mi
open PySem PySem.Spec L2
open PyProof.Rows hiding St
theorem fn_bad {P : Program} {w : World} {K : PySem.W.Frag} {mg : Str → Option Value} {base : Heap} {CX : CXT} {k np : Nat} {fa : Addr} {fd : FuncData} {ps : List Str} (h : ps.length = np := by rfl) : FnOk P w K mg base CX k fa fd ps (spF ⟨K, mg⟩ np fun _ _ => .bad) :=
  ⟨fun vs H Q E q => by rw [h]; exact q.1, fun A outer s H args us vs Q E _ _ _ _ q => by
    obtain ⟨_, _, _, _, _, _, z⟩ := q
    exact z.elim⟩
end Mi

namespace Mi
open PySem PySem.Spec L2
open PyProof.Rows hiding St
/-- a def of the text, as the written part has it -/
def FunFact (K : PySem.W.Frag) (x : Str) (st : Stmt) : Prop := ∃ (f : Addr) (oc : Value) (od : Option Addr) (kV doc pm : Value) (an : Option Addr) (cdv ct : Value) (osl : Array (Option Value)),
  PySem.W.nsIn K mainGlobals x = some (some (.ref f)) ∧ K.lookup f = some ⟨oc, od, .func (PySem.W.fnOf x x (defArgs st) (defBody st) (defScope st) .none kV doc pm an cdv ct), osl⟩ ∧ PySem.W.codeIn K cdv x = true ∧ PySem.W.keepIn K (.ref f) = true
theorem FunFact.of {K : PySem.W.Frag} {x : Str} {st : Stmt} {f : Addr} {oc : Value} {od : Option Addr} {kV doc pm : Value} {an : Option Addr} {cdv ct : Value} {osl : Array (Option Value)}
    (a : PySem.W.nsIn K mainGlobals x = some (some (.ref f))) (l : K.lookup f = some ⟨oc, od, .func (PySem.W.fnOf x x (defArgs st) (defBody st) (defScope st) .none kV doc pm an cdv ct), osl⟩) (c : PySem.W.codeIn K cdv x = true) (k : PySem.W.keepIn K (.ref f) = true) : FunFact K x st := ⟨f, oc, od, kV, doc, pm, an, cdv, ct, osl, a, l, c, k⟩
theorem glo_int {K : PySem.W.Frag} {h : Heap} {mg : Str → Option Value} {x : Str} {n : Int} {t : Tok} (X : K.In h) (G : h.Ns mainGlobals mg) (e : PySem.W.nsIn K mainGlobals x = some (some (.int n t))) : ∃ t, mg x = some (.int n t) := ⟨t, PySem.W.mg_of X G e⟩
theorem glo_str {K : PySem.W.Frag} {h : Heap} {mg : Str → Option Value} {x : Str} {n : Str} {t : Tok} (X : K.In h) (G : h.Ns mainGlobals mg) (e : PySem.W.nsIn K mainGlobals x = some (some (.str n t))) : ∃ t, mg x = some (.str n t) := ⟨t, PySem.W.mg_of X G e⟩
theorem FunFact.at {K : PySem.W.Frag} {x : Str} {st : Stmt} {h : Heap} {mg : Str → Option Value} (F : FunFact K x st) (X : K.In h) (G : h.Ns mainGlobals mg) : ∃ f fd, Fun K x x st f fd ∧ mg x = some (.ref f) := by
  obtain ⟨f, oc, od, kV, doc, pm, an, cdv, ct, osl, a, l, c, k⟩ := F
  exact ⟨f, _, fun_mk l c k, PySem.W.mg_of X G a⟩
/-- what the law itself promises -/
def spLaw (n : Nat) (K : PySem.W.Frag) : Sp := fun vs H Q _ => ∃ (a : Addr) (ns : List Int), vs = [.ref a] ∧ ns.length ≤ n ∧ (∀ z ∈ ns, Builtin.Int.intBits z ≤ 1048576) ∧ Only H ∧ SqL K H a (ns.map V.int) ∧ ∀ v H', v = .bl true → Q v H'
theorem spLaw_imp {n : Nat} {K : PySem.W.Frag} {mg : Str → Option Value} {F : Fn} (hF : ∀ ns : List Int, ns.length ≤ n → (∀ z ∈ ns, Builtin.Int.intBits z ≤ 1048576) → ∃ k st, F [.scr ns] [] = .ok (.bl true) k st ∧ k ≠ .b) : ∀ vs H Q E, spLaw n K vs H Q E → spF ⟨K, mg⟩ 1 F vs H Q E := by
  rintro vs H Q E ⟨a, ns, rfl, hl, hb, hO, hS, q⟩
  obtain ⟨k, st, hF, hk⟩ := hF ns hl hb
  have fin : ∀ w : Wd, StOk ⟨K, mg⟩ w H [] → RepL ⟨K, mg⟩ w H [.ref a] [.scr ns] → spF ⟨K, mg⟩ 1 F [.ref a] H Q E := fun w s r => by
    refine ⟨rfl, w, _, [], s, r, ?_⟩
    rw [hF]
    exact ⟨hk, fun w' H' v e s t => q v H' t.see.bl⟩
  rcases hS with hS | hS
  · obtain ⟨o, hfr⟩ : ∃ o, H a = some (.frz o (.lst (ns.map V.int))) := by
      rcases hS with h | h
      · rcases hO a with z | ⟨o, xs, z⟩
        · rw [z] at h; cases h
        · rw [z] at h; cases h
      · exact h
    refine fin ⟨fun x => x = a, []⟩ ⟨⟨fun x hx => ?_, fun x hx => absurd hx (by simp), fun x hx => absurd hx (by simp), by simp⟩, rfl, fun i l h => by simp at h⟩ (.cons (.scr rfl hfr) .nil)
    have hx : x = a := hx
    subst hx
    rw [hfr]
    exact fun z => nomatch z
  · exact fin ⟨fun _ => False, []⟩ ⟨⟨fun x hx => hx.elim, fun x hx => absurd hx (by simp), fun x hx => absurd hx (by simp), by simp⟩, rfl, fun i l h => by simp at h⟩ (.cons (.scrK fun H => .inr hS) .nil)
theorem cx_none {P : Program} {w : World} {H : Hp} {s : Shared} {e : Value} {s' : Shared} (h : L2.CX P w [] H s (fun _ _ _ => False) e s') : False := by
  obtain ⟨_, _, _, _, _, _, _, _, _, _, _, _, z⟩ := h
  exact z.elim
theorem loose_int {lv : List (Str × PySem.W.WData)} {mg : Str → Option Value} {h : Heap} {x : Str} {n : Int} (L : PySem.W.LooseAre lv mg h) (m : (x, PySem.W.WData.int n) ∈ lv) : ∃ t, mg x = some (.int n t) := by
  obtain ⟨v, a, b⟩ := L.val _ m
  cases b
  exact ⟨_, a⟩
/-- the goal that k_head leaves, with the loose names' facts -/
theorem walk_end {l : PySem.W.OpenLaw} {n k : Nat} {q : Program} {loose : List Str} {XP : (Str → Option Value) → Heap → Prop} {YP : World → Heap → Prop} {d : DefRec} {K : Params → PySem.W.Frag} {x : Str}
    (hn : l.most = some n) (hn2 : n ≤ sizeLine) (hdf : d.params.defaults = []) (hr : Room k callerA)
    (hY : ∀ (w : World) (h : Heap), YP w h → (K w.params).In h)
    (F : ∀ (w : World) (mg : Str → Option Value) (fa : Addr) (h : Heap), (K w.params).In h → h.Ns mainGlobals mg → mg d.name = some (.ref fa) → XP mg h →
      ∃ fd : FuncData, (∀ (s : Shared) (u : Value), BindsTo s fd ⟨[u], []⟩ [(x, u)]) ∧
        ∀ base : Heap, (K w.params).In base → base.Ns mainGlobals mg → FnOk l.prog w (K w.params) mg base (L2.CX l.prog w) k fa fd [x] (spLaw n (K w.params))) :
    PySem.W.WalkO q loose XP YP l.row.toRowW d [] (fun f vs => PySem.call f vs) := by
  refine Att.attach_callB hn hdf fun w s₀ s₁ mg mb fa o pm cd doc a vs ns G Y ho hd hcd hmg hobj hints hlen hbits hg => ?_
  have KX := hY w _ Y
  obtain ⟨fd, hb, hF⟩ := F w mg fa _ KX G.T.g hmg G.X
  exact law_call KX G.T.g G.T.b G.T.builtins G.T.nolimit hg hobj hints (Nat.le_trans hlen hn2) hr hF hb (fun H hO hS => ⟨a, ns, rfl, hlen, hbits, hO, hS, fun v H' h => h⟩) fun H e s' => cx_none
end Mi

set_option maxRecDepth 100000
/-! frames: what runs over no store runs over any store -/
namespace Mi
open PySem PySem.Spec L2
open PyProof.Rows hiding St
inductive LE (st : Store) : ER → ER → Prop
  | bad {r : ER} : LE st .bad r
  | ok {d : D} {k : Kd} : LE st (.ok d k []) (.ok d k st)
  | exc {c : Str} : LE st (.exc c []) (.exc c st)
inductive LA (st : Store) : AR → AR → Prop
  | bad {r : AR} : LA st .bad r
  | ok {d : List D} : LA st (.ok d []) (.ok d st)
  | exc {c : Str} : LA st (.exc c []) (.exc c st)
inductive LK (st : Store) : KR → KR → Prop
  | bad {r : KR} : LK st .bad r
  | ok {d : List (D × Kd)} : LK st (.ok d []) (.ok d st)
  | exc {c : Str} : LK st (.exc c []) (.exc c st)
inductive LS (st : Store) : SR → SR → Prop
  | bad {r : SR} : LS st .bad r
  | next {ρ : Env} : LS st (.next ρ []) (.next ρ st)
  | ret {d : D} {k : Kd} : LS st (.ret d k []) (.ret d k st)
  | brk {ρ : Env} : LS st (.brk ρ []) (.brk ρ st)
  | cont {ρ : Env} : LS st (.cont ρ []) (.cont ρ st)
  | exc {c : Str} {ρ : Env} : LS st (.exc c ρ []) (.exc c ρ st)
def FE (m : ME) : Prop := ∀ ρ st, LE st (m ρ []) (m ρ st)
def FA (m : MA) : Prop := ∀ ρ st, LA st (m ρ []) (m ρ st)
def FK (m : MK) : Prop := ∀ ρ st, LK st (m ρ []) (m ρ st)
def FS (m : MS) : Prop := ∀ ρ st, LS st (m ρ []) (m ρ st)
def FF (F : Fn) : Prop := ∀ ds st, LE st (F ds []) (F ds st)
section
variable {st : Store} {ma mb mc : ME} {ms : MA} {a b : MS} {F : Fn} {f : D → D → Option D} {g : D → Option D}
theorem LE.bind {r r' : ER} {f f' : D → Kd → Store → ER} (h : LE st r r') (hf : ∀ d k, LE st (f d k []) (f' d k st)) : LE st (r.bind f) (r'.bind f') := by
  cases h with
  | bad => exact .bad
  | ok => exact hf _ _
  | exc => exact .exc
theorem le_mk (o : Option D) : LE st (mk o []) (mk o st) := by
  cases o with
  | none => exact .bad
  | some d => exact .ok
theorem fe_C {d : D} : FE (mC d) := fun _ _ => .ok
theorem fe_V {i : Nat} : FE (mV i) := fun ρ st => by
  unfold mV
  split
  · exact .ok
  · exact .ok
  · exact .bad
theorem fe_Op1 (h : FE ma) : FE (mOp1 g ma) := fun ρ st => (h ρ st).bind fun _ _ => le_mk _
theorem fe_IsI {T : TyN} (h : FE ma) : FE (mIsI T ma) := fe_Op1 h
theorem fe_Op2 (h : FE ma) (h2 : FE mb) : FE (mOp2 f ma mb) := fun ρ st => (h ρ st).bind fun _ _ => (h2 ρ st).bind fun _ _ => le_mk _
theorem fe_Not (h : FE ma) : FE (mNot ma) := fun ρ st => (h ρ st).bind fun d _ => by
  cases d.tru with
  | none => exact .bad
  | some b => exact .ok
theorem fe_And (h : FE ma) (h2 : FE mb) : FE (mAnd ma mb) := fun ρ st => (h ρ st).bind fun d _ => by
  cases d.tru with
  | none => exact .bad
  | some b => cases b with
    | true => exact h2 ρ st
    | false => exact .ok
theorem fe_Or (h : FE ma) (h2 : FE mb) : FE (mOr ma mb) := fun ρ st => (h ρ st).bind fun d _ => by
  cases d.tru with
  | none => exact .bad
  | some b => cases b with
    | true => exact .ok
    | false => exact h2 ρ st
theorem fe_If (h0 : FE mc) (h : FE ma) (h2 : FE mb) : FE (mIf mc ma mb) := fun ρ st => (h0 ρ st).bind fun d _ => by
  cases d.tru with
  | none => exact .bad
  | some b => cases b with
    | true => exact h ρ st
    | false => exact h2 ρ st
theorem fe_Chain {f g : D → D → Option D} (h0 : FE ma) (h : FE mb) (h2 : FE mc) : FE (mChain f g ma mb mc) := fun ρ st => (h0 ρ st).bind fun x _ => (h ρ st).bind fun y _ => by
  cases f x y with
  | none => exact .bad
  | some d => cases d with
    | bl b => cases b with
      | true => exact (h2 ρ st).bind fun _ _ => le_mk _
      | false => exact .ok
    | _ => exact .bad
theorem fa_Nil : FA aNil := fun _ _ => .ok
theorem fa_Cons (h : FE ma) (h2 : FA ms) : FA (aCons ma ms) := fun ρ st => by
  have h := h ρ st
  have h2 := h2 ρ st
  unfold aCons
  revert h
  generalize ma ρ [] = r
  generalize ma ρ st = r'
  intro h
  cases h with
  | bad => exact .bad
  | exc => exact .exc
  | @ok d k =>
    dsimp only
    revert h2
    generalize ms ρ [] = q
    generalize ms ρ st = q'
    intro h2
    cases k <;> (try exact .bad) <;> (cases h2 <;> constructor)
theorem fa_lCons (h : FE ma) (h2 : FA ms) : FA (lCons ma ms) := fun ρ st => by
  have h := h ρ st
  have h2 := h2 ρ st
  unfold lCons
  revert h
  generalize ma ρ [] = r
  generalize ma ρ st = r'
  intro h
  cases h with
  | bad => exact .bad
  | exc => exact .exc
  | @ok d k =>
    dsimp only
    revert h2
    generalize ms ρ [] = q
    generalize ms ρ st = q'
    intro h2
    cases h2 <;> constructor
theorem LA.bind {r r' : AR} {f f' : List D → Store → ER} (h : LA st r r') (hf : ∀ d, LE st (f d []) (f' d st)) : LE st (r.bind f) (r'.bind f') := by
  cases h with
  | bad => exact .bad
  | ok => exact hf _
  | exc => exact .exc
theorem fe_Tup (h : FA ms) : FE (mTup ms) := fun ρ st => (h ρ st).bind fun d => by
  by_cases q : d.length ≤ 16777216
  · rw [if_pos q, if_pos q]; exact .ok
  · rw [if_neg q]; exact .bad
theorem fe_Lst (h : FA ms) : FE (mLst ms) := fun ρ st => (h ρ st).bind fun d => by
  by_cases q : d.length ≤ 16777216
  · rw [if_pos q, if_pos q]; exact .ok
  · rw [if_neg q]; exact .bad
theorem fe_B {f : List D → Option D} (h : FA ms) : FE (mB f ms) := fun ρ st => (h ρ st).bind fun d => le_mk _
theorem fe_Ix (h : FE ma) (h2 : FE mb) : FE (mIx ma mb) := fun ρ st => (h ρ st).bind fun x _ => (h2 ρ st).bind fun y _ => by
  cases x with
  | cell c => exact .bad
  | _ =>
    dsimp only [ixS]
    split
    · exact .ok
    · exact .bad
theorem fe_Call (hF : FF F) (h : FA ms) : FE (mCall F ms) := fun ρ st => (h ρ st).bind fun d => hF d st
theorem le_part {lo : Option ME} (h : ∀ m ∈ lo, FE m) (ρ : Env) {f f' : Option Int → Store → ER} (hf : ∀ i, LE st (f i []) (f' i st)) : LE st (part lo ρ [] f) (part lo ρ st f') := by
  cases lo with
  | none => exact hf none
  | some m =>
    refine (h m rfl ρ st).bind fun d _ => ?_
    cases d with
    | int i => exact hf _
    | _ => exact .bad
theorem fo_none : ∀ m ∈ (none : Option ME), FE m := fun _ h => by cases h
theorem fo_some (h : FE ma) : ∀ m ∈ some ma, FE m := fun _ q => by cases q; exact h
theorem fe_Sl {lo hi : Option ME} (h : FE ma) (h1 : ∀ m ∈ lo, FE m) (h2 : ∀ m ∈ hi, FE m) : FE (mSl ma lo hi) := fun ρ st => (h ρ st).bind fun x _ => le_part h1 ρ fun l => le_part h2 ρ fun r => le_mk _
theorem fe_Rev (h : FE ma) : FE (mRev ma) := fun ρ st => (h ρ st).bind fun x _ => by
  cases x with
  | lst l => exact .ok
  | _ => exact .bad
theorem LE.with {r r' : ER} {ρ : Env} {f f' : D → Kd → Store → SR} (h : LE st r r') (hf : ∀ d k, LS st (f d k []) (f' d k st)) : LS st (withE r ρ f) (withE r' ρ f') := by
  cases h with
  | bad => exact .bad
  | ok => exact hf _ _
  | exc => exact .exc
theorem LS.bind {r r' : SR} {f f' : MS} (h : LS st r r') (hf : ∀ ρ, LS st (f ρ []) (f' ρ st)) : LS st (r.bind f) (r'.bind f') := by
  cases h with
  | next => exact hf _
  | bad => exact .bad
  | ret => exact .ret
  | brk => exact .brk
  | cont => exact .cont
  | exc => exact .exc
theorem fs_Skip : FS mSkip := fun _ _ => .next
theorem fs_Seq (h : FS a) (h2 : FS b) : FS (mSeq a b) := fun ρ st => (h ρ st).bind fun ρ => h2 ρ st
theorem fs_Expr (h : FE ma) : FS (mExpr ma) := fun ρ st => (h ρ st).with fun _ _ => .next
theorem fs_Set {i : Nat} (h : FE ma) : FS (mSet i ma) := fun ρ st => (h ρ st).with fun _ k => by
  cases k with
  | s => exact .next
  | f => exact .next
  | b => exact .bad
theorem fs_Ret (h : FE ma) : FS (mRet ma) := fun ρ st => (h ρ st).with fun _ k => by
  cases k with
  | s => exact .ret
  | f => exact .ret
  | b => exact .bad
theorem fs_RetV {i : Nat} : FS (mRetV i) := fun ρ st => by
  unfold mRetV
  split
  · exact .ret
  · exact .ret
  · exact .bad
theorem fs_RetN : FS mRetN := fun _ _ => .ret
theorem fs_IfS (h : FE mc) (h1 : FS a) (h2 : FS b) : FS (mIfS mc a b) := fun ρ st => (h ρ st).with fun d _ => by
  cases d.tru with
  | none => exact .bad
  | some b => cases b with
    | true => exact h1 ρ st
    | false => exact h2 ρ st
theorem fs_Frz {i : Nat} : FS (mFrz i) := fun ρ st => by
  unfold mFrz
  split
  · exact .next
  · exact .next
theorem fs_Brk : FS mBrk := fun _ _ => .brk
theorem fs_Cont : FS mCont := fun _ _ => .cont
theorem fs_Bad : FS mBad := fun _ _ => .bad
theorem fs_Asg {g : MG} (h : FE ma) : FS (mAsg g ma) := fun ρ st => (h ρ st).with fun d k => by
  cases k with
  | b => exact .bad
  | _ =>
    dsimp only
    split
    · exact .next
    · exact .bad
theorem LS.step {r r' : SR} {f f' : MS} (h : LS st r r') (hf : ∀ ρ, LS st (f ρ []) (f' ρ st)) : LS st (stepL r f) (stepL r' f') := by
  cases h with
  | next => exact hf _
  | bad => exact .bad
  | ret => exact .ret
  | brk => exact .next
  | cont => exact hf _
  | exc => exact .exc
theorem fs_WhileN (h : FE mc) (h1 : FS a) : ∀ n, FS (whileN mc a n)
  | 0 => fun _ _ => .bad
  | n + 1 => fun ρ st => by
    rw [whileN_succ, whileN_succ]
    refine (h ρ st).with fun d _ => ?_
    cases d.tru with
    | none => exact .bad
    | some b => cases b with
      | true => exact (h1 ρ st).step fun ρ' => fs_WhileN h h1 n ρ' st
      | false => exact .next
theorem fs_While (h : FE mc) (h1 : FS a) : FS (mWhile mc a) := fs_WhileN h h1 _
theorem fs_forL {g : MG} (h1 : FS a) : ∀ ds, FS (forL g a ds)
  | [] => fun _ _ => .next
  | d :: ds => fun ρ st => by
    unfold forL
    cases g d ρ with
    | none => exact .bad
    | some ρ' => exact (h1 ρ' st).step fun ρ2 => fs_forL h1 ds ρ2 st
theorem fs_For {g : MG} {mi : MI} (h : FA mi) (h1 : FS a) : FS (mFor mi g a) := fun ρ st => by
  have h := h ρ st
  unfold mFor
  revert h
  generalize mi ρ [] = r
  generalize mi ρ st = r'
  intro h
  cases h with
  | bad => exact .bad
  | exc => exact .exc
  | ok => exact fs_forL h1 _ ρ st
theorem fi_Seq (h : FE ma) : FA (iSeq ma) := fun ρ st => by
  have h := h ρ st
  unfold iSeq
  revert h
  generalize ma ρ [] = r
  generalize ma ρ st = r'
  intro h
  cases h with
  | bad => exact .bad
  | exc => exact .exc
  | @ok d k => cases k <;> (try exact .bad) <;> (cases d <;> first | exact .ok | exact .bad)
theorem fi_EnumD (h : FE ma) : FA (iEnumD ma) := fun ρ st => by
  have h := h ρ st
  unfold iEnumD
  revert h
  generalize ma ρ [] = r
  generalize ma ρ st = r'
  intro h
  cases h with
  | bad => exact .bad
  | exc => exact .exc
  | @ok d k => cases k <;> (try exact .bad) <;> (cases d <;> first | exact .ok | exact .bad)
theorem fi_Range (h : FA ms) : FA (iRange ms) := fun ρ st => by
  have h := h ρ st
  unfold iRange
  revert h
  generalize ms ρ [] = r
  generalize ms ρ st = r'
  intro h
  cases h with
  | bad => exact .bad
  | exc => exact .exc
  | ok =>
    dsimp only
    split <;> first | exact .bad | (split <;> first | exact .ok | exact .bad)
theorem fi_ZipD (h : FA ms) : FA (iZipD ms) := fun ρ st => by
  have h := h ρ st
  unfold iZipD
  revert h
  generalize ms ρ [] = r
  generalize ms ρ st = r'
  intro h
  cases h with
  | bad => exact .bad
  | exc => exact .exc
  | ok =>
    dsimp only [zipI]
    split <;> first | exact .ok | exact .bad
theorem la_test {mt : Option ME} (h : ∀ m ∈ mt, FE m) (ρ : Env) {f f' : Bool → Store → AR} (hf : ∀ b, LA st (f b []) (f' b st)) : LA st (testO mt ρ [] f) (testO mt ρ st f') := by
  cases mt with
  | none => exact hf true
  | some m =>
    have h := h m rfl ρ st
    unfold testO
    dsimp only
    revert h
    generalize m ρ [] = r
    generalize m ρ st = r'
    intro h
    cases h with
    | bad => exact .bad
    | exc => exact .bad
    | @ok d k =>
      dsimp only
      cases d.tru with
      | none => exact .bad
      | some b => exact hf b
theorem la_compL {g : MG} {mt : Option ME} {me : ME} (h : ∀ m ∈ mt, FE m) (h2 : FE me) (ρ : Env) : ∀ ds, LA st (compL g mt me ρ ds []) (compL g mt me ρ ds st)
  | [] => .ok
  | d :: ds => by
    unfold compL
    cases g d ρ with
    | none => exact .bad
    | some ρ1 =>
      dsimp only
      refine la_test h ρ1 fun b => ?_
      have ih := la_compL h h2 ρ ds (g := g)
      cases b with
      | false => exact ih
      | true =>
        rw [if_pos rfl, if_pos rfl]
        have h2 := h2 ρ1 st
        revert h2
        generalize me ρ1 [] = r
        generalize me ρ1 st = r'
        intro h2
        cases h2 with
        | bad => exact .bad
        | exc => exact .bad
        | @ok y k =>
          have : LA st (consA y (compL g mt me ρ ds [])) (consA y (compL g mt me ρ ds st)) := by
            revert ih
            generalize compL g mt me ρ ds [] = q
            generalize compL g mt me ρ ds st = q'
            intro ih
            cases ih with
            | bad => exact .bad
            | exc => exact .bad
            | ok => exact .ok
          cases k with
          | b => exact .bad
          | s => exact this
          | f => exact this
theorem fe_Comp {vs : List Nat} {mi : MI} {g : MG} {mt : Option ME} {me : ME} (h0 : FA mi) (h : ∀ m ∈ mt, FE m) (h2 : FE me) : FE (mComp vs mi g mt me) := fun ρ st => by
  have h0 := h0 ρ st
  unfold mComp
  revert h0
  generalize mi ρ [] = r
  generalize mi ρ st = r'
  intro h0
  cases h0 with
  | bad => exact .bad
  | exc => exact .exc
  | @ok ds =>
    dsimp only
    by_cases q : ds.length ≤ 16777216
    · rw [if_pos q, if_pos q]
      have ih := la_compL h h2 (wipeE ρ vs) ds (g := g) (st := st)
      revert ih
      generalize compL g mt me (wipeE ρ vs) ds [] = q
      generalize compL g mt me (wipeE ρ vs) ds st = q'
      intro ih
      cases ih with
      | bad => exact .bad
      | exc => exact .bad
      | ok => exact .ok
    · rw [if_neg q]; exact .bad
theorem fk_Nil : FK kNil := fun _ _ => .ok
theorem fk_Cons {ms : MK} (h : FE ma) (h2 : FK ms) : FK (kCons ma ms) := fun ρ st => by
  have h := h ρ st
  have h2 := h2 ρ st
  unfold kCons
  revert h
  generalize ma ρ [] = r
  generalize ma ρ st = r'
  intro h
  cases h with
  | bad => exact .bad
  | exc => exact .exc
  | @ok d k =>
    dsimp only
    revert h2
    generalize ms ρ [] = q
    generalize ms ρ st = q'
    intro h2
    cases h2 <;> constructor
theorem fs_Par {is : List Nat} {ms : MK} (h : FK ms) : FS (mPar is ms) := fun ρ st => by
  have h := h ρ st
  unfold mPar
  revert h
  generalize ms ρ [] = r
  generalize ms ρ st = r'
  intro h
  cases h with
  | bad => exact .bad
  | exc => exact .exc
  | ok =>
    dsimp only
    split
    · exact .next
    · exact .bad
theorem fs_SetIx {i : Nat} {mi me : ME} (h : FE mi) (h2 : FE me) : FS (mSetIx i mi me) := fun ρ st => (h2 ρ st).with fun d k => by
  have : LS st (setIx i mi d ρ []) (setIx i mi d ρ st) := by
    unfold setIx
    split
    · refine (h ρ st).with fun y _ => ?_
      unfold setOwn
      split
      · split
        · exact .next
        · exact .bad
      · exact .bad
    · refine (h ρ st).with fun y _ => ?_
      cases y with
      | int k => exact .bad
      | _ => exact .bad
    · exact .bad
  cases k with
  | b => exact .bad
  | s => exact this
  | f => exact this
theorem fs_Append {i : Nat} (h : FE ma) : FS (mAppend i ma) := fun ρ st => by
  unfold mAppend
  split
  · refine (h ρ st).with fun d k => ?_
    cases k with
    | b => exact .bad
    | _ =>
      dsimp only
      split
      · exact .next
      · exact .bad
  · exact .bad
theorem fs_Pop {j i : Nat} : FS (mPop j i) := fun ρ st => by
  unfold mPop
  split
  · split
    · exact .next
    · exact .bad
  · exact .bad
theorem ff_Fun {np n : Nat} {m : MS} (h : FS m) : FF (mFun np n m) := fun ds st => by
  unfold mFun
  by_cases q : ds.length = np
  · rw [if_pos q, if_pos q]
    have h := h (startE ds (n - np)) st
    revert h
    generalize m (startE ds (n - np)) [] = r
    generalize m (startE ds (n - np)) st = r'
    intro h
    cases h with
    | bad => exact .bad
    | next => exact .ok
    | @ret d k => cases k <;> constructor
    | brk => exact .bad
    | cont => exact .bad
    | exc => exact .exc
  · rw [if_neg q]; exact .bad
theorem ff_bad : FF (fun _ _ => .bad) := fun _ _ => .bad
end
/-! ### what a kernel run tells -/
mutual
def D.same : D → D → Bool
  | .non, .non => true
  | .bl a, .bl b => a == b
  | .int a, .int b => decide (a = b)
  | .str a, .str b => decide (a = b)
  | .tup a, .tup b => D.sameL a b
  | .lst a, .lst b => D.sameL a b
  | _, _ => false
def D.sameL : List D → List D → Bool
  | [], [] => true
  | a :: l, b :: m => D.same a b && D.sameL l m
  | _, _ => false
end
mutual
theorem D.same_eq : ∀ {a b : D}, D.same a b = true → a = b
  | .non, .non, _ => rfl
  | .bl a, .bl b, h => by simp only [D.same, beq_iff_eq] at h; rw [h]
  | .int a, .int b, h => by simp only [D.same, decide_eq_true_eq] at h; rw [h]
  | .str a, .str b, h => by simp only [D.same, decide_eq_true_eq] at h; rw [h]
  | .tup a, .tup b, h => by simp only [D.same] at h; rw [D.sameL_eq h]
  | .lst a, .lst b, h => by simp only [D.same] at h; rw [D.sameL_eq h]
theorem D.sameL_eq : ∀ {a b : List D}, D.sameL a b = true → a = b
  | [], [], _ => rfl
  | a :: l, b :: m, h => by
    simp only [D.sameL, Bool.and_eq_true] at h
    rw [D.same_eq h.1, D.sameL_eq h.2]
end
/-- a strong answer d, over no store -/
def ER.isV (r : ER) (d : D) : Bool := match r with
  | .ok x .s [] => x.same d
  | _ => false
def ER.isF (r : ER) (d : D) : Bool := match r with
  | .ok x .f [] => x.same d
  | _ => false
theorem ER.isV_eq {r : ER} {d : D} (h : r.isV d = true) : r = .ok d .s [] := by
  unfold ER.isV at h
  split at h
  · rw [D.same_eq h]
  · cases h
theorem ER.isF_eq {r : ER} {d : D} (h : r.isF d = true) : r = .ok d .f [] := by
  unfold ER.isF at h
  split at h
  · rw [D.same_eq h]
  · cases h
theorem FF.isV {F : Fn} (f : FF F) {ds : List D} {d : D} (h : (F ds []).isV d = true) (st : Store) : F ds st = .ok d .s st := by
  have q := f ds st
  rw [ER.isV_eq h] at q
  generalize F ds st = r at q ⊢
  cases q
  rfl
theorem FF.isF {F : Fn} (f : FF F) {ds : List D} {d : D} (h : (F ds []).isF d = true) (st : Store) : F ds st = .ok d .f st := by
  have q := f ds st
  rw [ER.isF_eq h] at q
  generalize F ds st = r at q ⊢
  cases q
  rfl
theorem FF.ok {F : Fn} (f : FF F) {ds : List D} {d : D} {k : Kd} (h : F ds [] = .ok d k []) (st : Store) : F ds st = .ok d k st := by
  have q := f ds st
  rw [h] at q
  generalize F ds st = r at q ⊢
  cases q
  rfl
def SR.isN : SR → Bool
  | .next _ [] => true
  | _ => false
def SR.env : SR → Env
  | .next ρ _ => ρ
  | _ => []
theorem FS.isN {m : MS} (f : FS m) {ρ : Env} (h : (m ρ []).isN = true) (st : Store) : m ρ st = .next (m ρ []).env st := by
  have q := f ρ st
  generalize m ρ [] = r at q h ⊢
  generalize m ρ st = r' at q ⊢
  cases q <;> first | rfl | cases h
theorem seq_isN {a b : MS} (f : FS a) {ρ : Env} (h : (a ρ []).isN = true) (st : Store) : mSeq a b ρ st = b (a ρ []).env st := by
  unfold mSeq
  rw [f.isN h st]
  rfl
end Mi

set_option maxRecDepth 100000
/-! steps of mirrors by simp -/
namespace Mi
open PySem PySem.Spec L2
open PyProof.Rows hiding St
section
variable {st st' : Store} {ρ : Env} {ma mb mc me : ME} {ms : MA} {a b : MS} {F : Fn} {f : D → D → Option D} {g : D → Option D} {i j : Nat} {d : D} {k : Kd} {l : List D} {x y : Int}
@[simp] theorem e_C : mC d ρ st = .ok d .s st := rfl
theorem e_Vd : mV i ρ st = match ρ[i]? with | some (.val d) => .ok d .s st | some (.own d) => .ok d .b st | _ => .bad := rfl
@[simp] theorem e_V0 {s : Slot} : mV 0 (s :: ρ) st = match s with | .val d => .ok d .s st | .own d => .ok d .b st | _ => .bad := by
  cases s <;> rfl
@[simp] theorem e_Vs {s : Slot} : mV (i + 1) (s :: ρ) st = mV i ρ st := rfl
@[simp] theorem e_bind_ok {f : D → Kd → Store → ER} : (ER.ok d k st).bind f = f d k st := rfl
@[simp] theorem e_bind_exc {c : Str} {f : D → Kd → Store → ER} : (ER.exc c st).bind f = .exc c st := rfl
@[simp] theorem a_bind_ok {f : List D → Store → ER} : (AR.ok l st).bind f = f l st := rfl
@[simp] theorem e_mk_some : mk (some d) st = .ok d d.kd st := rfl
@[simp] theorem kd_int : (D.int x).kd = .s := rfl
@[simp] theorem kd_bl {b : Bool} : (D.bl b).kd = .s := rfl
@[simp] theorem kd_str {b : Str} : (D.str b).kd = .s := rfl
@[simp] theorem kd_non : D.non.kd = .s := rfl
@[simp] theorem kd_tup : (D.tup l).kd = .s := rfl
@[simp] theorem kd_lst : (D.lst l).kd = .f := rfl
@[simp] theorem tru_bl {b : Bool} : (D.bl b).tru = some b := rfl
@[simp] theorem e_Op1 : mOp1 g ma ρ st = (ma ρ st).bind fun x _ st1 => mk (g x) st1 := rfl
@[simp] theorem e_Op2 : mOp2 f ma mb ρ st = (ma ρ st).bind fun x _ st1 => (mb ρ st1).bind fun y _ st2 => mk (f x y) st2 := rfl
@[simp] theorem e_Not : mNot ma ρ st = (ma ρ st).bind fun x _ st1 => match x.tru with | some b => .ok (.bl !b) .s st1 | none => .bad := rfl
@[simp] theorem e_And : mAnd ma mb ρ st = (ma ρ st).bind fun x k st1 => match x.tru with | some true => mb ρ st1 | some false => .ok x k st1 | none => .bad := rfl
@[simp] theorem e_Or : mOr ma mb ρ st = (ma ρ st).bind fun x k st1 => match x.tru with | some true => .ok x k st1 | some false => mb ρ st1 | none => .bad := rfl
@[simp] theorem e_If : mIf mc ma mb ρ st = (mc ρ st).bind fun x k st1 => match x.tru with | some true => ma ρ st1 | some false => mb ρ st1 | none => .bad := rfl
@[simp] theorem e_Chain {g : D → D → Option D} : mChain f g ma mb mc ρ st = (ma ρ st).bind fun x _ s1 => (mb ρ s1).bind fun y _ s2 => match f x y with
  | some (.bl true) => (mc ρ s2).bind fun z _ s3 => mk (g y z) s3
  | some (.bl false) => .ok (.bl false) .s s2
  | _ => .bad := rfl
@[simp] theorem e_Nil : aNil ρ st = .ok [] st := rfl
def consR (d : D) (k : Kd) (r : AR) : AR := match k with
  | .b => .bad
  | _ => match r with
    | .ok ds s2 => .ok (d :: ds) s2
    | .exc c s2 => .exc c s2
    | .bad => .bad
@[simp] theorem consR_s {ds : List D} : consR d .s (.ok ds st) = .ok (d :: ds) st := rfl
@[simp] theorem consR_f {ds : List D} : consR d .f (.ok ds st) = .ok (d :: ds) st := rfl
def consE (r : ER) (f : Store → AR) : AR := match r with
  | .ok d k s => consR d k (f s)
  | .exc c s => .exc c s
  | .bad => .bad
def consL (r : ER) (f : Store → AR) : AR := match r with
  | .ok d _ s => consR d .s (f s)
  | .exc c s => .exc c s
  | .bad => .bad
@[simp] theorem consE_ok {f : Store → AR} : consE (.ok d k st) f = consR d k (f st) := rfl
@[simp] theorem consL_ok {f : Store → AR} : consL (.ok d k st) f = consR d .s (f st) := rfl
@[simp] theorem e_Cons : aCons ma ms ρ st = consE (ma ρ st) (ms ρ) := by
  unfold aCons consE
  cases ma ρ st with
  | ok d k s => cases k <;> rfl
  | _ => rfl
@[simp] theorem e_lCons : lCons ma ms ρ st = consL (ma ρ st) (ms ρ) := by
  unfold lCons consL
  cases ma ρ st <;> rfl
@[simp] theorem e_Tup : mTup ms ρ st = (ms ρ st).bind fun ds s => if ds.length ≤ 16777216 then .ok (.tup ds) .s s else .bad := rfl
@[simp] theorem e_Lst : mLst ms ρ st = (ms ρ st).bind fun ds s => if ds.length ≤ 16777216 then .ok (.lst ds) .f s else .bad := rfl
@[simp] theorem e_Cell : mCell ms ρ st = (ms ρ st).bind fun ds s => if ds.length ≤ 16777216 then .ok (.cell s.length) .s (s ++ [ds]) else .bad := rfl
@[simp] theorem e_B {f : List D → Option D} : mB f ms ρ st = (ms ρ st).bind fun ds s => mk (f ds) s := rfl
@[simp] theorem e_IsI {T : TyN} : mIsI T ma ρ st = (ma ρ st).bind fun x _ st1 => mk (dIsI T x) st1 := rfl
@[simp] theorem e_Ix : mIx ma mb ρ st = (ma ρ st).bind fun x _ st1 => (mb ρ st1).bind fun y _ st2 => match ixS x y st2 with | some d => .ok d .s st2 | none => .bad := rfl
@[simp] theorem e_Call : mCall F ms ρ st = (ms ρ st).bind F := rfl
@[simp] theorem with_ok {f : D → Kd → Store → SR} : withE (.ok d k st) ρ f = f d k st := rfl
@[simp] theorem s_bind_next {f : MS} : (SR.next ρ st).bind f = f ρ st := rfl
@[simp] theorem s_bind_ret {f : MS} : (SR.ret d k st).bind f = .ret d k st := rfl
@[simp] theorem e_Skip : mSkip ρ st = .next ρ st := rfl
@[simp] theorem e_Seq : mSeq a b ρ st = (a ρ st).bind b := rfl
@[simp] theorem e_Expr : mExpr ma ρ st = withE (ma ρ st) ρ fun _ _ s => .next ρ s := rfl
def setK (i : Nat) (ρ : Env) (d : D) (k : Kd) (s : Store) : SR := match k with
  | .s => .next (ρ.set i (.val d)) s
  | .f => .next (ρ.set i (.own d)) s
  | .b => .bad
@[simp] theorem setK_s : setK i ρ d .s st = .next (ρ.set i (.val d)) st := rfl
@[simp] theorem setK_f : setK i ρ d .f st = .next (ρ.set i (.own d)) st := rfl
@[simp] theorem e_Set : mSet i ma ρ st = withE (ma ρ st) ρ (setK i ρ) := rfl
def retK (d : D) (k : Kd) (s : Store) : SR := match k with
  | .b => .bad
  | _ => .ret d k s
@[simp] theorem retK_s : retK d .s st = .ret d .s st := rfl
@[simp] theorem retK_f : retK d .f st = .ret d .f st := rfl
@[simp] theorem e_Ret : mRet ma ρ st = withE (ma ρ st) ρ retK := by
  unfold mRet
  congr 1
@[simp] theorem e_IfS : mIfS mc a b ρ st = withE (mc ρ st) ρ fun x _ s => match x.tru with
  | some true => a ρ s
  | some false => b ρ s
  | none => .bad := rfl
@[simp] theorem e_RetN : mRetN ρ st = .ret .non .s st := rfl
theorem e_Frz : mFrz i ρ st = match ρ[i]? with | some (.own d) => .next (ρ.set i (.val d)) st | _ => .next ρ st := rfl
@[simp] theorem e_Brk : mBrk ρ st = .brk ρ st := rfl
@[simp] theorem e_Cont : mCont ρ st = .cont ρ st := rfl
@[simp] theorem step_next {f : MS} : stepL (.next ρ st) f = f ρ st := rfl
@[simp] theorem step_ret {f : MS} : stepL (.ret d k st) f = .ret d k st := rfl
@[simp] theorem step_brk {f : MS} : stepL (.brk ρ st) f = .next ρ st := rfl
@[simp] theorem step_cont {f : MS} : stepL (.cont ρ st) f = f ρ st := rfl
@[simp] theorem forL_nil {g : MG} : forL g a [] ρ st = .next ρ st := rfl
theorem forL_cons {g : MG} {ds : List D} : forL g a (d :: ds) ρ st = match g d ρ with | some ρ' => stepL (a ρ' st) (forL g a ds) | none => .bad := rfl
theorem forL_gN {ds : List D} : forL (gN i) a (d :: ds) ρ st = stepL (a (ρ.set i (.val d)) st) (forL (gN i) a ds) := rfl
def forR (g : MG) (body : MS) (ρ : Env) : AR → SR
  | .ok ds s => forL g body ds ρ s
  | .exc c s => .exc c ρ s
  | .bad => .bad
@[simp] theorem forR_ok {g : MG} : forR g a ρ (.ok l st) = forL g a l ρ st := rfl
@[simp] theorem e_For {g : MG} {mi : MI} : mFor mi g a ρ st = forR g a ρ (mi ρ st) := by
  unfold mFor
  cases mi ρ st <;> rfl
def seqI : ER → AR
  | .ok d k s => match k with
    | .b => .bad
    | _ => match d with
      | .lst l => .ok l s
      | .tup l => .ok l s
      | _ => .bad
  | .exc c s => .exc c s
  | .bad => .bad
@[simp] theorem e_iSeq : iSeq ma ρ st = seqI (ma ρ st) := by
  unfold iSeq
  cases ma ρ st with
  | ok d k s => cases k <;> rfl
  | _ => rfl
@[simp] theorem seqI_lst_s : seqI (.ok (.lst l) .s st) = .ok l st := rfl
@[simp] theorem seqI_lst_f : seqI (.ok (.lst l) .f st) = .ok l st := rfl
@[simp] theorem seqI_tup : seqI (.ok (.tup l) .s st) = .ok l st := rfl
theorem e_range1 (h : ms ρ st = .ok [.int y] st') (hy : y < 2 ^ 62 ∧ -(2 ^ 62) ≤ y) : iRange ms ρ st = .ok (rangeD 0 y.toNat) st' := by
  unfold iRange
  rw [h]
  dsimp only
  rw [if_pos hy]
theorem e_range2 (h : ms ρ st = .ok [.int x, .int y] st') (hy : x < 2 ^ 62 ∧ -(2 ^ 62) ≤ x ∧ y < 2 ^ 62 ∧ -(2 ^ 62) ≤ y) : iRange ms ρ st = .ok (rangeD x (y - x).toNat) st' := by
  unfold iRange
  rw [h]
  dsimp only
  rw [if_pos hy]
theorem fun_eq {np n : Nat} {m : MS} {ds : List D} (h : ds.length = np) : mFun np n m ds st = endF (m (startE ds (n - np)) st) := by
  unfold mFun
  rw [if_pos h]
@[simp] theorem endF_ret_s : endF (.ret d .s st) = .ok d .s st := rfl
@[simp] theorem endF_ret_f : endF (.ret d .f st) = .ok d .f st := rfl
@[simp] theorem endF_next : endF (.next ρ st) = .ok .non .s st := rfl
@[simp] theorem dAdd_int : dAdd (.int x) (.int y) = some (.int (x + y)) := rfl
@[simp] theorem dSub_int : dSub (.int x) (.int y) = some (.int (x - y)) := rfl
theorem dMul_int (h : x.natAbs.log2 + y.natAbs.log2 ≤ 134217000) : dMul (.int x) (.int y) = some (.int (x * y)) := if_pos h
theorem dFdiv_int (h : 0 < y ∧ y.natAbs.log2 < 9000) : dFdiv (.int x) (.int y) = some (.int (x / y)) := if_pos h
theorem dMod_int (h : 0 < y) : dMod (.int x) (.int y) = some (.int (x % y)) := if_pos h
theorem log2_le' {n k : Nat} (h : n < 2 ^ (k + 1)) : n.log2 ≤ k := by
  by_cases h0 : n = 0
  · subst h0; simp
  · exact Nat.lt_succ_iff.mp ((Nat.log2_lt h0).mpr h)
theorem dFdiv_s (h : 0 < y) (h2 : y < 2 ^ 64) : dFdiv (.int x) (.int y) = some (.int (x / y)) := if_pos ⟨h, by
  have := log2_le' (n := y.natAbs) (k := 63) (by omega)
  omega⟩
theorem dMod_s (h : 0 < y) : dMod (.int x) (.int y) = some (.int (x % y)) := if_pos h
theorem dPow_s (hx : 0 ≤ x) (hx2 : x < 2 ^ 64) (h : 0 ≤ y) (h2 : y ≤ 1000000) : dPow (.int x) (.int y) = some (.int (x ^ y.toNat)) := if_pos ⟨h, h2, by
  have := log2_le' (n := x.natAbs) (k := 63) (by omega)
  omega⟩
theorem dMul_s (hx : -(2 ^ 64) < x) (hx2 : x < 2 ^ 64) (hy : -(2 ^ 64) < y) (hy2 : y < 2 ^ 64) : dMul (.int x) (.int y) = some (.int (x * y)) := if_pos (by
  have := log2_le' (n := x.natAbs) (k := 63) (by omega)
  have := log2_le' (n := y.natAbs) (k := 63) (by omega)
  omega)
@[simp] theorem dLt_int : dLt (.int x) (.int y) = some (.bl (decide (x < y))) := rfl
@[simp] theorem dLe_int : dLe (.int x) (.int y) = some (.bl (decide (x ≤ y))) := rfl
@[simp] theorem dGt_int : dGt (.int x) (.int y) = some (.bl (decide (y < x))) := rfl
@[simp] theorem dGe_int : dGe (.int x) (.int y) = some (.bl (decide (y ≤ x))) := rfl
@[simp] theorem bInt_int : bInt [.int x] = some (.int x) := rfl
@[simp] theorem bMin_int : bMin2 [.int x, .int y] = some (.int (if y < x then y else x)) := rfl
@[simp] theorem bMax_int : bMax2 [.int x, .int y] = some (.int (if y > x then y else x)) := rfl
end
end Mi

set_option maxRecDepth 100000
/-! the draws' own helpers, alike in every law -/
namespace Mi
open PySem PySem.Spec L2
open PyProof.Rows hiding St
def cupM : MS :=
    (mSeq (mSet 1 (mB bAbs (lCons (mIx (mOp2 dAdd (mB bList (lCons (mV 0) aNil)) (mLst (aCons (mC (.int 0)) aNil))) (mC (.int 0))) aNil)))
    (mRet (mCell (aCons (mIf (mOp2 dGe (mV 1) (mOp2 dPow (mC (.int 10)) (mC (.int 18)))) (mOp2 dFdiv (mV 1) (mC (.int 73))) (mC (.int 0))) (aCons (mOp2 dAdd (mOp2 dMod (mB bInt (lCons (mOp2 dAdd (mOp2 dMul (mV 1) (mC (.int 283))) (mC (.int 3907))) aNil)) (mC (.int 2077503167))) (mC (.int 167))) aNil)))))
def cupF : Fn := mFun 1 2 cupM
def rollM : MS :=
    (mSeq (mIfS (mOp2 dGt (mIx (mV 0) (mC (.int 0))) (mC (.int 0))) (mSeq (mSet 3 (mOp2 dMod (mB bInt (lCons (mIx (mV 0) (mC (.int 0))) aNil)) (mV 1)))
    (mSeq (mSetIx 0 (mC (.int 0)) (mOp2 dFdiv (mIx (mV 0) (mC (.int 0))) (mV 1)))
    (mRetV 3))) mSkip)
    (mSeq (mSetIx 0 (mC (.int 1)) (mOp2 dMod (mB bInt (lCons (mOp2 dAdd (mOp2 dMul (mIx (mV 0) (mC (.int 1))) (mC (.int 31051))) (mC (.int 7993))) aNil)) (mC (.int 2147483543))))
    (mSeq (mSet 2 (mOp2 dMod (mB bInt (lCons (mOp2 dMul (mIx (mV 0) (mC (.int 1))) (mOp2 dAdd (mIx (mV 0) (mC (.int 1))) (mC (.int 229)))) aNil)) (mC (.int 2147483587))))
    (mRet (mOp2 dMod (mB bInt (lCons (mOp2 dFdiv (mV 2) (mC (.int 821))) aNil)) (mV 1))))))
def rollF : Fn := mFun 2 4 rollM
/-- the cup's two numbers -/
structure Cup (c0 c1 : Int) : Prop where
  n0 : 0 ≤ c0
  n1 : 0 ≤ c1
  l1 : c1 < 2 ^ 32
abbrev cupS (c0 c1 : Int) : Store := [[.int c0, .int c1]]
theorem log2_le {n k : Nat} (h : n < 2 ^ (k + 1)) : n.log2 ≤ k := by
  by_cases h0 : n = 0
  · subst h0; simp
  · exact Nat.lt_succ_iff.mp ((Nat.log2_lt h0).mpr h)
theorem ilog {x : Int} {k : Nat} (h0 : 0 ≤ x) (h : x < 2 ^ (k + 1)) : x.natAbs.log2 ≤ k := by
  refine log2_le ?_
  have : ((x.natAbs : Nat) : Int) = x := Int.natAbs_of_nonneg h0
  have h2 : ((x.natAbs : Nat) : Int) < ((2 ^ (k + 1) : Nat) : Int) := by rw [this]; push_cast; exact h
  exact Int.ofNat_lt.mp h2
theorem roll_pos {c0 c1 m : Int} (h : 0 < c0) (hm : 0 < m) (hl : m.natAbs.log2 < 9000) : rollF [.cell 0, .int m] (cupS c0 c1) = .ok (.int (c0 % m)) .s (cupS (c0 / m) c1) := by
  unfold rollF
  rw [fun_eq (show [D.cell 0, D.int m].length = 2 from rfl)]
  show endF (SR.bind (withE (mk (dGt (.int c0) (.int 0)) _) _ _) _) = _
  simp only [dGt_int, e_mk_some, with_ok, tru_bl, decide_eq_true h]
  show endF (SR.bind (SR.bind (withE (mk (dMod (.int c0) (.int m)) _) _ _) _) _) = _
  simp only [dMod_int hm, e_mk_some, with_ok]
  show endF (SR.bind (SR.bind (withE (mk (dFdiv (.int c0) (.int m)) _) _ _) _) _) = _
  simp only [dFdiv_int ⟨hm, hl⟩, e_mk_some, with_ok]
  rfl
theorem roll_zero {c1 m : Int} (n1 : 0 ≤ c1) (l1 : c1 < 2 ^ 32) (hm : 0 < m) : ∃ r d1, 0 ≤ r ∧ r < m ∧ 0 ≤ d1 ∧ d1 < 2 ^ 32 ∧ rollF [.cell 0, .int m] (cupS 0 c1) = .ok (.int r) .s (cupS 0 d1) := by
  have a1 : c1.natAbs.log2 ≤ 31 := ilog n1 (by omega)
  have e1 : dMul (.int c1) (.int 31051) = some (.int (c1 * 31051)) := dMul_int (by have : (31051 : Int).natAbs.log2 = 14 := (by decide +kernel); omega)
  generalize hd : (c1 * 31051 + 7993) % 2147483543 = d1
  have b0 : 0 ≤ d1 := by omega
  have b1 : d1 < 2 ^ 32 := by omega
  have a2 : d1.natAbs.log2 ≤ 31 := ilog b0 (by omega)
  have a3 : (d1 + 229).natAbs.log2 ≤ 32 := ilog (by omega) (by omega)
  have e2 : dMul (.int d1) (.int (d1 + 229)) = some (.int (d1 * (d1 + 229))) := dMul_int (by omega)
  refine ⟨((d1 * (d1 + 229)) % 2147483587 / 821) % m, d1, Int.emod_nonneg _ (by omega), Int.emod_lt_of_pos _ hm, b0, b1, ?_⟩
  unfold rollF
  rw [fun_eq (show [D.cell 0, D.int m].length = 2 from rfl)]
  simp [rollM, startE, ixS, L2.atI, e1, dMod_s, hd, e2, hm, mSetIx, setIx, setCell, ixN, dFdiv_s]
theorem roll_ok {c0 c1 m : Int} (c : Cup c0 c1) (hm : 0 < m) (hl : m.natAbs.log2 < 9000) : ∃ r d0 d1, 0 ≤ r ∧ r < m ∧ Cup d0 d1 ∧ rollF [.cell 0, .int m] (cupS c0 c1) = .ok (.int r) .s (cupS d0 d1) := by
  by_cases h : 0 < c0
  · exact ⟨_, _, _, Int.emod_nonneg _ (by omega), Int.emod_lt_of_pos _ hm, ⟨Int.ediv_nonneg c.n0 (by omega), c.n1, c.l1⟩, roll_pos h hm hl⟩
  · have : c0 = 0 := by have := c.n0; omega
    subst this
    obtain ⟨r, d1, h1, h2, h3, h4, h5⟩ := roll_zero c.n1 c.l1 hm
    exact ⟨r, 0, d1, h1, h2, ⟨by omega, h3, h4⟩, h5⟩
theorem cup_ok {ns : List Int} (hl : ns.length ≤ 63) (hb : ∀ z ∈ ns, Builtin.Int.intBits z ≤ 1048576) : ∃ c0 c1, Cup c0 c1 ∧ cupF [.scr ns] [] = .ok (.cell 0) .s (cupS c0 c1) := by
  obtain ⟨z, hz, hzb⟩ : ∃ z : Int, L2.atI (ns.map D.int ++ [.int 0]) 0 = some (.int z) ∧ z.natAbs.log2 ≤ 1048576 := by
    cases ns with
    | nil => exact ⟨0, rfl, by decide +kernel⟩
    | cons n ns =>
      refine ⟨n, atI_nat (j := 0) rfl, ?_⟩
      have := hb n List.mem_cons_self
      unfold Builtin.Int.intBits at this
      split at this
      · rename_i h0
        have : n = 0 := by simpa using h0
        subst this
        decide +kernel
      · omega
  generalize hc : (if z < 0 then -z else z) = c
  have c0 : 0 ≤ c := by split at hc <;> omega
  have cl : c.natAbs.log2 ≤ 1048576 := by
    have : c.natAbs = z.natAbs := by split at hc <;> omega
    rw [this]; exact hzb
  have e1 : dMul (.int c) (.int 283) = some (.int (c * 283)) := dMul_int (by have : (283 : Int).natAbs.log2 = 8 := (by decide +kernel); omega)
  have e0 : dAdd (.lst (ns.map D.int)) (.lst [.int 0]) = some (.lst (ns.map D.int ++ [.int 0])) := if_pos (by simp; omega)
  refine ⟨if 1000000000000000000 ≤ c then c / 73 else 0, (c * 283 + 3907) % 2077503167 + 167, ⟨by split <;> omega, by omega, by omega⟩, ?_⟩
  unfold cupF
  rw [fun_eq (show [D.scr ns].length = 1 from rfl)]
  simp [cupM, startE, bList, e0, ixS, dIx, hz, bAbs, hc, dPow_s, e1, dMod_s, dFdiv_s]
  by_cases hge : (1000000000000000000 : Int) ≤ c <;> simp [hge, e1, dMod_s]

/-! the comparison of two values -/
def sortM : MS :=
    (mSeq (mIfS (mOr (mOp2 dIsN (mV 0) (mC .non)) (mIsI .bool (mV 0))) (mRet (mIf (mOp2 dIsN (mV 0) (mC .non)) (mC (.int 0)) (mC (.int 1)))) mSkip)
    (mSeq (mIfS (mOr (mIsI .int (mV 0)) (mIsI .str (mV 0))) (mRet (mIf (mIsI .int (mV 0)) (mC (.int 2)) (mC (.int 3)))) mSkip)
    (mRet (mIf (mIsI .tuple (mV 0)) (mC (.int 4)) (mIf (mIsI .list (mV 0)) (mC (.int 5)) (mC (.int 6)))))))
def sortF : Fn := mFun 1 1 sortM
def likeM (self : Fn) : MS :=
    (mSeq (mSet 2 (mCall sortF (aCons (mV 1) aNil)))
    (mSeq (mIfS (mOr (mOp2 dNe (mCall sortF (aCons (mV 0) aNil)) (mV 2)) (mOp2 dEq (mV 2) (mC (.int 6)))) (mRet (mC (.bl false))) mSkip)
    (mSeq (mIfS (mOp2 (dInP false) (mV 2) (mTup (aCons (mC (.int 4)) (aCons (mC (.int 5)) aNil)))) (mRet (mAnd (mOp2 dEq (mB bLen (lCons (mV 0) aNil)) (mB bLen (lCons (mV 1) aNil))) (mOp2 dEq (mComp [3, 4] (iZipD (aCons (mV 0) (aCons (mV 1) aNil))) (gT [(gN 3), (gN 4)]) (some (mNot (mCall self (aCons (mV 3) (aCons (mV 4) aNil))))) (mC (.int 1))) (mLst aNil)))) mSkip)
    (mRet (mOp2 dEq (mV 0) (mV 1))))))
def likeR : Nat → Fn
  | 0 => fun _ _ => .bad
  | k + 1 => mFun 2 5 (likeM (likeR k))
mutual
/-- what may be compared, at most n deep -/
def D.able : Nat → D → Bool
  | _, .non => true
  | _, .bl _ => true
  | _, .int _ => true
  | _, .str x => x.cps.all (· < 0x110000)
  | n, .tup l => match n with | 0 => false | n + 1 => ableL n l && decide (l.length ≤ 16777216)
  | n, .lst l => match n with | 0 => false | n + 1 => ableL n l && decide (l.length ≤ 16777216)
  | _, _ => false
def ableL : Nat → List D → Bool
  | _, [] => true
  | n, d :: l => d.able n && ableL n l
end
def D.sortI : D → Int
  | .non => 0 | .bl _ => 1 | .int _ => 2 | .str _ => 3 | .tup _ => 4 | .lst _ => 5 | _ => 6
theorem sort_ok {d : D} {n : Nat} (h : d.able n = true) (st : Store) : sortF [d] st = .ok (.int d.sortI) .s st := by
  unfold sortF
  rw [fun_eq (show [d].length = 1 from rfl)]
  cases d <;> first | (simp [D.able] at h; done) | (simp [sortM, startE, dIsN, dIsI, D.ty, D.sortI])
theorem flat_int {n : Nat} {x : Int} : (D.int x).flat n = true := by cases n <;> rfl
@[simp] theorem dEq_int {x y : Int} : dEq (.int x) (.int y) = some (.bl (decide (x = y))) := by
  unfold dEq
  rw [flat_int, flat_int]
  show some (D.bl (x == y)) = _
  congr 2
@[simp] theorem dNe_int {x y : Int} : dNe (.int x) (.int y) = some (.bl (!decide (x = y))) := by
  unfold dNe
  rw [flat_int, flat_int]
  show some (D.bl !(x == y)) = _
  congr 3

theorem like_comp {self : Fn} {a b c : Slot} {st : Store} : ∀ l : List D, (∀ d ∈ l, self [d, d] st = .ok (.bl true) .s st) →
    compL (gT [(gN 3), (gN 4)]) (some (mNot (mCall self (aCons (mV 3) (aCons (mV 4) aNil))))) (mC (.int 1)) [a, b, c, .no, .no] (zipD l l) st = .ok [] st
  | [], _ => rfl
  | d :: l, h => by
    show compL _ _ _ _ (.tup [d, d] :: zipD l l) st = _
    unfold compL
    simp only [gT, gAll, gN, Option.bind, List.set]
    simp only [testO]
    simp [h d List.mem_cons_self]
    exact like_comp l fun x hx => h x (List.mem_cons_of_mem _ hx)
theorem ableL_mem {n : Nat} : ∀ {l : List D}, ableL n l = true → ∀ d ∈ l, d.able n = true
  | x :: l, h, d, hd => by
    simp only [ableL, Bool.and_eq_true] at h
    cases hd with
    | head => exact h.1
    | tail _ hd => exact ableL_mem h.2 d hd
theorem zip_tup {ρ : Env} {st : Store} {l m : List D} {ms : MA} (h : ms ρ st = .ok [.tup l, .tup m] st) : iZipD ms ρ st = .ok (zipD l m) st := by
  unfold iZipD; rw [h]; rfl
theorem zip_lst {ρ : Env} {st : Store} {l m : List D} {ms : MA} (h : ms ρ st = .ok [.lst l, .lst m] st) : iZipD ms ρ st = .ok (zipD l m) st := by
  unfold iZipD; rw [h]; rfl
theorem e_comp {vs : List Nat} {mi : MI} {g : MG} {mt : Option ME} {me : ME} {ρ : Env} {st s1 s2 : Store} {ds ys : List D} (h : mi ρ st = .ok ds s1) (hl : ds.length ≤ 16777216) (h2 : compL g mt me (wipeE ρ vs) ds s1 = .ok ys s2) : mComp vs mi g mt me ρ st = .ok (.lst ys) .f s2 := by
  unfold mComp
  rw [h]
  dsimp only
  rw [if_pos hl, h2]
theorem like_refl : ∀ (n : Nat) (d : D) (st : Store), d.able n = true → likeR (n + 1) [d, d] st = .ok (.bl true) .s st := by
  intro n
  induction n with
  | zero =>
    intro d st h
    unfold likeR
    rw [fun_eq (show [d, d].length = 2 from rfl)]
    cases d with
    | non => simp [likeM, startE, sort_ok h, D.sortI, dInP, D.plain, D.eqd, dEq, D.flat]
    | bl b => simp [likeM, startE, sort_ok h, D.sortI, dInP, D.plain, D.eqd, dEq, D.flat]
    | int b => simp [likeM, startE, sort_ok h, D.sortI, dInP, D.plain, D.eqd]
    | str b => simp [likeM, startE, sort_ok h, D.sortI, dInP, D.plain, D.eqd, dEq, D.flat, D.able] at h ⊢; simp [h]
    | tup l => simp [D.able] at h
    | lst l => simp [D.able] at h
    | _ => simp [D.able] at h
  | succ n ih =>
    intro d st h
    unfold likeR
    rw [fun_eq (show [d, d].length = 2 from rfl)]
    cases d with
    | non => simp [likeM, startE, sort_ok h, D.sortI, dInP, D.plain, D.eqd, dEq, D.flat]
    | bl b => simp [likeM, startE, sort_ok h, D.sortI, dInP, D.plain, D.eqd, dEq, D.flat]
    | int b => simp [likeM, startE, sort_ok h, D.sortI, dInP, D.plain, D.eqd]
    | str b => simp [likeM, startE, sort_ok h, D.sortI, dInP, D.plain, D.eqd, dEq, D.flat, D.able] at h ⊢; simp [h]
    | tup l =>
      have hs := sort_ok h
      simp only [D.able, Bool.and_eq_true, decide_eq_true_eq] at h
      have hc := like_comp (self := likeR (n + 1)) (a := .val (.tup l)) (b := .val (.tup l)) (c := .val (.int 4)) (st := st) l fun d hd => ih d st (ableL_mem h.1 d hd)
      have hz := e_comp (vs := [3, 4]) (mi := iZipD (aCons (mV 0) (aCons (mV 1) aNil))) (ρ := [.val (.tup l), .val (.tup l), .val (.int 4), .no, .no]) (zip_tup (by simp)) (by rw [zipD_len, Nat.min_self]; exact h.2) hc
      simp [likeM, startE, hs, D.sortI, dInP, D.plain, D.eqd, bLen, hz, dEq, D.flat, flatL, eqdL]
    | lst l =>
      have hs := sort_ok h
      simp only [D.able, Bool.and_eq_true, decide_eq_true_eq] at h
      have hc := like_comp (self := likeR (n + 1)) (a := .val (.lst l)) (b := .val (.lst l)) (c := .val (.int 5)) (st := st) l fun d hd => ih d st (ableL_mem h.1 d hd)
      have hz := e_comp (vs := [3, 4]) (mi := iZipD (aCons (mV 0) (aCons (mV 1) aNil))) (ρ := [.val (.lst l), .val (.lst l), .val (.int 5), .no, .no]) (zip_lst (by simp)) (by rw [zipD_len, Nat.min_self]; exact h.2) hc
      simp [likeM, startE, hs, D.sortI, dInP, D.plain, D.eqd, bLen, hz, dEq, D.flat, flatL, eqdL]
    | _ => simp [D.able] at h
end Mi

set_option maxRecDepth 100000
/-! what does not touch slot 0 -/
namespace Mi
open PySem PySem.Spec L2
open PyProof.Rows hiding St
def ZE (m : ME) : Prop := ∀ x y ρ st, m (x :: ρ) st = m (y :: ρ) st
def ZA (m : MA) : Prop := ∀ x y ρ st, m (x :: ρ) st = m (y :: ρ) st
def ZK (m : MK) : Prop := ∀ x y ρ st, m (x :: ρ) st = m (y :: ρ) st
inductive ZR (x y : Slot) : SR → SR → Prop
  | bad : ZR x y .bad .bad
  | next {ρ : Env} {st : Store} : ZR x y (.next (x :: ρ) st) (.next (y :: ρ) st)
  | brk {ρ : Env} {st : Store} : ZR x y (.brk (x :: ρ) st) (.brk (y :: ρ) st)
  | cont {ρ : Env} {st : Store} : ZR x y (.cont (x :: ρ) st) (.cont (y :: ρ) st)
  | ret {d : D} {k : Kd} {st : Store} : ZR x y (.ret d k st) (.ret d k st)
  | exc {c : Str} {ρ : Env} {st : Store} : ZR x y (.exc c (x :: ρ) st) (.exc c (y :: ρ) st)
def ZS (m : MS) : Prop := ∀ x y ρ st, ZR x y (m (x :: ρ) st) (m (y :: ρ) st)
inductive ZO (x y : Slot) : Option Env → Option Env → Prop
  | none : ZO x y none none
  | some {ρ : Env} : ZO x y (some (x :: ρ)) (some (y :: ρ))
def ZG (g : MG) : Prop := ∀ x y d ρ, ZO x y (g d (x :: ρ)) (g d (y :: ρ))
section
variable {ma mb mc : ME} {ms : MA} {a b : MS} {F : Fn} {f : D → D → Option D} {g : D → Option D}
theorem ze_C {d : D} : ZE (mC d) := fun _ _ _ _ => rfl
theorem ze_V {i : Nat} (h : i ≠ 0 := by decide) : ZE (mV i) := fun x y ρ st => by
  cases i with
  | zero => exact absurd rfl h
  | succ i => rfl
theorem ze_Op1 (h : ZE ma) : ZE (mOp1 g ma) := fun x y ρ st => by simp only [e_Op1, h x y]
theorem ze_IsI {T : TyN} (h : ZE ma) : ZE (mIsI T ma) := ze_Op1 h
theorem ze_Op2 (h : ZE ma) (h2 : ZE mb) : ZE (mOp2 f ma mb) := fun x y ρ st => by simp only [e_Op2, h x y, h2 x y]
theorem ze_Not (h : ZE ma) : ZE (mNot ma) := fun x y ρ st => by simp only [e_Not, h x y]
theorem ze_And (h : ZE ma) (h2 : ZE mb) : ZE (mAnd ma mb) := fun x y ρ st => by simp only [e_And, h x y, h2 x y]
theorem ze_Or (h : ZE ma) (h2 : ZE mb) : ZE (mOr ma mb) := fun x y ρ st => by simp only [e_Or, h x y, h2 x y]
theorem ze_If (h0 : ZE mc) (h : ZE ma) (h2 : ZE mb) : ZE (mIf mc ma mb) := fun x y ρ st => by simp only [e_If, h0 x y, h x y, h2 x y]
theorem ze_Chain {f g : D → D → Option D} (h0 : ZE ma) (h : ZE mb) (h2 : ZE mc) : ZE (mChain f g ma mb mc) := fun x y ρ st => by simp only [e_Chain, h0 x y, h x y, h2 x y]
theorem za_Nil : ZA aNil := fun _ _ _ _ => rfl
theorem za_Cons (h : ZE ma) (h2 : ZA ms) : ZA (aCons ma ms) := fun x y ρ st => by
  have : ms (x :: ρ) = ms (y :: ρ) := funext fun s => h2 x y ρ s
  rw [e_Cons, e_Cons, h x y, this]
theorem za_lCons (h : ZE ma) (h2 : ZA ms) : ZA (lCons ma ms) := fun x y ρ st => by
  have : ms (x :: ρ) = ms (y :: ρ) := funext fun s => h2 x y ρ s
  rw [e_lCons, e_lCons, h x y, this]
theorem ze_Tup (h : ZA ms) : ZE (mTup ms) := fun x y ρ st => by rw [e_Tup, e_Tup, h x y]
theorem ze_Lst (h : ZA ms) : ZE (mLst ms) := fun x y ρ st => by rw [e_Lst, e_Lst, h x y]
theorem ze_B {f : List D → Option D} (h : ZA ms) : ZE (mB f ms) := fun x y ρ st => by rw [e_B, e_B, h x y]
theorem ze_Ix (h : ZE ma) (h2 : ZE mb) : ZE (mIx ma mb) := fun x y ρ st => by simp only [e_Ix, h x y, h2 x y]
theorem ze_Call (h : ZA ms) : ZE (mCall F ms) := fun x y ρ st => by rw [e_Call, e_Call, h x y]
theorem ze_Rev (h : ZE ma) : ZE (mRev ma) := fun x y ρ st => by simp only [mRev, h x y]
theorem zo_none : ∀ m ∈ (none : Option ME), ZE m := fun _ h => by cases h
theorem zo_some (h : ZE ma) : ∀ m ∈ some ma, ZE m := fun _ q => by cases q; exact h
theorem z_part {lo : Option ME} (h : ∀ m ∈ lo, ZE m) (x y : Slot) (ρ : Env) (st : Store) (f : Option Int → Store → ER) : part lo (x :: ρ) st f = part lo (y :: ρ) st f := by
  cases lo with
  | none => rfl
  | some m => simp only [part, h m rfl x y]
theorem ze_Sl {lo hi : Option ME} (h : ZE ma) (h1 : ∀ m ∈ lo, ZE m) (h2 : ∀ m ∈ hi, ZE m) : ZE (mSl ma lo hi) := fun x y ρ st => by
  simp only [mSl, h x y, z_part h1 x y, z_part h2 x y]
theorem zr_with {x y : Slot} {ρ : Env} {r : ER} {f f' : D → Kd → Store → SR} (hf : ∀ d k s, ZR x y (f d k s) (f' d k s)) : ZR x y (withE r (x :: ρ) f) (withE r (y :: ρ) f') := by
  cases r with
  | ok d k s => exact hf d k s
  | exc c s => exact .exc
  | bad => exact .bad
theorem zr_bind {x y : Slot} {r r' : SR} {f f' : MS} (h : ZR x y r r') (hf : ∀ ρ s, ZR x y (f (x :: ρ) s) (f' (y :: ρ) s)) : ZR x y (r.bind f) (r'.bind f') := by
  cases h <;> first | exact hf _ _ | constructor
theorem zr_step {x y : Slot} {r r' : SR} {f f' : MS} (h : ZR x y r r') (hf : ∀ ρ s, ZR x y (f (x :: ρ) s) (f' (y :: ρ) s)) : ZR x y (stepL r f) (stepL r' f') := by
  cases h <;> first | exact hf _ _ | constructor
theorem zr_set {x y : Slot} {i : Nat} (h : i ≠ 0) {ρ : Env} {v : Slot} {s : Store} : ZR x y (.next ((x :: ρ).set i v) s) (.next ((y :: ρ).set i v) s) := by
  cases i with
  | zero => exact absurd rfl h
  | succ i => exact .next
theorem zs_Skip : ZS mSkip := fun _ _ _ _ => .next
theorem zs_Seq (h : ZS a) (h2 : ZS b) : ZS (mSeq a b) := fun x y ρ st => zr_bind (h x y ρ st) fun ρ s => h2 x y ρ s
theorem zs_Expr (h : ZE ma) : ZS (mExpr ma) := fun x y ρ st => by
  rw [e_Expr, e_Expr, h x y]
  exact zr_with fun _ _ _ => .next
theorem zs_Set {i : Nat} (h : ZE ma) (hi : i ≠ 0 := by decide) : ZS (mSet i ma) := fun x y ρ st => by
  rw [e_Set, e_Set, h x y]
  refine zr_with fun _ k _ => ?_
  cases k with
  | s => exact zr_set hi
  | f => exact zr_set hi
  | b => exact .bad
theorem zs_Ret (h : ZE ma) : ZS (mRet ma) := fun x y ρ st => by
  rw [e_Ret, e_Ret, h x y]
  refine zr_with fun _ k _ => ?_
  cases k <;> constructor
theorem zs_RetV {i : Nat} (h : i ≠ 0 := by decide) : ZS (mRetV i) := fun x y ρ st => by
  cases i with
  | zero => exact absurd rfl h
  | succ i =>
    have : mRetV (i + 1) (x :: ρ) st = mRetV (i + 1) (y :: ρ) st := rfl
    rw [this]
    unfold mRetV
    split <;> constructor
theorem zs_RetN : ZS mRetN := fun _ _ _ _ => .ret
theorem zs_IfS (h : ZE mc) (h1 : ZS a) (h2 : ZS b) : ZS (mIfS mc a b) := fun x y ρ st => by
  rw [e_IfS, e_IfS, h x y]
  refine zr_with fun d _ s => ?_
  cases d.tru with
  | none => exact .bad
  | some b => cases b with
    | true => exact h1 x y ρ s
    | false => exact h2 x y ρ s
theorem zs_Frz {i : Nat} (h : i ≠ 0 := by decide) : ZS (mFrz i) := fun x y ρ st => by
  cases i with
  | zero => exact absurd rfl h
  | succ i =>
    have e1 : (x :: ρ)[i + 1]? = ρ[i]? := rfl
    have e2 : (y :: ρ)[i + 1]? = ρ[i]? := rfl
    unfold mFrz
    rw [e1, e2]
    split
    · exact .next
    · exact .next
theorem zs_Brk : ZS mBrk := fun _ _ _ _ => .brk
theorem zs_Cont : ZS mCont := fun _ _ _ _ => .cont
theorem zs_Bad : ZS mBad := fun _ _ _ _ => .bad
theorem zg_N {i : Nat} (h : i ≠ 0 := by decide) : ZG (gN i) := fun x y d ρ => by
  cases i with
  | zero => exact absurd rfl h
  | succ i => exact .some
theorem zg_All : ∀ (gs : List MG), (∀ g ∈ gs, ZG g) → ∀ x y ds ρ, ZO x y (gAll gs ds (x :: ρ)) (gAll gs ds (y :: ρ))
  | [], _, x, y, [], ρ => .some
  | [], _, x, y, _ :: _, ρ => .none
  | _ :: _, _, x, y, [], ρ => .none
  | g :: gs, h, x, y, d :: ds, ρ => by
    have h1 := h g List.mem_cons_self x y d ρ
    unfold gAll
    revert h1
    generalize g d (x :: ρ) = r
    generalize g d (y :: ρ) = r'
    intro h1
    cases h1 with
    | none => exact .none
    | some => exact zg_All gs (fun g hg => h g (List.mem_cons_of_mem _ hg)) x y ds _
theorem zg_T {gs : List MG} (h : ∀ g ∈ gs, ZG g) : ZG (gT gs) := fun x y d ρ => by
  cases d with
  | tup l => exact zg_All gs h x y l ρ
  | _ => exact .none
theorem zl_nil : ∀ g ∈ ([] : List MG), ZG g := fun _ h => by cases h
theorem zl_cons {g : MG} {gs : List MG} (h : ZG g) (h2 : ∀ g ∈ gs, ZG g) : ∀ q ∈ g :: gs, ZG q := fun q hq => by
  cases hq with
  | head => exact h
  | tail _ hq => exact h2 q hq
theorem zs_Asg {g : MG} (hg : ZG g) (h : ZE ma) : ZS (mAsg g ma) := fun x y ρ st => by
  unfold mAsg
  rw [h x y]
  refine zr_with fun d k s => ?_
  have h1 := hg x y d ρ
  cases k with
  | b => exact .bad
  | _ =>
    dsimp only
    revert h1
    generalize g d (x :: ρ) = r
    generalize g d (y :: ρ) = r'
    intro h1
    cases h1 <;> constructor
theorem zs_WhileN (h : ZE mc) (h1 : ZS a) : ∀ n, ZS (whileN mc a n)
  | 0 => fun _ _ _ _ => .bad
  | n + 1 => fun x y ρ st => by
    rw [whileN_succ, whileN_succ, h x y]
    refine zr_with fun d _ s => ?_
    cases d.tru with
    | none => exact .bad
    | some b => cases b with
      | true => exact zr_step (h1 x y ρ s) fun ρ' s' => zs_WhileN h h1 n x y ρ' s'
      | false => exact .next
theorem zs_While (h : ZE mc) (h1 : ZS a) : ZS (mWhile mc a) := zs_WhileN h h1 _
theorem zs_forL {g : MG} (hg : ZG g) (h1 : ZS a) : ∀ ds, ZS (forL g a ds)
  | [] => fun _ _ _ _ => .next
  | d :: ds => fun x y ρ st => by
    have h0 := hg x y d ρ
    unfold forL
    revert h0
    generalize g d (x :: ρ) = r
    generalize g d (y :: ρ) = r'
    intro h0
    cases h0 with
    | none => exact .bad
    | some => exact zr_step (h1 x y _ st) fun ρ2 s2 => zs_forL hg h1 ds x y ρ2 s2
theorem zs_For {g : MG} {mi : MI} (h : ZA mi) (hg : ZG g) (h1 : ZS a) : ZS (mFor mi g a) := fun x y ρ st => by
  unfold mFor
  rw [h x y]
  cases mi (y :: ρ) st with
  | ok ds s => exact zs_forL hg h1 ds x y ρ s
  | exc c s => exact .exc
  | bad => exact .bad
theorem zi_Seq (h : ZE ma) : ZA (iSeq ma) := fun x y ρ st => by rw [e_iSeq, e_iSeq, h x y]
theorem zi_EnumD (h : ZE ma) : ZA (iEnumD ma) := fun x y ρ st => by unfold iEnumD; rw [h x y]
theorem zi_Range (h : ZA ms) : ZA (iRange ms) := fun x y ρ st => by unfold iRange; rw [h x y]
theorem zi_ZipD (h : ZA ms) : ZA (iZipD ms) := fun x y ρ st => by unfold iZipD; rw [h x y]
theorem z_compL {g : MG} {mt : Option ME} {me : ME} (hg : ZG g) (h : ∀ m ∈ mt, ZE m) (h2 : ZE me) (x y : Slot) (ρ : Env) : ∀ ds st, compL g mt me (x :: ρ) ds st = compL g mt me (y :: ρ) ds st
  | [], st => rfl
  | d :: ds, st => by
    have ih := z_compL hg h h2 x y ρ ds
    have h0 := hg x y d ρ
    unfold compL
    revert h0
    generalize g d (x :: ρ) = r
    generalize g d (y :: ρ) = r'
    intro h0
    cases h0 with
    | none => rfl
    | @some ρ1 =>
      dsimp only
      have e : (fun (b : Bool) (s1 : Store) => if b = true then compE (me (x :: ρ1) s1) fun y_1 s2 => consA y_1 (compL g mt me (x :: ρ) ds s2) else compL g mt me (x :: ρ) ds s1) = (fun (b : Bool) (s1 : Store) => if b = true then compE (me (y :: ρ1) s1) fun y_1 s2 => consA y_1 (compL g mt me (y :: ρ) ds s2) else compL g mt me (y :: ρ) ds s1) := by
        funext b s1
        rw [h2 x y, ih s1]
        congr 2
        funext y1 s2
        rw [ih s2]
      rw [e]
      cases mt with
      | none => rfl
      | some m => unfold testO; dsimp only; rw [h m rfl x y]
theorem z_wipe {x : Slot} : ∀ {vs : List Nat} {ρ : Env}, vs.all (· != 0) = true → ∃ ρ', ∀ y, wipeE (y :: ρ) vs = y :: ρ'
  | [], ρ, _ => ⟨ρ, fun _ => rfl⟩
  | v :: vs, ρ, h => by
    simp only [List.all_cons, Bool.and_eq_true, bne_iff_ne, ne_eq] at h
    obtain ⟨ρ', e⟩ := z_wipe (x := x) (vs := vs) (ρ := ρ) h.2
    cases v with
    | zero => exact absurd rfl h.1
    | succ v => exact ⟨ρ'.set v .no, fun y => by unfold wipeE; rw [e y]; rfl⟩
theorem ze_Comp {vs : List Nat} {mi : MI} {g : MG} {mt : Option ME} {me : ME} (h0 : ZA mi) (hg : ZG g) (h : ∀ m ∈ mt, ZE m) (h2 : ZE me) (hv : vs.all (· != 0) = true := by decide) : ZE (mComp vs mi g mt me) := fun x y ρ st => by
  unfold mComp
  obtain ⟨ρ', e⟩ := z_wipe (x := x) (vs := vs) (ρ := ρ) hv
  rw [h0 x y, e x, e y]
  cases mi (y :: ρ) st with
  | ok ds s1 => dsimp only; rw [z_compL hg h h2 x y]
  | exc c s => rfl
  | bad => rfl
theorem zk_Nil : ZK kNil := fun _ _ _ _ => rfl
theorem zk_Cons {ms : MK} (h : ZE ma) (h2 : ZK ms) : ZK (kCons ma ms) := fun x y ρ st => by
  have : ms (x :: ρ) = ms (y :: ρ) := funext fun s => h2 x y ρ s
  unfold kCons
  rw [h x y, this]
theorem z_setAll {x y : Slot} : ∀ {is : List Nat} {ds : List (D × Kd)} {ρ : Env}, is.all (· != 0) = true → ZO x y (setAll is ds (x :: ρ)) (setAll is ds (y :: ρ))
  | [], [], ρ, _ => .some
  | [], _ :: _, ρ, _ => .none
  | _ :: _, [], ρ, _ => .none
  | i :: is, (d, k) :: ds, ρ, h => by
    simp only [List.all_cons, Bool.and_eq_true, bne_iff_ne, ne_eq] at h
    cases i with
    | zero => exact absurd rfl h.1
    | succ i =>
      unfold setAll
      cases k with
      | b => exact .none
      | f => exact z_setAll h.2
      | s => exact z_setAll h.2
theorem zs_Par {is : List Nat} {ms : MK} (h : ZK ms) (hi : is.all (· != 0) = true := by decide) : ZS (mPar is ms) := fun x y ρ st => by
  unfold mPar
  rw [h x y]
  cases ms (y :: ρ) st with
  | ok ds s =>
    dsimp only
    have h0 := z_setAll (x := x) (y := y) (ds := ds) (ρ := ρ) hi
    revert h0
    generalize setAll is ds (x :: ρ) = r
    generalize setAll is ds (y :: ρ) = r'
    intro h0
    cases h0 <;> constructor
  | exc c s => exact .exc
  | bad => exact .bad
theorem zs_SetIx {i : Nat} {mi me : ME} (h : ZE mi) (h2 : ZE me) (hi : i ≠ 0 := by decide) : ZS (mSetIx i mi me) := fun x y ρ st => by
  unfold mSetIx
  rw [h2 x y]
  refine zr_with fun d k s => ?_
  have : ZR x y (setIx i mi d (x :: ρ) s) (setIx i mi d (y :: ρ) s) := by
    cases i with
    | zero => exact absurd rfl hi
    | succ i =>
      have e1 : (x :: ρ)[i + 1]? = ρ[i]? := rfl
      have e2 : (y :: ρ)[i + 1]? = ρ[i]? := rfl
      unfold setIx
      rw [e1, e2]
      split
      · rw [h x y]
        refine zr_with fun z _ s => ?_
        unfold setOwn
        split
        · split <;> constructor
        · constructor
      · rw [h x y]
        refine zr_with fun z _ s => ?_
        unfold setCell
        split
        · split
          · split <;> constructor
          · constructor
        · constructor
      · exact .bad
  cases k with
  | b => exact .bad
  | s => exact this
  | f => exact this
theorem zs_Append {i : Nat} (h : ZE ma) (hi : i ≠ 0 := by decide) : ZS (mAppend i ma) := fun x y ρ st => by
  cases i with
  | zero => exact absurd rfl hi
  | succ i =>
    have e1 : (x :: ρ)[i + 1]? = ρ[i]? := rfl
    have e2 : (y :: ρ)[i + 1]? = ρ[i]? := rfl
    unfold mAppend
    rw [e1, e2]
    split
    · rw [h x y]
      refine zr_with fun d k s => ?_
      cases k with
      | b => exact .bad
      | _ => dsimp only; split <;> constructor
    · exact .bad
theorem zs_Pop {j i : Nat} (hi : i ≠ 0 := by decide) (hj : j ≠ 0 := by decide) : ZS (mPop j i) := fun x y ρ st => by
  cases i with
  | zero => exact absurd rfl hi
  | succ i => cases j with
    | zero => exact absurd rfl hj
    | succ j =>
      have e1 : (x :: ρ)[i + 1]? = ρ[i]? := rfl
      have e2 : (y :: ρ)[i + 1]? = ρ[i]? := rfl
      unfold mPop
      rw [e1, e2]
      split
      · split <;> constructor
      · constructor
end
/-! groups of closed steps -/
theorem SR.bind_assoc (r : SR) (f g : MS) : (r.bind f).bind g = r.bind fun ρ st => (f ρ st).bind g := by
  cases r <;> rfl
theorem seq_assoc (a b c : MS) : mSeq (mSeq a b) c = mSeq a (mSeq b c) := by
  funext ρ st
  exact SR.bind_assoc _ _ _
def Slot.same : Slot → Slot → Bool
  | .val a, .val b => match a, b with
    | .cell i, .cell j => i == j
    | _, _ => D.same a b
  | .own a, .own b => D.same a b
  | _, _ => false
theorem Slot.same_eq {a b : Slot} (h : a.same b = true) : a = b := by
  unfold Slot.same at h
  split at h
  · split at h
    · rw [beq_iff_eq] at h; rw [h]
    · rw [D.same_eq h]
  · rw [D.same_eq h]
  · cases h
def pin : List (Option Slot) → Env → Env
  | [], _ => []
  | some d :: p, ρ => d :: pin p ρ.tail
  | none :: p, ρ => ρ.headD .no :: pin p ρ.tail
def pinned : List (Option Slot) → Env → Bool
  | [], [] => true
  | some d :: p, x :: ρ => x.same d && pinned p ρ
  | none :: p, _ :: ρ => pinned p ρ
  | _, _ => false
theorem pin_eq : ∀ {p : List (Option Slot)} {ρ : Env}, pinned p ρ = true → ρ = pin p ρ
  | [], [], _ => rfl
  | some d :: p, x :: ρ, h => by
    simp only [pinned, Bool.and_eq_true] at h
    show x :: ρ = d :: pin p ρ
    rw [Slot.same_eq h.1, ← pin_eq h.2]
  | none :: p, s :: ρ, h => by
    show s :: ρ = s :: pin p ρ
    rw [← pin_eq (show pinned p ρ = true from h)]
def SR.pins (p : List (Option Slot)) : SR → Bool
  | .next ρ [] => pinned p ρ
  | _ => false
theorem group {a b : MS} (f : FS a) {ρ : Env} (p : List (Option Slot)) (h : (a ρ []).pins p = true) (st : Store) : ∃ ρ', mSeq a b ρ st = b (pin p ρ') st := by
  have q := f ρ st
  unfold mSeq
  generalize a ρ [] = r at q h
  generalize a ρ st = r' at q
  cases q with
  | next => rename_i ρ1; exact ⟨ρ1, by rw [← pin_eq (show pinned p ρ1 = true from h)]; rfl⟩
  | _ => cases h
/-- with an unknown slot 0 -/
theorem group0 {a b : MS} (f : FS a) (z : ZS a) {ρ : Env} (x : Slot) (p : List (Option Slot)) (h : (a (.no :: ρ) []).pins (none :: p) = true) (st : Store) : ∃ ρ', mSeq a b (x :: ρ) st = b (x :: pin p ρ') st := by
  have q := f (.no :: ρ) st
  have z := z .no x ρ st
  unfold mSeq
  generalize a (.no :: ρ) [] = r at q h
  generalize a (.no :: ρ) st = r' at q z
  generalize a (x :: ρ) st = r2 at z
  cases q with
  | next =>
    cases z with
    | next =>
      rename_i ρ1
      exact ⟨ρ1, by rw [← pin_eq (show pinned p ρ1 = true from h)]; rfl⟩
  | _ => cases h
end Mi

set_option maxRecDepth 100000
/-! loops and lists, in plain terms -/
namespace Mi
open PySem PySem.Spec L2
open PyProof.Rows hiding St
theorem set_get {ρ : Env} {i : Nat} {s : Slot} (h : i < ρ.length) : (ρ.set i s)[i]? = some s := by
  rw [List.getElem?_set_self h]
theorem mV_set {ρ : Env} {i : Nat} {d : D} {st : Store} (h : i < ρ.length) : mV i (ρ.set i (.val d)) st = .ok d .s st := by
  unfold mV
  rw [set_get h]
/-- [x for x in ds if p x] -/
theorem compL_filter {i : Nat} {mt : ME} {ρ : Env} {st : Store} (p : D → Bool) (hi : i < ρ.length) : ∀ ds, (∀ d ∈ ds, ∃ k, mt (ρ.set i (.val d)) st = .ok (.bl (p d)) k st) → compL (gN i) (some mt) (mV i) ρ ds st = .ok (ds.filter p) st
  | [], _ => rfl
  | d :: ds, h => by
    obtain ⟨k, e⟩ := h d List.mem_cons_self
    have ih := compL_filter p hi ds fun x hx => h x (List.mem_cons_of_mem _ hx)
    unfold compL
    simp only [gN, testO, e, tru_bl]
    cases hp : p d with
    | true =>
      rw [if_pos rfl, mV_set hi]
      simp only [compE]
      rw [ih]
      simp [consA, hp]
    | false =>
      simp [ih, hp]
/-- [f x for x in ds] -/
theorem compL_map {i : Nat} {me : ME} {ρ : Env} {st : Store} (f : D → D) : ∀ ds, (∀ d ∈ ds, ∃ k, me (ρ.set i (.val d)) st = .ok (f d) k st ∧ k ≠ .b) → compL (gN i) none me ρ ds st = .ok (ds.map f) st
  | [], _ => rfl
  | d :: ds, h => by
    obtain ⟨k, e, hk⟩ := h d List.mem_cons_self
    have ih := compL_map (i := i) f ds fun x hx => h x (List.mem_cons_of_mem _ hx)
    unfold compL
    simp only [gN, testO, e, if_true]
    cases k <;> first | exact absurd rfl hk | simp [compE, ih, consA]
/-- for x in ds: if p x: return x -/
theorem forL_find {i : Nat} {mc : ME} {ρ : Env} {st : Store} (p : D → Bool) (hi : i < ρ.length) : ∀ (ds : List D) (ρ' : Env), (∀ s : Slot, ρ'.set i s = ρ.set i s) → (∀ d ∈ ds, ∃ k, mc (ρ.set i (.val d)) st = .ok (.bl (p d)) k st) →
    ∃ ρ'', forL (gN i) (mIfS mc (mRetV i) mSkip) ds ρ' st = match ds.find? p with | some d => .ret d .s st | none => .next ρ'' st
  | [], ρ', _, _ => ⟨ρ', rfl⟩
  | d :: ds, ρ', hr, h => by
    obtain ⟨k, e⟩ := h d List.mem_cons_self
    obtain ⟨ρ'', ih⟩ := forL_find p hi ds (ρ.set i (.val d)) (fun s => by rw [List.set_set]) fun x hx => h x (List.mem_cons_of_mem _ hx)
    refine ⟨ρ'', ?_⟩
    rw [forL_gN, hr, e_IfS, e]
    simp only [with_ok, tru_bl]
    cases hp : p d with
    | true =>
      have : mRetV i (ρ.set i (.val d)) st = .ret d .s st := by
        unfold mRetV
        rw [set_get hi]
      simp [this, hp]
    | false =>
      simp only [e_Skip, step_next, List.find?_cons, hp]
      exact ih
/-! ranges -/
theorem rangeD_C : ∀ (n : Nat) (lo : Int), rangeD lo n = rangeC lo 1 n
  | 0, _ => rfl
  | n + 1, lo => by rw [rangeD, rangeC, rangeD_C n]
theorem rangeC_mem {c : Int} : ∀ {n : Nat} {lo : Int} {d : D}, d ∈ rangeC lo c n → ∃ j : Nat, j < n ∧ d = .int (lo + c * j)
  | n + 1, lo, d, h => by
    rw [rangeC] at h
    cases h with
    | head => exact ⟨0, by omega, by simp⟩
    | tail _ h =>
      obtain ⟨j, hj, e⟩ := rangeC_mem h
      refine ⟨j + 1, by omega, ?_⟩
      rw [e]
      congr 1
      push_cast
      rw [Int.mul_add]
      omega
/-- how many stand in range(a, b, c) -/
def cntC (a b c : Int) : Nat := (Builtin.Range.rangeSize a b c).toNat
theorem cntC_iff {a b c : Int} (hc : 0 < c) (j : Nat) : j < cntC a b c ↔ a + c * j < b := by
  unfold cntC Builtin.Range.rangeSize
  rw [if_pos (show c > 0 from hc)]
  split
  · rename_i h
    have hd : 0 ≤ (b - a - 1) / c := Int.ediv_nonneg (by omega) (by omega)
    have key : (j : Int) ≤ (b - a - 1) / c ↔ (j : Int) * c ≤ b - a - 1 := Int.le_ediv_iff_mul_le hc
    have e : (j : Int) * c = c * j := Int.mul_comm _ _
    rw [e] at key
    constructor
    · intro q
      have : (j : Int) ≤ (b - a - 1) / c := by omega
      have := key.mp this
      omega
    · intro q
      have : c * (j : Int) ≤ b - a - 1 := by omega
      have := key.mpr this
      omega
  · rename_i h
    have : 0 ≤ c * (j : Int) := Int.mul_nonneg (by omega) (by omega)
    constructor
    · intro q
      simp at q
    · intro q
      omega
theorem e_range3 {ms : MA} {ρ : Env} {st st' : Store} {x y c : Int} (h : ms ρ st = .ok [.int x, .int y, .int c] st') (hc : 0 < c) (hc2 : c < 1073741824) (hs : Builtin.Range.small x y c = true) : iRange ms ρ st = .ok (rangeC x c (cntC x y c)) st' := by
  unfold iRange
  rw [h]
  dsimp only
  rw [if_pos]
  · rfl
  · refine ⟨by omega, by omega, hs, ?_⟩
    unfold Builtin.Range.rangeSize
    rw [if_pos (show c > 0 from hc)]
    split
    · have := Int.ediv_nonneg (show 0 ≤ y - x - 1 by omega) (show 0 ≤ c by omega)
      omega
    · omega
/-! the first divisor -/
def pD (N : Int) : D → Bool
  | .int x => decide (N % x = 0)
  | _ => false
def fd (N : Int) (lo c : Int) : Nat → Option Int
  | 0 => none
  | n + 1 => if N % lo = 0 then some lo else fd N (lo + c) c n
def oD : Option Int → D
  | some x => .int x
  | none => .non
theorem find_fd {N c : Int} : ∀ (n : Nat) (lo : Int), (rangeC lo c n).find? (pD N) = (fd N lo c n).map D.int
  | 0, _ => rfl
  | n + 1, lo => by
    rw [rangeC, List.find?_cons, fd, find_fd n]
    by_cases h : N % lo = 0
    · simp [pD, h]
    · simp [pD, h]
theorem fd_none {N c : Int} : ∀ {n : Nat} {lo : Int}, fd N lo c n = none ↔ ∀ j : Nat, j < n → N % (lo + c * j) ≠ 0
  | 0, lo => by simp [fd]
  | n + 1, lo => by
    rw [fd]
    by_cases h : N % lo = 0
    · rw [if_pos h]
      constructor
      · intro q; cases q
      · intro q; exact absurd (by simpa using h) (q 0 (by omega))
    · rw [if_neg h, fd_none]
      constructor
      · intro q j hj
        cases j with
        | zero => simpa using h
        | succ j =>
          have := q j (by omega)
          have e : lo + c * ((j + 1 : Nat) : Int) = lo + c + c * j := by push_cast; rw [Int.mul_add]; omega
          rw [e]; exact this
      · intro q j hj
        have := q (j + 1) (by omega)
        have e : lo + c * ((j + 1 : Nat) : Int) = lo + c + c * j := by push_cast; rw [Int.mul_add]; omega
        rw [e] at this; exact this
theorem fd_some {N c x : Int} : ∀ {n : Nat} {lo : Int}, fd N lo c n = some x ↔ ∃ j : Nat, j < n ∧ x = lo + c * j ∧ N % x = 0 ∧ ∀ i : Nat, i < j → N % (lo + c * i) ≠ 0
  | 0, lo => by simp [fd]
  | n + 1, lo => by
    rw [fd]
    by_cases h : N % lo = 0
    · rw [if_pos h]
      constructor
      · intro q
        cases q
        exact ⟨0, by omega, by simp, h, fun i hi => by omega⟩
      · rintro ⟨j, hj, e, h1, h2⟩
        cases j with
        | zero => simp at e; rw [e]
        | succ j => exact absurd (by simpa using h) (h2 0 (by omega))
    · rw [if_neg h, fd_some]
      constructor
      · rintro ⟨j, hj, e, h1, h2⟩
        refine ⟨j + 1, by omega, ?_, h1, ?_⟩
        · rw [e]; push_cast; rw [Int.mul_add]; omega
        · intro i hi
          cases i with
          | zero => simpa using h
          | succ i =>
            have := h2 i (by omega)
            have e : lo + c * ((i + 1 : Nat) : Int) = lo + c + c * i := by push_cast; rw [Int.mul_add]; omega
            rw [e]; exact this
      · rintro ⟨j, hj, e, h1, h2⟩
        cases j with
        | zero => simp at e; rw [e] at h1; exact absurd h1 h
        | succ j =>
          refine ⟨j, by omega, ?_, h1, ?_⟩
          · rw [e]; push_cast; rw [Int.mul_add]; omega
          · intro i hi
            have := h2 (i + 1) (by omega)
            have e : lo + c * ((i + 1 : Nat) : Int) = lo + c + c * i := by push_cast; rw [Int.mul_add]; omega
            rw [e] at this; exact this
theorem head_filter {p : D → Bool} : ∀ l : List D, (l.filter p)[0]? = l.find? p
  | [] => rfl
  | a :: l => by
    cases h : p a with
    | true => simp [h]
    | false => simp [h, head_filter l]
def someM : MS :=
    (mRet (mIx (mV 1) (mCall rollF (aCons (mV 0) (aCons (mB bLen (lCons (mV 1) aNil)) aNil)))))
def someF : Fn := mFun 2 2 someM
theorem atI_mem {l : List D} {r : Int} (h0 : 0 ≤ r) (h1 : r < l.length) : ∃ d ∈ l, L2.atI l r = some d := by
  have hr : r = ((r.toNat : Nat) : Int) := by omega
  have hlt : r.toNat < l.length := by omega
  refine ⟨l[r.toNat], List.getElem_mem hlt, ?_⟩
  have := atI_nat (xs := l) (j := r.toNat) (List.getElem?_eq_getElem hlt)
  rw [← hr] at this
  exact this
theorem some_lst {c0 c1 : Int} {l : List D} (c : Cup c0 c1) (h : l ≠ []) (hl : l.length ≤ 16777216) : ∃ d d0 d1, d ∈ l ∧ Cup d0 d1 ∧ someF [.cell 0, .lst l] (cupS c0 c1) = .ok d .s (cupS d0 d1) := by
  have hp : 0 < l.length := List.length_pos_iff.mpr h
  have hlog : ((l.length : Int)).natAbs.log2 < 9000 := by
    have := log2_le' (n := l.length) (k := 24) (by omega)
    simp
    omega
  obtain ⟨r, d0, d1, r0, r1, cd, er⟩ := roll_ok c (m := l.length) (by omega) hlog
  obtain ⟨d, hd, e⟩ := atI_mem r0 r1
  refine ⟨d, d0, d1, hd, cd, ?_⟩
  unfold someF
  rw [fun_eq (show [D.cell 0, D.lst l].length = 2 from rfl)]
  simp [someM, startE, bLen, er, ixS, dIx, e]
theorem some_tup {c0 c1 : Int} {l : List D} (c : Cup c0 c1) (h : l ≠ []) (hl : l.length ≤ 16777216) : ∃ d d0 d1, d ∈ l ∧ Cup d0 d1 ∧ someF [.cell 0, .tup l] (cupS c0 c1) = .ok d .s (cupS d0 d1) := by
  have hp : 0 < l.length := List.length_pos_iff.mpr h
  have hlog : ((l.length : Int)).natAbs.log2 < 9000 := by
    have := log2_le' (n := l.length) (k := 24) (by omega)
    simp
    omega
  obtain ⟨r, d0, d1, r0, r1, cd, er⟩ := roll_ok c (m := l.length) (by omega) hlog
  obtain ⟨d, hd, e⟩ := atI_mem r0 r1
  refine ⟨d, d0, d1, hd, cd, ?_⟩
  unfold someF
  rw [fun_eq (show [D.cell 0, D.tup l].length = 2 from rfl)]
  simp [someM, startE, bLen, er, ixS, dIx, e]
end Mi

set_option maxRecDepth 100000
/-! x in t where things may be tuples -/
namespace Mi
open PySem PySem.Spec L2
open PyProof.Rows hiding St
section
variable {X : Cx}
def rInT (K : PySem.W.Frag) : R2 := fun x y H Q => ∃ d ds, Dp K H x d ∧ Dp K H y (.tuple ds) ∧ SeqAt.shaped d = true ∧ SeqAt.shaped (.tuple ds) = true ∧ Q (.bl (ds.any fun z => PyData.eqv z d)) H
def rNotInT (K : PySem.W.Frag) : R2 := fun x y H Q => ∃ d ds, Dp K H x d ∧ Dp K H y (.tuple ds) ∧ SeqAt.shaped d = true ∧ SeqAt.shaped (.tuple ds) = true ∧ Q (.bl (!ds.any fun z => PyData.eqv z d)) H
theorem op_inT (hu : X.A.units + 65 < cLine) : OpR X (compareOp .In) (rInT X.K) := by
  intro pins s σ H x y v u Q I rx ry h
  obtain ⟨d, ds, hd, he, sd, se, q⟩ := h
  obtain ⟨as, r1⟩ := Dp.reads I d x v hd rx
  obtain ⟨bs, r2⟩ := Dp.reads I (.tuple ds) y u he ry
  exact SeqAt.in_tuple_reads r2 r1 (SeqAt.canLay_of_shaped se) (SeqAt.canLay_of_shaped sd) (room_in_shaped sd hu) ⟨.bl _, H, I, rfl, q⟩
theorem op_notInT (hu : X.A.units + 65 < cLine) : OpR X (compareOp .NotIn) (rNotInT X.K) := by
  intro pins s σ H x y v u Q I rx ry h
  obtain ⟨d, ds, hd, he, sd, se, q⟩ := h
  obtain ⟨as, r1⟩ := Dp.reads I d x v hd rx
  obtain ⟨bs, r2⟩ := Dp.reads I (.tuple ds) y u he ry
  exact SeqAt.notIn_tuple_reads r2 r1 (SeqAt.canLay_of_shaped se) (SeqAt.canLay_of_shaped sd) (room_in_shaped sd hu) ⟨.bl _, H, I, rfl, q⟩
abbrev rInDD (K : PySem.W.Frag) : R2 := fun x y H Q => rInD K x y H Q ∨ rInT K x y H Q
abbrev rNotInDD (K : PySem.W.Frag) : R2 := fun x y H Q => rNotInD K x y H Q ∨ rNotInT K x y H Q
theorem op_inDD {k : Nat} (hr : Room k X.A) : OpR X (compareOp .In) (rInDD X.K) := (op_inD (by have := hr.un; omega)).or (op_inT (by have := hr.un; omega))
theorem op_notInDD {k : Nat} (hr : Room k X.A) : OpR X (compareOp .NotIn) (rNotInDD X.K) := (op_notInD (by have := hr.un; omega)).or (op_notInT (by have := hr.un; omega))
end
def dInD (neg : Bool) (x y : D) : Option D := if x.flat 60 && y.flat 60 then (match y with
  | .lst l => some (.bl (if neg then !(l.any fun z => z.eqd x) else l.any fun z => z.eqd x))
  | .tup l => some (.bl (if neg then !(l.any fun z => z.eqd x) else l.any fun z => z.eqd x))
  | _ => none) else none
theorem any_py {x : D} {n m : Nat} (hx : x.flat m = true) : ∀ {l : List D}, flatL n l = true → ((pyL l).any fun z => PyData.eqv z x.py) = l.any fun z => z.eqd x
  | [], _ => rfl
  | d :: l, h => by
    simp only [flatL, Bool.and_eq_true] at h
    rw [pyL, List.any_cons, List.any_cons, D.eqd_py d x n m h.1 hx, any_py hx h.2]
section
variable {M : Md}
theorem o_inD : Op2 M (dInD false) (rInDD M.K) := by
  intro w H st v u x y d Q s sx sy h fin
  unfold dInD at h
  split at h
  · rename_i hl
    rw [Bool.and_eq_true] at hl
    split at h
    · rename_i l
      cases h
      have hd := sy.dp hl.2
      have hq : flatL 59 l = true := hl.2
      exact .inl ⟨x.py, pyL l, sx.dp hl.1, hd, flat_shaped hl.1, flat_shaped hl.2, by rw [any_py hl.1 hq]; exact fin.rep s rfl (.bl _)⟩
    · rename_i l
      cases h
      have hd := sy.dp hl.2
      have hq : flatL 59 l = true := hl.2
      exact .inr ⟨x.py, pyL l, sx.dp hl.1, hd, flat_shaped hl.1, flat_shaped hl.2, by rw [any_py hl.1 hq]; exact fin.rep s rfl (.bl _)⟩
    · cases h
  · cases h
theorem o_notInD : Op2 M (dInD true) (rNotInDD M.K) := by
  intro w H st v u x y d Q s sx sy h fin
  unfold dInD at h
  split at h
  · rename_i hl
    rw [Bool.and_eq_true] at hl
    split at h
    · rename_i l
      cases h
      have hd := sy.dp hl.2
      have hq : flatL 59 l = true := hl.2
      exact .inl ⟨x.py, pyL l, sx.dp hl.1, hd, flat_shaped hl.1, flat_shaped hl.2, by rw [any_py hl.1 hq]; exact fin.rep s rfl (.bl _)⟩
    · rename_i l
      cases h
      have hd := sy.dp hl.2
      have hq : flatL 59 l = true := hl.2
      exact .inr ⟨x.py, pyL l, sx.dp hl.1, hd, flat_shaped hl.1, flat_shaped hl.2, by rw [any_py hl.1 hq]; exact fin.rep s rfl (.bl _)⟩
    · cases h
  · cases h
theorem b_inD (neg : Bool) : ∀ x y d, dInD neg x y = some d → ∃ b, d = .bl b := fun x y d h => by
  unfold dInD at h
  split at h
  · split at h <;> first | (cases h; exact ⟨_, rfl⟩) | cases h
  · cases h
end
end Mi

set_option maxRecDepth 100000
/-! loops with a state -/
namespace Mi
open PySem PySem.Spec L2
open PyProof.Rows hiding St
def loopS {S : Type} (cond : S → Bool) (step : S → S) : Nat → S → S
  | 0, s => s
  | n + 1, s => if cond s = true then loopS cond step n (step s) else s
theorem loopS_stop {S : Type} {cond : S → Bool} {step : S → S} {s : S} (h : cond s = false) : ∀ n, loopS cond step n s = s
  | 0 => rfl
  | n + 1 => by rw [loopS, h]; rfl
/-- what holds at the end -/
theorem loopS_inv {S : Type} {cond : S → Bool} {step : S → S} (μ : S → Nat) (I : S → Prop) (hb : ∀ s, I s → cond s = true → I (step s) ∧ μ (step s) < μ s) : ∀ n s, I s → μ s ≤ n → I (loopS cond step n s) ∧ cond (loopS cond step n s) = false
  | 0, s, h, hn => by
    refine ⟨h, ?_⟩
    cases q : cond s with
    | false => exact q
    | true => have := (hb s h q).2; omega
  | n + 1, s, h, hn => by
    rw [loopS]
    cases q : cond s with
    | false => exact ⟨by simpa using h, by simpa using q⟩
    | true =>
      obtain ⟨h1, h2⟩ := hb s h q
      simpa using loopS_inv μ I hb n (step s) h1 (by omega)
theorem loopS_more {S : Type} {cond : S → Bool} {step : S → S} (μ : S → Nat) (I : S → Prop) (hb : ∀ s, I s → cond s = true → I (step s) ∧ μ (step s) < μ s) : ∀ n m s, I s → μ s ≤ n → μ s ≤ m → loopS cond step n s = loopS cond step m s
  | n, m, s, h, hn, hm => by
    cases q : cond s with
    | false => rw [loopS_stop q, loopS_stop q]
    | true =>
      obtain ⟨h1, h2⟩ := hb s h q
      cases n with
      | zero => omega
      | succ n => cases m with
        | zero => omega
        | succ m =>
          rw [loopS, loopS, q]
          exact loopS_more μ I hb n m (step s) h1 (by omega) (by omega)
section
variable {S : Type} {mc : ME} {body : MS} {st : Store}
theorem whileN_loop (emb : S → Env) (cond : S → Bool) (step : S → S) (μ : S → Nat) (I : S → Prop) (hc : ∀ s, I s → ∃ x k, mc (emb s) st = .ok x k st ∧ x.tru = some (cond s)) (hb : ∀ s, I s → cond s = true → body (emb s) st = .next (emb (step s)) st ∧ I (step s) ∧ μ (step s) < μ s) :
    ∀ n s, I s → μ s < n → whileN mc body n (emb s) st = .next (emb (loopS cond step (μ s) s)) st
  | 0, s, h, hn => by omega
  | n + 1, s, h, hn => by
    obtain ⟨x, k, e, ht⟩ := hc s h
    rw [whileN_succ, e]
    simp only [with_ok, ht]
    cases q : cond s with
    | false => rw [loopS_stop q]
    | true =>
      obtain ⟨b1, b2, b3⟩ := hb s h q
      dsimp only
      rw [b1, step_next, whileN_loop emb cond step μ I hc hb n (step s) b2 (by omega)]
      congr 2
      have hb' : ∀ s, I s → cond s = true → I (step s) ∧ μ (step s) < μ s := fun s a b => (hb s a b).2
      cases hm : μ s with
      | zero => omega
      | succ m =>
        rw [loopS, q, if_pos rfl]
        exact loopS_more μ I hb' _ _ _ b2 (Nat.le_refl _) (by omega)
theorem while_loop (emb : S → Env) (cond : S → Bool) (step : S → S) (μ : S → Nat) (I : S → Prop) (hc : ∀ s, I s → ∃ x k, mc (emb s) st = .ok x k st ∧ x.tru = some (cond s)) (hb : ∀ s, I s → cond s = true → body (emb s) st = .next (emb (step s)) st ∧ I (step s) ∧ μ (step s) < μ s)
    (s : S) (h : I s) (hn : μ s < BIG) : mWhile mc body (emb s) st = .next (emb (loopS cond step (μ s) s)) st := whileN_loop emb cond step μ I hc hb BIG s h hn
/-- a loop that may return from inside -/
def loopR (cond : S → Bool) (stop : S → Option D) (step : S → S) : Nat → S → D ⊕ S
  | 0, s => .inr s
  | n + 1, s => if cond s = true then (match stop s with | some d => .inl d | none => loopR cond stop step n (step s)) else .inr s
theorem whileN_ret (emb : S → Env) (cond : S → Bool) (stop : S → Option D) (step : S → S) (μ : S → Nat) (I : S → Prop) (hc : ∀ s, I s → ∃ x k, mc (emb s) st = .ok x k st ∧ x.tru = some (cond s))
    (hs : ∀ s d, I s → cond s = true → stop s = some d → body (emb s) st = .ret d .s st)
    (hb : ∀ s, I s → cond s = true → stop s = none → body (emb s) st = .next (emb (step s)) st ∧ I (step s) ∧ μ (step s) < μ s) :
    ∀ n m s, I s → μ s < n → μ s < m → whileN mc body n (emb s) st = match loopR cond stop step m s with | .inl d => .ret d .s st | .inr s' => .next (emb s') st
  | 0, _, s, h, hn, _ => by omega
  | n + 1, 0, s, h, hn, hm => by omega
  | n + 1, m + 1, s, h, hn, hm => by
    obtain ⟨x, k, e, ht⟩ := hc s h
    rw [whileN_succ, e, loopR]
    simp only [with_ok, ht]
    cases q : cond s with
    | false => rfl
    | true =>
      cases q2 : stop s with
      | some d => simp [hs s d h q q2]
      | none =>
        obtain ⟨b1, b2, b3⟩ := hb s h q q2
        dsimp only
        rw [b1, step_next, whileN_ret emb cond stop step μ I hc hs hb n m (step s) b2 (by omega) (by omega)]
        simp
theorem while_ret (emb : S → Env) (cond : S → Bool) (stop : S → Option D) (step : S → S) (μ : S → Nat) (I : S → Prop) (hc : ∀ s, I s → ∃ x k, mc (emb s) st = .ok x k st ∧ x.tru = some (cond s))
    (hs : ∀ s d, I s → cond s = true → stop s = some d → body (emb s) st = .ret d .s st)
    (hb : ∀ s, I s → cond s = true → stop s = none → body (emb s) st = .next (emb (step s)) st ∧ I (step s) ∧ μ (step s) < μ s)
    (m : Nat) (s : S) (h : I s) (hn : μ s < BIG) (hm : μ s < m) : mWhile mc body (emb s) st = match loopR cond stop step m s with | .inl d => .ret d .s st | .inr s' => .next (emb s') st := whileN_ret emb cond stop step μ I hc hs hb BIG m s h hn hm
/-- for with a state -/
theorem for_fold {i : Nat} (emb : S → Slot → Env) (step : D → S → S) (I : S → Prop) : ∀ (ds : List D) (s : S) (t : Slot), (∀ s t d, (emb s t).set i (.val d) = emb s (.val d)) → (∀ s d, I s → d ∈ ds → body (emb s (.val d)) st = .next (emb (step d s) (.val d)) st ∧ I (step d s)) → I s →
    ∃ t', forL (gN i) body ds (emb s t) st = .next (emb (ds.foldl (fun s d => step d s) s) t') st ∧ I (ds.foldl (fun s d => step d s) s)
  | [], s, t, _, _, h => ⟨t, rfl, h⟩
  | d :: ds, s, t, he, hb, h => by
    obtain ⟨b1, b2⟩ := hb s d h List.mem_cons_self
    obtain ⟨t', e, h'⟩ := for_fold emb step I ds (step d s) (.val d) he (fun s x hs hx => hb s x hs (List.mem_cons_of_mem _ hx)) b2
    refine ⟨t', ?_, h'⟩
    rw [forL_gN, he, b1, step_next, e]
    rfl
end
theorem dMul_b {x y : Int} (hx : x.natAbs < 2 ^ 200) (hy : y.natAbs < 2 ^ 200) : dMul (.int x) (.int y) = some (.int (x * y)) := dMul_int (by
  have := log2_le' (n := x.natAbs) (k := 199) hx
  have := log2_le' (n := y.natAbs) (k := 199) hy
  omega)
theorem small_ok {a b c : Int} (ha : -(2 ^ 60) ≤ a) (ha2 : a ≤ 2 ^ 60) (hb : -(2 ^ 60) ≤ b) (hb2 : b ≤ 2 ^ 60) (hc : 0 < c) (hc2 : c < 2 ^ 30) : Builtin.Range.small a b c = true := by
  have hz : 0 ≤ Builtin.Range.rangeSize a b c ∧ Builtin.Range.rangeSize a b c ≤ 2 ^ 62 := by
    unfold Builtin.Range.rangeSize
    rw [if_pos (show c > 0 from hc)]
    split
    · have h1 := Int.ediv_nonneg (show 0 ≤ b - a - 1 by omega) (show 0 ≤ c by omega)
      have h2 := Int.ediv_le_self c (show 0 ≤ b - a - 1 by omega)
      omega
    · omega
  unfold Builtin.Range.small Builtin.Range.rangeFitsLong
  rw [if_pos (show c > 0 from hc)]
  simp only [Bool.and_eq_true, Bool.or_eq_true, decide_eq_true_eq]
  refine ⟨⟨⟨⟨?_, ?_⟩, ?_⟩, ?_⟩, .inr ?_⟩ <;> constructor <;> omega
end Mi

set_option maxRecDepth 100000
namespace Lw
open PySem PySem.Spec L2 Mi
open PyProof.Rows hiding St
def topS (i : Nat) : Stmt := PySem.Challenge.pw_primessure_k77_whole_false_papers_and_fr.main.body.getD i (.Pass ⟨0, 0, 0, 0⟩)
structure Tx (K : PySem.W.Frag) (mg : Str → Option Value) : Prop where
  b_abs : mg "abs" = none
  b_bool : mg "bool" = none
  b_int : mg "int" = none
  b_isinstance : mg "isinstance" = none
  b_len : mg "len" = none
  b_list : mg "list" = none
  b_min : mg "min" = none
  b_range : mg "range" = none
  b_str : mg "str" = none
  b_tuple : mg "tuple" = none
  b_zip : mg "zip" = none
  c_GREAT : ∃ t, mg "GREAT" = some (.int (10000000000000000000000000000000000000000) t)
  c_LISTED_FRONT : ∃ t, mg "LISTED_FRONT" = some (.int (400) t)
  c_LISTED_POWER : ∃ t, mg "LISTED_POWER" = some (.int (120) t)
  c_MOST_POWER : ∃ t, mg "MOST_POWER" = some (.int (132) t)
section
variable {P : Program} {w : World} {K : PySem.W.Frag} {mg : Str → Option Value} {base : Heap}
/-! is_integer -/
abbrev s_is_integer : Stmt := topS 6
abbrev N_is_integer : List Str := ["value"]
noncomputable def m_is_integer : MS :=
    (mRet (mAnd (mIsI .int (mV 0)) (mNot (mIsI .bool (mV 0)))))
noncomputable def F_is_integer : Fn := mFun 1 1 m_is_integer
theorem ff_is_integer : FF F_is_integer := ff_Fun (fs_Ret (fe_And (fe_IsI (fe_V)) (fe_Not (fe_IsI (fe_V)))))
theorem S_is_integer : FnScope N_is_integer ["value"] (defScope s_is_integer) := ⟨rfl, rfl, rfl, by decide +kernel, rfl, by decide +kernel, by decide +kernel⟩
theorem ok_is_integer (T : Tx K mg) {f : Addr} {fd : FuncData} (Fn : Fun K "is_integer" "is_integer" s_is_integer f fd) (hm : mg "is_integer" = some (.ref f))  : Fx P w K mg base "is_integer" 1 ["value"] 1 F_is_integer :=
  ⟨⟨f, fd, fn_mk Fn S_is_integer rfl rfl fun cdv A outer s H E hr => (by
    have tk := takes_of (X := cxOf (L2.CX P w) P w K mg base N_is_integer "is_integer" (defScope s_is_integer) f cdv A outer s H E) (E := E) rfl rfl rfl rfl
    exact (s_one (s_ret (x_and (x_isI .int (by rfl) T.b_isinstance (by rfl) T.b_int rfl (x_name 0)) (x_one (x_not (x_isI .bool (by rfl) T.b_isinstance (by rfl) T.b_bool rfl (x_name 0)))))))), hm, Fn.kp, Fn.binds (ps := ["value"]) fun _ _ _ _ _ _ us hl => match us, hl with | [_], _ => rfl⟩, mFun_len, mFun_nb⟩
/-! is_whole -/
abbrev s_is_whole : Stmt := topS 7
abbrev N_is_whole : List Str := ["value", "low", "high"]
noncomputable def m_is_whole : MS :=
    (mRet (mAnd (mCall F_is_integer (aCons (mV 0) aNil)) (mChain dLe dLe (mV 1) (mV 0) (mV 2))))
noncomputable def F_is_whole : Fn := mFun 3 3 m_is_whole
theorem ff_is_whole : FF F_is_whole := ff_Fun (fs_Ret (fe_And (fe_Call ff_is_integer (fa_Cons (fe_V) fa_Nil)) (fe_Chain (fe_V) (fe_V) (fe_V))))
theorem S_is_whole : FnScope N_is_whole ["value", "low", "high"] (defScope s_is_whole) := ⟨rfl, rfl, rfl, by decide +kernel, rfl, by decide +kernel, by decide +kernel⟩
theorem ok_is_whole (T : Tx K mg) {f : Addr} {fd : FuncData} (Fn : Fun K "is_whole" "is_whole" s_is_whole f fd) (hm : mg "is_whole" = some (.ref f)) (f_is_integer : Fx P w K mg base "is_integer" 1 ["value"] 1 F_is_integer) : Fx P w K mg base "is_whole" 2 ["value", "low", "high"] 3 F_is_whole :=
  ⟨⟨f, fd, fn_mk Fn S_is_whole rfl rfl fun cdv A outer s H E hr => (by
    have tk := takes_of (X := cxOf (L2.CX P w) P w K mg base N_is_whole "is_whole" (defScope s_is_whole) f cdv A outer s H E) (E := E) rfl rfl rfl rfl
    exact (s_one (s_ret (x_and (x_f (f_is_integer.mono (by decide)) hr tk (xa_cons (x_name 0) xa_nil)) (x_one (x_chain op_le op_le o_le o_le (x_name 1) (x_name 0) (x_name 2))))))), hm, Fn.kp, Fn.binds (ps := ["value", "low", "high"]) fun _ _ _ _ _ _ us hl => match us, hl with | [_, _, _], _ => rfl⟩, mFun_len, mFun_nb⟩
/-! need_whole -/
abbrev s_need_whole : Stmt := topS 8
abbrev N_need_whole : List Str := ["value", "low", "high"]
noncomputable def m_need_whole : MS :=
    (mIfS (mNot (mCall F_is_whole (aCons (mV 0) (aCons (mV 1) (aCons (mV 2) aNil))))) mBad mSkip)
noncomputable def F_need_whole : Fn := mFun 3 3 m_need_whole
theorem ff_need_whole : FF F_need_whole := ff_Fun (fs_IfS (fe_Not (fe_Call ff_is_whole (fa_Cons (fe_V) (fa_Cons (fe_V) (fa_Cons (fe_V) fa_Nil))))) fs_Bad fs_Skip)
theorem S_need_whole : FnScope N_need_whole ["value", "low", "high"] (defScope s_need_whole) := ⟨rfl, rfl, rfl, by decide +kernel, rfl, by decide +kernel, by decide +kernel⟩
theorem ok_need_whole (T : Tx K mg) {f : Addr} {fd : FuncData} (Fn : Fun K "need_whole" "need_whole" s_need_whole f fd) (hm : mg "need_whole" = some (.ref f)) (f_is_whole : Fx P w K mg base "is_whole" 2 ["value", "low", "high"] 3 F_is_whole) : Fx P w K mg base "need_whole" 3 ["value", "low", "high"] 3 F_need_whole :=
  ⟨⟨f, fd, fn_mk Fn S_need_whole rfl rfl fun cdv A outer s H E hr => (by
    have tk := takes_of (X := cxOf (L2.CX P w) P w K mg base N_need_whole "need_whole" (defScope s_need_whole) f cdv A outer s H E) (E := E) rfl rfl rfl rfl
    exact (s_one (s_if (x_notT (x_test (x_f (f_is_whole.mono (by decide)) hr tk (xa_cons (x_name 0) (xa_cons (x_name 1) (xa_cons (x_name 2) xa_nil)))))) (s_one s_bad) s_nil))), hm, Fn.kp, Fn.binds (ps := ["value", "low", "high"]) fun _ _ _ _ _ _ us hl => match us, hl with | [_, _, _], _ => rfl⟩, mFun_len, mFun_nb⟩
/-! power_in -/
abbrev s_power_in : Stmt := topS 9
abbrev N_power_in : List Str := ["one", "times", "great", "found", "here", "left"]
noncomputable def m_power_in : MS :=
    (mSeq (mPar [3, 4, 5] (kCons (mC (.int 1)) (kCons (mOp2 dMod (mV 0) (mV 2)) (kCons (mV 1) kNil))))
    (mSeq (mWhile (mOp2 dGt (mV 5) (mC (.int 0))) (mSeq (mIfS (mOp2 dEq (mOp2 dMod (mV 5) (mC (.int 2))) (mC (.int 1))) (mSet 3 (mOp2 dMod (mOp2 dMul (mV 3) (mV 4)) (mV 2))) mSkip)
    (mPar [4, 5] (kCons (mOp2 dMod (mOp2 dMul (mV 4) (mV 4)) (mV 2)) (kCons (mOp2 dFdiv (mV 5) (mC (.int 2))) kNil)))))
    (mRet (mOp2 dMod (mV 3) (mV 2)))))
noncomputable def F_power_in : Fn := mFun 3 6 m_power_in
theorem ff_power_in : FF F_power_in := ff_Fun (fs_Seq (fs_Par (fk_Cons (fe_C) (fk_Cons (fe_Op2 (fe_V) (fe_V)) (fk_Cons (fe_V) fk_Nil)))) (fs_Seq (fs_While (fe_Op2 (fe_V) (fe_C)) (fs_Seq (fs_IfS (fe_Op2 (fe_Op2 (fe_V) (fe_C)) (fe_C)) (fs_Set (fe_Op2 (fe_Op2 (fe_V) (fe_V)) (fe_V))) fs_Skip) (fs_Par (fk_Cons (fe_Op2 (fe_Op2 (fe_V) (fe_V)) (fe_V)) (fk_Cons (fe_Op2 (fe_V) (fe_C)) fk_Nil))))) (fs_Ret (fe_Op2 (fe_V) (fe_V)))))
theorem S_power_in : FnScope N_power_in ["one", "times", "great"] (defScope s_power_in) := ⟨rfl, rfl, rfl, by decide +kernel, rfl, by decide +kernel, by decide +kernel⟩
theorem ok_power_in (T : Tx K mg) {f : Addr} {fd : FuncData} (Fn : Fun K "power_in" "power_in" s_power_in f fd) (hm : mg "power_in" = some (.ref f))  : Fx P w K mg base "power_in" 1 ["one", "times", "great"] 3 F_power_in :=
  ⟨⟨f, fd, fn_mk Fn S_power_in rfl rfl fun cdv A outer s H E hr => (by
    have tk := takes_of (X := cxOf (L2.CX P w) P w K mg base N_power_in "power_in" (defScope s_power_in) f cdv A outer s H E) (E := E) rfl rfl rfl rfl
    exact (s_cons (s_par3 3 4 5 S_power_in.nd (xk_cons x_int (xk_cons (x_op op_mod o_mod (x_name 0) (x_name 2)) (xk_cons (x_name 1) xk_nil))))
    (s_cons (s_while (passes_of rfl) (x_cmpT op_gt o_gt b_gt (x_name 5) x_int (nomark _)) (s_cons (s_if (x_cmpT (op_eqD hr.units) o_eq b_eq (x_op op_mod o_mod (x_name 5) x_int) x_int (nomark _)) (s_one (s_set 3 S_power_in.nd (x_op op_mod o_mod (x_op op_mul3 o_mul (x_name 3) (x_name 4)) (x_name 2)))) s_nil)
    (s_one (s_par2 4 5 S_power_in.nd (xk_cons (x_op op_mod o_mod (x_op op_mul3 o_mul (x_name 4) (x_name 4)) (x_name 2)) (xk_cons (x_op op_fdivW o_fdiv (x_name 5) x_int) xk_nil))))))
    (s_one (s_ret (x_op op_mod o_mod (x_name 3) (x_name 2))))))), hm, Fn.kp, Fn.binds (ps := ["one", "times", "great"]) fun _ _ _ _ _ _ us hl => match us, hl with | [_, _, _], _ => rfl⟩, mFun_len, mFun_nb⟩
/-! sign_in -/
abbrev s_sign_in : Stmt := topS 11
abbrev N_sign_in : List Str := ["one", "odd", "sign", "top", "below"]
noncomputable def m_sign_in : MS :=
    (mSeq (mPar [2, 3, 4] (kCons (mC (.int 1)) (kCons (mOp2 dMod (mV 0) (mV 1)) (kCons (mV 1) kNil))))
    (mSeq (mWhile (mOp2 dNe (mV 3) (mC (.int 0))) (mSeq (mWhile (mOp2 dEq (mOp2 dMod (mV 3) (mC (.int 2))) (mC (.int 0))) (mSeq (mSet 3 (mOp2 dFdiv (mV 3) (mC (.int 2))))
    (mSet 2 (mIf (mOp2 (dInP false) (mOp2 dMod (mV 4) (mC (.int 8))) (mTup (aCons (mC (.int 3)) (aCons (mC (.int 5)) aNil)))) (mOp1 dNeg (mV 2)) (mV 2)))))
    (mSeq (mSet 2 (mIf (mAnd (mOp2 dEq (mOp2 dMod (mV 3) (mC (.int 4))) (mC (.int 3))) (mOp2 dEq (mOp2 dMod (mV 4) (mC (.int 4))) (mC (.int 3)))) (mOp1 dNeg (mV 2)) (mV 2)))
    (mPar [3, 4] (kCons (mOp2 dMod (mV 4) (mV 3)) (kCons (mV 3) kNil))))))
    (mRet (mIf (mOp2 dEq (mV 4) (mC (.int 1))) (mV 2) (mC (.int 0))))))
noncomputable def F_sign_in : Fn := mFun 2 5 m_sign_in
theorem ff_sign_in : FF F_sign_in := ff_Fun (fs_Seq (fs_Par (fk_Cons (fe_C) (fk_Cons (fe_Op2 (fe_V) (fe_V)) (fk_Cons (fe_V) fk_Nil)))) (fs_Seq (fs_While (fe_Op2 (fe_V) (fe_C)) (fs_Seq (fs_While (fe_Op2 (fe_Op2 (fe_V) (fe_C)) (fe_C)) (fs_Seq (fs_Set (fe_Op2 (fe_V) (fe_C))) (fs_Set (fe_If (fe_Op2 (fe_Op2 (fe_V) (fe_C)) (fe_Tup (fa_Cons (fe_C) (fa_Cons (fe_C) fa_Nil)))) (fe_Op1 (fe_V)) (fe_V))))) (fs_Seq (fs_Set (fe_If (fe_And (fe_Op2 (fe_Op2 (fe_V) (fe_C)) (fe_C)) (fe_Op2 (fe_Op2 (fe_V) (fe_C)) (fe_C))) (fe_Op1 (fe_V)) (fe_V))) (fs_Par (fk_Cons (fe_Op2 (fe_V) (fe_V)) (fk_Cons (fe_V) fk_Nil)))))) (fs_Ret (fe_If (fe_Op2 (fe_V) (fe_C)) (fe_V) (fe_C)))))
theorem S_sign_in : FnScope N_sign_in ["one", "odd"] (defScope s_sign_in) := ⟨rfl, rfl, rfl, by decide +kernel, rfl, by decide +kernel, by decide +kernel⟩
theorem ok_sign_in (T : Tx K mg) {f : Addr} {fd : FuncData} (Fn : Fun K "sign_in" "sign_in" s_sign_in f fd) (hm : mg "sign_in" = some (.ref f))  : Fx P w K mg base "sign_in" 1 ["one", "odd"] 2 F_sign_in :=
  ⟨⟨f, fd, fn_mk Fn S_sign_in rfl rfl fun cdv A outer s H E hr => (by
    have tk := takes_of (X := cxOf (L2.CX P w) P w K mg base N_sign_in "sign_in" (defScope s_sign_in) f cdv A outer s H E) (E := E) rfl rfl rfl rfl
    exact (s_cons (s_par3 2 3 4 S_sign_in.nd (xk_cons x_int (xk_cons (x_op op_mod o_mod (x_name 0) (x_name 1)) (xk_cons (x_name 1) xk_nil))))
    (s_cons (s_while (passes_of rfl) (x_cmpT (op_neD hr.units) o_ne b_ne (x_name 3) x_int (nomark _)) (s_cons (s_while (passes_of rfl) (x_cmpT (op_eqD hr.units) o_eq b_eq (x_op op_mod o_mod (x_name 3) x_int) x_int (nomark _)) (s_cons (s_set 3 S_sign_in.nd (x_op op_fdivW o_fdiv (x_name 3) x_int))
    (s_one (s_set 2 S_sign_in.nd (x_if (x_cmpT op_in_seq (o_inP false) (b_inP false) (x_op op_mod o_mod (x_name 4) x_int) (x_tup (xa_cons x_int (xa_cons x_int xa_nil))) (by with_unfolding_all rfl)) (x_un un_neg o_neg (x_name 2)) (x_name 2))))))
    (s_cons (s_set 2 S_sign_in.nd (x_if (PW.pt (x_andT (x_cmpT (op_eqD hr.units) o_eq b_eq (x_op op_mod o_mod (x_name 3) x_int) x_int (nomark _)) (x_and1 (x_cmpT (op_eqD hr.units) o_eq b_eq (x_op op_mod o_mod (x_name 4) x_int) x_int (nomark _))))) (x_un un_neg o_neg (x_name 2)) (x_name 2)))
    (s_one (s_par2 3 4 S_sign_in.nd (xk_cons (x_op op_mod o_mod (x_name 4) (x_name 3)) (xk_cons (x_name 3) xk_nil)))))))
    (s_one (s_ret (x_if (x_cmpT (op_eqD hr.units) o_eq b_eq (x_name 4) x_int (nomark _)) (x_name 2) x_int)))))), hm, Fn.kp, Fn.binds (ps := ["one", "odd"]) fun _ _ _ _ _ _ us hl => match us, hl with | [_, _], _ => rfl⟩, mFun_len, mFun_nb⟩
/-! above_in -/
abbrev s_above_in : Stmt := topS 16
abbrev N_above_in : List Str := ["front", "power", "found", "turn"]
noncomputable def m_above_in : MS :=
    (mSeq (mSet 2 (mV 0))
    (mSeq (mFor (iRange (aCons (mV 1) aNil)) (gN 3) (mSet 2 (mOp2 dMul (mC (.int 2)) (mV 2))))
    (mRet (mOp2 dAdd (mV 2) (mC (.int 1))))))
noncomputable def F_above_in : Fn := mFun 2 4 m_above_in
theorem ff_above_in : FF F_above_in := ff_Fun (fs_Seq (fs_Set (fe_V)) (fs_Seq (fs_For (fi_Range (fa_Cons (fe_V) fa_Nil)) (fs_Set (fe_Op2 (fe_C) (fe_V)))) (fs_Ret (fe_Op2 (fe_V) (fe_C)))))
theorem S_above_in : FnScope N_above_in ["front", "power"] (defScope s_above_in) := ⟨rfl, rfl, rfl, by decide +kernel, rfl, by decide +kernel, by decide +kernel⟩
theorem ok_above_in (T : Tx K mg) {f : Addr} {fd : FuncData} (Fn : Fun K "above_in" "above_in" s_above_in f fd) (hm : mg "above_in" = some (.ref f))  : Fx P w K mg base "above_in" 1 ["front", "power"] 2 F_above_in :=
  ⟨⟨f, fd, fn_mk Fn S_above_in rfl rfl fun cdv A outer s H E hr => (by
    have tk := takes_of (X := cxOf (L2.CX P w) P w K mg base N_above_in "above_in" (defScope s_above_in) f cdv A outer s H E) (E := E) rfl rfl rfl rfl
    exact (s_cons (s_set 2 S_above_in.nd (x_name 0))
    (s_cons (s_for (is := [3]) (passes_of rfl) (i_range1 (by rfl) T.b_range (x_name 1)) (g_name 3 S_above_in.nd) (s_one (s_set 2 S_above_in.nd (x_op op_mul3 o_mul x_int (x_name 2)))))
    (s_one (s_ret (x_op op_add4 o_add (x_name 2) x_int)))))), hm, Fn.kp, Fn.binds (ps := ["front", "power"]) fun _ _ _ _ _ _ us hl => match us, hl with | [_, _], _ => rfl⟩, mFun_len, mFun_nb⟩
/-! fits_two_shape -/
abbrev s_fits_two_shape : Stmt := topS 17
abbrev N_fits_two_shape : List Str := ["front", "power"]
noncomputable def m_fits_two_shape : MS :=
    (mSeq (mIfS (mOr (mNot (mCall F_is_whole (aCons (mV 0) (aCons (mC (.int 1)) (aCons (mC (.int (10000000000000000000000000000000000000000))) aNil))))) (mOr (mOp2 dEq (mOp2 dMod (mV 0) (mC (.int 2))) (mC (.int 0))) (mNot (mCall F_is_whole (aCons (mV 1) (aCons (mC (.int 1)) (aCons (mC (.int (132))) aNil))))))) (mRet (mC (.bl false))) mSkip)
    (mRet (mAnd (mOp2 dGt (mOp2 dSub (mCall F_above_in (aCons (mC (.int 1)) (aCons (mV 1) aNil))) (mC (.int 1))) (mV 0)) (mOp2 dLe (mCall F_above_in (aCons (mV 0) (aCons (mV 1) aNil))) (mC (.int (10000000000000000000000000000000000000000)))))))
noncomputable def F_fits_two_shape : Fn := mFun 2 2 m_fits_two_shape
theorem ff_fits_two_shape : FF F_fits_two_shape := ff_Fun (fs_Seq (fs_IfS (fe_Or (fe_Not (fe_Call ff_is_whole (fa_Cons (fe_V) (fa_Cons (fe_C) (fa_Cons (fe_C) fa_Nil))))) (fe_Or (fe_Op2 (fe_Op2 (fe_V) (fe_C)) (fe_C)) (fe_Not (fe_Call ff_is_whole (fa_Cons (fe_V) (fa_Cons (fe_C) (fa_Cons (fe_C) fa_Nil))))))) (fs_Ret (fe_C)) fs_Skip) (fs_Ret (fe_And (fe_Op2 (fe_Op2 (fe_Call ff_above_in (fa_Cons (fe_C) (fa_Cons (fe_V) fa_Nil))) (fe_C)) (fe_V)) (fe_Op2 (fe_Call ff_above_in (fa_Cons (fe_V) (fa_Cons (fe_V) fa_Nil))) (fe_C)))))
theorem S_fits_two_shape : FnScope N_fits_two_shape ["front", "power"] (defScope s_fits_two_shape) := ⟨rfl, rfl, rfl, by decide +kernel, rfl, by decide +kernel, by decide +kernel⟩
theorem ok_fits_two_shape (T : Tx K mg) {f : Addr} {fd : FuncData} (Fn : Fun K "fits_two_shape" "fits_two_shape" s_fits_two_shape f fd) (hm : mg "fits_two_shape" = some (.ref f)) (f_is_whole : Fx P w K mg base "is_whole" 2 ["value", "low", "high"] 3 F_is_whole) (f_above_in : Fx P w K mg base "above_in" 1 ["front", "power"] 2 F_above_in) : Fx P w K mg base "fits_two_shape" 3 ["front", "power"] 2 F_fits_two_shape :=
  ⟨⟨f, fd, fn_mk Fn S_fits_two_shape rfl rfl fun cdv A outer s H E hr => (by
    have tk := takes_of (X := cxOf (L2.CX P w) P w K mg base N_fits_two_shape "fits_two_shape" (defScope s_fits_two_shape) f cdv A outer s H E) (E := E) rfl rfl rfl rfl
    exact (s_cons (s_if (PW.pt (x_orT (x_notT (x_test (x_f (f_is_whole.mono (by decide)) hr tk (xa_cons (x_name 0) (xa_cons x_int (xa_cons (x_gI (by rfl) T.c_GREAT) xa_nil)))))) (x_orT (x_cmpT (op_eqD hr.units) o_eq b_eq (x_op op_mod o_mod (x_name 0) x_int) x_int (nomark _)) (x_or1 (x_notT (x_test (x_f (f_is_whole.mono (by decide)) hr tk (xa_cons (x_name 1) (xa_cons x_int (xa_cons (x_gI (by rfl) T.c_MOST_POWER) xa_nil)))))))))) (s_one (s_ret x_bl)) s_nil)
    (s_one (s_ret (x_and (x_cmp op_gt o_gt (x_op op_sub o_sub (x_f (f_above_in.mono (by decide)) hr tk (xa_cons x_int (xa_cons (x_name 1) xa_nil))) x_int) (x_name 0) (nomark _)) (x_one (x_cmp op_le o_le (x_f (f_above_in.mono (by decide)) hr tk (xa_cons (x_name 0) (xa_cons (x_name 1) xa_nil))) (x_gI (by rfl) T.c_GREAT) (nomark _)))))))), hm, Fn.kp, Fn.binds (ps := ["front", "power"]) fun _ _ _ _ _ _ us hl => match us, hl with | [_, _], _ => rfl⟩, mFun_len, mFun_nb⟩
/-! need_two_shape -/
abbrev s_need_two_shape : Stmt := topS 18
abbrev N_need_two_shape : List Str := ["front", "power"]
noncomputable def m_need_two_shape : MS :=
    (mIfS (mNot (mCall F_fits_two_shape (aCons (mV 0) (aCons (mV 1) aNil)))) mBad mSkip)
noncomputable def F_need_two_shape : Fn := mFun 2 2 m_need_two_shape
theorem ff_need_two_shape : FF F_need_two_shape := ff_Fun (fs_IfS (fe_Not (fe_Call ff_fits_two_shape (fa_Cons (fe_V) (fa_Cons (fe_V) fa_Nil)))) fs_Bad fs_Skip)
theorem S_need_two_shape : FnScope N_need_two_shape ["front", "power"] (defScope s_need_two_shape) := ⟨rfl, rfl, rfl, by decide +kernel, rfl, by decide +kernel, by decide +kernel⟩
theorem ok_need_two_shape (T : Tx K mg) {f : Addr} {fd : FuncData} (Fn : Fun K "need_two_shape" "need_two_shape" s_need_two_shape f fd) (hm : mg "need_two_shape" = some (.ref f)) (f_fits_two_shape : Fx P w K mg base "fits_two_shape" 3 ["front", "power"] 2 F_fits_two_shape) : Fx P w K mg base "need_two_shape" 4 ["front", "power"] 2 F_need_two_shape :=
  ⟨⟨f, fd, fn_mk Fn S_need_two_shape rfl rfl fun cdv A outer s H E hr => (by
    have tk := takes_of (X := cxOf (L2.CX P w) P w K mg base N_need_two_shape "need_two_shape" (defScope s_need_two_shape) f cdv A outer s H E) (E := E) rfl rfl rfl rfl
    exact (s_one (s_if (x_notT (x_test (x_f (f_fits_two_shape.mono (by decide)) hr tk (xa_cons (x_name 0) (xa_cons (x_name 1) xa_nil))))) (s_one s_bad) s_nil))), hm, Fn.kp, Fn.binds (ps := ["front", "power"]) fun _ _ _ _ _ _ us hl => match us, hl with | [_, _], _ => rfl⟩, mFun_len, mFun_nb⟩
/-! half_in -/
abbrev s_half_in : Stmt := topS 19
abbrev N_half_in : List Str := ["base", "great"]
noncomputable def m_half_in : MS :=
    (mRet (mCall F_power_in (aCons (mV 0) (aCons (mOp2 dFdiv (mV 1) (mC (.int 2))) (aCons (mV 1) aNil)))))
noncomputable def F_half_in : Fn := mFun 2 2 m_half_in
theorem ff_half_in : FF F_half_in := ff_Fun (fs_Ret (fe_Call ff_power_in (fa_Cons (fe_V) (fa_Cons (fe_Op2 (fe_V) (fe_C)) (fa_Cons (fe_V) fa_Nil)))))
theorem S_half_in : FnScope N_half_in ["base", "great"] (defScope s_half_in) := ⟨rfl, rfl, rfl, by decide +kernel, rfl, by decide +kernel, by decide +kernel⟩
theorem ok_half_in (T : Tx K mg) {f : Addr} {fd : FuncData} (Fn : Fun K "half_in" "half_in" s_half_in f fd) (hm : mg "half_in" = some (.ref f)) (f_power_in : Fx P w K mg base "power_in" 1 ["one", "times", "great"] 3 F_power_in) : Fx P w K mg base "half_in" 2 ["base", "great"] 2 F_half_in :=
  ⟨⟨f, fd, fn_mk Fn S_half_in rfl rfl fun cdv A outer s H E hr => (by
    have tk := takes_of (X := cxOf (L2.CX P w) P w K mg base N_half_in "half_in" (defScope s_half_in) f cdv A outer s H E) (E := E) rfl rfl rfl rfl
    exact (s_one (s_ret (x_f (f_power_in.mono (by decide)) hr tk (xa_cons (x_name 0) (xa_cons (x_op op_fdivW o_fdiv (x_name 1) x_int) (xa_cons (x_name 1) xa_nil))))))), hm, Fn.kp, Fn.binds (ps := ["base", "great"]) fun _ _ _ _ _ _ us hl => match us, hl with | [_, _], _ => rfl⟩, mFun_len, mFun_nb⟩
/-! is_square_number -/
abbrev s_is_square_number : Stmt := topS 20
abbrev N_is_square_number : List Str := ["number", "low", "high", "middle"]
noncomputable def m_is_square_number : MS :=
    (mSeq (mPar [1, 2] (kCons (mC (.int 1)) (kCons (mOp2 dAdd (mV 0) (mC (.int 1))) kNil)))
    (mSeq (mWhile (mOp2 dGt (mOp2 dSub (mV 2) (mV 1)) (mC (.int 1))) (mSeq (mSet 3 (mOp2 dFdiv (mOp2 dAdd (mV 1) (mV 2)) (mC (.int 2))))
    (mIfS (mOp2 dLe (mOp2 dMul (mV 3) (mV 3)) (mV 0)) (mSet 1 (mV 3)) (mSet 2 (mV 3)))))
    (mRet (mOp2 dEq (mOp2 dMul (mV 1) (mV 1)) (mV 0)))))
noncomputable def F_is_square_number : Fn := mFun 1 4 m_is_square_number
theorem ff_is_square_number : FF F_is_square_number := ff_Fun (fs_Seq (fs_Par (fk_Cons (fe_C) (fk_Cons (fe_Op2 (fe_V) (fe_C)) fk_Nil))) (fs_Seq (fs_While (fe_Op2 (fe_Op2 (fe_V) (fe_V)) (fe_C)) (fs_Seq (fs_Set (fe_Op2 (fe_Op2 (fe_V) (fe_V)) (fe_C))) (fs_IfS (fe_Op2 (fe_Op2 (fe_V) (fe_V)) (fe_V)) (fs_Set (fe_V)) (fs_Set (fe_V))))) (fs_Ret (fe_Op2 (fe_Op2 (fe_V) (fe_V)) (fe_V)))))
theorem S_is_square_number : FnScope N_is_square_number ["number"] (defScope s_is_square_number) := ⟨rfl, rfl, rfl, by decide +kernel, rfl, by decide +kernel, by decide +kernel⟩
theorem ok_is_square_number (T : Tx K mg) {f : Addr} {fd : FuncData} (Fn : Fun K "is_square_number" "is_square_number" s_is_square_number f fd) (hm : mg "is_square_number" = some (.ref f))  : Fx P w K mg base "is_square_number" 1 ["number"] 1 F_is_square_number :=
  ⟨⟨f, fd, fn_mk Fn S_is_square_number rfl rfl fun cdv A outer s H E hr => (by
    have tk := takes_of (X := cxOf (L2.CX P w) P w K mg base N_is_square_number "is_square_number" (defScope s_is_square_number) f cdv A outer s H E) (E := E) rfl rfl rfl rfl
    exact (s_cons (s_par2 1 2 S_is_square_number.nd (xk_cons x_int (xk_cons (x_op op_add4 o_add (x_name 0) x_int) xk_nil)))
    (s_cons (s_while (passes_of rfl) (x_cmpT op_gt o_gt b_gt (x_op op_sub o_sub (x_name 2) (x_name 1)) x_int (nomark _)) (s_cons (s_set 3 S_is_square_number.nd (x_op op_fdivW o_fdiv (x_op op_add4 o_add (x_name 1) (x_name 2)) x_int))
    (s_one (s_if (x_cmpT op_le o_le b_le (x_op op_mul3 o_mul (x_name 3) (x_name 3)) (x_name 0) (nomark _)) (s_one (s_set 1 S_is_square_number.nd (x_name 3))) (s_one (s_set 2 S_is_square_number.nd (x_name 3)))))))
    (s_one (s_ret (x_cmp (op_eqD hr.units) o_eq (x_op op_mul3 o_mul (x_name 1) (x_name 1)) (x_name 0) (nomark _))))))), hm, Fn.kp, Fn.binds (ps := ["number"]) fun _ _ _ _ _ _ us hl => match us, hl with | [_], _ => rfl⟩, mFun_len, mFun_nb⟩
/-! paper_base -/
abbrev s_paper_base : Stmt := topS 21
abbrev N_paper_base : List Str := ["great", "base"]
noncomputable def m_paper_base : MS :=
    (mSeq (mSet 1 (mC (.int 2)))
    (mSeq (mWhile (mOp2 dEq (mCall F_sign_in (aCons (mV 1) (aCons (mV 0) aNil))) (mC (.int 1))) (mSet 1 (mOp2 dAdd (mV 1) (mC (.int 1)))))
    (mRetV 1)))
noncomputable def F_paper_base : Fn := mFun 1 2 m_paper_base
theorem ff_paper_base : FF F_paper_base := ff_Fun (fs_Seq (fs_Set (fe_C)) (fs_Seq (fs_While (fe_Op2 (fe_Call ff_sign_in (fa_Cons (fe_V) (fa_Cons (fe_V) fa_Nil))) (fe_C)) (fs_Set (fe_Op2 (fe_V) (fe_C)))) (fs_RetV)))
theorem S_paper_base : FnScope N_paper_base ["great"] (defScope s_paper_base) := ⟨rfl, rfl, rfl, by decide +kernel, rfl, by decide +kernel, by decide +kernel⟩
theorem ok_paper_base (T : Tx K mg) {f : Addr} {fd : FuncData} (Fn : Fun K "paper_base" "paper_base" s_paper_base f fd) (hm : mg "paper_base" = some (.ref f)) (f_sign_in : Fx P w K mg base "sign_in" 1 ["one", "odd"] 2 F_sign_in) : Fx P w K mg base "paper_base" 2 ["great"] 1 F_paper_base :=
  ⟨⟨f, fd, fn_mk Fn S_paper_base rfl rfl fun cdv A outer s H E hr => (by
    have tk := takes_of (X := cxOf (L2.CX P w) P w K mg base N_paper_base "paper_base" (defScope s_paper_base) f cdv A outer s H E) (E := E) rfl rfl rfl rfl
    exact (s_cons (s_set 1 S_paper_base.nd x_int)
    (s_cons (s_while (passes_of rfl) (x_cmpT (op_eqD hr.units) o_eq b_eq (x_f (f_sign_in.mono (by decide)) hr tk (xa_cons (x_name 1) (xa_cons (x_name 0) xa_nil))) x_int (nomark _)) (s_one (s_set 1 S_paper_base.nd (x_op op_add4 o_add (x_name 1) x_int))))
    (s_one (s_retV 1))))), hm, Fn.kp, Fn.binds (ps := ["great"]) fun _ _ _ _ _ _ us hl => match us, hl with | [_], _ => rfl⟩, mFun_len, mFun_nb⟩
/-! is_prime_above -/
abbrev s_is_prime_above : Stmt := topS 22
abbrev N_is_prime_above : List Str := ["great"]
noncomputable def m_is_prime_above : MS :=
    (mSeq (mIfS (mOp2 dEq (mV 0) (mC (.int 3))) (mRet (mC (.bl true))) mSkip)
    (mRet (mAnd (mNot (mCall F_is_square_number (aCons (mV 0) aNil))) (mOp2 dEq (mCall F_half_in (aCons (mCall F_paper_base (aCons (mV 0) aNil)) (aCons (mV 0) aNil))) (mOp2 dSub (mV 0) (mC (.int 1)))))))
noncomputable def F_is_prime_above : Fn := mFun 1 1 m_is_prime_above
theorem ff_is_prime_above : FF F_is_prime_above := ff_Fun (fs_Seq (fs_IfS (fe_Op2 (fe_V) (fe_C)) (fs_Ret (fe_C)) fs_Skip) (fs_Ret (fe_And (fe_Not (fe_Call ff_is_square_number (fa_Cons (fe_V) fa_Nil))) (fe_Op2 (fe_Call ff_half_in (fa_Cons (fe_Call ff_paper_base (fa_Cons (fe_V) fa_Nil)) (fa_Cons (fe_V) fa_Nil))) (fe_Op2 (fe_V) (fe_C))))))
theorem S_is_prime_above : FnScope N_is_prime_above ["great"] (defScope s_is_prime_above) := ⟨rfl, rfl, rfl, by decide +kernel, rfl, by decide +kernel, by decide +kernel⟩
theorem ok_is_prime_above (T : Tx K mg) {f : Addr} {fd : FuncData} (Fn : Fun K "is_prime_above" "is_prime_above" s_is_prime_above f fd) (hm : mg "is_prime_above" = some (.ref f)) (f_half_in : Fx P w K mg base "half_in" 2 ["base", "great"] 2 F_half_in) (f_is_square_number : Fx P w K mg base "is_square_number" 1 ["number"] 1 F_is_square_number) (f_paper_base : Fx P w K mg base "paper_base" 2 ["great"] 1 F_paper_base) : Fx P w K mg base "is_prime_above" 3 ["great"] 1 F_is_prime_above :=
  ⟨⟨f, fd, fn_mk Fn S_is_prime_above rfl rfl fun cdv A outer s H E hr => (by
    have tk := takes_of (X := cxOf (L2.CX P w) P w K mg base N_is_prime_above "is_prime_above" (defScope s_is_prime_above) f cdv A outer s H E) (E := E) rfl rfl rfl rfl
    exact (s_cons (s_if (x_cmpT (op_eqD hr.units) o_eq b_eq (x_name 0) x_int (nomark _)) (s_one (s_ret x_bl)) s_nil)
    (s_one (s_ret (x_and (x_not (x_f (f_is_square_number.mono (by decide)) hr tk (xa_cons (x_name 0) xa_nil))) (x_one (x_cmp (op_eqD hr.units) o_eq (x_f (f_half_in.mono (by decide)) hr tk (xa_cons (x_f (f_paper_base.mono (by decide)) hr tk (xa_cons (x_name 0) xa_nil)) (xa_cons (x_name 0) xa_nil))) (x_op op_sub o_sub (x_name 0) x_int) (nomark _)))))))), hm, Fn.kp, Fn.binds (ps := ["great"]) fun _ _ _ _ _ _ us hl => match us, hl with | [_], _ => rfl⟩, mFun_len, mFun_nb⟩
/-! is_false_in -/
abbrev s_is_false_in : Stmt := topS 23
abbrev N_is_false_in : List Str := ["base", "great", "rest", "sign"]
noncomputable def m_is_false_in : MS :=
    (mSeq (mPar [2, 3] (kCons (mCall F_half_in (aCons (mV 0) (aCons (mV 1) aNil))) (kCons (mCall F_sign_in (aCons (mV 0) (aCons (mV 1) aNil))) kNil)))
    (mSeq (mIfS (mOp2 dEq (mV 2) (mC (.int 1))) (mRet (mOp2 dNe (mV 3) (mC (.int 1)))) mSkip)
    (mRet (mOr (mOp2 dNe (mV 2) (mOp2 dSub (mV 1) (mC (.int 1)))) (mOp2 dNe (mV 3) (mOp1 dNeg (mC (.int 1))))))))
noncomputable def F_is_false_in : Fn := mFun 2 4 m_is_false_in
theorem ff_is_false_in : FF F_is_false_in := ff_Fun (fs_Seq (fs_Par (fk_Cons (fe_Call ff_half_in (fa_Cons (fe_V) (fa_Cons (fe_V) fa_Nil))) (fk_Cons (fe_Call ff_sign_in (fa_Cons (fe_V) (fa_Cons (fe_V) fa_Nil))) fk_Nil))) (fs_Seq (fs_IfS (fe_Op2 (fe_V) (fe_C)) (fs_Ret (fe_Op2 (fe_V) (fe_C))) fs_Skip) (fs_Ret (fe_Or (fe_Op2 (fe_V) (fe_Op2 (fe_V) (fe_C))) (fe_Op2 (fe_V) (fe_Op1 (fe_C)))))))
theorem S_is_false_in : FnScope N_is_false_in ["base", "great"] (defScope s_is_false_in) := ⟨rfl, rfl, rfl, by decide +kernel, rfl, by decide +kernel, by decide +kernel⟩
theorem ok_is_false_in (T : Tx K mg) {f : Addr} {fd : FuncData} (Fn : Fun K "is_false_in" "is_false_in" s_is_false_in f fd) (hm : mg "is_false_in" = some (.ref f)) (f_sign_in : Fx P w K mg base "sign_in" 1 ["one", "odd"] 2 F_sign_in) (f_half_in : Fx P w K mg base "half_in" 2 ["base", "great"] 2 F_half_in) : Fx P w K mg base "is_false_in" 3 ["base", "great"] 2 F_is_false_in :=
  ⟨⟨f, fd, fn_mk Fn S_is_false_in rfl rfl fun cdv A outer s H E hr => (by
    have tk := takes_of (X := cxOf (L2.CX P w) P w K mg base N_is_false_in "is_false_in" (defScope s_is_false_in) f cdv A outer s H E) (E := E) rfl rfl rfl rfl
    exact (s_cons (s_par2 2 3 S_is_false_in.nd (xk_cons (x_f (f_half_in.mono (by decide)) hr tk (xa_cons (x_name 0) (xa_cons (x_name 1) xa_nil))) (xk_cons (x_f (f_sign_in.mono (by decide)) hr tk (xa_cons (x_name 0) (xa_cons (x_name 1) xa_nil))) xk_nil)))
    (s_cons (s_if (x_cmpT (op_eqD hr.units) o_eq b_eq (x_name 2) x_int (nomark _)) (s_one (s_ret (x_cmp (op_neD hr.units) o_ne (x_name 3) x_int (nomark _)))) s_nil)
    (s_one (s_ret (x_or (x_cmp (op_neD hr.units) o_ne (x_name 2) (x_op op_sub o_sub (x_name 1) x_int) (nomark _)) (x_one (x_cmp (op_neD hr.units) o_ne (x_name 3) (x_un un_neg o_neg x_int) (nomark _))))))))), hm, Fn.kp, Fn.binds (ps := ["base", "great"]) fun _ _ _ _ _ _ us hl => match us, hl with | [_, _], _ => rfl⟩, mFun_len, mFun_nb⟩
/-! is_base_to -/
abbrev s_is_base_to : Stmt := topS 24
abbrev N_is_base_to : List Str := ["value", "great"]
noncomputable def m_is_base_to : MS :=
    (mRet (mAnd (mCall F_is_integer (aCons (mV 0) aNil)) (mChain dLe dLt (mC (.int 2)) (mV 0) (mV 1))))
noncomputable def F_is_base_to : Fn := mFun 2 2 m_is_base_to
theorem ff_is_base_to : FF F_is_base_to := ff_Fun (fs_Ret (fe_And (fe_Call ff_is_integer (fa_Cons (fe_V) fa_Nil)) (fe_Chain (fe_C) (fe_V) (fe_V))))
theorem S_is_base_to : FnScope N_is_base_to ["value", "great"] (defScope s_is_base_to) := ⟨rfl, rfl, rfl, by decide +kernel, rfl, by decide +kernel, by decide +kernel⟩
theorem ok_is_base_to (T : Tx K mg) {f : Addr} {fd : FuncData} (Fn : Fun K "is_base_to" "is_base_to" s_is_base_to f fd) (hm : mg "is_base_to" = some (.ref f)) (f_is_integer : Fx P w K mg base "is_integer" 1 ["value"] 1 F_is_integer) : Fx P w K mg base "is_base_to" 2 ["value", "great"] 2 F_is_base_to :=
  ⟨⟨f, fd, fn_mk Fn S_is_base_to rfl rfl fun cdv A outer s H E hr => (by
    have tk := takes_of (X := cxOf (L2.CX P w) P w K mg base N_is_base_to "is_base_to" (defScope s_is_base_to) f cdv A outer s H E) (E := E) rfl rfl rfl rfl
    exact (s_one (s_ret (x_and (x_f (f_is_integer.mono (by decide)) hr tk (xa_cons (x_name 0) xa_nil)) (x_one (x_chain op_le op_lt o_le o_lt x_int (x_name 0) (x_name 1))))))), hm, Fn.kp, Fn.binds (ps := ["value", "great"]) fun _ _ _ _ _ _ us hl => match us, hl with | [_, _], _ => rfl⟩, mFun_len, mFun_nb⟩
/-! is_shape_prime -/
abbrev s_is_shape_prime : Stmt := topS 25
abbrev N_is_shape_prime : List Str := ["front", "power"]
noncomputable def m_is_shape_prime : MS :=
    (mSeq (mExpr (mCall F_need_two_shape (aCons (mV 0) (aCons (mV 1) aNil))))
    (mRet (mCall F_is_prime_above (aCons (mCall F_above_in (aCons (mV 0) (aCons (mV 1) aNil))) aNil))))
noncomputable def F_is_shape_prime : Fn := mFun 2 2 m_is_shape_prime
theorem ff_is_shape_prime : FF F_is_shape_prime := ff_Fun (fs_Seq (fs_Expr (fe_Call ff_need_two_shape (fa_Cons (fe_V) (fa_Cons (fe_V) fa_Nil)))) (fs_Ret (fe_Call ff_is_prime_above (fa_Cons (fe_Call ff_above_in (fa_Cons (fe_V) (fa_Cons (fe_V) fa_Nil))) fa_Nil))))
theorem S_is_shape_prime : FnScope N_is_shape_prime ["front", "power"] (defScope s_is_shape_prime) := ⟨rfl, rfl, rfl, by decide +kernel, rfl, by decide +kernel, by decide +kernel⟩
theorem ok_is_shape_prime (T : Tx K mg) {f : Addr} {fd : FuncData} (Fn : Fun K "is_shape_prime" "is_shape_prime" s_is_shape_prime f fd) (hm : mg "is_shape_prime" = some (.ref f)) (f_above_in : Fx P w K mg base "above_in" 1 ["front", "power"] 2 F_above_in) (f_need_two_shape : Fx P w K mg base "need_two_shape" 4 ["front", "power"] 2 F_need_two_shape) (f_is_prime_above : Fx P w K mg base "is_prime_above" 3 ["great"] 1 F_is_prime_above) : Fx P w K mg base "is_shape_prime" 5 ["front", "power"] 2 F_is_shape_prime :=
  ⟨⟨f, fd, fn_mk Fn S_is_shape_prime rfl rfl fun cdv A outer s H E hr => (by
    have tk := takes_of (X := cxOf (L2.CX P w) P w K mg base N_is_shape_prime "is_shape_prime" (defScope s_is_shape_prime) f cdv A outer s H E) (E := E) rfl rfl rfl rfl
    exact (s_cons (s_expr (x_f (f_need_two_shape.mono (by decide)) hr tk (xa_cons (x_name 0) (xa_cons (x_name 1) xa_nil))))
    (s_one (s_ret (x_f (f_is_prime_above.mono (by decide)) hr tk (xa_cons (x_f (f_above_in.mono (by decide)) hr tk (xa_cons (x_name 0) (xa_cons (x_name 1) xa_nil))) xa_nil)))))), hm, Fn.kp, Fn.binds (ps := ["front", "power"]) fun _ _ _ _ _ _ us hl => match us, hl with | [_, _], _ => rfl⟩, mFun_len, mFun_nb⟩
/-! false_paper -/
abbrev s_false_paper : Stmt := topS 26
abbrev N_false_paper : List Str := ["front", "power", "great", "base"]
noncomputable def m_false_paper : MS :=
    (mSeq (mExpr (mCall F_need_two_shape (aCons (mV 0) (aCons (mV 1) aNil))))
    (mSeq (mPar [2, 3] (kCons (mCall F_above_in (aCons (mV 0) (aCons (mV 1) aNil))) (kCons (mC (.int 2)) kNil)))
    (mSeq (mIfS (mCall F_is_prime_above (aCons (mV 2) aNil)) (mRet (mC .non)) mSkip)
    (mSeq (mWhile (mNot (mCall F_is_false_in (aCons (mV 3) (aCons (mV 2) aNil)))) (mSet 3 (mOp2 dAdd (mV 3) (mC (.int 1)))))
    (mRetV 3)))))
noncomputable def F_false_paper : Fn := mFun 2 4 m_false_paper
theorem ff_false_paper : FF F_false_paper := ff_Fun (fs_Seq (fs_Expr (fe_Call ff_need_two_shape (fa_Cons (fe_V) (fa_Cons (fe_V) fa_Nil)))) (fs_Seq (fs_Par (fk_Cons (fe_Call ff_above_in (fa_Cons (fe_V) (fa_Cons (fe_V) fa_Nil))) (fk_Cons (fe_C) fk_Nil))) (fs_Seq (fs_IfS (fe_Call ff_is_prime_above (fa_Cons (fe_V) fa_Nil)) (fs_Ret (fe_C)) fs_Skip) (fs_Seq (fs_While (fe_Not (fe_Call ff_is_false_in (fa_Cons (fe_V) (fa_Cons (fe_V) fa_Nil)))) (fs_Set (fe_Op2 (fe_V) (fe_C)))) (fs_RetV)))))
theorem S_false_paper : FnScope N_false_paper ["front", "power"] (defScope s_false_paper) := ⟨rfl, rfl, rfl, by decide +kernel, rfl, by decide +kernel, by decide +kernel⟩
theorem ok_false_paper (T : Tx K mg) {f : Addr} {fd : FuncData} (Fn : Fun K "false_paper" "false_paper" s_false_paper f fd) (hm : mg "false_paper" = some (.ref f)) (f_above_in : Fx P w K mg base "above_in" 1 ["front", "power"] 2 F_above_in) (f_need_two_shape : Fx P w K mg base "need_two_shape" 4 ["front", "power"] 2 F_need_two_shape) (f_is_prime_above : Fx P w K mg base "is_prime_above" 3 ["great"] 1 F_is_prime_above) (f_is_false_in : Fx P w K mg base "is_false_in" 3 ["base", "great"] 2 F_is_false_in) : Fx P w K mg base "false_paper" 5 ["front", "power"] 2 F_false_paper :=
  ⟨⟨f, fd, fn_mk Fn S_false_paper rfl rfl fun cdv A outer s H E hr => (by
    have tk := takes_of (X := cxOf (L2.CX P w) P w K mg base N_false_paper "false_paper" (defScope s_false_paper) f cdv A outer s H E) (E := E) rfl rfl rfl rfl
    exact (s_cons (s_expr (x_f (f_need_two_shape.mono (by decide)) hr tk (xa_cons (x_name 0) (xa_cons (x_name 1) xa_nil))))
    (s_cons (s_par2 2 3 S_false_paper.nd (xk_cons (x_f (f_above_in.mono (by decide)) hr tk (xa_cons (x_name 0) (xa_cons (x_name 1) xa_nil))) (xk_cons x_int xk_nil)))
    (s_cons (s_if (x_test (x_f (f_is_prime_above.mono (by decide)) hr tk (xa_cons (x_name 2) xa_nil))) (s_one (s_ret x_non)) s_nil)
    (s_cons (s_while (passes_of rfl) (x_notT (x_test (x_f (f_is_false_in.mono (by decide)) hr tk (xa_cons (x_name 3) (xa_cons (x_name 2) xa_nil))))) (s_one (s_set 3 S_false_paper.nd (x_op op_add4 o_add (x_name 3) x_int))))
    (s_one (s_retV 3))))))), hm, Fn.kp, Fn.binds (ps := ["front", "power"]) fun _ _ _ _ _ _ us hl => match us, hl with | [_, _], _ => rfl⟩, mFun_len, mFun_nb⟩
/-! is_false_paper -/
abbrev s_is_false_paper : Stmt := topS 27
abbrev N_is_false_paper : List Str := ["front", "power", "value", "great"]
noncomputable def m_is_false_paper : MS :=
    (mSeq (mExpr (mCall F_need_two_shape (aCons (mV 0) (aCons (mV 1) aNil))))
    (mSeq (mSet 3 (mCall F_above_in (aCons (mV 0) (aCons (mV 1) aNil))))
    (mRet (mAnd (mCall F_is_base_to (aCons (mV 2) (aCons (mV 3) aNil))) (mCall F_is_false_in (aCons (mV 2) (aCons (mV 3) aNil)))))))
noncomputable def F_is_false_paper : Fn := mFun 3 4 m_is_false_paper
theorem ff_is_false_paper : FF F_is_false_paper := ff_Fun (fs_Seq (fs_Expr (fe_Call ff_need_two_shape (fa_Cons (fe_V) (fa_Cons (fe_V) fa_Nil)))) (fs_Seq (fs_Set (fe_Call ff_above_in (fa_Cons (fe_V) (fa_Cons (fe_V) fa_Nil)))) (fs_Ret (fe_And (fe_Call ff_is_base_to (fa_Cons (fe_V) (fa_Cons (fe_V) fa_Nil))) (fe_Call ff_is_false_in (fa_Cons (fe_V) (fa_Cons (fe_V) fa_Nil)))))))
theorem S_is_false_paper : FnScope N_is_false_paper ["front", "power", "value"] (defScope s_is_false_paper) := ⟨rfl, rfl, rfl, by decide +kernel, rfl, by decide +kernel, by decide +kernel⟩
theorem ok_is_false_paper (T : Tx K mg) {f : Addr} {fd : FuncData} (Fn : Fun K "is_false_paper" "is_false_paper" s_is_false_paper f fd) (hm : mg "is_false_paper" = some (.ref f)) (f_above_in : Fx P w K mg base "above_in" 1 ["front", "power"] 2 F_above_in) (f_need_two_shape : Fx P w K mg base "need_two_shape" 4 ["front", "power"] 2 F_need_two_shape) (f_is_false_in : Fx P w K mg base "is_false_in" 3 ["base", "great"] 2 F_is_false_in) (f_is_base_to : Fx P w K mg base "is_base_to" 2 ["value", "great"] 2 F_is_base_to) : Fx P w K mg base "is_false_paper" 5 ["front", "power", "value"] 3 F_is_false_paper :=
  ⟨⟨f, fd, fn_mk Fn S_is_false_paper rfl rfl fun cdv A outer s H E hr => (by
    have tk := takes_of (X := cxOf (L2.CX P w) P w K mg base N_is_false_paper "is_false_paper" (defScope s_is_false_paper) f cdv A outer s H E) (E := E) rfl rfl rfl rfl
    exact (s_cons (s_expr (x_f (f_need_two_shape.mono (by decide)) hr tk (xa_cons (x_name 0) (xa_cons (x_name 1) xa_nil))))
    (s_cons (s_set 3 S_is_false_paper.nd (x_f (f_above_in.mono (by decide)) hr tk (xa_cons (x_name 0) (xa_cons (x_name 1) xa_nil))))
    (s_one (s_ret (x_and (x_f (f_is_base_to.mono (by decide)) hr tk (xa_cons (x_name 2) (xa_cons (x_name 3) xa_nil))) (x_one (x_f (f_is_false_in.mono (by decide)) hr tk (xa_cons (x_name 2) (xa_cons (x_name 3) xa_nil)))))))))), hm, Fn.kp, Fn.binds (ps := ["front", "power", "value"]) fun _ _ _ _ _ _ us hl => match us, hl with | [_, _, _], _ => rfl⟩, mFun_len, mFun_nb⟩
/-! prime_fronts -/
abbrev s_prime_fronts : Stmt := topS 28
abbrev N_prime_fronts : List Str := ["power", "most", "able", "front"]
noncomputable def m_prime_fronts : MS :=
    (mSeq (mExpr (mCall F_need_whole (aCons (mV 0) (aCons (mC (.int 1)) (aCons (mC (.int (120))) aNil)))))
    (mSeq (mExpr (mCall F_need_whole (aCons (mV 1) (aCons (mC (.int 1)) (aCons (mC (.int (400))) aNil)))))
    (mSeq (mSet 2 (mComp [3] (iRange (aCons (mC (.int 1)) (aCons (mOp2 dAdd (mV 1) (mC (.int 1))) (aCons (mC (.int 2)) aNil)))) (gN 3) (some (mCall F_fits_two_shape (aCons (mV 3) (aCons (mV 0) aNil)))) (mV 3)))
    (mSeq (mFrz 2) (mRet (mB bTuple (lCons (mComp [3] (iSeq (mV 2)) (gN 3) (some (mCall F_is_prime_above (aCons (mCall F_above_in (aCons (mV 3) (aCons (mV 0) aNil))) aNil))) (mV 3)) aNil)))))))
noncomputable def F_prime_fronts : Fn := mFun 2 4 m_prime_fronts
theorem ff_prime_fronts : FF F_prime_fronts := ff_Fun (fs_Seq (fs_Expr (fe_Call ff_need_whole (fa_Cons (fe_V) (fa_Cons (fe_C) (fa_Cons (fe_C) fa_Nil))))) (fs_Seq (fs_Expr (fe_Call ff_need_whole (fa_Cons (fe_V) (fa_Cons (fe_C) (fa_Cons (fe_C) fa_Nil))))) (fs_Seq (fs_Set (fe_Comp (fi_Range (fa_Cons (fe_C) (fa_Cons (fe_Op2 (fe_V) (fe_C)) (fa_Cons (fe_C) fa_Nil)))) (fo_some (fe_Call ff_fits_two_shape (fa_Cons (fe_V) (fa_Cons (fe_V) fa_Nil)))) (fe_V))) (fs_Seq (fs_Frz) (fs_Ret (fe_B (fa_lCons (fe_Comp (fi_Seq (fe_V)) (fo_some (fe_Call ff_is_prime_above (fa_Cons (fe_Call ff_above_in (fa_Cons (fe_V) (fa_Cons (fe_V) fa_Nil))) fa_Nil))) (fe_V)) fa_Nil)))))))
theorem S_prime_fronts : FnScope N_prime_fronts ["power", "most"] (defScope s_prime_fronts) := ⟨rfl, rfl, rfl, by decide +kernel, rfl, by decide +kernel, by decide +kernel⟩
theorem ok_prime_fronts (T : Tx K mg) {f : Addr} {fd : FuncData} (Fn : Fun K "prime_fronts" "prime_fronts" s_prime_fronts f fd) (hm : mg "prime_fronts" = some (.ref f)) (f_need_whole : Fx P w K mg base "need_whole" 3 ["value", "low", "high"] 3 F_need_whole) (f_above_in : Fx P w K mg base "above_in" 1 ["front", "power"] 2 F_above_in) (f_fits_two_shape : Fx P w K mg base "fits_two_shape" 3 ["front", "power"] 2 F_fits_two_shape) (f_is_prime_above : Fx P w K mg base "is_prime_above" 3 ["great"] 1 F_is_prime_above) : Fx P w K mg base "prime_fronts" 4 ["power", "most"] 2 F_prime_fronts :=
  ⟨⟨f, fd, fn_mk Fn S_prime_fronts rfl rfl fun cdv A outer s H E hr => (by
    have tk := takes_of (X := cxOf (L2.CX P w) P w K mg base N_prime_fronts "prime_fronts" (defScope s_prime_fronts) f cdv A outer s H E) (E := E) rfl rfl rfl rfl
    exact (s_cons (s_expr (x_f (f_need_whole.mono (by decide)) hr tk (xa_cons (x_name 0) (xa_cons x_int (xa_cons (x_gI (by rfl) T.c_LISTED_POWER) xa_nil)))))
    (s_cons (s_expr (x_f (f_need_whole.mono (by decide)) hr tk (xa_cons (x_name 1) (xa_cons x_int (xa_cons (x_gI (by rfl) T.c_LISTED_FRONT) xa_nil)))))
    (s_cons (s_setLc 2 S_prime_fronts.nd (sw_true rfl rfl rfl (by decide +kernel)) (i_range3 (by rfl) T.b_range x_int (x_op op_add4 o_add (x_name 1) x_int) x_int) (own := [("front", 3)]) (blkOk_by (sc := defScope s_prime_fronts) (N := N_prime_fronts) (own := [("front", 3)]) (by decide +kernel)) (is := [3]) (by decide) (fun _ _ _ _ _ => (g_name 3 S_prime_fronts.nd)) (fun _ _ _ _ _ => (xt_one (x_test (x_f (f_fits_two_shape.mono (by decide)) hr takes0 (xa_cons (x_name 3) (xa_cons (x_name 0) xa_nil)))))) (fun _ _ _ _ _ => (x_name 3)))
    (s_one (s_frz 2 (s_ret (x_BT call_tuple_of k_tuple (by rfl) T.b_tuple (by rfl) (xl_cons (x_comp S_prime_fronts.nd (i_seq (x_name 2)) (own := [("front", 3)]) (blkOk_by (sc := defScope s_prime_fronts) (N := N_prime_fronts) (own := [("front", 3)]) (by decide +kernel)) (is := [3]) (by decide) (fun _ _ _ _ _ => (g_name 3 S_prime_fronts.nd)) (fun _ _ _ _ _ => (xt_one (x_test (x_f (f_is_prime_above.mono (by decide)) hr takes0 (xa_cons (x_f (f_above_in.mono (by decide)) hr takes0 (xa_cons (x_name 3) (xa_cons (x_name 0) xa_nil))) xa_nil))))) (fun _ _ _ _ _ => (x_name 3))) xl_nil))))))))), hm, Fn.kp, Fn.binds (ps := ["power", "most"]) fun _ _ _ _ _ _ us hl => match us, hl with | [_, _], _ => rfl⟩, mFun_len, mFun_nb⟩
/-! _law_cup -/
abbrev s__law_cup : Stmt := topS 30
abbrev N__law_cup : List Str := ["script", "cell"]
noncomputable def m__law_cup : MS :=
    (mSeq (mSet 1 (mB bAbs (lCons (mIx (mOp2 dAdd (mB bList (lCons (mV 0) aNil)) (mLst (aCons (mC (.int 0)) aNil))) (mC (.int 0))) aNil)))
    (mRet (mCell (aCons (mIf (mOp2 dGe (mV 1) (mOp2 dPow (mC (.int 10)) (mC (.int 18)))) (mOp2 dFdiv (mV 1) (mC (.int 73))) (mC (.int 0))) (aCons (mOp2 dAdd (mOp2 dMod (mB bInt (lCons (mOp2 dAdd (mOp2 dMul (mV 1) (mC (.int 283))) (mC (.int 3907))) aNil)) (mC (.int 2077503167))) (mC (.int 167))) aNil)))))
noncomputable def F__law_cup : Fn := mFun 1 2 m__law_cup
-- no frame: mCell
theorem S__law_cup : FnScope N__law_cup ["script"] (defScope s__law_cup) := ⟨rfl, rfl, rfl, by decide +kernel, rfl, by decide +kernel, by decide +kernel⟩
theorem ok__law_cup (T : Tx K mg) {f : Addr} {fd : FuncData} (Fn : Fun K "_law_cup" "_law_cup" s__law_cup f fd) (hm : mg "_law_cup" = some (.ref f))  : Fx P w K mg base "_law_cup" 1 ["script"] 1 F__law_cup :=
  ⟨⟨f, fd, fn_mk Fn S__law_cup rfl rfl fun cdv A outer s H E hr => (by
    have tk := takes_of (X := cxOf (L2.CX P w) P w K mg base N__law_cup "_law_cup" (defScope s__law_cup) f cdv A outer s H E) (E := E) rfl rfl rfl rfl
    exact (s_cons (s_set 1 S__law_cup.nd (x_B call_abs k_abs (by rfl) T.b_abs (by rfl) (xl_cons (x_ix (x_op op_add4 o_add (x_BT call_list_of k_list (by rfl) T.b_list (by rfl) (xl_cons (x_name 0) xl_nil)) (x_lst (xa_cons x_int xa_nil))) x_int) xl_nil)))
    (s_one (s_ret (x_cell (xa_cons (x_if (x_cmpT op_ge o_ge b_ge (x_name 1) (x_op op_pow o_pow x_int x_int) (nomark _)) (x_op op_fdivW o_fdiv (x_name 1) x_int) x_int) (xa_cons (x_op op_add4 o_add (x_op op_mod o_mod (x_BT call_int1 k_int (by rfl) T.b_int (by rfl) (xl_cons (x_op op_add4 o_add (x_op op_mul3 o_mul (x_name 1) x_int) x_int) xl_nil)) x_int) x_int) xa_nil))))))), hm, Fn.kp, Fn.binds (ps := ["script"]) fun _ _ _ _ _ _ us hl => match us, hl with | [_], _ => rfl⟩, mFun_len, mFun_nb⟩
/-! _law_roll -/
abbrev s__law_roll : Stmt := topS 31
abbrev N__law_roll : List Str := ["cup", "many", "deep", "found"]
noncomputable def m__law_roll : MS :=
    (mSeq (mIfS (mOp2 dGt (mIx (mV 0) (mC (.int 0))) (mC (.int 0))) (mSeq (mSet 3 (mOp2 dMod (mB bInt (lCons (mIx (mV 0) (mC (.int 0))) aNil)) (mV 1)))
    (mSeq (mSetIx 0 (mC (.int 0)) (mOp2 dFdiv (mIx (mV 0) (mC (.int 0))) (mV 1)))
    (mRetV 3))) mSkip)
    (mSeq (mSetIx 0 (mC (.int 1)) (mOp2 dMod (mB bInt (lCons (mOp2 dAdd (mOp2 dMul (mIx (mV 0) (mC (.int 1))) (mC (.int 31051))) (mC (.int 7993))) aNil)) (mC (.int 2147483543))))
    (mSeq (mSet 2 (mOp2 dMod (mB bInt (lCons (mOp2 dMul (mIx (mV 0) (mC (.int 1))) (mOp2 dAdd (mIx (mV 0) (mC (.int 1))) (mC (.int 229)))) aNil)) (mC (.int 2147483587))))
    (mRet (mOp2 dMod (mB bInt (lCons (mOp2 dFdiv (mV 2) (mC (.int 821))) aNil)) (mV 1))))))
noncomputable def F__law_roll : Fn := mFun 2 4 m__law_roll
theorem ff__law_roll : FF F__law_roll := ff_Fun (fs_Seq (fs_IfS (fe_Op2 (fe_Ix (fe_V) (fe_C)) (fe_C)) (fs_Seq (fs_Set (fe_Op2 (fe_B (fa_lCons (fe_Ix (fe_V) (fe_C)) fa_Nil)) (fe_V))) (fs_Seq (fs_SetIx (fe_C) (fe_Op2 (fe_Ix (fe_V) (fe_C)) (fe_V))) (fs_RetV))) fs_Skip) (fs_Seq (fs_SetIx (fe_C) (fe_Op2 (fe_B (fa_lCons (fe_Op2 (fe_Op2 (fe_Ix (fe_V) (fe_C)) (fe_C)) (fe_C)) fa_Nil)) (fe_C))) (fs_Seq (fs_Set (fe_Op2 (fe_B (fa_lCons (fe_Op2 (fe_Ix (fe_V) (fe_C)) (fe_Op2 (fe_Ix (fe_V) (fe_C)) (fe_C))) fa_Nil)) (fe_C))) (fs_Ret (fe_Op2 (fe_B (fa_lCons (fe_Op2 (fe_V) (fe_C)) fa_Nil)) (fe_V))))))
theorem S__law_roll : FnScope N__law_roll ["cup", "many"] (defScope s__law_roll) := ⟨rfl, rfl, rfl, by decide +kernel, rfl, by decide +kernel, by decide +kernel⟩
theorem ok__law_roll (T : Tx K mg) {f : Addr} {fd : FuncData} (Fn : Fun K "_law_roll" "_law_roll" s__law_roll f fd) (hm : mg "_law_roll" = some (.ref f))  : Fx P w K mg base "_law_roll" 1 ["cup", "many"] 2 F__law_roll :=
  ⟨⟨f, fd, fn_mk Fn S__law_roll rfl rfl fun cdv A outer s H E hr => (by
    have tk := takes_of (X := cxOf (L2.CX P w) P w K mg base N__law_roll "_law_roll" (defScope s__law_roll) f cdv A outer s H E) (E := E) rfl rfl rfl rfl
    exact (s_cons (s_if (x_cmpT op_gt o_gt b_gt (x_ix (x_name 0) x_int) x_int (nomark _)) (s_cons (s_set 3 S__law_roll.nd (x_op op_mod o_mod (x_BT call_int1 k_int (by rfl) T.b_int (by rfl) (xl_cons (x_ix (x_name 0) x_int) xl_nil)) (x_name 1)))
    (s_cons (s_setIx 0 x_int (x_op op_fdivW o_fdiv (x_ix (x_name 0) x_int) (x_name 1)))
    (s_one (s_retV 3)))) s_nil)
    (s_cons (s_setIx 0 x_int (x_op op_mod o_mod (x_BT call_int1 k_int (by rfl) T.b_int (by rfl) (xl_cons (x_op op_add4 o_add (x_op op_mul3 o_mul (x_ix (x_name 0) x_int) x_int) x_int) xl_nil)) x_int))
    (s_cons (s_set 2 S__law_roll.nd (x_op op_mod o_mod (x_BT call_int1 k_int (by rfl) T.b_int (by rfl) (xl_cons (x_op op_mul3 o_mul (x_ix (x_name 0) x_int) (x_op op_add4 o_add (x_ix (x_name 0) x_int) x_int)) xl_nil)) x_int))
    (s_one (s_ret (x_op op_mod o_mod (x_BT call_int1 k_int (by rfl) T.b_int (by rfl) (xl_cons (x_op op_fdivW o_fdiv (x_name 2) x_int) xl_nil)) (x_name 1)))))))), hm, Fn.kp, Fn.binds (ps := ["cup", "many"]) fun _ _ _ _ _ _ us hl => match us, hl with | [_, _], _ => rfl⟩, mFun_len, mFun_nb⟩
/-! _law_sort -/
abbrev s__law_sort : Stmt := topS 32
abbrev N__law_sort : List Str := ["value"]
noncomputable def m__law_sort : MS :=
    (mSeq (mIfS (mOr (mOp2 dIsN (mV 0) (mC .non)) (mIsI .bool (mV 0))) (mRet (mIf (mOp2 dIsN (mV 0) (mC .non)) (mC (.int 0)) (mC (.int 1)))) mSkip)
    (mSeq (mIfS (mOr (mIsI .int (mV 0)) (mIsI .str (mV 0))) (mRet (mIf (mIsI .int (mV 0)) (mC (.int 2)) (mC (.int 3)))) mSkip)
    (mRet (mIf (mIsI .tuple (mV 0)) (mC (.int 4)) (mIf (mIsI .list (mV 0)) (mC (.int 5)) (mC (.int 6)))))))
noncomputable def F__law_sort : Fn := mFun 1 1 m__law_sort
theorem ff__law_sort : FF F__law_sort := ff_Fun (fs_Seq (fs_IfS (fe_Or (fe_Op2 (fe_V) (fe_C)) (fe_IsI (fe_V))) (fs_Ret (fe_If (fe_Op2 (fe_V) (fe_C)) (fe_C) (fe_C))) fs_Skip) (fs_Seq (fs_IfS (fe_Or (fe_IsI (fe_V)) (fe_IsI (fe_V))) (fs_Ret (fe_If (fe_IsI (fe_V)) (fe_C) (fe_C))) fs_Skip) (fs_Ret (fe_If (fe_IsI (fe_V)) (fe_C) (fe_If (fe_IsI (fe_V)) (fe_C) (fe_C))))))
theorem S__law_sort : FnScope N__law_sort ["value"] (defScope s__law_sort) := ⟨rfl, rfl, rfl, by decide +kernel, rfl, by decide +kernel, by decide +kernel⟩
theorem ok__law_sort (T : Tx K mg) {f : Addr} {fd : FuncData} (Fn : Fun K "_law_sort" "_law_sort" s__law_sort f fd) (hm : mg "_law_sort" = some (.ref f))  : Fx P w K mg base "_law_sort" 1 ["value"] 1 F__law_sort :=
  ⟨⟨f, fd, fn_mk Fn S__law_sort rfl rfl fun cdv A outer s H E hr => (by
    have tk := takes_of (X := cxOf (L2.CX P w) P w K mg base N__law_sort "_law_sort" (defScope s__law_sort) f cdv A outer s H E) (E := E) rfl rfl rfl rfl
    exact (s_cons (s_if (PW.pt (x_orT (x_cmpT op_is2 o_is b_is (x_name 0) x_non (nomark _)) (x_or1 (x_test (x_isI .bool (by rfl) T.b_isinstance (by rfl) T.b_bool rfl (x_name 0)))))) (s_one (s_ret (x_if (x_cmpT op_is2 o_is b_is (x_name 0) x_non (nomark _)) x_int x_int))) s_nil)
    (s_cons (s_if (PW.pt (x_orT (x_test (x_isI .int (by rfl) T.b_isinstance (by rfl) T.b_int rfl (x_name 0))) (x_or1 (x_test (x_isI .str (by rfl) T.b_isinstance (by rfl) T.b_str rfl (x_name 0)))))) (s_one (s_ret (x_if (x_test (x_isI .int (by rfl) T.b_isinstance (by rfl) T.b_int rfl (x_name 0))) x_int x_int))) s_nil)
    (s_one (s_ret (x_if (x_test (x_isI .tuple (by rfl) T.b_isinstance (by rfl) T.b_tuple rfl (x_name 0))) x_int (x_if (x_test (x_isI .list (by rfl) T.b_isinstance (by rfl) T.b_list rfl (x_name 0))) x_int x_int))))))), hm, Fn.kp, Fn.binds (ps := ["value"]) fun _ _ _ _ _ _ us hl => match us, hl with | [_], _ => rfl⟩, mFun_len, mFun_nb⟩
/-! _law_like -/
abbrev s__law_like : Stmt := topS 33
abbrev N__law_like : List Str := ["one", "other", "sort", "first", "second"]
noncomputable def m__law_like (self : Fn) : MS :=
    (mSeq (mSet 2 (mCall F__law_sort (aCons (mV 1) aNil)))
    (mSeq (mIfS (mOr (mOp2 dNe (mCall F__law_sort (aCons (mV 0) aNil)) (mV 2)) (mOp2 dEq (mV 2) (mC (.int 6)))) (mRet (mC (.bl false))) mSkip)
    (mSeq (mIfS (mOp2 (dInP false) (mV 2) (mTup (aCons (mC (.int 4)) (aCons (mC (.int 5)) aNil)))) (mRet (mAnd (mOp2 dEq (mB bLen (lCons (mV 0) aNil)) (mB bLen (lCons (mV 1) aNil))) (mOp2 dEq (mComp [3, 4] (iZipD (aCons (mV 0) (aCons (mV 1) aNil))) (gT [(gN 3), (gN 4)]) (some (mNot (mCall self (aCons (mV 3) (aCons (mV 4) aNil))))) (mC (.int 1))) (mLst aNil)))) mSkip)
    (mRet (mOp2 dEq (mV 0) (mV 1))))))
noncomputable def R__law_like : Nat → Fn
  | 0 => fun _ _ => .bad
  | k + 1 => mFun 2 5 (m__law_like (R__law_like k))
noncomputable def F__law_like : Fn := R__law_like 6
theorem fr__law_like : ∀ k, FF (R__law_like k)
  | 0 => ff_bad
  | k + 1 => have fself := fr__law_like k
    ff_Fun (fs_Seq (fs_Set (fe_Call ff__law_sort (fa_Cons (fe_V) fa_Nil))) (fs_Seq (fs_IfS (fe_Or (fe_Op2 (fe_Call ff__law_sort (fa_Cons (fe_V) fa_Nil)) (fe_V)) (fe_Op2 (fe_V) (fe_C))) (fs_Ret (fe_C)) fs_Skip) (fs_Seq (fs_IfS (fe_Op2 (fe_V) (fe_Tup (fa_Cons (fe_C) (fa_Cons (fe_C) fa_Nil)))) (fs_Ret (fe_And (fe_Op2 (fe_B (fa_lCons (fe_V) fa_Nil)) (fe_B (fa_lCons (fe_V) fa_Nil))) (fe_Op2 (fe_Comp (fi_ZipD (fa_Cons (fe_V) (fa_Cons (fe_V) fa_Nil))) (fo_some (fe_Not (fe_Call fself (fa_Cons (fe_V) (fa_Cons (fe_V) fa_Nil))))) (fe_C)) (fe_Lst fa_Nil)))) fs_Skip) (fs_Ret (fe_Op2 (fe_V) (fe_V))))))
theorem ff__law_like : FF F__law_like := fr__law_like _
theorem S__law_like : FnScope N__law_like ["one", "other"] (defScope s__law_like) := ⟨rfl, rfl, rfl, by decide +kernel, rfl, by decide +kernel, by decide +kernel⟩
theorem ok__law_like (T : Tx K mg) {f : Addr} {fd : FuncData} (Fn : Fun K "_law_like" "_law_like" s__law_like f fd) (hm : mg "_law_like" = some (.ref f)) (f__law_sort : Fx P w K mg base "_law_sort" 1 ["value"] 1 F__law_sort) : ∀ k, Fx P w K mg base "_law_like" (1 + k) ["one", "other"] 2 (R__law_like k)
  | 0 => ⟨⟨f, fd, fn_bad, hm, Fn.kp, Fn.binds (ps := ["one", "other"]) fun _ _ _ _ _ _ us hl => match us, hl with | [_, _], _ => rfl⟩, fun _ _ _ => rfl, fun _ _ _ _ h => by cases h⟩
  | k + 1 => ⟨⟨f, fd, fn_mk Fn S__law_like rfl rfl fun cdv A outer s H E hr => (by
    have fself := ok__law_like T Fn hm f__law_sort k
    have tk := takes_of (X := cxOf (L2.CX P w) P w K mg base N__law_like "_law_like" (defScope s__law_like) f cdv A outer s H E) (E := E) rfl rfl rfl rfl
    exact (s_cons (s_set 2 S__law_like.nd (x_f (f__law_sort.mono (Nat.le_trans (show 1 ≤ 1 by decide) (Nat.le_add_right 1 k))) hr tk (xa_cons (x_name 1) xa_nil)))
    (s_cons (s_if (PW.pt (x_orT (x_cmpT (op_neD hr.units) o_ne b_ne (x_f (f__law_sort.mono (Nat.le_trans (show 1 ≤ 1 by decide) (Nat.le_add_right 1 k))) hr tk (xa_cons (x_name 0) xa_nil)) (x_name 2) (nomark _)) (x_or1 (x_cmpT (op_eqD hr.units) o_eq b_eq (x_name 2) x_int (nomark _))))) (s_one (s_ret x_bl)) s_nil)
    (s_cons (s_if (x_cmpT op_in_seq (o_inP false) (b_inP false) (x_name 2) (x_tup (xa_cons x_int (xa_cons x_int xa_nil))) (by with_unfolding_all rfl)) (s_one (s_ret (x_and (x_cmp (op_eqD hr.units) o_eq (x_B call_len k_len (by rfl) T.b_len (by rfl) (xl_cons (x_name 0) xl_nil)) (x_B call_len k_len (by rfl) T.b_len (by rfl) (xl_cons (x_name 1) xl_nil)) (nomark _)) (x_one (x_cmp (op_eqD hr.units) o_eq (x_comp S__law_like.nd (i_zip (by rfl) T.b_zip (xa_cons (x_name 0) (xa_cons (x_name 1) xa_nil))) (own := [("first", 3), ("second", 4)]) (blkOk_by (sc := defScope s__law_like) (N := N__law_like) (own := [("first", 3), ("second", 4)]) (by decide +kernel)) (is := [3, 4]) (by decide) (fun _ _ _ _ _ => (g_tup rfl (gs_cons (g_name 3 S__law_like.nd) (gs_cons (g_name 4 S__law_like.nd) gs_nil)))) (fun _ _ _ _ _ => (xt_one (x_notT (x_test (x_f fself hr takes0 (xa_cons (x_name 3) (xa_cons (x_name 4) xa_nil))))))) (fun _ _ _ _ _ => x_int)) (x_lst xa_nil) (nomark _)))))) s_nil)
    (s_one (s_ret (x_cmp (op_eqD hr.units) o_eq (x_name 0) (x_name 1) (nomark _)))))))), hm, Fn.kp, Fn.binds (ps := ["one", "other"]) fun _ _ _ _ _ _ us hl => match us, hl with | [_, _], _ => rfl⟩, mFun_len, mFun_nb⟩
/-! _law_is_prime -/
abbrev s__law_is_prime : Stmt := topS 34
abbrev N__law_is_prime : List Str := ["number", "found"]
noncomputable def m__law_is_prime : MS :=
    (mSeq (mIfS (mOp2 dLt (mV 0) (mC (.int 2))) (mRet (mC (.bl false))) mSkip)
    (mSeq (mSet 1 (mC (.int 2)))
    (mSeq (mWhile (mOp2 dLe (mOp2 dMul (mV 1) (mV 1)) (mV 0)) (mSeq (mIfS (mOp2 dEq (mOp2 dMod (mB bInt (lCons (mV 0) aNil)) (mV 1)) (mC (.int 0))) (mRet (mC (.bl false))) mSkip)
    (mSet 1 (mOp2 dAdd (mV 1) (mC (.int 1))))))
    (mRet (mC (.bl true))))))
noncomputable def F__law_is_prime : Fn := mFun 1 2 m__law_is_prime
theorem ff__law_is_prime : FF F__law_is_prime := ff_Fun (fs_Seq (fs_IfS (fe_Op2 (fe_V) (fe_C)) (fs_Ret (fe_C)) fs_Skip) (fs_Seq (fs_Set (fe_C)) (fs_Seq (fs_While (fe_Op2 (fe_Op2 (fe_V) (fe_V)) (fe_V)) (fs_Seq (fs_IfS (fe_Op2 (fe_Op2 (fe_B (fa_lCons (fe_V) fa_Nil)) (fe_V)) (fe_C)) (fs_Ret (fe_C)) fs_Skip) (fs_Set (fe_Op2 (fe_V) (fe_C))))) (fs_Ret (fe_C)))))
theorem S__law_is_prime : FnScope N__law_is_prime ["number"] (defScope s__law_is_prime) := ⟨rfl, rfl, rfl, by decide +kernel, rfl, by decide +kernel, by decide +kernel⟩
theorem ok__law_is_prime (T : Tx K mg) {f : Addr} {fd : FuncData} (Fn : Fun K "_law_is_prime" "_law_is_prime" s__law_is_prime f fd) (hm : mg "_law_is_prime" = some (.ref f))  : Fx P w K mg base "_law_is_prime" 1 ["number"] 1 F__law_is_prime :=
  ⟨⟨f, fd, fn_mk Fn S__law_is_prime rfl rfl fun cdv A outer s H E hr => (by
    have tk := takes_of (X := cxOf (L2.CX P w) P w K mg base N__law_is_prime "_law_is_prime" (defScope s__law_is_prime) f cdv A outer s H E) (E := E) rfl rfl rfl rfl
    exact (s_cons (s_if (x_cmpT op_lt o_lt b_lt (x_name 0) x_int (nomark _)) (s_one (s_ret x_bl)) s_nil)
    (s_cons (s_set 1 S__law_is_prime.nd x_int)
    (s_cons (s_while (passes_of rfl) (x_cmpT op_le o_le b_le (x_op op_mul3 o_mul (x_name 1) (x_name 1)) (x_name 0) (nomark _)) (s_cons (s_if (x_cmpT (op_eqD hr.units) o_eq b_eq (x_op op_mod o_mod (x_BT call_int1 k_int (by rfl) T.b_int (by rfl) (xl_cons (x_name 0) xl_nil)) (x_name 1)) x_int (nomark _)) (s_one (s_ret x_bl)) s_nil)
    (s_one (s_set 1 S__law_is_prime.nd (x_op op_add4 o_add (x_name 1) x_int)))))
    (s_one (s_ret x_bl)))))), hm, Fn.kp, Fn.binds (ps := ["number"]) fun _ _ _ _ _ _ us hl => match us, hl with | [_], _ => rfl⟩, mFun_len, mFun_nb⟩
/-! _law_power -/
abbrev s__law_power : Stmt := topS 35
abbrev N__law_power : List Str := ["one", "times", "number", "found", "here"]
noncomputable def m__law_power : MS :=
    (mSeq (mPar [3, 4] (kCons (mC (.int 1)) (kCons (mOp2 dMod (mB bInt (lCons (mV 0) aNil)) (mV 2)) kNil)))
    (mSeq (mWhile (mOp2 dGt (mV 1) (mC (.int 0))) (mSeq (mSet 3 (mIf (mOp2 dEq (mOp2 dMod (mB bInt (lCons (mV 1) aNil)) (mC (.int 2))) (mC (.int 1))) (mOp2 dMod (mB bInt (lCons (mOp2 dMul (mV 3) (mV 4)) aNil)) (mV 2)) (mV 3)))
    (mPar [4, 1] (kCons (mOp2 dMod (mB bInt (lCons (mOp2 dMul (mV 4) (mV 4)) aNil)) (mV 2)) (kCons (mB bInt (lCons (mOp2 dFdiv (mV 1) (mC (.int 2))) aNil)) kNil)))))
    (mRet (mOp2 dMod (mB bInt (lCons (mV 3) aNil)) (mV 2)))))
noncomputable def F__law_power : Fn := mFun 3 5 m__law_power
theorem ff__law_power : FF F__law_power := ff_Fun (fs_Seq (fs_Par (fk_Cons (fe_C) (fk_Cons (fe_Op2 (fe_B (fa_lCons (fe_V) fa_Nil)) (fe_V)) fk_Nil))) (fs_Seq (fs_While (fe_Op2 (fe_V) (fe_C)) (fs_Seq (fs_Set (fe_If (fe_Op2 (fe_Op2 (fe_B (fa_lCons (fe_V) fa_Nil)) (fe_C)) (fe_C)) (fe_Op2 (fe_B (fa_lCons (fe_Op2 (fe_V) (fe_V)) fa_Nil)) (fe_V)) (fe_V))) (fs_Par (fk_Cons (fe_Op2 (fe_B (fa_lCons (fe_Op2 (fe_V) (fe_V)) fa_Nil)) (fe_V)) (fk_Cons (fe_B (fa_lCons (fe_Op2 (fe_V) (fe_C)) fa_Nil)) fk_Nil))))) (fs_Ret (fe_Op2 (fe_B (fa_lCons (fe_V) fa_Nil)) (fe_V)))))
theorem S__law_power : FnScope N__law_power ["one", "times", "number"] (defScope s__law_power) := ⟨rfl, rfl, rfl, by decide +kernel, rfl, by decide +kernel, by decide +kernel⟩
theorem ok__law_power (T : Tx K mg) {f : Addr} {fd : FuncData} (Fn : Fun K "_law_power" "_law_power" s__law_power f fd) (hm : mg "_law_power" = some (.ref f))  : Fx P w K mg base "_law_power" 1 ["one", "times", "number"] 3 F__law_power :=
  ⟨⟨f, fd, fn_mk Fn S__law_power rfl rfl fun cdv A outer s H E hr => (by
    have tk := takes_of (X := cxOf (L2.CX P w) P w K mg base N__law_power "_law_power" (defScope s__law_power) f cdv A outer s H E) (E := E) rfl rfl rfl rfl
    exact (s_cons (s_par2 3 4 S__law_power.nd (xk_cons x_int (xk_cons (x_op op_mod o_mod (x_BT call_int1 k_int (by rfl) T.b_int (by rfl) (xl_cons (x_name 0) xl_nil)) (x_name 2)) xk_nil)))
    (s_cons (s_while (passes_of rfl) (x_cmpT op_gt o_gt b_gt (x_name 1) x_int (nomark _)) (s_cons (s_set 3 S__law_power.nd (x_if (x_cmpT (op_eqD hr.units) o_eq b_eq (x_op op_mod o_mod (x_BT call_int1 k_int (by rfl) T.b_int (by rfl) (xl_cons (x_name 1) xl_nil)) x_int) x_int (nomark _)) (x_op op_mod o_mod (x_BT call_int1 k_int (by rfl) T.b_int (by rfl) (xl_cons (x_op op_mul3 o_mul (x_name 3) (x_name 4)) xl_nil)) (x_name 2)) (x_name 3)))
    (s_one (s_par2 4 1 S__law_power.nd (xk_cons (x_op op_mod o_mod (x_BT call_int1 k_int (by rfl) T.b_int (by rfl) (xl_cons (x_op op_mul3 o_mul (x_name 4) (x_name 4)) xl_nil)) (x_name 2)) (xk_cons (x_BT call_int1 k_int (by rfl) T.b_int (by rfl) (xl_cons (x_op op_fdivW o_fdiv (x_name 1) x_int) xl_nil)) xk_nil))))))
    (s_one (s_ret (x_op op_mod o_mod (x_BT call_int1 k_int (by rfl) T.b_int (by rfl) (xl_cons (x_name 3) xl_nil)) (x_name 2))))))), hm, Fn.kp, Fn.binds (ps := ["one", "times", "number"]) fun _ _ _ _ _ _ us hl => match us, hl with | [_, _, _], _ => rfl⟩, mFun_len, mFun_nb⟩
/-! _law_above -/
abbrev s__law_above : Stmt := topS 36
abbrev N__law_above : List Str := ["front", "power", "found", "turn"]
noncomputable def m__law_above : MS :=
    (mSeq (mSet 2 (mV 0))
    (mSeq (mFor (iRange (aCons (mV 1) aNil)) (gN 3) (mSet 2 (mOp2 dMul (mC (.int 2)) (mV 2))))
    (mRet (mOp2 dAdd (mV 2) (mC (.int 1))))))
noncomputable def F__law_above : Fn := mFun 2 4 m__law_above
theorem ff__law_above : FF F__law_above := ff_Fun (fs_Seq (fs_Set (fe_V)) (fs_Seq (fs_For (fi_Range (fa_Cons (fe_V) fa_Nil)) (fs_Set (fe_Op2 (fe_C) (fe_V)))) (fs_Ret (fe_Op2 (fe_V) (fe_C)))))
theorem S__law_above : FnScope N__law_above ["front", "power"] (defScope s__law_above) := ⟨rfl, rfl, rfl, by decide +kernel, rfl, by decide +kernel, by decide +kernel⟩
theorem ok__law_above (T : Tx K mg) {f : Addr} {fd : FuncData} (Fn : Fun K "_law_above" "_law_above" s__law_above f fd) (hm : mg "_law_above" = some (.ref f))  : Fx P w K mg base "_law_above" 1 ["front", "power"] 2 F__law_above :=
  ⟨⟨f, fd, fn_mk Fn S__law_above rfl rfl fun cdv A outer s H E hr => (by
    have tk := takes_of (X := cxOf (L2.CX P w) P w K mg base N__law_above "_law_above" (defScope s__law_above) f cdv A outer s H E) (E := E) rfl rfl rfl rfl
    exact (s_cons (s_set 2 S__law_above.nd (x_name 0))
    (s_cons (s_for (is := [3]) (passes_of rfl) (i_range1 (by rfl) T.b_range (x_name 1)) (g_name 3 S__law_above.nd) (s_one (s_set 2 S__law_above.nd (x_op op_mul3 o_mul x_int (x_name 2)))))
    (s_one (s_ret (x_op op_add4 o_add (x_name 2) x_int)))))), hm, Fn.kp, Fn.binds (ps := ["front", "power"]) fun _ _ _ _ _ _ us hl => match us, hl with | [_, _], _ => rfl⟩, mFun_len, mFun_nb⟩
/-! _law_is_shape -/
abbrev s__law_is_shape : Stmt := topS 37
abbrev N__law_is_shape : List Str := ["front", "power"]
noncomputable def m__law_is_shape : MS :=
    (mSeq (mIfS (mOr (mOp2 dNe (mCall F__law_sort (aCons (mV 0) aNil)) (mC (.int 2))) (mOr (mOp2 dNe (mCall F__law_sort (aCons (mV 1) aNil)) (mC (.int 2))) (mOr (mOp2 dLt (mV 0) (mC (.int 1))) (mOr (mOp2 dEq (mOp2 dMod (mB bInt (lCons (mV 0) aNil)) (mC (.int 2))) (mC (.int 0))) (mNot (mChain dLe dLe (mC (.int 1)) (mV 1) (mC (.int 140)))))))) (mRet (mC (.bl false))) mSkip)
    (mRet (mAnd (mOp2 dGt (mOp2 dSub (mCall F__law_above (aCons (mC (.int 1)) (aCons (mV 1) aNil))) (mC (.int 1))) (mV 0)) (mOp2 dLe (mCall F__law_above (aCons (mV 0) (aCons (mV 1) aNil))) (mOp2 dPow (mC (.int 10)) (mC (.int 40)))))))
noncomputable def F__law_is_shape : Fn := mFun 2 2 m__law_is_shape
theorem ff__law_is_shape : FF F__law_is_shape := ff_Fun (fs_Seq (fs_IfS (fe_Or (fe_Op2 (fe_Call ff__law_sort (fa_Cons (fe_V) fa_Nil)) (fe_C)) (fe_Or (fe_Op2 (fe_Call ff__law_sort (fa_Cons (fe_V) fa_Nil)) (fe_C)) (fe_Or (fe_Op2 (fe_V) (fe_C)) (fe_Or (fe_Op2 (fe_Op2 (fe_B (fa_lCons (fe_V) fa_Nil)) (fe_C)) (fe_C)) (fe_Not (fe_Chain (fe_C) (fe_V) (fe_C))))))) (fs_Ret (fe_C)) fs_Skip) (fs_Ret (fe_And (fe_Op2 (fe_Op2 (fe_Call ff__law_above (fa_Cons (fe_C) (fa_Cons (fe_V) fa_Nil))) (fe_C)) (fe_V)) (fe_Op2 (fe_Call ff__law_above (fa_Cons (fe_V) (fa_Cons (fe_V) fa_Nil))) (fe_Op2 (fe_C) (fe_C))))))
theorem S__law_is_shape : FnScope N__law_is_shape ["front", "power"] (defScope s__law_is_shape) := ⟨rfl, rfl, rfl, by decide +kernel, rfl, by decide +kernel, by decide +kernel⟩
theorem ok__law_is_shape (T : Tx K mg) {f : Addr} {fd : FuncData} (Fn : Fun K "_law_is_shape" "_law_is_shape" s__law_is_shape f fd) (hm : mg "_law_is_shape" = some (.ref f)) (f__law_sort : Fx P w K mg base "_law_sort" 1 ["value"] 1 F__law_sort) (f__law_above : Fx P w K mg base "_law_above" 1 ["front", "power"] 2 F__law_above) : Fx P w K mg base "_law_is_shape" 2 ["front", "power"] 2 F__law_is_shape :=
  ⟨⟨f, fd, fn_mk Fn S__law_is_shape rfl rfl fun cdv A outer s H E hr => (by
    have tk := takes_of (X := cxOf (L2.CX P w) P w K mg base N__law_is_shape "_law_is_shape" (defScope s__law_is_shape) f cdv A outer s H E) (E := E) rfl rfl rfl rfl
    exact (s_cons (s_if (PW.pt (x_orT (x_cmpT (op_neD hr.units) o_ne b_ne (x_f (f__law_sort.mono (by decide)) hr tk (xa_cons (x_name 0) xa_nil)) x_int (nomark _)) (x_orT (x_cmpT (op_neD hr.units) o_ne b_ne (x_f (f__law_sort.mono (by decide)) hr tk (xa_cons (x_name 1) xa_nil)) x_int (nomark _)) (x_orT (x_cmpT op_lt o_lt b_lt (x_name 0) x_int (nomark _)) (x_orT (x_cmpT (op_eqD hr.units) o_eq b_eq (x_op op_mod o_mod (x_BT call_int1 k_int (by rfl) T.b_int (by rfl) (xl_cons (x_name 0) xl_nil)) x_int) x_int (nomark _)) (x_or1 (x_notT (x_chainT op_le op_le o_le o_le b_le x_int (x_name 1) x_int)))))))) (s_one (s_ret x_bl)) s_nil)
    (s_one (s_ret (x_and (x_cmp op_gt o_gt (x_op op_sub o_sub (x_f (f__law_above.mono (by decide)) hr tk (xa_cons x_int (xa_cons (x_name 1) xa_nil))) x_int) (x_name 0) (nomark _)) (x_one (x_cmp op_le o_le (x_f (f__law_above.mono (by decide)) hr tk (xa_cons (x_name 0) (xa_cons (x_name 1) xa_nil))) (x_op op_pow o_pow x_int x_int) (nomark _)))))))), hm, Fn.kp, Fn.binds (ps := ["front", "power"]) fun _ _ _ _ _ _ us hl => match us, hl with | [_, _], _ => rfl⟩, mFun_len, mFun_nb⟩
/-! _law_sign -/
abbrev s__law_sign : Stmt := topS 38
abbrev N__law_sign : List Str := ["one", "odd", "sign", "top", "below"]
noncomputable def m__law_sign : MS :=
    (mSeq (mPar [2, 3, 4] (kCons (mC (.int 1)) (kCons (mOp2 dMod (mB bInt (lCons (mV 0) aNil)) (mV 1)) (kCons (mV 1) kNil))))
    (mSeq (mWhile (mOp2 dNe (mV 3) (mC (.int 0))) (mSeq (mWhile (mOp2 dEq (mOp2 dMod (mB bInt (lCons (mV 3) aNil)) (mC (.int 2))) (mC (.int 0))) (mPar [3, 2] (kCons (mB bInt (lCons (mOp2 dFdiv (mV 3) (mC (.int 2))) aNil)) (kCons (mIf (mOp2 (dInP false) (mOp2 dMod (mB bInt (lCons (mV 4) aNil)) (mC (.int 8))) (mTup (aCons (mC (.int 3)) (aCons (mC (.int 5)) aNil)))) (mOp2 dSub (mC (.int 0)) (mV 2)) (mV 2)) kNil))))
    (mSeq (mSet 2 (mIf (mAnd (mOp2 dEq (mOp2 dMod (mB bInt (lCons (mV 3) aNil)) (mC (.int 4))) (mC (.int 3))) (mOp2 dEq (mOp2 dMod (mB bInt (lCons (mV 4) aNil)) (mC (.int 4))) (mC (.int 3)))) (mOp2 dSub (mC (.int 0)) (mV 2)) (mV 2)))
    (mPar [3, 4] (kCons (mOp2 dMod (mB bInt (lCons (mV 4) aNil)) (mV 3)) (kCons (mV 3) kNil))))))
    (mRet (mIf (mOp2 dEq (mV 4) (mC (.int 1))) (mV 2) (mC (.int 0))))))
noncomputable def F__law_sign : Fn := mFun 2 5 m__law_sign
theorem ff__law_sign : FF F__law_sign := ff_Fun (fs_Seq (fs_Par (fk_Cons (fe_C) (fk_Cons (fe_Op2 (fe_B (fa_lCons (fe_V) fa_Nil)) (fe_V)) (fk_Cons (fe_V) fk_Nil)))) (fs_Seq (fs_While (fe_Op2 (fe_V) (fe_C)) (fs_Seq (fs_While (fe_Op2 (fe_Op2 (fe_B (fa_lCons (fe_V) fa_Nil)) (fe_C)) (fe_C)) (fs_Par (fk_Cons (fe_B (fa_lCons (fe_Op2 (fe_V) (fe_C)) fa_Nil)) (fk_Cons (fe_If (fe_Op2 (fe_Op2 (fe_B (fa_lCons (fe_V) fa_Nil)) (fe_C)) (fe_Tup (fa_Cons (fe_C) (fa_Cons (fe_C) fa_Nil)))) (fe_Op2 (fe_C) (fe_V)) (fe_V)) fk_Nil)))) (fs_Seq (fs_Set (fe_If (fe_And (fe_Op2 (fe_Op2 (fe_B (fa_lCons (fe_V) fa_Nil)) (fe_C)) (fe_C)) (fe_Op2 (fe_Op2 (fe_B (fa_lCons (fe_V) fa_Nil)) (fe_C)) (fe_C))) (fe_Op2 (fe_C) (fe_V)) (fe_V))) (fs_Par (fk_Cons (fe_Op2 (fe_B (fa_lCons (fe_V) fa_Nil)) (fe_V)) (fk_Cons (fe_V) fk_Nil)))))) (fs_Ret (fe_If (fe_Op2 (fe_V) (fe_C)) (fe_V) (fe_C)))))
theorem S__law_sign : FnScope N__law_sign ["one", "odd"] (defScope s__law_sign) := ⟨rfl, rfl, rfl, by decide +kernel, rfl, by decide +kernel, by decide +kernel⟩
theorem ok__law_sign (T : Tx K mg) {f : Addr} {fd : FuncData} (Fn : Fun K "_law_sign" "_law_sign" s__law_sign f fd) (hm : mg "_law_sign" = some (.ref f))  : Fx P w K mg base "_law_sign" 1 ["one", "odd"] 2 F__law_sign :=
  ⟨⟨f, fd, fn_mk Fn S__law_sign rfl rfl fun cdv A outer s H E hr => (by
    have tk := takes_of (X := cxOf (L2.CX P w) P w K mg base N__law_sign "_law_sign" (defScope s__law_sign) f cdv A outer s H E) (E := E) rfl rfl rfl rfl
    exact (s_cons (s_par3 2 3 4 S__law_sign.nd (xk_cons x_int (xk_cons (x_op op_mod o_mod (x_BT call_int1 k_int (by rfl) T.b_int (by rfl) (xl_cons (x_name 0) xl_nil)) (x_name 1)) (xk_cons (x_name 1) xk_nil))))
    (s_cons (s_while (passes_of rfl) (x_cmpT (op_neD hr.units) o_ne b_ne (x_name 3) x_int (nomark _)) (s_cons (s_while (passes_of rfl) (x_cmpT (op_eqD hr.units) o_eq b_eq (x_op op_mod o_mod (x_BT call_int1 k_int (by rfl) T.b_int (by rfl) (xl_cons (x_name 3) xl_nil)) x_int) x_int (nomark _)) (s_one (s_par2 3 2 S__law_sign.nd (xk_cons (x_BT call_int1 k_int (by rfl) T.b_int (by rfl) (xl_cons (x_op op_fdivW o_fdiv (x_name 3) x_int) xl_nil)) (xk_cons (x_if (x_cmpT op_in_seq (o_inP false) (b_inP false) (x_op op_mod o_mod (x_BT call_int1 k_int (by rfl) T.b_int (by rfl) (xl_cons (x_name 4) xl_nil)) x_int) (x_tup (xa_cons x_int (xa_cons x_int xa_nil))) (by with_unfolding_all rfl)) (x_op op_sub o_sub x_int (x_name 2)) (x_name 2)) xk_nil)))))
    (s_cons (s_set 2 S__law_sign.nd (x_if (PW.pt (x_andT (x_cmpT (op_eqD hr.units) o_eq b_eq (x_op op_mod o_mod (x_BT call_int1 k_int (by rfl) T.b_int (by rfl) (xl_cons (x_name 3) xl_nil)) x_int) x_int (nomark _)) (x_and1 (x_cmpT (op_eqD hr.units) o_eq b_eq (x_op op_mod o_mod (x_BT call_int1 k_int (by rfl) T.b_int (by rfl) (xl_cons (x_name 4) xl_nil)) x_int) x_int (nomark _))))) (x_op op_sub o_sub x_int (x_name 2)) (x_name 2)))
    (s_one (s_par2 3 4 S__law_sign.nd (xk_cons (x_op op_mod o_mod (x_BT call_int1 k_int (by rfl) T.b_int (by rfl) (xl_cons (x_name 4) xl_nil)) (x_name 3)) (xk_cons (x_name 3) xk_nil)))))))
    (s_one (s_ret (x_if (x_cmpT (op_eqD hr.units) o_eq b_eq (x_name 4) x_int (nomark _)) (x_name 2) x_int)))))), hm, Fn.kp, Fn.binds (ps := ["one", "odd"]) fun _ _ _ _ _ _ us hl => match us, hl with | [_, _], _ => rfl⟩, mFun_len, mFun_nb⟩
/-! _law_half -/
abbrev s__law_half : Stmt := topS 39
abbrev N__law_half : List Str := ["base", "great"]
noncomputable def m__law_half : MS :=
    (mRet (mCall F__law_power (aCons (mOp2 dMod (mB bInt (lCons (mV 0) aNil)) (mV 1)) (aCons (mB bInt (lCons (mOp2 dFdiv (mOp2 dSub (mV 1) (mC (.int 1))) (mC (.int 2))) aNil)) (aCons (mV 1) aNil)))))
noncomputable def F__law_half : Fn := mFun 2 2 m__law_half
theorem ff__law_half : FF F__law_half := ff_Fun (fs_Ret (fe_Call ff__law_power (fa_Cons (fe_Op2 (fe_B (fa_lCons (fe_V) fa_Nil)) (fe_V)) (fa_Cons (fe_B (fa_lCons (fe_Op2 (fe_Op2 (fe_V) (fe_C)) (fe_C)) fa_Nil)) (fa_Cons (fe_V) fa_Nil)))))
theorem S__law_half : FnScope N__law_half ["base", "great"] (defScope s__law_half) := ⟨rfl, rfl, rfl, by decide +kernel, rfl, by decide +kernel, by decide +kernel⟩
theorem ok__law_half (T : Tx K mg) {f : Addr} {fd : FuncData} (Fn : Fun K "_law_half" "_law_half" s__law_half f fd) (hm : mg "_law_half" = some (.ref f)) (f__law_power : Fx P w K mg base "_law_power" 1 ["one", "times", "number"] 3 F__law_power) : Fx P w K mg base "_law_half" 2 ["base", "great"] 2 F__law_half :=
  ⟨⟨f, fd, fn_mk Fn S__law_half rfl rfl fun cdv A outer s H E hr => (by
    have tk := takes_of (X := cxOf (L2.CX P w) P w K mg base N__law_half "_law_half" (defScope s__law_half) f cdv A outer s H E) (E := E) rfl rfl rfl rfl
    exact (s_one (s_ret (x_f (f__law_power.mono (by decide)) hr tk (xa_cons (x_op op_mod o_mod (x_BT call_int1 k_int (by rfl) T.b_int (by rfl) (xl_cons (x_name 0) xl_nil)) (x_name 1)) (xa_cons (x_BT call_int1 k_int (by rfl) T.b_int (by rfl) (xl_cons (x_op op_fdivW o_fdiv (x_op op_sub o_sub (x_name 1) x_int) x_int) xl_nil)) (xa_cons (x_name 1) xa_nil))))))), hm, Fn.kp, Fn.binds (ps := ["base", "great"]) fun _ _ _ _ _ _ us hl => match us, hl with | [_, _], _ => rfl⟩, mFun_len, mFun_nb⟩
/-! _law_is_false -/
abbrev s__law_is_false : Stmt := topS 40
abbrev N__law_is_false : List Str := ["base", "great", "rest", "sign"]
noncomputable def m__law_is_false : MS :=
    (mSeq (mPar [2, 3] (kCons (mCall F__law_half (aCons (mV 0) (aCons (mV 1) aNil))) (kCons (mCall F__law_sign (aCons (mV 0) (aCons (mV 1) aNil))) kNil)))
    (mRet (mOp2 (dInD true) (mTup (aCons (mV 2) (aCons (mV 3) aNil))) (mTup (aCons (mTup (aCons (mC (.int 1)) (aCons (mC (.int 1)) aNil))) (aCons (mTup (aCons (mOp2 dSub (mV 1) (mC (.int 1))) (aCons (mOp1 dNeg (mC (.int 1))) aNil))) aNil))))))
noncomputable def F__law_is_false : Fn := mFun 2 4 m__law_is_false
theorem ff__law_is_false : FF F__law_is_false := ff_Fun (fs_Seq (fs_Par (fk_Cons (fe_Call ff__law_half (fa_Cons (fe_V) (fa_Cons (fe_V) fa_Nil))) (fk_Cons (fe_Call ff__law_sign (fa_Cons (fe_V) (fa_Cons (fe_V) fa_Nil))) fk_Nil))) (fs_Ret (fe_Op2 (fe_Tup (fa_Cons (fe_V) (fa_Cons (fe_V) fa_Nil))) (fe_Tup (fa_Cons (fe_Tup (fa_Cons (fe_C) (fa_Cons (fe_C) fa_Nil))) (fa_Cons (fe_Tup (fa_Cons (fe_Op2 (fe_V) (fe_C)) (fa_Cons (fe_Op1 (fe_C)) fa_Nil))) fa_Nil))))))
theorem S__law_is_false : FnScope N__law_is_false ["base", "great"] (defScope s__law_is_false) := ⟨rfl, rfl, rfl, by decide +kernel, rfl, by decide +kernel, by decide +kernel⟩
theorem ok__law_is_false (T : Tx K mg) {f : Addr} {fd : FuncData} (Fn : Fun K "_law_is_false" "_law_is_false" s__law_is_false f fd) (hm : mg "_law_is_false" = some (.ref f)) (f__law_sign : Fx P w K mg base "_law_sign" 1 ["one", "odd"] 2 F__law_sign) (f__law_half : Fx P w K mg base "_law_half" 2 ["base", "great"] 2 F__law_half) : Fx P w K mg base "_law_is_false" 3 ["base", "great"] 2 F__law_is_false :=
  ⟨⟨f, fd, fn_mk Fn S__law_is_false rfl rfl fun cdv A outer s H E hr => (by
    have tk := takes_of (X := cxOf (L2.CX P w) P w K mg base N__law_is_false "_law_is_false" (defScope s__law_is_false) f cdv A outer s H E) (E := E) rfl rfl rfl rfl
    exact (s_cons (s_par2 2 3 S__law_is_false.nd (xk_cons (x_f (f__law_half.mono (by decide)) hr tk (xa_cons (x_name 0) (xa_cons (x_name 1) xa_nil))) (xk_cons (x_f (f__law_sign.mono (by decide)) hr tk (xa_cons (x_name 0) (xa_cons (x_name 1) xa_nil))) xk_nil)))
    (s_one (s_ret (x_cmp (op_notInDD hr) o_notInD (x_tup (xa_cons (x_name 2) (xa_cons (x_name 3) xa_nil))) (x_tup (xa_cons (x_tup (xa_cons x_int (xa_cons x_int xa_nil))) (xa_cons (x_tup (xa_cons (x_op op_sub o_sub (x_name 1) x_int) (xa_cons (x_un un_neg o_neg x_int) xa_nil))) xa_nil))) (by with_unfolding_all rfl)))))), hm, Fn.kp, Fn.binds (ps := ["base", "great"]) fun _ _ _ _ _ _ us hl => match us, hl with | [_, _], _ => rfl⟩, mFun_len, mFun_nb⟩
/-! _law_shape -/
abbrev s__law_shape : Stmt := topS 41
abbrev N__law_shape : List Str := ["cup", "most", "power", "front"]
noncomputable def m__law_shape : MS :=
    (mSeq (mSet 2 (mOp2 dAdd (mC (.int 1)) (mCall F__law_roll (aCons (mV 0) (aCons (mV 1) aNil)))))
    (mSeq (mSet 3 (mOp2 dAdd (mC (.int 1)) (mOp2 dMul (mC (.int 2)) (mCall F__law_roll (aCons (mV 0) (aCons (mB bMin2 (lCons (mOp2 dPow (mC (.int 10)) (mC (.int 6))) (lCons (mOp2 dSub (mCall F__law_above (aCons (mC (.int 1)) (aCons (mV 2) aNil))) (mC (.int 1))) aNil))) aNil))))))
    (mSeq (mWhile (mOp2 dGe (mV 3) (mOp2 dSub (mCall F__law_above (aCons (mC (.int 1)) (aCons (mV 2) aNil))) (mC (.int 1)))) (mSet 3 (mOp2 dAdd (mOp2 dMul (mB bInt (lCons (mOp2 dFdiv (mV 3) (mC (.int 4))) aNil)) (mC (.int 2))) (mC (.int 1)))))
    (mRet (mTup (aCons (mV 3) (aCons (mV 2) aNil)))))))
noncomputable def F__law_shape : Fn := mFun 2 4 m__law_shape
theorem ff__law_shape : FF F__law_shape := ff_Fun (fs_Seq (fs_Set (fe_Op2 (fe_C) (fe_Call ff__law_roll (fa_Cons (fe_V) (fa_Cons (fe_V) fa_Nil))))) (fs_Seq (fs_Set (fe_Op2 (fe_C) (fe_Op2 (fe_C) (fe_Call ff__law_roll (fa_Cons (fe_V) (fa_Cons (fe_B (fa_lCons (fe_Op2 (fe_C) (fe_C)) (fa_lCons (fe_Op2 (fe_Call ff__law_above (fa_Cons (fe_C) (fa_Cons (fe_V) fa_Nil))) (fe_C)) fa_Nil))) fa_Nil)))))) (fs_Seq (fs_While (fe_Op2 (fe_V) (fe_Op2 (fe_Call ff__law_above (fa_Cons (fe_C) (fa_Cons (fe_V) fa_Nil))) (fe_C))) (fs_Set (fe_Op2 (fe_Op2 (fe_B (fa_lCons (fe_Op2 (fe_V) (fe_C)) fa_Nil)) (fe_C)) (fe_C)))) (fs_Ret (fe_Tup (fa_Cons (fe_V) (fa_Cons (fe_V) fa_Nil)))))))
theorem S__law_shape : FnScope N__law_shape ["cup", "most"] (defScope s__law_shape) := ⟨rfl, rfl, rfl, by decide +kernel, rfl, by decide +kernel, by decide +kernel⟩
theorem ok__law_shape (T : Tx K mg) {f : Addr} {fd : FuncData} (Fn : Fun K "_law_shape" "_law_shape" s__law_shape f fd) (hm : mg "_law_shape" = some (.ref f)) (f__law_roll : Fx P w K mg base "_law_roll" 1 ["cup", "many"] 2 F__law_roll) (f__law_above : Fx P w K mg base "_law_above" 1 ["front", "power"] 2 F__law_above) : Fx P w K mg base "_law_shape" 2 ["cup", "most"] 2 F__law_shape :=
  ⟨⟨f, fd, fn_mk Fn S__law_shape rfl rfl fun cdv A outer s H E hr => (by
    have tk := takes_of (X := cxOf (L2.CX P w) P w K mg base N__law_shape "_law_shape" (defScope s__law_shape) f cdv A outer s H E) (E := E) rfl rfl rfl rfl
    exact (s_cons (s_set 2 S__law_shape.nd (x_op op_add4 o_add x_int (x_f (f__law_roll.mono (by decide)) hr tk (xa_cons (x_name 0) (xa_cons (x_name 1) xa_nil)))))
    (s_cons (s_set 3 S__law_shape.nd (x_op op_add4 o_add x_int (x_op op_mul3 o_mul x_int (x_f (f__law_roll.mono (by decide)) hr tk (xa_cons (x_name 0) (xa_cons (x_B (call_min2 rfl) k_min2 (by rfl) T.b_min (by rfl) (xl_cons (x_op op_pow o_pow x_int x_int) (xl_cons (x_op op_sub o_sub (x_f (f__law_above.mono (by decide)) hr tk (xa_cons x_int (xa_cons (x_name 2) xa_nil))) x_int) xl_nil))) xa_nil))))))
    (s_cons (s_while (passes_of rfl) (x_cmpT op_ge o_ge b_ge (x_name 3) (x_op op_sub o_sub (x_f (f__law_above.mono (by decide)) hr tk (xa_cons x_int (xa_cons (x_name 2) xa_nil))) x_int) (nomark _)) (s_one (s_set 3 S__law_shape.nd (x_op op_add4 o_add (x_op op_mul3 o_mul (x_BT call_int1 k_int (by rfl) T.b_int (by rfl) (xl_cons (x_op op_fdivW o_fdiv (x_name 3) x_int) xl_nil)) x_int) x_int))))
    (s_one (s_ret (x_tup (xa_cons (x_name 3) (xa_cons (x_name 2) xa_nil))))))))), hm, Fn.kp, Fn.binds (ps := ["cup", "most"]) fun _ _ _ _ _ _ us hl => match us, hl with | [_, _], _ => rfl⟩, mFun_len, mFun_nb⟩
/-! _law_right -/
abbrev s__law_right : Stmt := topS 42
abbrev N__law_right : List Str := ["cup", "front", "power", "some", "value", "great", "paper", "good"]
noncomputable def m__law_right : MS :=
    (mSeq (mPar [5, 6] (kCons (mCall F__law_above (aCons (mV 1) (aCons (mV 2) aNil))) (kCons (mCall F_false_paper (aCons (mV 1) (aCons (mV 2) aNil))) kNil)))
    (mSeq (mIfS (mOp2 dNe (mOp2 dIsN (mV 6) (mC .non)) (mCall F_is_shape_prime (aCons (mV 1) (aCons (mV 2) aNil)))) (mRet (mC (.bl false))) mSkip)
    (mSeq (mIfS (mAnd (mOp2 dNotN (mV 6) (mC .non)) (mOr (mOp2 dNe (mCall F__law_sort (aCons (mV 6) aNil)) (mC (.int 2))) (mOr (mNot (mChain dLe dLt (mC (.int 2)) (mV 6) (mV 5))) (mNot (mCall F__law_is_false (aCons (mV 6) (aCons (mV 5) aNil))))))) (mRet (mC (.bl false))) mSkip)
    (mSeq (mSet 3 (mIf (mOp2 dNotN (mV 6) (mC .non)) (mV 6) (mC (.int 2))))
    (mSeq (mFor (iSeq (mTup (aCons (mV 3) (aCons (mOp2 dAdd (mV 3) (mC (.int 1))) (aCons (mOp2 dSub (mV 5) (mV 3)) (aCons (mOp2 dAdd (mV 5) (mV 3)) (aCons (mOp2 dSub (mV 5) (mC (.int 1))) (aCons (mV 5) (aCons (mC (.int 1)) (aCons (mC (.int 0)) (aCons (mOp1 dNeg (mC (.int 2))) (aCons (mC .non) (aCons (mC (.bl true)) (aCons (mC (.str "2")) (aCons (mTup (aCons (mV 3) aNil)) (aCons (mOp2 dAdd (mC (.int 2)) (mCall F__law_roll (aCons (mV 0) (aCons (mOp2 dPow (mC (.int 10)) (mC (.int 6))) aNil)))) aNil)))))))))))))))) (gN 4) (mSeq (mSet 7 (mAnd (mOp2 dEq (mCall F__law_sort (aCons (mV 4) aNil)) (mC (.int 2))) (mAnd (mChain dLe dLt (mC (.int 2)) (mV 4) (mV 5)) (mCall F__law_is_false (aCons (mV 4) (aCons (mV 5) aNil))))))
    (mIfS (mNot (mCall F__law_like (aCons (mCall F_is_false_paper (aCons (mV 1) (aCons (mV 2) (aCons (mV 4) aNil)))) (aCons (mV 7) aNil)))) (mRet (mC (.bl false))) mSkip)))
    (mRet (mC (.bl true))))))))
noncomputable def F__law_right : Fn := mFun 3 8 m__law_right
noncomputable def m__law_right_0 : MS :=
    (mPar [5, 6] (kCons (mCall F__law_above (aCons (mV 1) (aCons (mV 2) aNil))) (kCons (mCall F_false_paper (aCons (mV 1) (aCons (mV 2) aNil))) kNil)))
theorem fs__law_right_0 : FS m__law_right_0 := (fs_Par (fk_Cons (fe_Call ff__law_above (fa_Cons (fe_V) (fa_Cons (fe_V) fa_Nil))) (fk_Cons (fe_Call ff_false_paper (fa_Cons (fe_V) (fa_Cons (fe_V) fa_Nil))) fk_Nil)))
noncomputable def m__law_right_1 : MS :=
    (mSeq (mIfS (mOp2 dNe (mOp2 dIsN (mV 6) (mC .non)) (mCall F_is_shape_prime (aCons (mV 1) (aCons (mV 2) aNil)))) (mRet (mC (.bl false))) mSkip)
    (mSeq (mIfS (mAnd (mOp2 dNotN (mV 6) (mC .non)) (mOr (mOp2 dNe (mCall F__law_sort (aCons (mV 6) aNil)) (mC (.int 2))) (mOr (mNot (mChain dLe dLt (mC (.int 2)) (mV 6) (mV 5))) (mNot (mCall F__law_is_false (aCons (mV 6) (aCons (mV 5) aNil))))))) (mRet (mC (.bl false))) mSkip)
    (mSeq (mSet 3 (mIf (mOp2 dNotN (mV 6) (mC .non)) (mV 6) (mC (.int 2))))
    (mSeq (mFor (iSeq (mTup (aCons (mV 3) (aCons (mOp2 dAdd (mV 3) (mC (.int 1))) (aCons (mOp2 dSub (mV 5) (mV 3)) (aCons (mOp2 dAdd (mV 5) (mV 3)) (aCons (mOp2 dSub (mV 5) (mC (.int 1))) (aCons (mV 5) (aCons (mC (.int 1)) (aCons (mC (.int 0)) (aCons (mOp1 dNeg (mC (.int 2))) (aCons (mC .non) (aCons (mC (.bl true)) (aCons (mC (.str "2")) (aCons (mTup (aCons (mV 3) aNil)) (aCons (mOp2 dAdd (mC (.int 2)) (mCall F__law_roll (aCons (mV 0) (aCons (mOp2 dPow (mC (.int 10)) (mC (.int 6))) aNil)))) aNil)))))))))))))))) (gN 4) (mSeq (mSet 7 (mAnd (mOp2 dEq (mCall F__law_sort (aCons (mV 4) aNil)) (mC (.int 2))) (mAnd (mChain dLe dLt (mC (.int 2)) (mV 4) (mV 5)) (mCall F__law_is_false (aCons (mV 4) (aCons (mV 5) aNil))))))
    (mIfS (mNot (mCall F__law_like (aCons (mCall F_is_false_paper (aCons (mV 1) (aCons (mV 2) (aCons (mV 4) aNil)))) (aCons (mV 7) aNil)))) (mRet (mC (.bl false))) mSkip)))
    (mRet (mC (.bl true)))))))
theorem fs__law_right_1 : FS m__law_right_1 := (fs_Seq (fs_IfS (fe_Op2 (fe_Op2 (fe_V) (fe_C)) (fe_Call ff_is_shape_prime (fa_Cons (fe_V) (fa_Cons (fe_V) fa_Nil)))) (fs_Ret (fe_C)) fs_Skip) (fs_Seq (fs_IfS (fe_And (fe_Op2 (fe_V) (fe_C)) (fe_Or (fe_Op2 (fe_Call ff__law_sort (fa_Cons (fe_V) fa_Nil)) (fe_C)) (fe_Or (fe_Not (fe_Chain (fe_C) (fe_V) (fe_V))) (fe_Not (fe_Call ff__law_is_false (fa_Cons (fe_V) (fa_Cons (fe_V) fa_Nil))))))) (fs_Ret (fe_C)) fs_Skip) (fs_Seq (fs_Set (fe_If (fe_Op2 (fe_V) (fe_C)) (fe_V) (fe_C))) (fs_Seq (fs_For (fi_Seq (fe_Tup (fa_Cons (fe_V) (fa_Cons (fe_Op2 (fe_V) (fe_C)) (fa_Cons (fe_Op2 (fe_V) (fe_V)) (fa_Cons (fe_Op2 (fe_V) (fe_V)) (fa_Cons (fe_Op2 (fe_V) (fe_C)) (fa_Cons (fe_V) (fa_Cons (fe_C) (fa_Cons (fe_C) (fa_Cons (fe_Op1 (fe_C)) (fa_Cons (fe_C) (fa_Cons (fe_C) (fa_Cons (fe_C) (fa_Cons (fe_Tup (fa_Cons (fe_V) fa_Nil)) (fa_Cons (fe_Op2 (fe_C) (fe_Call ff__law_roll (fa_Cons (fe_V) (fa_Cons (fe_Op2 (fe_C) (fe_C)) fa_Nil)))) fa_Nil)))))))))))))))) (fs_Seq (fs_Set (fe_And (fe_Op2 (fe_Call ff__law_sort (fa_Cons (fe_V) fa_Nil)) (fe_C)) (fe_And (fe_Chain (fe_C) (fe_V) (fe_V)) (fe_Call ff__law_is_false (fa_Cons (fe_V) (fa_Cons (fe_V) fa_Nil)))))) (fs_IfS (fe_Not (fe_Call ff__law_like (fa_Cons (fe_Call ff_is_false_paper (fa_Cons (fe_V) (fa_Cons (fe_V) (fa_Cons (fe_V) fa_Nil)))) (fa_Cons (fe_V) fa_Nil)))) (fs_Ret (fe_C)) fs_Skip))) (fs_Ret (fe_C))))))
theorem m__law_right_eq : m__law_right = mSeq m__law_right_0 (m__law_right_1) := by
  simp only [m__law_right, m__law_right_0, m__law_right_1, seq_assoc]
theorem ff__law_right : FF F__law_right := ff_Fun (fs_Seq (fs_Par (fk_Cons (fe_Call ff__law_above (fa_Cons (fe_V) (fa_Cons (fe_V) fa_Nil))) (fk_Cons (fe_Call ff_false_paper (fa_Cons (fe_V) (fa_Cons (fe_V) fa_Nil))) fk_Nil))) (fs_Seq (fs_IfS (fe_Op2 (fe_Op2 (fe_V) (fe_C)) (fe_Call ff_is_shape_prime (fa_Cons (fe_V) (fa_Cons (fe_V) fa_Nil)))) (fs_Ret (fe_C)) fs_Skip) (fs_Seq (fs_IfS (fe_And (fe_Op2 (fe_V) (fe_C)) (fe_Or (fe_Op2 (fe_Call ff__law_sort (fa_Cons (fe_V) fa_Nil)) (fe_C)) (fe_Or (fe_Not (fe_Chain (fe_C) (fe_V) (fe_V))) (fe_Not (fe_Call ff__law_is_false (fa_Cons (fe_V) (fa_Cons (fe_V) fa_Nil))))))) (fs_Ret (fe_C)) fs_Skip) (fs_Seq (fs_Set (fe_If (fe_Op2 (fe_V) (fe_C)) (fe_V) (fe_C))) (fs_Seq (fs_For (fi_Seq (fe_Tup (fa_Cons (fe_V) (fa_Cons (fe_Op2 (fe_V) (fe_C)) (fa_Cons (fe_Op2 (fe_V) (fe_V)) (fa_Cons (fe_Op2 (fe_V) (fe_V)) (fa_Cons (fe_Op2 (fe_V) (fe_C)) (fa_Cons (fe_V) (fa_Cons (fe_C) (fa_Cons (fe_C) (fa_Cons (fe_Op1 (fe_C)) (fa_Cons (fe_C) (fa_Cons (fe_C) (fa_Cons (fe_C) (fa_Cons (fe_Tup (fa_Cons (fe_V) fa_Nil)) (fa_Cons (fe_Op2 (fe_C) (fe_Call ff__law_roll (fa_Cons (fe_V) (fa_Cons (fe_Op2 (fe_C) (fe_C)) fa_Nil)))) fa_Nil)))))))))))))))) (fs_Seq (fs_Set (fe_And (fe_Op2 (fe_Call ff__law_sort (fa_Cons (fe_V) fa_Nil)) (fe_C)) (fe_And (fe_Chain (fe_C) (fe_V) (fe_V)) (fe_Call ff__law_is_false (fa_Cons (fe_V) (fa_Cons (fe_V) fa_Nil)))))) (fs_IfS (fe_Not (fe_Call ff__law_like (fa_Cons (fe_Call ff_is_false_paper (fa_Cons (fe_V) (fa_Cons (fe_V) (fa_Cons (fe_V) fa_Nil)))) (fa_Cons (fe_V) fa_Nil)))) (fs_Ret (fe_C)) fs_Skip))) (fs_Ret (fe_C)))))))
theorem S__law_right : FnScope N__law_right ["cup", "front", "power"] (defScope s__law_right) := ⟨rfl, rfl, rfl, by decide +kernel, rfl, by decide +kernel, by decide +kernel⟩
theorem ok__law_right (T : Tx K mg) {f : Addr} {fd : FuncData} (Fn : Fun K "_law_right" "_law_right" s__law_right f fd) (hm : mg "_law_right" = some (.ref f)) (f_is_shape_prime : Fx P w K mg base "is_shape_prime" 5 ["front", "power"] 2 F_is_shape_prime) (f_false_paper : Fx P w K mg base "false_paper" 5 ["front", "power"] 2 F_false_paper) (f_is_false_paper : Fx P w K mg base "is_false_paper" 5 ["front", "power", "value"] 3 F_is_false_paper) (f__law_roll : Fx P w K mg base "_law_roll" 1 ["cup", "many"] 2 F__law_roll) (f__law_sort : Fx P w K mg base "_law_sort" 1 ["value"] 1 F__law_sort) (f__law_like : Fx P w K mg base "_law_like" 7 ["one", "other"] 2 F__law_like) (f__law_above : Fx P w K mg base "_law_above" 1 ["front", "power"] 2 F__law_above) (f__law_is_false : Fx P w K mg base "_law_is_false" 3 ["base", "great"] 2 F__law_is_false) : Fx P w K mg base "_law_right" 8 ["cup", "front", "power"] 3 F__law_right :=
  ⟨⟨f, fd, fn_mk Fn S__law_right rfl rfl fun cdv A outer s H E hr => (by
    have tk := takes_of (X := cxOf (L2.CX P w) P w K mg base N__law_right "_law_right" (defScope s__law_right) f cdv A outer s H E) (E := E) rfl rfl rfl rfl
    exact (s_cons (s_par2 5 6 S__law_right.nd (xk_cons (x_f (f__law_above.mono (by decide)) hr tk (xa_cons (x_name 1) (xa_cons (x_name 2) xa_nil))) (xk_cons (x_f (f_false_paper.mono (by decide)) hr tk (xa_cons (x_name 1) (xa_cons (x_name 2) xa_nil))) xk_nil)))
    (s_cons (s_if (x_cmpT (op_neD hr.units) o_ne b_ne (x_cmp op_is2 o_is (x_name 6) x_non (nomark _)) (x_f (f_is_shape_prime.mono (by decide)) hr tk (xa_cons (x_name 1) (xa_cons (x_name 2) xa_nil))) (nomark _)) (s_one (s_ret x_bl)) s_nil)
    (s_cons (s_if (PW.pt (x_andT (x_cmpT op_not2 o_isnot b_isnot (x_name 6) x_non (nomark _)) (x_and1 (PW.pt (x_orT (x_cmpT (op_neD hr.units) o_ne b_ne (x_f (f__law_sort.mono (by decide)) hr tk (xa_cons (x_name 6) xa_nil)) x_int (nomark _)) (x_orT (x_notT (x_chainT op_le op_lt o_le o_lt b_lt x_int (x_name 6) (x_name 5))) (x_or1 (x_notT (x_test (x_f (f__law_is_false.mono (by decide)) hr tk (xa_cons (x_name 6) (xa_cons (x_name 5) xa_nil)))))))))))) (s_one (s_ret x_bl)) s_nil)
    (s_cons (s_set 3 S__law_right.nd (x_if (x_cmpT op_not2 o_isnot b_isnot (x_name 6) x_non (nomark _)) (x_name 6) x_int))
    (s_cons (s_for (is := [4]) (passes_of rfl) (i_seq (x_tup (xa_cons (x_name 3) (xa_cons (x_op op_add4 o_add (x_name 3) x_int) (xa_cons (x_op op_sub o_sub (x_name 5) (x_name 3)) (xa_cons (x_op op_add4 o_add (x_name 5) (x_name 3)) (xa_cons (x_op op_sub o_sub (x_name 5) x_int) (xa_cons (x_name 5) (xa_cons x_int (xa_cons x_int (xa_cons (x_un un_neg o_neg x_int) (xa_cons x_non (xa_cons x_bl (xa_cons x_str (xa_cons (x_tup (xa_cons (x_name 3) xa_nil)) (xa_cons (x_op op_add4 o_add x_int (x_f (f__law_roll.mono (by decide)) hr tk (xa_cons (x_name 0) (xa_cons (x_op op_pow o_pow x_int x_int) xa_nil)))) xa_nil)))))))))))))))) (g_name 4 S__law_right.nd) (s_cons (s_set 7 S__law_right.nd (x_and (x_cmp (op_eqD hr.units) o_eq (x_f (f__law_sort.mono (by decide)) hr tk (xa_cons (x_name 4) xa_nil)) x_int (nomark _)) (x_and (x_chain op_le op_lt o_le o_lt x_int (x_name 4) (x_name 5)) (x_one (x_f (f__law_is_false.mono (by decide)) hr tk (xa_cons (x_name 4) (xa_cons (x_name 5) xa_nil)))))))
    (s_one (s_if (x_notT (x_test (x_f (f__law_like.mono (by decide)) hr tk (xa_cons (x_f (f_is_false_paper.mono (by decide)) hr tk (xa_cons (x_name 1) (xa_cons (x_name 2) (xa_cons (x_name 4) xa_nil)))) (xa_cons (x_name 7) xa_nil))))) (s_one (s_ret x_bl)) s_nil))))
    (s_one (s_ret x_bl)))))))), hm, Fn.kp, Fn.binds (ps := ["cup", "front", "power"]) fun _ _ _ _ _ _ us hl => match us, hl with | [_, _, _], _ => rfl⟩, mFun_len, mFun_nb⟩
/-! _law_fronts_right -/
abbrev s__law_fronts_right : Stmt := topS 43
abbrev N__law_fronts_right : List Str := ["power", "most", "due", "front"]
noncomputable def m__law_fronts_right : MS :=
    (mSeq (mSet 2 (mComp [3] (iRange (aCons (mC (.int 1)) (aCons (mOp2 dAdd (mV 1) (mC (.int 1))) aNil))) (gN 3) (some (mAnd (mCall F__law_is_shape (aCons (mV 3) (aCons (mV 0) aNil))) (mCall F__law_is_prime (aCons (mCall F__law_above (aCons (mV 3) (aCons (mV 0) aNil))) aNil)))) (mV 3)))
    (mRet (mCall F__law_like (aCons (mCall F_prime_fronts (aCons (mV 0) (aCons (mV 1) aNil))) (aCons (mB bTuple (lCons (mV 2) aNil)) aNil)))))
noncomputable def F__law_fronts_right : Fn := mFun 2 4 m__law_fronts_right
theorem ff__law_fronts_right : FF F__law_fronts_right := ff_Fun (fs_Seq (fs_Set (fe_Comp (fi_Range (fa_Cons (fe_C) (fa_Cons (fe_Op2 (fe_V) (fe_C)) fa_Nil))) (fo_some (fe_And (fe_Call ff__law_is_shape (fa_Cons (fe_V) (fa_Cons (fe_V) fa_Nil))) (fe_Call ff__law_is_prime (fa_Cons (fe_Call ff__law_above (fa_Cons (fe_V) (fa_Cons (fe_V) fa_Nil))) fa_Nil)))) (fe_V))) (fs_Ret (fe_Call ff__law_like (fa_Cons (fe_Call ff_prime_fronts (fa_Cons (fe_V) (fa_Cons (fe_V) fa_Nil))) (fa_Cons (fe_B (fa_lCons (fe_V) fa_Nil)) fa_Nil)))))
theorem S__law_fronts_right : FnScope N__law_fronts_right ["power", "most"] (defScope s__law_fronts_right) := ⟨rfl, rfl, rfl, by decide +kernel, rfl, by decide +kernel, by decide +kernel⟩
theorem ok__law_fronts_right (T : Tx K mg) {f : Addr} {fd : FuncData} (Fn : Fun K "_law_fronts_right" "_law_fronts_right" s__law_fronts_right f fd) (hm : mg "_law_fronts_right" = some (.ref f)) (f_prime_fronts : Fx P w K mg base "prime_fronts" 4 ["power", "most"] 2 F_prime_fronts) (f__law_like : Fx P w K mg base "_law_like" 7 ["one", "other"] 2 F__law_like) (f__law_is_prime : Fx P w K mg base "_law_is_prime" 1 ["number"] 1 F__law_is_prime) (f__law_above : Fx P w K mg base "_law_above" 1 ["front", "power"] 2 F__law_above) (f__law_is_shape : Fx P w K mg base "_law_is_shape" 2 ["front", "power"] 2 F__law_is_shape) : Fx P w K mg base "_law_fronts_right" 8 ["power", "most"] 2 F__law_fronts_right :=
  ⟨⟨f, fd, fn_mk Fn S__law_fronts_right rfl rfl fun cdv A outer s H E hr => (by
    have tk := takes_of (X := cxOf (L2.CX P w) P w K mg base N__law_fronts_right "_law_fronts_right" (defScope s__law_fronts_right) f cdv A outer s H E) (E := E) rfl rfl rfl rfl
    exact (s_cons (s_setLc 2 S__law_fronts_right.nd (sw_true rfl rfl rfl (by decide +kernel)) (i_range2 (by rfl) T.b_range x_int (x_op op_add4 o_add (x_name 1) x_int)) (own := [("front", 3)]) (blkOk_by (sc := defScope s__law_fronts_right) (N := N__law_fronts_right) (own := [("front", 3)]) (by decide +kernel)) (is := [3]) (by decide) (fun _ _ _ _ _ => (g_name 3 S__law_fronts_right.nd)) (fun _ _ _ _ _ => (xt_one (PW.pt (x_andT (x_test (x_f (f__law_is_shape.mono (by decide)) hr takes0 (xa_cons (x_name 3) (xa_cons (x_name 0) xa_nil)))) (x_and1 (x_test (x_f (f__law_is_prime.mono (by decide)) hr takes0 (xa_cons (x_f (f__law_above.mono (by decide)) hr takes0 (xa_cons (x_name 3) (xa_cons (x_name 0) xa_nil))) xa_nil)))))))) (fun _ _ _ _ _ => (x_name 3)))
    (s_one (s_ret (x_f (f__law_like.mono (by decide)) hr tk (xa_cons (x_f (f_prime_fronts.mono (by decide)) hr tk (xa_cons (x_name 0) (xa_cons (x_name 1) xa_nil))) (xa_cons (x_BT call_tuple_of k_tuple (by rfl) T.b_tuple (by rfl) (xl_cons (x_name 2) xl_nil)) xa_nil))))))), hm, Fn.kp, Fn.binds (ps := ["power", "most"]) fun _ _ _ _ _ _ us hl => match us, hl with | [_, _], _ => rfl⟩, mFun_len, mFun_nb⟩
/-! law -/
abbrev s_law : Stmt := topS 44
abbrev N_law : List Str := ["script", "cup", "told", "most", "great", "every", "power", "less", "front", "base"]
noncomputable def m_law : MS :=
    (mSeq (mSet 1 (mCall F__law_cup (aCons (mV 0) aNil)))
    (mSeq (mSet 2 (mLst (aCons (mCall F_false_paper (aCons (mC (.int 3)) (aCons (mC (.int 2)) aNil))) (aCons (mCall F_is_false_paper (aCons (mC (.int 1)) (aCons (mC (.int 3)) (aCons (mC (.int 2)) aNil)))) (aCons (mCall F_prime_fronts (aCons (mC (.int 2)) (aCons (mC (.int 9)) aNil))) (aCons (mCall F_prime_fronts (aCons (mC (.int 4)) (aCons (mC (.int 15)) aNil))) (aCons (mCall F_prime_fronts (aCons (mC (.int 1)) (aCons (mC (.int 400)) aNil))) (aCons (mCall F_is_false_paper (aCons (mC (.int 3)) (aCons (mC (.int 2)) (aCons (mC (.int 2)) aNil)))) aNil))))))))
    (mSeq (mSeq (mFrz 2) (mIfS (mNot (mCall F__law_like (aCons (mV 2) (aCons (mLst (aCons (mC .non) (aCons (mC (.bl true)) (aCons (mTup (aCons (mC (.int 1)) (aCons (mC (.int 3)) aNil))) (aCons (mTup (aCons (mC (.int 1)) (aCons (mC (.int 7)) (aCons (mC (.int 15)) aNil)))) (aCons (mTup (aCons (mC (.int 1)) aNil)) (aCons (mC (.bl false)) aNil))))))) aNil)))) (mRet (mC (.bl false))) mSkip))
    (mSeq (mFor (iSeq (mTup (aCons (mC (.int 1)) (aCons (mC (.int 3)) (aCons (mC (.int 6)) (aCons (mC (.int 12)) (aCons (mC (.int 40)) (aCons (mC (.int 110)) aNil)))))))) (gN 3) (mSeq (mSeq (mFrz 1) (mAsg (gT [(gN 8), (gN 6)]) (mCall F__law_shape (aCons (mV 1) (aCons (mV 3) aNil)))))
    (mSeq (mFrz 1) (mIfS (mNot (mCall F__law_right (aCons (mV 1) (aCons (mV 8) (aCons (mV 6) aNil))))) (mRet (mC (.bl false))) mSkip))))
    (mSeq (mSeq (mFrz 1) (mAsg (gT [(gN 8), (gN 6)]) (mCall F__law_shape (aCons (mV 1) (aCons (mC (.int 6)) aNil)))))
    (mSeq (mSet 4 (mCall F__law_above (aCons (mV 8) (aCons (mV 6) aNil))))
    (mSeq (mSet 5 (mComp [9] (iRange (aCons (mC (.int 2)) (aCons (mV 4) aNil))) (gN 9) (some (mCall F_is_false_paper (aCons (mV 8) (aCons (mV 6) (aCons (mV 9) aNil))))) (mV 9)))
    (mSeq (mIfS (mOr (mOp2 dNe (mOp2 dEq (mV 5) (mLst aNil)) (mCall F__law_is_prime (aCons (mV 4) aNil))) (mAnd (mOp2 dNe (mV 5) (mLst aNil)) (mOp2 dLt (mOp2 dMul (mC (.int 2)) (mB bLen (lCons (mV 5) aNil))) (mOp2 dSub (mV 4) (mC (.int 3)))))) (mRet (mC (.bl false))) mSkip)
    (mSeq (mSeq (mFrz 1) (mSet 6 (mOp2 dAdd (mC (.int 1)) (mCall F__law_roll (aCons (mV 1) (aCons (mC (.int 9)) aNil))))))
    (mSeq (mSeq (mFrz 1) (mIfS (mNot (mCall F__law_fronts_right (aCons (mV 6) (aCons (mOp2 dAdd (mC (.int 1)) (mCall F__law_roll (aCons (mV 1) (aCons (mC (.int 400)) aNil)))) aNil)))) (mRet (mC (.bl false))) mSkip))
    (mSeq (mSeq (mFrz 1) (mPar [6, 3] (kCons (mOp2 dAdd (mC (.int 20)) (mCall F__law_roll (aCons (mV 1) (aCons (mC (.int 100)) aNil)))) (kCons (mOp2 dAdd (mC (.int 1)) (mCall F__law_roll (aCons (mV 1) (aCons (mC (.int 60)) aNil)))) kNil))))
    (mSeq (mSet 7 (mCall F_prime_fronts (aCons (mV 6) (aCons (mV 3) aNil))))
    (mRet (mOp2 dEq (mV 7) (mB bTuple (lCons (mComp [8] (iSeq (mCall F_prime_fronts (aCons (mV 6) (aCons (mOp2 dAdd (mV 3) (mC (.int 6))) aNil)))) (gN 8) (some (mOp2 dLe (mV 8) (mV 3))) (mV 8)) aNil))))))))))))))))
noncomputable def F_law : Fn := mFun 1 10 m_law
noncomputable def m_law_0 : MS :=
    (mSet 1 (mCall F__law_cup (aCons (mV 0) aNil)))
-- no frame: F__law_cup
-- slot 0 is touched: slot 0
noncomputable def m_law_1 : MS :=
    (mSeq (mSet 2 (mLst (aCons (mCall F_false_paper (aCons (mC (.int 3)) (aCons (mC (.int 2)) aNil))) (aCons (mCall F_is_false_paper (aCons (mC (.int 1)) (aCons (mC (.int 3)) (aCons (mC (.int 2)) aNil)))) (aCons (mCall F_prime_fronts (aCons (mC (.int 2)) (aCons (mC (.int 9)) aNil))) (aCons (mCall F_prime_fronts (aCons (mC (.int 4)) (aCons (mC (.int 15)) aNil))) (aCons (mCall F_prime_fronts (aCons (mC (.int 1)) (aCons (mC (.int 400)) aNil))) (aCons (mCall F_is_false_paper (aCons (mC (.int 3)) (aCons (mC (.int 2)) (aCons (mC (.int 2)) aNil)))) aNil))))))))
    (mSeq (mFrz 2) (mIfS (mNot (mCall F__law_like (aCons (mV 2) (aCons (mLst (aCons (mC .non) (aCons (mC (.bl true)) (aCons (mTup (aCons (mC (.int 1)) (aCons (mC (.int 3)) aNil))) (aCons (mTup (aCons (mC (.int 1)) (aCons (mC (.int 7)) (aCons (mC (.int 15)) aNil)))) (aCons (mTup (aCons (mC (.int 1)) aNil)) (aCons (mC (.bl false)) aNil))))))) aNil)))) (mRet (mC (.bl false))) mSkip)))
theorem fs_law_1 : FS m_law_1 := (fs_Seq (fs_Set (fe_Lst (fa_Cons (fe_Call ff_false_paper (fa_Cons (fe_C) (fa_Cons (fe_C) fa_Nil))) (fa_Cons (fe_Call ff_is_false_paper (fa_Cons (fe_C) (fa_Cons (fe_C) (fa_Cons (fe_C) fa_Nil)))) (fa_Cons (fe_Call ff_prime_fronts (fa_Cons (fe_C) (fa_Cons (fe_C) fa_Nil))) (fa_Cons (fe_Call ff_prime_fronts (fa_Cons (fe_C) (fa_Cons (fe_C) fa_Nil))) (fa_Cons (fe_Call ff_prime_fronts (fa_Cons (fe_C) (fa_Cons (fe_C) fa_Nil))) (fa_Cons (fe_Call ff_is_false_paper (fa_Cons (fe_C) (fa_Cons (fe_C) (fa_Cons (fe_C) fa_Nil)))) fa_Nil)))))))) (fs_Seq (fs_Frz) (fs_IfS (fe_Not (fe_Call ff__law_like (fa_Cons (fe_V) (fa_Cons (fe_Lst (fa_Cons (fe_C) (fa_Cons (fe_C) (fa_Cons (fe_Tup (fa_Cons (fe_C) (fa_Cons (fe_C) fa_Nil))) (fa_Cons (fe_Tup (fa_Cons (fe_C) (fa_Cons (fe_C) (fa_Cons (fe_C) fa_Nil)))) (fa_Cons (fe_Tup (fa_Cons (fe_C) fa_Nil)) (fa_Cons (fe_C) fa_Nil))))))) fa_Nil)))) (fs_Ret (fe_C)) fs_Skip)))
theorem zs_law_1 : ZS m_law_1 := (zs_Seq (zs_Set (ze_Lst (za_Cons (ze_Call (za_Cons (ze_C) (za_Cons (ze_C) za_Nil))) (za_Cons (ze_Call (za_Cons (ze_C) (za_Cons (ze_C) (za_Cons (ze_C) za_Nil)))) (za_Cons (ze_Call (za_Cons (ze_C) (za_Cons (ze_C) za_Nil))) (za_Cons (ze_Call (za_Cons (ze_C) (za_Cons (ze_C) za_Nil))) (za_Cons (ze_Call (za_Cons (ze_C) (za_Cons (ze_C) za_Nil))) (za_Cons (ze_Call (za_Cons (ze_C) (za_Cons (ze_C) (za_Cons (ze_C) za_Nil)))) za_Nil)))))))) (zs_Seq (zs_Frz) (zs_IfS (ze_Not (ze_Call (za_Cons (ze_V) (za_Cons (ze_Lst (za_Cons (ze_C) (za_Cons (ze_C) (za_Cons (ze_Tup (za_Cons (ze_C) (za_Cons (ze_C) za_Nil))) (za_Cons (ze_Tup (za_Cons (ze_C) (za_Cons (ze_C) (za_Cons (ze_C) za_Nil)))) (za_Cons (ze_Tup (za_Cons (ze_C) za_Nil)) (za_Cons (ze_C) za_Nil))))))) za_Nil)))) (zs_Ret (ze_C)) zs_Skip)))
noncomputable def m_law_2 : MS :=
    (mFor (iSeq (mTup (aCons (mC (.int 1)) (aCons (mC (.int 3)) (aCons (mC (.int 6)) (aCons (mC (.int 12)) (aCons (mC (.int 40)) (aCons (mC (.int 110)) aNil)))))))) (gN 3) (mSeq (mSeq (mFrz 1) (mAsg (gT [(gN 8), (gN 6)]) (mCall F__law_shape (aCons (mV 1) (aCons (mV 3) aNil)))))
    (mSeq (mFrz 1) (mIfS (mNot (mCall F__law_right (aCons (mV 1) (aCons (mV 8) (aCons (mV 6) aNil))))) (mRet (mC (.bl false))) mSkip))))
theorem fs_law_2 : FS m_law_2 := (fs_For (fi_Seq (fe_Tup (fa_Cons (fe_C) (fa_Cons (fe_C) (fa_Cons (fe_C) (fa_Cons (fe_C) (fa_Cons (fe_C) (fa_Cons (fe_C) fa_Nil)))))))) (fs_Seq (fs_Seq (fs_Frz) (fs_Asg (fe_Call ff__law_shape (fa_Cons (fe_V) (fa_Cons (fe_V) fa_Nil))))) (fs_Seq (fs_Frz) (fs_IfS (fe_Not (fe_Call ff__law_right (fa_Cons (fe_V) (fa_Cons (fe_V) (fa_Cons (fe_V) fa_Nil))))) (fs_Ret (fe_C)) fs_Skip))))
theorem zs_law_2 : ZS m_law_2 := (zs_For (zi_Seq (ze_Tup (za_Cons (ze_C) (za_Cons (ze_C) (za_Cons (ze_C) (za_Cons (ze_C) (za_Cons (ze_C) (za_Cons (ze_C) za_Nil)))))))) zg_N (zs_Seq (zs_Seq (zs_Frz) (zs_Asg (zg_T (zl_cons zg_N (zl_cons zg_N zl_nil))) (ze_Call (za_Cons (ze_V) (za_Cons (ze_V) za_Nil))))) (zs_Seq (zs_Frz) (zs_IfS (ze_Not (ze_Call (za_Cons (ze_V) (za_Cons (ze_V) (za_Cons (ze_V) za_Nil))))) (zs_Ret (ze_C)) zs_Skip))))
noncomputable def m_law_3 : MS :=
    (mSeq (mFrz 1) (mAsg (gT [(gN 8), (gN 6)]) (mCall F__law_shape (aCons (mV 1) (aCons (mC (.int 6)) aNil)))))
theorem fs_law_3 : FS m_law_3 := (fs_Seq (fs_Frz) (fs_Asg (fe_Call ff__law_shape (fa_Cons (fe_V) (fa_Cons (fe_C) fa_Nil)))))
theorem zs_law_3 : ZS m_law_3 := (zs_Seq (zs_Frz) (zs_Asg (zg_T (zl_cons zg_N (zl_cons zg_N zl_nil))) (ze_Call (za_Cons (ze_V) (za_Cons (ze_C) za_Nil)))))
noncomputable def m_law_4 : MS :=
    (mSet 4 (mCall F__law_above (aCons (mV 8) (aCons (mV 6) aNil))))
theorem fs_law_4 : FS m_law_4 := (fs_Set (fe_Call ff__law_above (fa_Cons (fe_V) (fa_Cons (fe_V) fa_Nil))))
theorem zs_law_4 : ZS m_law_4 := (zs_Set (ze_Call (za_Cons (ze_V) (za_Cons (ze_V) za_Nil))))
noncomputable def m_law_5 : MS :=
    (mSet 5 (mComp [9] (iRange (aCons (mC (.int 2)) (aCons (mV 4) aNil))) (gN 9) (some (mCall F_is_false_paper (aCons (mV 8) (aCons (mV 6) (aCons (mV 9) aNil))))) (mV 9)))
theorem fs_law_5 : FS m_law_5 := (fs_Set (fe_Comp (fi_Range (fa_Cons (fe_C) (fa_Cons (fe_V) fa_Nil))) (fo_some (fe_Call ff_is_false_paper (fa_Cons (fe_V) (fa_Cons (fe_V) (fa_Cons (fe_V) fa_Nil))))) (fe_V)))
theorem zs_law_5 : ZS m_law_5 := (zs_Set (ze_Comp (zi_Range (za_Cons (ze_C) (za_Cons (ze_V) za_Nil))) zg_N (zo_some (ze_Call (za_Cons (ze_V) (za_Cons (ze_V) (za_Cons (ze_V) za_Nil))))) (ze_V)))
noncomputable def m_law_6 : MS :=
    (mIfS (mOr (mOp2 dNe (mOp2 dEq (mV 5) (mLst aNil)) (mCall F__law_is_prime (aCons (mV 4) aNil))) (mAnd (mOp2 dNe (mV 5) (mLst aNil)) (mOp2 dLt (mOp2 dMul (mC (.int 2)) (mB bLen (lCons (mV 5) aNil))) (mOp2 dSub (mV 4) (mC (.int 3)))))) (mRet (mC (.bl false))) mSkip)
theorem fs_law_6 : FS m_law_6 := (fs_IfS (fe_Or (fe_Op2 (fe_Op2 (fe_V) (fe_Lst fa_Nil)) (fe_Call ff__law_is_prime (fa_Cons (fe_V) fa_Nil))) (fe_And (fe_Op2 (fe_V) (fe_Lst fa_Nil)) (fe_Op2 (fe_Op2 (fe_C) (fe_B (fa_lCons (fe_V) fa_Nil))) (fe_Op2 (fe_V) (fe_C))))) (fs_Ret (fe_C)) fs_Skip)
theorem zs_law_6 : ZS m_law_6 := (zs_IfS (ze_Or (ze_Op2 (ze_Op2 (ze_V) (ze_Lst za_Nil)) (ze_Call (za_Cons (ze_V) za_Nil))) (ze_And (ze_Op2 (ze_V) (ze_Lst za_Nil)) (ze_Op2 (ze_Op2 (ze_C) (ze_B (za_lCons (ze_V) za_Nil))) (ze_Op2 (ze_V) (ze_C))))) (zs_Ret (ze_C)) zs_Skip)
noncomputable def m_law_7 : MS :=
    (mSeq (mFrz 1) (mSet 6 (mOp2 dAdd (mC (.int 1)) (mCall F__law_roll (aCons (mV 1) (aCons (mC (.int 9)) aNil))))))
theorem fs_law_7 : FS m_law_7 := (fs_Seq (fs_Frz) (fs_Set (fe_Op2 (fe_C) (fe_Call ff__law_roll (fa_Cons (fe_V) (fa_Cons (fe_C) fa_Nil))))))
theorem zs_law_7 : ZS m_law_7 := (zs_Seq (zs_Frz) (zs_Set (ze_Op2 (ze_C) (ze_Call (za_Cons (ze_V) (za_Cons (ze_C) za_Nil))))))
noncomputable def m_law_8 : MS :=
    (mSeq (mFrz 1) (mIfS (mNot (mCall F__law_fronts_right (aCons (mV 6) (aCons (mOp2 dAdd (mC (.int 1)) (mCall F__law_roll (aCons (mV 1) (aCons (mC (.int 400)) aNil)))) aNil)))) (mRet (mC (.bl false))) mSkip))
theorem fs_law_8 : FS m_law_8 := (fs_Seq (fs_Frz) (fs_IfS (fe_Not (fe_Call ff__law_fronts_right (fa_Cons (fe_V) (fa_Cons (fe_Op2 (fe_C) (fe_Call ff__law_roll (fa_Cons (fe_V) (fa_Cons (fe_C) fa_Nil)))) fa_Nil)))) (fs_Ret (fe_C)) fs_Skip))
theorem zs_law_8 : ZS m_law_8 := (zs_Seq (zs_Frz) (zs_IfS (ze_Not (ze_Call (za_Cons (ze_V) (za_Cons (ze_Op2 (ze_C) (ze_Call (za_Cons (ze_V) (za_Cons (ze_C) za_Nil)))) za_Nil)))) (zs_Ret (ze_C)) zs_Skip))
noncomputable def m_law_9 : MS :=
    (mSeq (mFrz 1) (mPar [6, 3] (kCons (mOp2 dAdd (mC (.int 20)) (mCall F__law_roll (aCons (mV 1) (aCons (mC (.int 100)) aNil)))) (kCons (mOp2 dAdd (mC (.int 1)) (mCall F__law_roll (aCons (mV 1) (aCons (mC (.int 60)) aNil)))) kNil))))
theorem fs_law_9 : FS m_law_9 := (fs_Seq (fs_Frz) (fs_Par (fk_Cons (fe_Op2 (fe_C) (fe_Call ff__law_roll (fa_Cons (fe_V) (fa_Cons (fe_C) fa_Nil)))) (fk_Cons (fe_Op2 (fe_C) (fe_Call ff__law_roll (fa_Cons (fe_V) (fa_Cons (fe_C) fa_Nil)))) fk_Nil))))
theorem zs_law_9 : ZS m_law_9 := (zs_Seq (zs_Frz) (zs_Par (zk_Cons (ze_Op2 (ze_C) (ze_Call (za_Cons (ze_V) (za_Cons (ze_C) za_Nil)))) (zk_Cons (ze_Op2 (ze_C) (ze_Call (za_Cons (ze_V) (za_Cons (ze_C) za_Nil)))) zk_Nil))))
noncomputable def m_law_10 : MS :=
    (mSet 7 (mCall F_prime_fronts (aCons (mV 6) (aCons (mV 3) aNil))))
theorem fs_law_10 : FS m_law_10 := (fs_Set (fe_Call ff_prime_fronts (fa_Cons (fe_V) (fa_Cons (fe_V) fa_Nil))))
theorem zs_law_10 : ZS m_law_10 := (zs_Set (ze_Call (za_Cons (ze_V) (za_Cons (ze_V) za_Nil))))
noncomputable def m_law_11 : MS :=
    (mRet (mOp2 dEq (mV 7) (mB bTuple (lCons (mComp [8] (iSeq (mCall F_prime_fronts (aCons (mV 6) (aCons (mOp2 dAdd (mV 3) (mC (.int 6))) aNil)))) (gN 8) (some (mOp2 dLe (mV 8) (mV 3))) (mV 8)) aNil))))
theorem fs_law_11 : FS m_law_11 := (fs_Ret (fe_Op2 (fe_V) (fe_B (fa_lCons (fe_Comp (fi_Seq (fe_Call ff_prime_fronts (fa_Cons (fe_V) (fa_Cons (fe_Op2 (fe_V) (fe_C)) fa_Nil)))) (fo_some (fe_Op2 (fe_V) (fe_V))) (fe_V)) fa_Nil))))
theorem zs_law_11 : ZS m_law_11 := (zs_Ret (ze_Op2 (ze_V) (ze_B (za_lCons (ze_Comp (zi_Seq (ze_Call (za_Cons (ze_V) (za_Cons (ze_Op2 (ze_V) (ze_C)) za_Nil)))) zg_N (zo_some (ze_Op2 (ze_V) (ze_V))) (ze_V)) za_Nil))))
theorem m_law_eq : m_law = mSeq m_law_0 (mSeq m_law_1 (mSeq m_law_2 (mSeq m_law_3 (mSeq m_law_4 (mSeq m_law_5 (mSeq m_law_6 (mSeq m_law_7 (mSeq m_law_8 (mSeq m_law_9 (mSeq m_law_10 (m_law_11))))))))))) := by
  simp only [m_law, m_law_0, m_law_1, m_law_2, m_law_3, m_law_4, m_law_5, m_law_6, m_law_7, m_law_8, m_law_9, m_law_10, m_law_11, seq_assoc]
-- no frame: F__law_cup
theorem S_law : FnScope N_law ["script"] (defScope s_law) := ⟨rfl, rfl, rfl, by decide +kernel, rfl, by decide +kernel, by decide +kernel⟩
theorem ok_law (T : Tx K mg) {f : Addr} {fd : FuncData} (Fn : Fun K "law" "law" s_law f fd) (f_false_paper : Fx P w K mg base "false_paper" 5 ["front", "power"] 2 F_false_paper) (f_is_false_paper : Fx P w K mg base "is_false_paper" 5 ["front", "power", "value"] 3 F_is_false_paper) (f_prime_fronts : Fx P w K mg base "prime_fronts" 4 ["power", "most"] 2 F_prime_fronts) (f__law_cup : Fx P w K mg base "_law_cup" 1 ["script"] 1 F__law_cup) (f__law_roll : Fx P w K mg base "_law_roll" 1 ["cup", "many"] 2 F__law_roll) (f__law_like : Fx P w K mg base "_law_like" 7 ["one", "other"] 2 F__law_like) (f__law_is_prime : Fx P w K mg base "_law_is_prime" 1 ["number"] 1 F__law_is_prime) (f__law_above : Fx P w K mg base "_law_above" 1 ["front", "power"] 2 F__law_above) (f__law_shape : Fx P w K mg base "_law_shape" 2 ["cup", "most"] 2 F__law_shape) (f__law_right : Fx P w K mg base "_law_right" 8 ["cup", "front", "power"] 3 F__law_right) (f__law_fronts_right : Fx P w K mg base "_law_fronts_right" 8 ["power", "most"] 2 F__law_fronts_right) : FnOk P w K mg base (L2.CX P w) 9 f fd ["script"] (spF ⟨K, mg⟩ 1 F_law) :=
  fn_mk Fn S_law rfl rfl fun cdv A outer s H E hr => (by
    have tk := takes_of (X := cxOf (L2.CX P w) P w K mg base N_law "law" (defScope s_law) f cdv A outer s H E) (E := E) rfl rfl rfl rfl
    exact (s_cons (s_set 1 S_law.nd (x_f (f__law_cup.mono (by decide)) hr tk (xa_cons (x_name 0) xa_nil)))
    (s_cons (s_set 2 S_law.nd (x_lst (xa_cons (x_f (f_false_paper.mono (by decide)) hr tk (xa_cons x_int (xa_cons x_int xa_nil))) (xa_cons (x_f (f_is_false_paper.mono (by decide)) hr tk (xa_cons x_int (xa_cons x_int (xa_cons x_int xa_nil)))) (xa_cons (x_f (f_prime_fronts.mono (by decide)) hr tk (xa_cons x_int (xa_cons x_int xa_nil))) (xa_cons (x_f (f_prime_fronts.mono (by decide)) hr tk (xa_cons x_int (xa_cons x_int xa_nil))) (xa_cons (x_f (f_prime_fronts.mono (by decide)) hr tk (xa_cons x_int (xa_cons x_int xa_nil))) (xa_cons (x_f (f_is_false_paper.mono (by decide)) hr tk (xa_cons x_int (xa_cons x_int (xa_cons x_int xa_nil)))) xa_nil))))))))
    (s_cons (s_frz 2 (s_if (x_notT (x_test (x_f (f__law_like.mono (by decide)) hr tk (xa_cons (x_name 2) (xa_cons (x_lst (xa_cons x_non (xa_cons x_bl (xa_cons (x_tup (xa_cons x_int (xa_cons x_int xa_nil))) (xa_cons (x_tup (xa_cons x_int (xa_cons x_int (xa_cons x_int xa_nil)))) (xa_cons (x_tup (xa_cons x_int xa_nil)) (xa_cons x_bl xa_nil))))))) xa_nil))))) (s_one (s_ret x_bl)) s_nil))
    (s_cons (s_for (is := [3]) (passes_of rfl) (i_seq (x_tup (xa_cons x_int (xa_cons x_int (xa_cons x_int (xa_cons x_int (xa_cons x_int (xa_cons x_int xa_nil)))))))) (g_name 3 S_law.nd) (s_cons (s_frz 1 (s_asg (is := [8, 6]) (x_f (f__law_shape.mono (by decide)) hr tk (xa_cons (x_name 1) (xa_cons (x_name 3) xa_nil))) (g_tup rfl (gs_cons (g_name 8 S_law.nd) (gs_cons (g_name 6 S_law.nd) gs_nil)))))
    (s_one (s_frz 1 (s_if (x_notT (x_test (x_f (f__law_right.mono (by decide)) hr tk (xa_cons (x_name 1) (xa_cons (x_name 8) (xa_cons (x_name 6) xa_nil)))))) (s_one (s_ret x_bl)) s_nil)))))
    (s_cons (s_frz 1 (s_asg (is := [8, 6]) (x_f (f__law_shape.mono (by decide)) hr tk (xa_cons (x_name 1) (xa_cons x_int xa_nil))) (g_tup rfl (gs_cons (g_name 8 S_law.nd) (gs_cons (g_name 6 S_law.nd) gs_nil)))))
    (s_cons (s_set 4 S_law.nd (x_f (f__law_above.mono (by decide)) hr tk (xa_cons (x_name 8) (xa_cons (x_name 6) xa_nil))))
    (s_cons (s_setLc 5 S_law.nd (sw_true rfl rfl rfl (by decide +kernel)) (i_range2 (by rfl) T.b_range x_int (x_name 4)) (own := [("base", 9)]) (blkOk_by (sc := defScope s_law) (N := N_law) (own := [("base", 9)]) (by decide +kernel)) (is := [9]) (by decide) (fun _ _ _ _ _ => (g_name 9 S_law.nd)) (fun _ _ _ _ _ => (xt_one (x_test (x_f (f_is_false_paper.mono (by decide)) hr takes0 (xa_cons (x_name 8) (xa_cons (x_name 6) (xa_cons (x_name 9) xa_nil))))))) (fun _ _ _ _ _ => (x_name 9)))
    (s_cons (s_if (PW.pt (x_orT (x_cmpT (op_neD hr.units) o_ne b_ne (x_cmp (op_eqD hr.units) o_eq (x_name 5) (x_lst xa_nil) (nomark _)) (x_f (f__law_is_prime.mono (by decide)) hr tk (xa_cons (x_name 4) xa_nil)) (nomark _)) (x_or1 (PW.pt (x_andT (x_cmpT (op_neD hr.units) o_ne b_ne (x_name 5) (x_lst xa_nil) (nomark _)) (x_and1 (x_cmpT op_lt o_lt b_lt (x_op op_mul3 o_mul x_int (x_B call_len k_len (by rfl) T.b_len (by rfl) (xl_cons (x_name 5) xl_nil))) (x_op op_sub o_sub (x_name 4) x_int) (nomark _)))))))) (s_one (s_ret x_bl)) s_nil)
    (s_cons (s_frz 1 (s_set 6 S_law.nd (x_op op_add4 o_add x_int (x_f (f__law_roll.mono (by decide)) hr tk (xa_cons (x_name 1) (xa_cons x_int xa_nil))))))
    (s_cons (s_frz 1 (s_if (x_notT (x_test (x_f (f__law_fronts_right.mono (by decide)) hr tk (xa_cons (x_name 6) (xa_cons (x_op op_add4 o_add x_int (x_f (f__law_roll.mono (by decide)) hr tk (xa_cons (x_name 1) (xa_cons x_int xa_nil)))) xa_nil))))) (s_one (s_ret x_bl)) s_nil))
    (s_cons (s_frz 1 (s_parN [6, 3] (gn_cons 6 S_law.nd (gn_cons 3 S_law.nd gn_nil)) (xk_cons (x_op op_add4 o_add x_int (x_f (f__law_roll.mono (by decide)) hr tk (xa_cons (x_name 1) (xa_cons x_int xa_nil)))) (xk_cons (x_op op_add4 o_add x_int (x_f (f__law_roll.mono (by decide)) hr tk (xa_cons (x_name 1) (xa_cons x_int xa_nil)))) xk_nil))))
    (s_cons (s_set 7 S_law.nd (x_f (f_prime_fronts.mono (by decide)) hr tk (xa_cons (x_name 6) (xa_cons (x_name 3) xa_nil))))
    (s_one (s_ret (x_cmp (op_eqD hr.units) o_eq (x_name 7) (x_BT call_tuple_of k_tuple (by rfl) T.b_tuple (by rfl) (xl_cons (x_comp S_law.nd (i_seq (x_f (f_prime_fronts.mono (by decide)) hr tk (xa_cons (x_name 6) (xa_cons (x_op op_add4 o_add (x_name 3) x_int) xa_nil)))) (own := [("front", 8)]) (blkOk_by (sc := defScope s_law) (N := N_law) (own := [("front", 8)]) (by decide +kernel)) (is := [8]) (by decide) (fun _ _ _ _ _ => (g_name 8 S_law.nd)) (fun _ _ _ _ _ => (xt_one (x_cmpT op_le o_le b_le (x_name 8) (x_name 3) (nomark _)))) (fun _ _ _ _ _ => (x_name 8))) xl_nil)) (nomark _)))))))))))))))))
end
end Lw

set_option maxRecDepth 100000
/-! primes and roots, in plain Lean -/
namespace Nt
def Prime (n : Nat) : Prop := 2 ≤ n ∧ ∀ d, d ∣ n → d = 1 ∨ d = n
theorem Prime.pos {n : Nat} (h : Prime n) : 0 < n := by have := h.1; omega
theorem Prime.dvd_mul {p a b : Nat} (h : Prime p) (hd : p ∣ a * b) : p ∣ a ∨ p ∣ b := by
  by_cases ha : p ∣ a
  · exact .inl ha
  · right
    have hg : Nat.gcd p a = 1 := by
      rcases h.2 _ (Nat.gcd_dvd_left p a) with e | e
      · exact e
      · exfalso; exact ha (by have := Nat.gcd_dvd_right p a; rw [e] at this; exact this)
    exact (Nat.Coprime.dvd_of_dvd_mul_left (show Nat.Coprime p a from hg) hd)
theorem Prime.dvd_mulI {p : Nat} {a b : Int} (h : Prime p) (hd : (p : Int) ∣ a * b) : (p : Int) ∣ a ∨ (p : Int) ∣ b := by
  have : p ∣ a.natAbs * b.natAbs := by
    rw [← Int.natAbs_mul]
    exact Int.ofNat_dvd_left.mp hd
  rcases h.dvd_mul this with q | q
  · exact .inl (Int.ofNat_dvd_left.mpr q)
  · exact .inr (Int.ofNat_dvd_left.mpr q)
/-- polynomials by their coefficients, the constant first -/
def ev (x : Int) : List Int → Int
  | [] => 0
  | c :: cs => c + x * ev x cs
def sd (a : Int) : List Int → List Int
  | [] => []
  | [_] => []
  | _ :: c :: cs => ev a (c :: cs) :: sd a (c :: cs)
theorem sd_len (a : Int) : ∀ cs : List Int, (sd a cs).length = cs.length - 1
  | [] => rfl
  | [_] => rfl
  | _ :: c :: cs => by rw [sd, List.length_cons, sd_len a (c :: cs)]; simp
theorem sd_ev (a x : Int) : ∀ cs : List Int, ev x cs - ev a cs = (x - a) * ev x (sd a cs)
  | [] => by simp [ev, sd]
  | [c] => by simp [ev, sd]
  | b :: c :: cs => by
    have ih := sd_ev a x (c :: cs)
    rw [sd, show ev x (b :: c :: cs) = b + x * ev x (c :: cs) from rfl, show ev a (b :: c :: cs) = b + a * ev a (c :: cs) from rfl, show ev x (ev a (c :: cs) :: sd a (c :: cs)) = ev a (c :: cs) + x * ev x (sd a (c :: cs)) from rfl]
    generalize ev x (c :: cs) = X at ih ⊢
    generalize ev a (c :: cs) = A at ih ⊢
    generalize ev x (sd a (c :: cs)) = S at ih ⊢
    have e : (x - a) * (A + x * S) = (x - a) * A + x * ((x - a) * S) := by
      rw [Int.mul_add, ← Int.mul_assoc, ← Int.mul_assoc, Int.mul_comm (x - a) x]
    rw [e, ← ih, Int.sub_mul, Int.mul_sub]
    omega
theorem sd_last (a : Int) : ∀ (cs : List Int) (b : Int), 2 ≤ (b :: cs).length → (sd a (b :: cs)).getLast? = (b :: cs).getLast?
  | [], _, h => by simp at h
  | [c], b, _ => by simp [sd, ev]
  | c :: d :: cs, b, _ => by
    have ih := sd_last a (d :: cs) c (by simp)
    rw [sd]
    have hne : sd a (c :: d :: cs) ≠ [] := by simp [sd]
    rw [List.getLast?_cons_of_ne_nil hne, ih]
    simp [List.getLast?_cons_cons]
/-- a polynomial whose last coefficient is no multiple of p has fewer roots than coefficients -/
theorem roots_lt {p : Nat} (h : Prime p) : ∀ (n : Nat) (cs : List Int) (l : Int) (rs : List Int), cs.length = n → cs.getLast? = some l → ¬ (p : Int) ∣ l → (∀ r ∈ rs, 0 ≤ r ∧ r < p) → rs.Nodup → (∀ r ∈ rs, (p : Int) ∣ ev r cs) → rs.length < n
  | 0, cs, l, rs, hn, hl, _, _, _, _ => by
    have : cs = [] := List.length_eq_zero_iff.mp hn
    subst this
    simp at hl
  | n + 1, cs, l, rs, hn, hl, hp, hr, hd, hz => by
    cases rs with
    | nil => simp
    | cons a rs =>
      cases cs with
      | nil => simp at hn
      | cons b cs =>
        cases cs with
        | nil =>
          exfalso
          simp at hl
          subst hl
          have := hz a List.mem_cons_self
          simp [ev] at this
          exact hp this
        | cons c cs =>
          have hl' : (sd a (b :: c :: cs)).getLast? = some l := by rw [sd_last a (c :: cs) b (by simp)]; exact hl
          have hlen : (sd a (b :: c :: cs)).length = n := by rw [sd_len, hn]; rfl
          have ih := roots_lt h n (sd a (b :: c :: cs)) l rs hlen hl' hp (fun r q => hr r (List.mem_cons_of_mem _ q)) (List.nodup_cons.mp hd).2 fun r q => by
            have e := sd_ev a r (b :: c :: cs)
            have h1 := hz r (List.mem_cons_of_mem _ q)
            have h2 := hz a List.mem_cons_self
            have h3 : (p : Int) ∣ (r - a) * ev r (sd a (b :: c :: cs)) := by rw [← e]; exact Int.dvd_sub h1 h2
            rcases h.dvd_mulI h3 with q3 | q3
            · exfalso
              have hne : r ≠ a := fun z => (List.nodup_cons.mp hd).1 (by rw [← z]; exact q)
              have b1 := hr r (List.mem_cons_of_mem _ q)
              have b2 := hr a List.mem_cons_self
              obtain ⟨t, ht⟩ := q3
              have hp0 : (0 : Int) < p := by have := h.1; omega
              have t1 : t = 0 := by
                by_cases ht1 : t ≤ -1
                · have := Int.mul_le_mul_of_nonneg_left ht1 (Int.le_of_lt hp0)
                  omega
                · by_cases ht2 : 1 ≤ t
                  · have := Int.mul_le_mul_of_nonneg_left ht2 (Int.le_of_lt hp0)
                    omega
                  · omega
              rw [t1] at ht
              omega
            · exact q3
          simp
          omega
theorem ev_zeros (x : Int) : ∀ (k : Nat), ev x (List.replicate k 0 ++ [1]) = x ^ k
  | 0 => by simp [ev]
  | k + 1 => by
    rw [List.replicate_succ, List.cons_append, ev, ev_zeros x k, Int.pow_succ, Int.mul_comm]
    omega
/-- not every one is a root of x^k - 1 -/
theorem exists_ne_one {p k : Nat} (h : Prime p) (hk : 1 ≤ k) (hk2 : k < p - 1) : ∃ b : Nat, 2 ≤ b ∧ b < p ∧ b ^ k % p ≠ 1 := by
  apply Classical.byContradiction
  intro hno
  have all : ∀ b : Nat, 1 ≤ b → b < p → b ^ k % p = 1 := fun b h1 h2 => by
    by_cases hb : b = 1
    · subst hb
      rw [Nat.one_pow]
      exact Nat.mod_eq_of_lt (by have := h.1; omega)
    · apply Classical.byContradiction
      intro q
      exact hno ⟨b, by omega, h2, q⟩
  obtain ⟨j, rfl⟩ : ∃ j, k = j + 1 := ⟨k - 1, by omega⟩
  have hr := roots_lt h (j + 2) ((-1) :: (List.replicate j 0 ++ [1])) 1 ((List.range (p - 1)).map fun i => ((i + 1 : Nat) : Int)) (by simp) (by
      rw [List.getLast?_cons_of_ne_nil (by simp)]; simp) (fun q => by
      have := Int.ofNat_dvd_left.mp q
      have h1 : p ∣ 1 := by simpa using this
      have := Nat.le_of_dvd (by omega) h1
      have := h.1
      omega) (fun r q => by
      obtain ⟨i, hi, rfl⟩ := List.mem_map.mp q
      have := List.mem_range.mp hi
      omega) (by
      rw [List.nodup_iff_pairwise_ne, List.pairwise_map]
      exact (List.nodup_iff_pairwise_ne.mp List.nodup_range).imp fun hne q => hne (by omega)) fun r q => by
      obtain ⟨i, hi, rfl⟩ := List.mem_map.mp q
      have hi := List.mem_range.mp hi
      have := all (i + 1) (by omega) (by omega)
      rw [ev, ev_zeros]
      have e : (-1 : Int) + ((i + 1 : Nat) : Int) * ((i + 1 : Nat) : Int) ^ j = (((i + 1) ^ (j + 1) : Nat) : Int) - 1 := by
        rw [Int.natCast_pow, Int.pow_succ, Int.mul_comm]
        omega
      rw [e]
      have hm := Nat.div_add_mod ((i + 1) ^ (j + 1)) p
      rw [this] at hm
      obtain ⟨q, hq⟩ : ∃ q, (i + 1) ^ (j + 1) = p * q + 1 := ⟨_, hm.symm⟩
      refine ⟨(q : Int), ?_⟩
      rw [hq]
      push_cast
      omega
  simp at hr
  omega
end Nt

set_option maxRecDepth 100000
namespace Lw
open PySem PySem.Spec L2 Mi
open PyProof.Rows hiding St
theorem nabs {n : Nat} (h : n < 2 ^ 200) : ((n : Nat) : Int).natAbs < 2 ^ 200 := by simpa using h
/-! powers -/
section
variable {b e N : Nat} {st : Store}
def pStep (N : Nat) (s : Nat × Nat × Nat) : Nat × Nat × Nat := (if s.2.2 % 2 = 1 then s.1 * s.2.1 % N else s.1, s.2.1 * s.2.1 % N, s.2.2 / 2)
def pCond (s : Nat × Nat × Nat) : Bool := decide (0 < s.2.2)
def pI (b e N : Nat) (s : Nat × Nat × Nat) : Prop := s.1 < 2 ^ 200 ∧ s.2.1 < N ∧ s.2.2 ≤ e ∧ (s.1 * s.2.1 ^ s.2.2) % N = b ^ e % N
theorem p_next (hN : N < 2 ^ 200) (s : Nat × Nat × Nat) (h : pI b e N s) (hc : pCond s = true) : pI b e N (pStep N s) ∧ (pStep N s).2.2 < s.2.2 := by
  obtain ⟨f, h2, l⟩ := s
  obtain ⟨a1, a2, a3, a4⟩ := h
  simp only [pCond, decide_eq_true_eq] at hc
  simp only at a1 a2 a3 a4 hc
  have hN0 : 0 < N := by omega
  refine ⟨⟨?_, Nat.mod_lt _ hN0, Nat.le_trans (Nat.div_le_self _ _) a3, ?_⟩, Nat.div_lt_self hc (by omega)⟩
  · show (if l % 2 = 1 then f * h2 % N else f) < 2 ^ 200
    split
    · exact Nat.lt_trans (Nat.mod_lt _ hN0) hN
    · exact a1
  · show ((if l % 2 = 1 then f * h2 % N else f) * (h2 * h2 % N) ^ (l / 2)) % N = b ^ e % N
    rw [← a4]
    have hl := Nat.div_add_mod l 2
    split
    · rename_i h1
      have e1 : h2 ^ l = h2 * (h2 * h2) ^ (l / 2) := by
        conv => lhs; rw [← hl, h1, Nat.pow_succ, Nat.pow_mul, Nat.mul_comm]
        rw [Nat.pow_two]
      rw [e1, Nat.mul_mod, Nat.mod_mod, ← Nat.pow_mod, ← Nat.mul_mod, Nat.mul_assoc]
    · have h1 : l % 2 = 0 := by omega
      have e1 : h2 ^ l = (h2 * h2) ^ (l / 2) := by
        conv => lhs; rw [← hl, h1, Nat.add_zero, Nat.pow_mul]
        rw [Nat.pow_two]
      rw [e1, Nat.mul_mod, ← Nat.pow_mod, ← Nat.mul_mod]
theorem p_start (hN : 0 < N) : pI b e N (1, b % N, e) := ⟨by show 1 < 2 ^ 200; decide, Nat.mod_lt _ hN, Nat.le_refl _, by
  show (1 * (b % N) ^ e) % N = _
  rw [Nat.one_mul, ← Nat.pow_mod]⟩
theorem p_end (hN : 0 < N) (hN2 : N < 2 ^ 200) : (loopS pCond (pStep N) e (1, b % N, e)).1 % N = b ^ e % N := by
  obtain ⟨h1, h2⟩ := loopS_inv (fun s : Nat × Nat × Nat => s.2.2) (pI b e N) (fun s h c => p_next hN2 s h c) e (1, b % N, e) (p_start hN) (Nat.le_refl _)
  generalize loopS pCond (pStep N) e (1, b % N, e) = s at h1 h2
  obtain ⟨f, h, l⟩ := s
  have : l = 0 := by simpa [pCond] using h2
  subst this
  have := h1.2.2.2
  simpa using this
theorem BIG_gt {n : Nat} (h : n < 2 ^ 200) : n < BIG := Nat.lt_trans h (by unfold BIG; exact Nat.pow_lt_pow_right (by decide) (by decide))
theorem power_ok (hN : 0 < N) (hN2 : N < 2 ^ 200) (he : e < 2 ^ 200) : F_power_in [.int b, .int e, .int N] st = .ok (.int ((b ^ e % N : Nat) : Int)) .s st := by
  have hNi : (0 : Int) < N := by omega
  have W := while_loop (S := Nat × Nat × Nat) (mc := mOp2 dGt (mV 5) (mC (.int 0))) (body := mSeq (mIfS (mOp2 dEq (mOp2 dMod (mV 5) (mC (.int 2))) (mC (.int 1))) (mSet 3 (mOp2 dMod (mOp2 dMul (mV 3) (mV 4)) (mV 2))) mSkip) (mPar [4, 5] (kCons (mOp2 dMod (mOp2 dMul (mV 4) (mV 4)) (mV 2)) (kCons (mOp2 dFdiv (mV 5) (mC (.int 2))) kNil)))) (st := st)
    (fun s => [.val (.int b), .val (.int e), .val (.int N), .val (.int s.1), .val (.int s.2.1), .val (.int s.2.2)]) pCond (pStep N) (fun s => s.2.2) (pI b e N)
    (fun s h => ⟨.bl (decide (0 < (s.2.2 : Int))), .s, by simp, by simp [pCond]⟩)
    (fun s h c => ⟨by
      have hn := p_next hN2 s h c
      have m1 : dMul (.int s.1) (.int s.2.1) = some (.int (s.1 * s.2.1)) := dMul_b (nabs h.1) (nabs (Nat.lt_trans h.2.1 hN2))
      have m2 : dMul (.int s.2.1) (.int s.2.1) = some (.int (s.2.1 * s.2.1)) := dMul_b (nabs (Nat.lt_trans h.2.1 hN2)) (nabs (Nat.lt_trans h.2.1 hN2))
      by_cases q : s.2.2 % 2 = 1
      · have qi : (s.2.2 : Int) % 2 = 1 := by omega
        simp [mPar, kCons, kNil, setAll, dMod_s, dFdiv_s, hN, m1, m2, qi, q, pStep]
      · have qi : ¬ (s.2.2 : Int) % 2 = 1 := by omega
        simp [mPar, kCons, kNil, setAll, dMod_s, dFdiv_s, hN, m1, m2, qi, q, pStep], p_next hN2 s h c⟩)
    (1, b % N, e) (p_start hN) (BIG_gt he)
  unfold F_power_in
  rw [fun_eq (show [D.int b, D.int e, D.int N].length = 3 from rfl)]
  have s1 : mPar [3, 4, 5] (kCons (mC (.int 1)) (kCons (mOp2 dMod (mV 0) (mV 2)) (kCons (mV 1) kNil))) (startE [.int b, .int e, .int N] 3) st = .next [.val (.int b), .val (.int e), .val (.int N), .val (.int ((1 : Nat) : Int)), .val (.int ((b % N : Nat) : Int)), .val (.int e)] st := by
    simp [mPar, kCons, kNil, setAll, dMod_s, hN, startE]
  unfold m_power_in
  rw [e_Seq, s1, s_bind_next, e_Seq, W, s_bind_next]
  have hE := p_end (b := b) (e := e) hN hN2
  generalize loopS pCond (pStep N) e (1, b % N, e) = s at hE
  simp only [e_Ret, e_Op2, e_Vs, e_V0, e_bind_ok, dMod_s hNi, e_mk_some, kd_int, with_ok, retK_s, endF_ret_s]
  rw [← hE]
  simp
end
end Lw

set_option maxRecDepth 100000
namespace Lw
open PySem PySem.Spec L2 Mi
open PyProof.Rows hiding St
section
variable {b e N : Nat} {st : Store}
theorem law_power_ok (hN : 0 < N) (hN2 : N < 2 ^ 200) (he : e < 2 ^ 200) : F__law_power [.int b, .int e, .int N] st = .ok (.int ((b ^ e % N : Nat) : Int)) .s st := by
  have hNi : (0 : Int) < N := by omega
  have W := while_loop (S := Nat × Nat × Nat) (mc := mOp2 dGt (mV 1) (mC (.int 0))) (body := mSeq (mSet 3 (mIf (mOp2 dEq (mOp2 dMod (mB bInt (lCons (mV 1) aNil)) (mC (.int 2))) (mC (.int 1))) (mOp2 dMod (mB bInt (lCons (mOp2 dMul (mV 3) (mV 4)) aNil)) (mV 2)) (mV 3))) (mPar [4, 1] (kCons (mOp2 dMod (mB bInt (lCons (mOp2 dMul (mV 4) (mV 4)) aNil)) (mV 2)) (kCons (mB bInt (lCons (mOp2 dFdiv (mV 1) (mC (.int 2))) aNil)) kNil)))) (st := st)
    (fun s => [.val (.int b), .val (.int s.2.2), .val (.int N), .val (.int s.1), .val (.int s.2.1)]) pCond (pStep N) (fun s => s.2.2) (pI b e N)
    (fun s h => ⟨.bl (decide (0 < (s.2.2 : Int))), .s, by simp, by simp [pCond]⟩)
    (fun s h c => ⟨by
      have m1 : dMul (.int s.1) (.int s.2.1) = some (.int (s.1 * s.2.1)) := dMul_b (nabs h.1) (nabs (Nat.lt_trans h.2.1 hN2))
      have m2 : dMul (.int s.2.1) (.int s.2.1) = some (.int (s.2.1 * s.2.1)) := dMul_b (nabs (Nat.lt_trans h.2.1 hN2)) (nabs (Nat.lt_trans h.2.1 hN2))
      by_cases q : s.2.2 % 2 = 1
      · have qi : (s.2.2 : Int) % 2 = 1 := by omega
        simp [mPar, kCons, kNil, setAll, dMod_s, dFdiv_s, hN, m1, m2, qi, q, pStep]
      · have qi : ¬ (s.2.2 : Int) % 2 = 1 := by omega
        simp [mPar, kCons, kNil, setAll, dMod_s, dFdiv_s, hN, m1, m2, qi, q, pStep], p_next hN2 s h c⟩)
    (1, b % N, e) (p_start hN) (BIG_gt he)
  unfold F__law_power
  rw [fun_eq (show [D.int b, D.int e, D.int N].length = 3 from rfl)]
  have s1 : mPar [3, 4] (kCons (mC (.int 1)) (kCons (mOp2 dMod (mB bInt (lCons (mV 0) aNil)) (mV 2)) kNil)) (startE [.int b, .int e, .int N] 2) st = .next [.val (.int b), .val (.int e), .val (.int N), .val (.int ((1 : Nat) : Int)), .val (.int ((b % N : Nat) : Int))] st := by
    simp [mPar, kCons, kNil, setAll, dMod_s, hN, startE]
  unfold m__law_power
  rw [e_Seq, s1, s_bind_next, e_Seq, W, s_bind_next]
  have hE := p_end (b := b) (e := e) hN hN2
  generalize loopS pCond (pStep N) e (1, b % N, e) = s at hE
  simp only [e_Ret, e_Op2, e_Vs, e_V0, e_B, e_lCons, consL_ok, e_Nil, consR_s, a_bind_ok, bInt_int, e_bind_ok, dMod_s hNi, e_mk_some, kd_int, with_ok, retK_s, endF_ret_s]
  rw [← hE]
  simp
theorem half_ok (hN : 0 < N) (hN2 : N < 2 ^ 200) : F_half_in [.int b, .int N] st = .ok (.int ((b ^ (N / 2) % N : Nat) : Int)) .s st := by
  have e := power_ok (b := b) (e := N / 2) (st := st) hN hN2 (by omega)
  unfold F_half_in
  rw [fun_eq (show [D.int b, D.int N].length = 2 from rfl)]
  have c : ((N / 2 : Nat) : Int) = (N : Int) / 2 := by omega
  rw [c] at e
  simp [m_half_in, startE, dFdiv_s, e]
theorem law_half_ok (hN : 0 < N) (hodd : N % 2 = 1) (hN2 : N < 2 ^ 200) : F__law_half [.int b, .int N] st = .ok (.int ((b ^ (N / 2) % N : Nat) : Int)) .s st := by
  have e := law_power_ok (b := b % N) (e := N / 2) (st := st) hN hN2 (by omega)
  rw [← Nat.pow_mod] at e
  unfold F__law_half
  rw [fun_eq (show [D.int b, D.int N].length = 2 from rfl)]
  have c : ((N / 2 : Nat) : Int) = ((N : Int) - 1) / 2 := by omega
  rw [c] at e
  simp only [Int.natCast_emod] at e
  simp [m__law_half, startE, dFdiv_s, dMod_s, hN, e]
end
/-! the sign -/
def jc1 (s : Int × Nat × Nat) : Bool := decide (s.2.1 % 2 = 0)
def js1 (s : Int × Nat × Nat) : Int × Nat × Nat := (if s.2.2 % 8 = 3 ∨ s.2.2 % 8 = 5 then -s.1 else s.1, s.2.1 / 2, s.2.2)
def jc2 (s : Int × Nat × Nat) : Bool := decide (s.2.1 ≠ 0)
def jmid (t : Int × Nat × Nat) : Int × Nat × Nat := (if t.2.1 % 4 = 3 ∧ t.2.2 % 4 = 3 then -t.1 else t.1, t.2.2 % t.2.1, t.2.1)
def js2 (s : Int × Nat × Nat) : Int × Nat × Nat := jmid (loopS jc1 js1 s.2.1 s)
def jfin (s : Int × Nat × Nat) : Int := if s.2.2 = 1 then s.1 else 0
def jac (a n : Nat) : Int := jfin (loopS jc2 js2 (a % n) (1, a % n, n))
def jI1 (T B : Nat) (s : Int × Nat × Nat) : Prop := 0 < s.2.1 ∧ s.2.1 ≤ T ∧ s.2.2 = B
theorem j1_next {T B : Nat} (s : Int × Nat × Nat) (h : jI1 T B s) (c : jc1 s = true) : jI1 T B (js1 s) ∧ (js1 s).2.1 < s.2.1 := by
  obtain ⟨g, t, u⟩ := s
  simp only [jc1, decide_eq_true_eq] at c
  obtain ⟨h1, h2, h3⟩ := h
  simp only at h1 h2 h3
  refine ⟨⟨?_, ?_, h3⟩, ?_⟩ <;> simp only [js1] <;> omega
theorem j1_end {s : Int × Nat × Nat} (h : 0 < s.2.1) : jI1 s.2.1 s.2.2 (loopS jc1 js1 s.2.1 s) := (loopS_inv (fun s : Int × Nat × Nat => s.2.1) (jI1 s.2.1 s.2.2) (fun s h c => j1_next s h c) s.2.1 s ⟨h, Nat.le_refl _, rfl⟩ (Nat.le_refl _)).1
def jI2 (s : Int × Nat × Nat) : Prop := s.2.1 < 2 ^ 200 ∧ s.2.2 < 2 ^ 200
theorem j2_next (s : Int × Nat × Nat) (h : jI2 s) (c : jc2 s = true) : jI2 (js2 s) ∧ (js2 s).2.1 < s.2.1 := by
  simp only [jc2, decide_eq_true_eq] at c
  have q := j1_end (s := s) (by omega)
  unfold js2
  generalize loopS jc1 js1 s.2.1 s = t at q
  obtain ⟨q1, q2, q3⟩ := q
  have hm := Nat.mod_lt t.2.2 q1
  obtain ⟨h1, h2⟩ := h
  refine ⟨⟨?_, ?_⟩, ?_⟩ <;> simp only [jmid] <;> omega
theorem dIn2 {x a b : Int} : dInP false (.int x) (.tup [.int a, .int b]) = some (.bl (decide (x = a ∨ x = b))) := by
  have e1 : (x = a ∨ x = b) ↔ (a = x ∨ b = x) := by omega
  simp [dInP, D.plain, D.eqd, e1]
  rfl
@[simp] theorem dNeg_int {x : Int} : dNeg (.int x) = some (.int (-x)) := rfl
section
variable {a n : Nat} {st : Store}
theorem sign_ok (hn : 0 < n) (hn2 : n < 2 ^ 200) : F_sign_in [.int a, .int n] st = .ok (.int (jac a n)) .s st := by
  have W1 := fun (s0 : Int × Nat × Nat) (hs0 : jI2 s0) (h0 : 0 < s0.2.1) => while_loop (S := Int × Nat × Nat) (mc := mOp2 dEq (mOp2 dMod (mV 3) (mC (.int 2))) (mC (.int 0))) (body := mSeq (mSet 3 (mOp2 dFdiv (mV 3) (mC (.int 2)))) (mSet 2 (mIf (mOp2 (dInP false) (mOp2 dMod (mV 4) (mC (.int 8))) (mTup (aCons (mC (.int 3)) (aCons (mC (.int 5)) aNil)))) (mOp1 dNeg (mV 2)) (mV 2)))) (st := st)
    (fun s => [.val (.int a), .val (.int n), .val (.int s.1), .val (.int s.2.1), .val (.int s.2.2)]) jc1 js1 (fun s => s.2.1) (jI1 s0.2.1 s0.2.2)
    (fun s h => ⟨.bl (decide ((s.2.1 : Int) % 2 = 0)), .s, by simp [dMod_s], by
      simp only [tru_bl, jc1, Option.some.injEq, decide_eq_decide]; omega⟩)
    (fun s h c => ⟨by
      by_cases q : s.2.2 % 8 = 3 ∨ s.2.2 % 8 = 5
      · have qi : (s.2.2 : Int) % 8 = 3 ∨ (s.2.2 : Int) % 8 = 5 := by omega
        simp [dMod_s, dFdiv_s, dIn2, q, qi, js1]
      · have qi : ¬ ((s.2.2 : Int) % 8 = 3 ∨ (s.2.2 : Int) % 8 = 5) := by omega
        simp [dMod_s, dFdiv_s, dIn2, q, qi, js1], j1_next s h c⟩)
    s0 ⟨h0, Nat.le_refl _, rfl⟩ (BIG_gt hs0.1)
  have W := while_loop (S := Int × Nat × Nat) (mc := mOp2 dNe (mV 3) (mC (.int 0))) (body := (mSeq (mWhile (mOp2 dEq (mOp2 dMod (mV 3) (mC (.int 2))) (mC (.int 0))) (mSeq (mSet 3 (mOp2 dFdiv (mV 3) (mC (.int 2))))
    (mSet 2 (mIf (mOp2 (dInP false) (mOp2 dMod (mV 4) (mC (.int 8))) (mTup (aCons (mC (.int 3)) (aCons (mC (.int 5)) aNil)))) (mOp1 dNeg (mV 2)) (mV 2)))))
    (mSeq (mSet 2 (mIf (mAnd (mOp2 dEq (mOp2 dMod (mV 3) (mC (.int 4))) (mC (.int 3))) (mOp2 dEq (mOp2 dMod (mV 4) (mC (.int 4))) (mC (.int 3)))) (mOp1 dNeg (mV 2)) (mV 2)))
    (mPar [3, 4] (kCons (mOp2 dMod (mV 4) (mV 3)) (kCons (mV 3) kNil)))))) (st := st)
    (fun s => [.val (.int a), .val (.int n), .val (.int s.1), .val (.int s.2.1), .val (.int s.2.2)]) jc2 js2 (fun s => s.2.1) jI2
    (fun s h => ⟨.bl (!decide ((s.2.1 : Int) = 0)), .s, by simp, by
      by_cases q : s.2.1 = 0 <;> simp [jc2, q]⟩)
    (fun s h c => ⟨by
      have c' : s.2.1 ≠ 0 := by simpa [jc2] using c
      rw [e_Seq, W1 s h (by omega), s_bind_next]
      have q := j1_end (s := s) (by omega)
      unfold js2
      generalize loopS jc1 js1 s.2.1 s = t at q
      have q1 := q.1
      by_cases z : t.2.1 % 4 = 3
      · have zi : (t.2.1 : Int) % 4 = 3 := by omega
        by_cases y : t.2.2 % 4 = 3
        · have yi : (t.2.2 : Int) % 4 = 3 := by omega
          simp [mPar, kCons, kNil, setAll, dMod_s, q1, z, zi, y, yi, jmid]
        · have yi : ¬ (t.2.2 : Int) % 4 = 3 := by omega
          simp [mPar, kCons, kNil, setAll, dMod_s, q1, z, zi, y, yi, jmid]
      · have zi : ¬ (t.2.1 : Int) % 4 = 3 := by omega
        simp [mPar, kCons, kNil, setAll, dMod_s, q1, z, zi, jmid], j2_next s h c⟩)
    (1, a % n, n) ⟨Nat.lt_trans (Nat.mod_lt _ hn) hn2, hn2⟩ (BIG_gt (Nat.lt_trans (Nat.mod_lt _ hn) hn2))
  unfold F_sign_in
  rw [fun_eq (show [D.int a, D.int n].length = 2 from rfl)]
  have s1 : mPar [2, 3, 4] (kCons (mC (.int 1)) (kCons (mOp2 dMod (mV 0) (mV 1)) (kCons (mV 1) kNil))) (startE [.int a, .int n] 3) st = .next [.val (.int a), .val (.int n), .val (.int 1), .val (.int ((a % n : Nat) : Int)), .val (.int n)] st := by
    simp [mPar, kCons, kNil, setAll, dMod_s, hn, startE]
  unfold m_sign_in
  rw [e_Seq, s1, s_bind_next, e_Seq, W, s_bind_next]
  unfold jac
  generalize loopS jc2 js2 (a % n) (1, a % n, n) = s
  by_cases q : s.2.2 = 1
  · simp [q, jfin]
  · have qi : ¬ (s.2.2 : Int) = 1 := by omega
    simp [q, qi, jfin]
theorem law_sign_ok (hn : 0 < n) (hn2 : n < 2 ^ 200) : F__law_sign [.int a, .int n] st = .ok (.int (jac a n)) .s st := by
  have W1 := fun (s0 : Int × Nat × Nat) (hs0 : jI2 s0) (h0 : 0 < s0.2.1) => while_loop (S := Int × Nat × Nat) (mc := mOp2 dEq (mOp2 dMod (mB bInt (lCons (mV 3) aNil)) (mC (.int 2))) (mC (.int 0))) (body := mPar [3, 2] (kCons (mB bInt (lCons (mOp2 dFdiv (mV 3) (mC (.int 2))) aNil)) (kCons (mIf (mOp2 (dInP false) (mOp2 dMod (mB bInt (lCons (mV 4) aNil)) (mC (.int 8))) (mTup (aCons (mC (.int 3)) (aCons (mC (.int 5)) aNil)))) (mOp2 dSub (mC (.int 0)) (mV 2)) (mV 2)) kNil))) (st := st)
    (fun s => [.val (.int a), .val (.int n), .val (.int s.1), .val (.int s.2.1), .val (.int s.2.2)]) jc1 js1 (fun s => s.2.1) (jI1 s0.2.1 s0.2.2)
    (fun s h => ⟨.bl (decide ((s.2.1 : Int) % 2 = 0)), .s, by simp [dMod_s], by
      simp only [tru_bl, jc1, Option.some.injEq, decide_eq_decide]; omega⟩)
    (fun s h c => ⟨by
      by_cases q : s.2.2 % 8 = 3 ∨ s.2.2 % 8 = 5
      · have qi : (s.2.2 : Int) % 8 = 3 ∨ (s.2.2 : Int) % 8 = 5 := by omega
        simp [mPar, kCons, kNil, setAll, dMod_s, dFdiv_s, dIn2, q, qi, js1]
      · have qi : ¬ ((s.2.2 : Int) % 8 = 3 ∨ (s.2.2 : Int) % 8 = 5) := by omega
        simp [mPar, kCons, kNil, setAll, dMod_s, dFdiv_s, dIn2, q, qi, js1], j1_next s h c⟩)
    s0 ⟨h0, Nat.le_refl _, rfl⟩ (BIG_gt hs0.1)
  have W := while_loop (S := Int × Nat × Nat) (mc := mOp2 dNe (mV 3) (mC (.int 0))) (body := (mSeq (mWhile (mOp2 dEq (mOp2 dMod (mB bInt (lCons (mV 3) aNil)) (mC (.int 2))) (mC (.int 0))) (mPar [3, 2] (kCons (mB bInt (lCons (mOp2 dFdiv (mV 3) (mC (.int 2))) aNil)) (kCons (mIf (mOp2 (dInP false) (mOp2 dMod (mB bInt (lCons (mV 4) aNil)) (mC (.int 8))) (mTup (aCons (mC (.int 3)) (aCons (mC (.int 5)) aNil)))) (mOp2 dSub (mC (.int 0)) (mV 2)) (mV 2)) kNil))))
    (mSeq (mSet 2 (mIf (mAnd (mOp2 dEq (mOp2 dMod (mB bInt (lCons (mV 3) aNil)) (mC (.int 4))) (mC (.int 3))) (mOp2 dEq (mOp2 dMod (mB bInt (lCons (mV 4) aNil)) (mC (.int 4))) (mC (.int 3)))) (mOp2 dSub (mC (.int 0)) (mV 2)) (mV 2)))
    (mPar [3, 4] (kCons (mOp2 dMod (mB bInt (lCons (mV 4) aNil)) (mV 3)) (kCons (mV 3) kNil)))))) (st := st)
    (fun s => [.val (.int a), .val (.int n), .val (.int s.1), .val (.int s.2.1), .val (.int s.2.2)]) jc2 js2 (fun s => s.2.1) jI2
    (fun s h => ⟨.bl (!decide ((s.2.1 : Int) = 0)), .s, by simp, by
      by_cases q : s.2.1 = 0 <;> simp [jc2, q]⟩)
    (fun s h c => ⟨by
      have c' : s.2.1 ≠ 0 := by simpa [jc2] using c
      rw [e_Seq, W1 s h (by omega), s_bind_next]
      have q := j1_end (s := s) (by omega)
      unfold js2
      generalize loopS jc1 js1 s.2.1 s = t at q
      have q1 := q.1
      by_cases z : t.2.1 % 4 = 3
      · have zi : (t.2.1 : Int) % 4 = 3 := by omega
        by_cases y : t.2.2 % 4 = 3
        · have yi : (t.2.2 : Int) % 4 = 3 := by omega
          simp [mPar, kCons, kNil, setAll, dMod_s, q1, z, zi, y, yi, jmid]
        · have yi : ¬ (t.2.2 : Int) % 4 = 3 := by omega
          simp [mPar, kCons, kNil, setAll, dMod_s, q1, z, zi, y, yi, jmid]
      · have zi : ¬ (t.2.1 : Int) % 4 = 3 := by omega
        simp [mPar, kCons, kNil, setAll, dMod_s, q1, z, zi, jmid], j2_next s h c⟩)
    (1, a % n, n) ⟨Nat.lt_trans (Nat.mod_lt _ hn) hn2, hn2⟩ (BIG_gt (Nat.lt_trans (Nat.mod_lt _ hn) hn2))
  unfold F__law_sign
  rw [fun_eq (show [D.int a, D.int n].length = 2 from rfl)]
  have s1 : mPar [2, 3, 4] (kCons (mC (.int 1)) (kCons (mOp2 dMod (mB bInt (lCons (mV 0) aNil)) (mV 1)) (kCons (mV 1) kNil))) (startE [.int a, .int n] 3) st = .next [.val (.int a), .val (.int n), .val (.int 1), .val (.int ((a % n : Nat) : Int)), .val (.int n)] st := by
    simp [mPar, kCons, kNil, setAll, dMod_s, hn, startE]
  unfold m__law_sign
  rw [e_Seq, s1, s_bind_next, e_Seq, W, s_bind_next]
  unfold jac
  generalize loopS jc2 js2 (a % n) (1, a % n, n) = s
  by_cases q : s.2.2 = 1
  · simp [q, jfin]
  · have qi : ¬ (s.2.2 : Int) = 1 := by omega
    simp [q, qi, jfin]
end
end Lw

set_option maxRecDepth 100000
namespace Lw
open PySem PySem.Spec L2 Mi
open PyProof.Rows hiding St
section
variable {f p N b : Nat} {st : Store}
theorem above_loop {x y : Slot} : ∀ (n : Nat) (lo : Int) (s : Nat) (t : Slot), s * 2 ^ n < 2 ^ 199 → ∃ t', forL (gN 3) (mSet 2 (mOp2 dMul (mC (.int 2)) (mV 2))) (rangeD lo n) [x, y, .val (.int s), t] st = .next [x, y, .val (.int ((s * 2 ^ n : Nat) : Int)), t'] st
  | 0, lo, s, t, h => ⟨t, by simp [rangeD]⟩
  | n + 1, lo, s, t, h => by
    have e : s * 2 ^ (n + 1) = 2 * s * 2 ^ n := by rw [Nat.pow_succ, Nat.mul_comm (2 ^ n) 2, ← Nat.mul_assoc, Nat.mul_comm s 2]
    have hp : 0 < 2 ^ n := Nat.two_pow_pos n
    have hs : s ≤ 2 * s * 2 ^ n := by
      calc s ≤ 2 * s := by omega
        _ ≤ 2 * s * 2 ^ n := Nat.le_mul_of_pos_right _ hp
    obtain ⟨t', ih⟩ := above_loop n (lo + 1) (2 * s) (.val (.int lo)) (by omega)
    have m1 : dMul (.int 2) (.int s) = some (.int (2 * s)) := dMul_b (by decide) (nabs (by omega))
    refine ⟨t', ?_⟩
    rw [rangeD, forL_gN, e]
    simp only [List.set, e_Set, e_Op2, e_C, e_Vs, e_V0, e_bind_ok, m1, e_mk_some, kd_int, with_ok, setK_s, step_next]
    have c : ((2 * s : Nat) : Int) = 2 * (s : Int) := by omega
    rw [← c]
    exact ih
theorem above_ok (h : f * 2 ^ p < 2 ^ 199) (hp : p ≤ 1000) : F_above_in [.int f, .int p] st = .ok (.int ((f * 2 ^ p + 1 : Nat) : Int)) .s st := by
  unfold F_above_in
  rw [fun_eq (show [D.int f, D.int p].length = 2 from rfl)]
  obtain ⟨t', e⟩ := above_loop (x := .val (.int f)) (y := .val (.int p)) (st := st) p 0 f .no h
  have r : iRange (aCons (mV 1) aNil) [.val (.int f), .val (.int p), .val (.int f), .no] st = .ok (rangeD 0 (Int.toNat (p : Int))) st := e_range1 (by simp) ⟨by omega, by omega⟩
  rw [Int.toNat_natCast] at r
  have s0 : mSet 2 (mV 0) (startE [.int f, .int p] 2) st = .next [.val (.int f), .val (.int p), .val (.int f), .no] st := by simp [startE]
  unfold m_above_in
  rw [e_Seq, s0, s_bind_next, e_Seq, e_For, r, forR_ok, e, s_bind_next]
  generalize f * 2 ^ p = F
  simp
theorem law_above_ok (h : f * 2 ^ p < 2 ^ 199) (hp : p ≤ 1000) : F__law_above [.int f, .int p] st = .ok (.int ((f * 2 ^ p + 1 : Nat) : Int)) .s st := above_ok h hp
/-! squares -/
def qC (s : Nat × Nat × Slot) : Bool := decide (1 < s.2.1 - s.1)
def qS (N : Nat) (s : Nat × Nat × Slot) : Nat × Nat × Slot := let m := (s.1 + s.2.1) / 2; if m * m ≤ N then (m, s.2.1, .val (.int (m : Int))) else (s.1, m, .val (.int (m : Int)))
def isSq (N : Nat) : Bool := let s := loopS qC (qS N) N (1, N + 1, .no); decide (s.1 * s.1 = N)
def qI (N : Nat) (s : Nat × Nat × Slot) : Prop := s.1 ≤ s.2.1 ∧ s.2.1 ≤ N + 1
theorem q_next (s : Nat × Nat × Slot) (h : qI N s) (c : qC s = true) : qI N (qS N s) ∧ (qS N s).2.1 - (qS N s).1 < s.2.1 - s.1 := by
  obtain ⟨l, g, m⟩ := s
  obtain ⟨h1, h2⟩ := h
  simp only [qC, decide_eq_true_eq] at c
  simp only at h1 h2
  unfold qS qI
  dsimp only
  split <;> refine ⟨⟨?_, ?_⟩, ?_⟩ <;> simp only <;> omega
theorem sq_ok (hN : N < 2 ^ 198) : F_is_square_number [.int N] st = .ok (.bl (isSq N)) .s st := by
  have W := while_loop (S := Nat × Nat × Slot) (mc := mOp2 dGt (mOp2 dSub (mV 2) (mV 1)) (mC (.int 1))) (body := mSeq (mSet 3 (mOp2 dFdiv (mOp2 dAdd (mV 1) (mV 2)) (mC (.int 2)))) (mIfS (mOp2 dLe (mOp2 dMul (mV 3) (mV 3)) (mV 0)) (mSet 1 (mV 3)) (mSet 2 (mV 3)))) (st := st)
    (fun s => [.val (.int N), .val (.int s.1), .val (.int s.2.1), s.2.2]) qC (qS N) (fun s => s.2.1 - s.1) (qI N)
    (fun s h => ⟨.bl (decide ((1 : Int) < s.2.1 - s.1)), .s, by simp, by
      simp only [tru_bl, qC, Option.some.injEq, decide_eq_decide]; have := h.1; omega⟩)
    (fun s h c => ⟨by
      obtain ⟨h1, h2⟩ := h
      have hm : (s.1 + s.2.1) / 2 < 2 ^ 200 := by omega
      have cm : ((s.1 : Int) + s.2.1) / 2 = (((s.1 + s.2.1) / 2 : Nat) : Int) := by omega
      unfold qS
      dsimp only
      generalize hM : (s.1 + s.2.1) / 2 = M at *
      have m1 : dMul (.int M) (.int M) = some (.int (M * M)) := dMul_b (nabs hm) (nabs hm)
      by_cases q : M * M ≤ N
      · have qi : (M : Int) * M ≤ N := by exact_mod_cast q
        simp [dFdiv_s, cm, m1, q, qi]
      · have qi : ¬ (M : Int) * M ≤ N := by exact_mod_cast q
        simp [dFdiv_s, cm, m1, q, qi], q_next s h c⟩)
    (1, N + 1, .no) ⟨by show 1 ≤ N + 1; omega, Nat.le_refl _⟩ (BIG_gt (by show N + 1 - 1 < 2 ^ 200; omega))
  have hI := (loopS_inv (fun s : Nat × Nat × Slot => s.2.1 - s.1) (qI N) (fun s h c => q_next s h c) N (1, N + 1, .no) ⟨by show 1 ≤ N + 1; omega, Nat.le_refl _⟩ (by show N + 1 - 1 ≤ N; omega)).1
  unfold F_is_square_number
  rw [fun_eq (show [D.int N].length = 1 from rfl)]
  have s1 : mPar [1, 2] (kCons (mC (.int 1)) (kCons (mOp2 dAdd (mV 0) (mC (.int 1))) kNil)) (startE [.int N] 3) st = .next [.val (.int N), .val (.int ((1 : Nat) : Int)), .val (.int ((N + 1 : Nat) : Int)), .no] st := by
    simp [mPar, kCons, kNil, setAll, startE]
  unfold m_is_square_number
  rw [e_Seq, s1, s_bind_next, e_Seq, W, s_bind_next]
  unfold isSq
  show endF (mRet _ _ _) = .ok (.bl (decide ((loopS qC (qS N) N (1, N + 1, .no)).1 * _ = N))) .s st
  have e0 : N + 1 - 1 = N := rfl
  simp only [e0]
  generalize loopS qC (qS N) N (1, N + 1, .no) = s at hI ⊢
  have m1 : dMul (.int s.1) (.int s.1) = some (.int (s.1 * s.1)) := dMul_b (nabs (by have := hI.1; have := hI.2; omega)) (nabs (by have := hI.1; have := hI.2; omega))
  have ce : ((s.1 : Int) * s.1 = N) ↔ s.1 * s.1 = N := by exact_mod_cast Iff.rfl
  simp [m1, ce]
theorem isSq_imp (h : isSq N = true) : ∃ r, r * r = N := ⟨_, of_decide_eq_true h⟩
/-! the paper's base -/
theorem jac_self (hN : 2 ≤ N) : jac N N = 0 := by
  unfold jac
  rw [Nat.mod_self]
  show jfin (1, 0, N) = 0
  unfold jfin
  rw [if_neg (show ¬ N = 1 by omega)]
def bC (N : Nat) (b : Nat) : Bool := decide (jac b N = 1)
def pbF (N : Nat) : Nat := loopS (bC N) (fun b => b + 1) (N - 2) 2
def bI (N : Nat) (b : Nat) : Prop := 2 ≤ b ∧ b ≤ N ∧ ∀ c, 2 ≤ c → c < b → jac c N = 1
theorem b_next (hN : 2 ≤ N) (b : Nat) (h : bI N b) (c : bC N b = true) : bI N (b + 1) ∧ N - (b + 1) < N - b := by
  obtain ⟨h1, h2, h3⟩ := h
  have c' : jac b N = 1 := of_decide_eq_true c
  have hne : b ≠ N := fun z => by rw [z, jac_self hN] at c'; cases c'
  refine ⟨⟨by omega, by omega, fun c a1 a2 => ?_⟩, by omega⟩
  by_cases z : c = b
  · rw [z]; exact c'
  · exact h3 c a1 (by omega)
theorem pb_end (hN : 2 ≤ N) : bI N (pbF N) ∧ jac (pbF N) N ≠ 1 := by
  obtain ⟨h1, h2⟩ := loopS_inv (fun b => N - b) (bI N) (fun b h c => b_next hN b h c) (N - 2) 2 ⟨by omega, by omega, fun c a b => by omega⟩ (by omega)
  exact ⟨h1, of_decide_eq_false h2⟩
theorem pb_ok (hN : 2 ≤ N) (hN2 : N < 2 ^ 198) : F_paper_base [.int N] st = .ok (.int (pbF N)) .s st := by
  have W := while_loop (S := Nat) (mc := mOp2 dEq (mCall F_sign_in (aCons (mV 1) (aCons (mV 0) aNil))) (mC (.int 1))) (body := mSet 1 (mOp2 dAdd (mV 1) (mC (.int 1)))) (st := st)
    (fun s => [.val (.int N), .val (.int s)]) (bC N) (fun b => b + 1) (fun b => N - b) (bI N)
    (fun s h => ⟨.bl (decide (jac s N = 1)), .s, by simp [sign_ok (a := s) (n := N) (by omega) (by omega)], rfl⟩)
    (fun s h c => ⟨by simp, b_next hN s h c⟩)
    2 ⟨by omega, by omega, fun c a b => by omega⟩ (BIG_gt (by omega))
  unfold F_paper_base
  rw [fun_eq (show [D.int N].length = 1 from rfl)]
  have s1 : mSet 1 (mC (.int 2)) (startE [.int N] 1) st = .next [.val (.int N), .val (.int ((2 : Nat) : Int))] st := by simp [startE]
  unfold m_paper_base
  rw [e_Seq, s1, s_bind_next, e_Seq, W, s_bind_next]
  rfl
def ipa (N : Nat) : Bool := N == 3 || (!isSq N && decide (pbF N ^ (N / 2) % N = N - 1))
theorem ipa_ok (hN : 2 ≤ N) (hN2 : N < 2 ^ 198) : F_is_prime_above [.int N] st = .ok (.bl (ipa N)) .s st := by
  unfold F_is_prime_above
  rw [fun_eq (show [D.int N].length = 1 from rfl)]
  unfold ipa
  have hh := half_ok (b := pbF N) (st := st) (show 0 < N by omega) (by omega)
  by_cases h3 : N = 3
  · subst h3
    simp [m_is_prime_above, startE]
  · have h3i : ¬ (N : Int) = 3 := by omega
    have ce : (((pbF N ^ (N / 2) % N : Nat) : Int) = (N : Int) - 1) ↔ pbF N ^ (N / 2) % N = N - 1 := by omega
    generalize pbF N ^ (N / 2) % N = r at hh ce
    simp [m_is_prime_above, startE, h3i, h3, sq_ok hN2, pb_ok hN hN2, hh]
    cases isSq N <;> simp [h3, pb_ok hN hN2, hh, ce]
end
end Lw

set_option maxRecDepth 100000
namespace Lw
open PySem PySem.Spec L2 Mi
open PyProof.Rows hiding St
section
variable {f p N b : Nat} {st : Store}
def isF (b N : Nat) : Bool := let r := b ^ (N / 2) % N; if r = 1 then !decide (jac b N = 1) else (!decide (r = N - 1) || !decide (jac b N = -1))
theorem isF_ok (hN : 2 ≤ N) (hN2 : N < 2 ^ 198) : F_is_false_in [.int b, .int N] st = .ok (.bl (isF b N)) .s st := by
  have e1 := half_ok (b := b) (st := st) (show 0 < N by omega) (show N < 2 ^ 200 by omega)
  have e2 := sign_ok (a := b) (st := st) (show 0 < N by omega) (show N < 2 ^ 200 by omega)
  unfold F_is_false_in isF
  rw [fun_eq (show [D.int b, D.int N].length = 2 from rfl)]
  dsimp only
  generalize b ^ (N / 2) % N = r at e1 ⊢
  generalize jac b N = j at e2 ⊢
  have s1 : mPar [2, 3] (kCons (mCall F_half_in (aCons (mV 0) (aCons (mV 1) aNil))) (kCons (mCall F_sign_in (aCons (mV 0) (aCons (mV 1) aNil))) kNil)) (startE [.int b, .int N] 2) st = .next [.val (.int b), .val (.int N), .val (.int r), .val (.int j)] st := by
    simp [mPar, kCons, kNil, setAll, startE, e1, e2]
  unfold m_is_false_in
  rw [e_Seq, s1, s_bind_next]
  by_cases h1 : r = 1
  · have h1i : (r : Int) = 1 := by omega
    simp [h1, h1i]
  · have h1i : ¬ (r : Int) = 1 := by omega
    by_cases h2 : r = N - 1
    · have h2i : (r : Int) = (N : Int) - 1 := by omega
      have h3 : N - 1 ≠ 1 := by omega
      have h4 : ¬ ((N : Int) - 1 = 1) := by omega
      simp [h1, h1i, h2i, h4]
      simp [h2, h3]
    · have h2i : ¬ (r : Int) = (N : Int) - 1 := by omega
      simp [h1, h1i, h2, h2i]
theorem law_isF_ok (hN : 3 ≤ N) (hodd : N % 2 = 1) (hN2 : N < 2 ^ 198) : F__law_is_false [.int b, .int N] st = .ok (.bl (isF b N)) .s st := by
  have e1 := law_half_ok (b := b) (st := st) (show 0 < N by omega) hodd (show N < 2 ^ 200 by omega)
  have e2 := law_sign_ok (a := b) (st := st) (show 0 < N by omega) (show N < 2 ^ 200 by omega)
  unfold F__law_is_false isF
  rw [fun_eq (show [D.int b, D.int N].length = 2 from rfl)]
  dsimp only
  generalize b ^ (N / 2) % N = r at e1 ⊢
  generalize jac b N = j at e2 ⊢
  have s1 : mPar [2, 3] (kCons (mCall F__law_half (aCons (mV 0) (aCons (mV 1) aNil))) (kCons (mCall F__law_sign (aCons (mV 0) (aCons (mV 1) aNil))) kNil)) (startE [.int b, .int N] 2) st = .next [.val (.int b), .val (.int N), .val (.int r), .val (.int j)] st := by
    simp [mPar, kCons, kNil, setAll, startE, e1, e2]
  have hin : dInD true (.tup [.int r, .int j]) (.tup [.tup [.int 1, .int 1], .tup [.int ((N : Int) - 1), .int (-1)]]) = some (.bl (if r = 1 then !decide (j = 1) else (!decide (r = N - 1) || !decide (j = -1)))) := by
    have q : ∀ x y : Int, (x == y) = decide (x = y) := fun _ _ => rfl
    simp only [dInD, D.flat, flatL, D.eqd, eqdL, List.any_cons, List.any_nil, Bool.and_true, if_true, Bool.or_false, q]
    congr 2
    by_cases h1 : r = 1
    · subst h1
      have h4 : ¬ ((N : Int) - 1 = 1) := by omega
      by_cases h3 : j = 1
      · subst h3
        simp
      · have h3' : ¬ (1 : Int) = j := fun z => h3 z.symm
        simp [h3, h3', h4]
    · have h1i : ¬ (1 : Int) = r := by omega
      by_cases h2 : r = N - 1
      · have h2i : ((N : Int) - 1 = r) := by omega
        by_cases h3 : j = -1
        · have h3' : (-1 : Int) = j := h3.symm
          simp [h1i, h2i, h3]
          omega
        · have h3' : ¬ (-1 : Int) = j := fun z => h3 z.symm
          simp [h1, h1i, h2i, h3, h3']
      · have h2i : ¬ ((N : Int) - 1 = r) := by omega
        simp [h1, h1i, h2, h2i]
  unfold m__law_is_false
  rw [e_Seq, s1, s_bind_next]
  simp [hin]
/-- there is a false paper -/
theorem isF_of_dvd (hN : 3 ≤ N) {d : Nat} (hd : d ∣ N) (h1 : d ≠ 1) : isF d N = true := by
  have hpow : d ∣ d ^ (N / 2) % N := by
    have hk : 1 ≤ N / 2 := by omega
    have h2 : d ∣ d ^ (N / 2) := Nat.dvd_trans (by rw [Nat.pow_one]; exact Nat.dvd_refl d) (Nat.pow_dvd_pow d hk)
    exact (Nat.dvd_mod_iff hd).mpr h2
  unfold isF
  dsimp only
  have n1 : d ^ (N / 2) % N ≠ 1 := fun z => by
    rw [z] at hpow
    exact h1 (Nat.dvd_one.mp hpow)
  have n2 : d ^ (N / 2) % N ≠ N - 1 := fun z => by
    rw [z] at hpow
    have h3 := Nat.dvd_sub hd hpow
    have h4 : N - (N - 1) = 1 := by omega
    rw [h4] at h3
    exact h1 (Nat.dvd_one.mp h3)
  rw [if_neg n1]
  simp [n2]
theorem exF (hN : 5 ≤ N) (h : ipa N = false) : ∃ b, 2 ≤ b ∧ b < N ∧ isF b N = true := by
  by_cases hp : Nt.Prime N
  · have hP := pb_end (N := N) (by omega)
    obtain ⟨⟨p1, p2, p3⟩, p4⟩ := hP
    unfold ipa at h
    have h3 : ¬ N = 3 := by omega
    have hsq : isSq N = false := by
      cases q : isSq N with
      | false => rfl
      | true =>
        exfalso
        obtain ⟨r, hr⟩ := isSq_imp q
        rcases hp.2 r ⟨r, hr.symm⟩ with z | z
        · rw [z] at hr; omega
        · rw [z] at hr
          have : N * 1 < N * N := Nat.mul_lt_mul_of_pos_left (by omega) (by omega)
          omega
    have hne : pbF N ^ (N / 2) % N ≠ N - 1 := by
      simp [h3, hsq] at h
      exact h
    by_cases hlt : pbF N < N
    · refine ⟨pbF N, p1, hlt, ?_⟩
      unfold isF
      dsimp only
      split
      · simp [p4]
      · simp [hne]
    · have he : pbF N = N := by omega
      obtain ⟨c, c1, c2, c3⟩ := Nt.exists_ne_one (k := N / 2) hp (by omega) (by omega)
      refine ⟨c, c1, c2, ?_⟩
      have hj : jac c N = 1 := p3 c c1 (by omega)
      unfold isF
      dsimp only
      rw [if_neg c3, hj]
      simp
  · have : ∃ d, d ∣ N ∧ d ≠ 1 ∧ d ≠ N := by
      apply Classical.byContradiction
      intro hno
      refine hp ⟨by omega, fun d hd => ?_⟩
      apply Classical.byContradiction
      intro q
      exact hno ⟨d, hd, fun z => q (.inl z), fun z => q (.inr z)⟩
    obtain ⟨d, hd, d1, d2⟩ := this
    have hle := Nat.le_of_dvd (by omega) hd
    have h0 : d ≠ 0 := fun z => by rw [z] at hd; have := Nat.eq_zero_of_zero_dvd hd; omega
    exact ⟨d, by omega, by omega, isF_of_dvd (by omega) hd d1⟩
end
/-! shapes -/
def GREATn : Nat := 10000000000000000000000000000000000000000
structure Shp (f p : Nat) : Prop where
  f1 : 1 ≤ f
  fo : f % 2 = 1
  p1 : 1 ≤ p
  p2 : p ≤ 132
  lt : f < 2 ^ p
  le : f * 2 ^ p + 1 ≤ GREATn
theorem pow132 {p : Nat} (h : p ≤ 132) : 2 ^ p ≤ 2 ^ 132 := Nat.pow_le_pow_right (by decide) h
section
variable {f p N b : Nat} {st : Store}
theorem whole_ok {x lo hi : Int} : F_is_whole [.int x, .int lo, .int hi] st = .ok (.bl (decide (lo ≤ x) && decide (x ≤ hi))) .s st := by
  have e : F_is_integer [.int x] st = .ok (.bl true) .s st := by
    unfold F_is_integer
    rw [fun_eq (show [D.int x].length = 1 from rfl)]
    simp [m_is_integer, startE, dIsI, D.ty]
  unfold F_is_whole
  rw [fun_eq (show [D.int x, D.int lo, D.int hi].length = 3 from rfl)]
  by_cases h1 : lo ≤ x <;> simp [m_is_whole, startE, e, h1]
theorem whole_true {x lo hi : Int} (h1 : lo ≤ x) (h2 : x ≤ hi) : F_is_whole [.int x, .int lo, .int hi] st = .ok (.bl true) .s st := by
  rw [whole_ok, decide_eq_true h1, decide_eq_true h2]; rfl
theorem whole_false {x lo hi : Int} (h2 : ¬ x ≤ hi) : F_is_whole [.int x, .int lo, .int hi] st = .ok (.bl false) .s st := by
  rw [whole_ok, decide_eq_false h2, Bool.and_false]
theorem t_a1 (p2 : p ≤ 132) : F_above_in [.int 1, .int p] st = .ok (.int ((2 ^ p + 1 : Nat) : Int)) .s st := by
  have hpw := pow132 p2
  have := above_ok (f := 1) (p := p) (st := st) (by rw [Nat.one_mul]; exact Nat.lt_of_le_of_lt hpw (by decide)) (by omega)
  rw [Nat.one_mul] at this
  exact this
theorem t_w1 (f1 : 1 ≤ f) : F_is_whole [.int f, .int 1, .int 10000000000000000000000000000000000000000] st = .ok (.bl (decide (f ≤ GREATn))) .s st := by
  have hG : (10000000000000000000000000000000000000000 : Int) = (GREATn : Nat) := rfl
  rw [hG]
  by_cases c : f ≤ GREATn
  · rw [whole_true (by omega) (by omega), decide_eq_true c]
  · rw [whole_false (by omega), decide_eq_false c]
theorem t_main {Fw Fa : Fn} {F T G : Nat} (w1 : Fw [.int f, .int 1, .int G] st = .ok (.bl (decide (f ≤ G))) .s st) (w2 : Fw [.int p, .int 1, .int 132] st = .ok (.bl true) .s st)
  (a1 : Fa [.int 1, .int p] st = .ok (.int ((T + 1 : Nat) : Int)) .s st) (a2 : Fa [.int f, .int p] st = .ok (.int ((F + 1 : Nat) : Int)) .s st) (fi : ¬ (f : Int) % 2 = 0) (hfl : f ≤ F) :
  endF (mSeq (mIfS (mOr (mNot (mCall Fw (aCons (mV 0) (aCons (mC (.int 1)) (aCons (mC (.int G)) aNil))))) (mOr (mOp2 dEq (mOp2 dMod (mV 0) (mC (.int 2))) (mC (.int 0))) (mNot (mCall Fw (aCons (mV 1) (aCons (mC (.int 1)) (aCons (mC (.int (132))) aNil))))))) (mRet (mC (.bl false))) mSkip)
    (mRet (mAnd (mOp2 dGt (mOp2 dSub (mCall Fa (aCons (mC (.int 1)) (aCons (mV 1) aNil))) (mC (.int 1))) (mV 0)) (mOp2 dLe (mCall Fa (aCons (mV 0) (aCons (mV 1) aNil))) (mC (.int G))))) [.val (.int f), .val (.int p)] st) = .ok (.bl (decide (f < T) && decide (F + 1 ≤ G))) .s st := by
  by_cases c0 : f ≤ G
  · by_cases c1 : f < T
    · have c1i : (f : Int) < ((T + 1 : Nat) : Int) - 1 := by omega
      have ce : ((F + 1 : Nat) : Int) ≤ (G : Int) ↔ F + 1 ≤ G := by omega
      generalize ((T + 1 : Nat) : Int) = T1 at a1 c1i
      generalize ((F + 1 : Nat) : Int) = F1 at a2 ce
      simp [w1, w2, c0, dMod_s, fi, a1, a2, c1i, c1, ce]
    · have c1i : ¬ (f : Int) < ((T + 1 : Nat) : Int) - 1 := by omega
      generalize ((T + 1 : Nat) : Int) = T1 at a1 c1i
      simp [w1, w2, c0, dMod_s, fi, a1, a2, c1i, c1]
  · have hno : ¬ F + 1 ≤ G := by omega
    simp [w1, c0, hno]
theorem fits_ok (f1 : 1 ≤ f) (fo : f % 2 = 1) (p1 : 1 ≤ p) (p2 : p ≤ 132) (h : f * 2 ^ p < 2 ^ 199) : F_fits_two_shape [.int f, .int p] st = .ok (.bl (decide (f < 2 ^ p) && decide (f * 2 ^ p + 1 ≤ GREATn))) .s st := by
  have hpos : 0 < 2 ^ p := Nat.two_pow_pos p
  have w2 : F_is_whole [.int p, .int 1, .int 132] st = .ok (.bl true) .s st := whole_true (by omega) (by omega)
  unfold F_fits_two_shape
  rw [fun_eq (show [D.int f, D.int p].length = 2 from rfl)]
  exact t_main (t_w1 f1) w2 (t_a1 p2) (above_ok h (by omega)) (by omega) (Nat.le_mul_of_pos_right f hpos)
theorem Shp.big (h : Shp f p) : f * 2 ^ p < 2 ^ 197 := by
  have := h.le
  have g : GREATn < 2 ^ 197 := by decide
  omega
theorem need_ok (h : Shp f p) : F_need_two_shape [.int f, .int p] st = .ok .non .s st := by
  have e := fits_ok (st := st) h.f1 h.fo h.p1 h.p2 (Nat.lt_trans h.big (by decide))
  rw [decide_eq_true h.lt, decide_eq_true h.le] at e
  unfold F_need_two_shape m_need_two_shape
  rw [fun_eq (show [D.int f, D.int p].length = 2 from rfl)]
  simp [startE, e]
end
end Lw

set_option maxRecDepth 100000
namespace Lw
open PySem PySem.Spec L2 Mi
open PyProof.Rows hiding St
theorem roll_eq : F__law_roll = rollF := rfl
theorem cup_eq : F__law_cup = cupF := rfl
theorem sort_eq : F__law_sort = sortF := rfl
theorem like_eqR : ∀ k, R__law_like k = likeR k
  | 0 => rfl
  | k + 1 => by
    show mFun 2 5 (m__law_like (R__law_like k)) = mFun 2 5 (likeM (likeR k))
    rw [like_eqR k]
    rfl
theorem like_ok (d : D) (st : Store) (h : d.able 5 = true) : F__law_like [d, d] st = .ok (.bl true) .s st := by
  show R__law_like 6 [d, d] st = _
  rw [like_eqR]
  exact like_refl 5 d st h
section
variable {f p N : Nat} {st : Store}
def isI : D → Bool
  | .int _ => true
  | _ => false
theorem integer_ok {v : D} (h : v.able 5 = true) : F_is_integer [v] st = .ok (.bl (isI v)) .s st := by
  unfold F_is_integer
  rw [fun_eq (show [v].length = 1 from rfl)]
  cases v <;> first | (simp [D.able] at h; done) | simp [m_is_integer, startE, dIsI, D.ty, isI]
def good (v : D) (N : Nat) : Bool := match v with
  | .int x => decide (2 ≤ x) && (decide (x < N) && isF x.toNat N)
  | _ => false
theorem base_ok {v : D} (h : v.able 5 = true) : F_is_base_to [v, .int N] st = .ok (.bl (match v with | .int x => decide (2 ≤ x) && decide (x < N) | _ => false)) .s st := by
  have e := integer_ok (st := st) h
  unfold F_is_base_to m_is_base_to
  rw [fun_eq (show [v, D.int N].length = 2 from rfl)]
  generalize F_is_integer = Fi at e ⊢
  cases v with
  | int x => by_cases h1 : 2 ≤ x <;> simp [startE, e, isI, h1]
  | _ => first | (simp [D.able] at h; done) | simp [startE, e, isI]
theorem t_pre (h : Shp f p) : ∃ N : Nat, N = f * 2 ^ p + 1 ∧ 3 ≤ N ∧ N % 2 = 1 ∧ N < 2 ^ 198 ∧ (∀ st, F_need_two_shape [.int f, .int p] st = .ok .non .s st) ∧ (∀ st, F_above_in [.int f, .int p] st = .ok (.int (N : Nat)) .s st) ∧ (∀ st, F_is_prime_above [.int N] st = .ok (.bl (ipa N)) .s st) ∧ (∀ (b : Nat) st, F_is_false_in [.int b, .int N] st = .ok (.bl (isF b N)) .s st) ∧ (∀ st, F__law_above [.int f, .int p] st = .ok (.int (N : Nat)) .s st) ∧ (∀ (b : Nat) st, F__law_is_false [.int b, .int N] st = .ok (.bl (isF b N)) .s st) := by
  have hb := h.big
  have ho : (f * 2 ^ p) % 2 = 0 := by
    obtain ⟨k, hk⟩ : ∃ k, p = k + 1 := ⟨p - 1, by have := h.p1; omega⟩
    rw [hk, Nat.pow_succ, ← Nat.mul_assoc]
    exact Nat.mul_mod_left _ _
  have hN2 : 3 ≤ f * 2 ^ p + 1 := by
    have := Nat.mul_pos h.f1 (Nat.two_pow_pos p)
    omega
  have hN : f * 2 ^ p + 1 < 2 ^ 198 := by omega
  have hod : (f * 2 ^ p + 1) % 2 = 1 := by omega
  exact ⟨_, rfl, hN2, hod, hN, fun st => need_ok h, fun st => above_ok (Nat.lt_trans hb (by decide)) (by have := h.p2; omega), fun st => ipa_ok (by omega) hN, fun b st => isF_ok (by omega) hN, fun st => law_above_ok (Nat.lt_trans hb (by decide)) (by have := h.p2; omega), fun b st => law_isF_ok hN2 hod hN⟩
theorem t_isfalse {G1 Fa Fb Ff : Mi.Fn} {v : D} (hv : v.able 5 = true) (e1 : G1 [.int f, .int p] st = .ok .non .s st) (e2 : Fa [.int f, .int p] st = .ok (.int N) .s st) (e3 : Fb [v, .int N] st = .ok (.bl (match v with | .int x => decide (2 ≤ x) && decide (x < N) | _ => false)) .s st) (e4 : ∀ b : Nat, Ff [.int b, .int N] st = .ok (.bl (isF b N)) .s st) :
  mFun 3 4 (mSeq (mExpr (mCall G1 (aCons (mV 0) (aCons (mV 1) aNil))))
    (mSeq (mSet 3 (mCall Fa (aCons (mV 0) (aCons (mV 1) aNil))))
    (mRet (mAnd (mCall Fb (aCons (mV 2) (aCons (mV 3) aNil))) (mCall Ff (aCons (mV 2) (aCons (mV 3) aNil))))))) [.int f, .int p, v] st = .ok (.bl (good v N)) .s st := by
  rw [fun_eq (show [D.int f, D.int p, v].length = 3 from rfl)]
  cases v with
  | int x =>
    unfold good
    by_cases h1 : 2 ≤ x
    · by_cases h2 : x < N
      · have hx : x = ((x.toNat : Nat) : Int) := by omega
        have e5 := e4 x.toNat
        rw [← hx] at e5
        simp [startE, e1, e2, e3, h1, h2, e5]
      · simp [startE, e1, e2, e3, h1, h2]
    · simp [startE, e1, e2, e3, h1]
  | _ => first | (simp [D.able] at hv; done) | simp [startE, e1, e2, e3, good]
theorem is_false_ok {v : D} (hv : v.able 5 = true) (e1 : F_need_two_shape [.int f, .int p] st = .ok .non .s st) (e2 : F_above_in [.int f, .int p] st = .ok (.int N) .s st) (e4 : ∀ b : Nat, F_is_false_in [.int b, .int N] st = .ok (.bl (isF b N)) .s st) : F_is_false_paper [.int f, .int p, v] st = .ok (.bl (good v N)) .s st := t_isfalse hv e1 e2 (base_ok hv) e4
theorem t_shape {G1 Fa Fb : Mi.Fn} {v : Bool} (e1 : G1 [.int f, .int p] st = .ok .non .s st) (e2 : Fa [.int f, .int p] st = .ok (.int N) .s st) (e3 : Fb [.int N] st = .ok (.bl v) .s st) :
  mFun 2 2 (mSeq (mExpr (mCall G1 (aCons (mV 0) (aCons (mV 1) aNil))))
    (mRet (mCall Fb (aCons (mCall Fa (aCons (mV 0) (aCons (mV 1) aNil))) aNil)))) [.int f, .int p] st = .ok (.bl v) .s st := by
  rw [fun_eq (show [D.int f, D.int p].length = 2 from rfl)]
  simp [startE, e1, e2, e3]
theorem shape_prime_ok {v : Bool} (e1 : F_need_two_shape [.int f, .int p] st = .ok .non .s st) (e2 : F_above_in [.int f, .int p] st = .ok (.int N) .s st) (e3 : F_is_prime_above [.int N] st = .ok (.bl v) .s st) : F_is_shape_prime [.int f, .int p] st = .ok (.bl v) .s st := t_shape e1 e2 e3
theorem t_none {G1 Fa Fb : Mi.Fn} (e1 : G1 [.int f, .int p] st = .ok .non .s st) (e2 : Fa [.int f, .int p] st = .ok (.int N) .s st) (e3 : Fb [.int N] st = .ok (.bl true) .s st) {w : MS} :
  mFun 2 4 (mSeq (mExpr (mCall G1 (aCons (mV 0) (aCons (mV 1) aNil))))
    (mSeq (mPar [2, 3] (kCons (mCall Fa (aCons (mV 0) (aCons (mV 1) aNil))) (kCons (mC (.int 2)) kNil)))
    (mSeq (mIfS (mCall Fb (aCons (mV 2) aNil)) (mRet (mC .non)) mSkip) w))) [.int f, .int p] st = .ok .non .s st := by
  rw [fun_eq (show [D.int f, D.int p].length = 2 from rfl)]
  simp [startE, e1, mPar, kCons, kNil, setAll, e2, e3]
theorem false_paper_none (e1 : F_need_two_shape [.int f, .int p] st = .ok .non .s st) (e2 : F_above_in [.int f, .int p] st = .ok (.int N) .s st) (e3 : F_is_prime_above [.int N] st = .ok (.bl true) .s st) : F_false_paper [.int f, .int p] st = .ok .non .s st := t_none e1 e2 e3
theorem t_some {G1 Fa Fb Ff : Mi.Fn} {b0 : Nat} (c1 : 2 ≤ b0) (c2 : b0 < 2 ^ 198) (c3 : isF b0 N = true) (hnext : ∀ s, (2 ≤ s ∧ s ≤ b0) → (!isF s N) = true → (2 ≤ s + 1 ∧ s + 1 ≤ b0) ∧ b0 - (s + 1) < b0 - s)
  (e1 : G1 [.int f, .int p] st = .ok .non .s st) (e2 : Fa [.int f, .int p] st = .ok (.int N) .s st) (e3 : Fb [.int N] st = .ok (.bl false) .s st) (e4 : ∀ b : Nat, Ff [.int b, .int N] st = .ok (.bl (isF b N)) .s st) :
  mFun 2 4 (mSeq (mExpr (mCall G1 (aCons (mV 0) (aCons (mV 1) aNil))))
    (mSeq (mPar [2, 3] (kCons (mCall Fa (aCons (mV 0) (aCons (mV 1) aNil))) (kCons (mC (.int 2)) kNil)))
    (mSeq (mIfS (mCall Fb (aCons (mV 2) aNil)) (mRet (mC .non)) mSkip)
    (mSeq (mWhile (mNot (mCall Ff (aCons (mV 3) (aCons (mV 2) aNil)))) (mSet 3 (mOp2 dAdd (mV 3) (mC (.int 1)))))
    (mRetV 3))))) [.int f, .int p] st = .ok (.int (loopS (fun s => !isF s N) (fun s => s + 1) (b0 - 2) 2 : Nat)) .s st := by
  have W := while_loop (S := Nat) (mc := mNot (mCall Ff (aCons (mV 3) (aCons (mV 2) aNil)))) (body := mSet 3 (mOp2 dAdd (mV 3) (mC (.int 1)))) (st := st)
    (fun s => [.val (.int f), .val (.int p), .val (.int N), .val (.int s)]) (fun s => !isF s N) (fun s => s + 1) (fun s => b0 - s) (fun s => 2 ≤ s ∧ s ≤ b0)
    (fun s hs => ⟨.bl (!isF s N), .s, by simp [e4], rfl⟩)
    (fun s hs c => ⟨by simp, hnext s hs c⟩)
    2 ⟨by omega, c1⟩ (BIG_gt (by omega))
  rw [fun_eq (show [D.int f, D.int p].length = 2 from rfl)]
  have s1 : mPar [2, 3] (kCons (mCall Fa (aCons (mV 0) (aCons (mV 1) aNil))) (kCons (mC (.int 2)) kNil)) (startE [.int f, .int p] 2) st = .next [.val (.int f), .val (.int p), .val (.int N), .val (.int ((2 : Nat) : Int))] st := by
    simp [mPar, kCons, kNil, setAll, startE, e2]
  have s0 : mExpr (mCall G1 (aCons (mV 0) (aCons (mV 1) aNil))) (startE [.int f, .int p] 2) st = .next (startE [.int f, .int p] 2) st := by
    simp [startE, e1]
  have s2 : mIfS (mCall Fb (aCons (mV 2) aNil)) (mRet (mC .non)) mSkip [.val (.int f), .val (.int p), .val (.int N), .val (.int ((2 : Nat) : Int))] st = .next [.val (.int f), .val (.int p), .val (.int N), .val (.int ((2 : Nat) : Int))] st := by
    simp [e3]
  rw [e_Seq, show (4 - 2) = 2 from rfl, s0, s_bind_next, e_Seq, s1, s_bind_next, e_Seq, s2, s_bind_next, e_Seq, W, s_bind_next]
  rfl
theorem false_paper_some (hN : 5 ≤ N) (hN2 : N < 2 ^ 198) (hi : ipa N = false) (e1 : ∀ st, F_need_two_shape [.int f, .int p] st = .ok .non .s st) (e2 : ∀ st, F_above_in [.int f, .int p] st = .ok (.int N) .s st) (e3 : ∀ st, F_is_prime_above [.int N] st = .ok (.bl false) .s st) (e4 : ∀ (b : Nat) st, F_is_false_in [.int b, .int N] st = .ok (.bl (isF b N)) .s st) :
  ∃ b : Nat, 2 ≤ b ∧ b < N ∧ isF b N = true ∧ ∀ st, F_false_paper [.int f, .int p] st = .ok (.int b) .s st := by
  obtain ⟨b0, c1, c2, c3⟩ := exF hN hi
  have hnext : ∀ s, (2 ≤ s ∧ s ≤ b0) → (!isF s N) = true → (2 ≤ s + 1 ∧ s + 1 ≤ b0) ∧ b0 - (s + 1) < b0 - s := fun s hs hc => by
    have : s ≠ b0 := fun z => by rw [z, c3] at hc; cases hc
    omega
  obtain ⟨d1, d2⟩ := loopS_inv (cond := fun s => !isF s N) (step := fun s => s + 1) (fun s => b0 - s) (fun s => 2 ≤ s ∧ s ≤ b0) hnext (b0 - 2) 2 ⟨by omega, c1⟩ (by omega)
  exact ⟨loopS (fun s => !isF s N) (fun s => s + 1) (b0 - 2) 2, d1.1, by omega, by simpa using d2, fun st => t_some c1 (by omega) c3 hnext (e1 st) (e2 st) (e3 st) fun b => e4 b st⟩
end
end Lw

set_option maxRecDepth 100000
namespace Lw
open PySem PySem.Spec L2 Mi
open PyProof.Rows hiding St
theorem end_next {a b : MS} {ρ ρ' : Mi.Env} {st st' : Store} {R : ER} (h : a ρ st = .next ρ' st') (h2 : endF (b ρ' st') = R) : endF (mSeq a b ρ st) = R := by
  rw [e_Seq, h, s_bind_next, h2]
section
variable {f p N : Nat} {c0 c1 : Int}
theorem t_one {G__law_is_false G__law_like G_is_false_paper : Mi.Fn} {S P g : Slot} {v : D} {st : Store} (hv : v.able 5 = true)
  (e1 : ∀ b : Nat, G__law_is_false [.int b, .int N] st = .ok (.bl (isF b N)) .s st) (e2 : G_is_false_paper [.int f, .int p, v] st = .ok (.bl (good v N)) .s st) (e3 : ∀ b, G__law_like [.bl b, .bl b] st = .ok (.bl true) .s st) :
  ((mSeq (mSet 7 (mAnd (mOp2 dEq (mCall F__law_sort (aCons (mV 4) aNil)) (mC (.int 2))) (mAnd (mChain dLe dLt (mC (.int 2)) (mV 4) (mV 5)) (mCall G__law_is_false (aCons (mV 4) (aCons (mV 5) aNil))))))
    (mIfS (mNot (mCall G__law_like (aCons (mCall G_is_false_paper (aCons (mV 1) (aCons (mV 2) (aCons (mV 4) aNil)))) (aCons (mV 7) aNil)))) (mRet (mC (.bl false))) mSkip))) [.val (.cell 0), .val (.int f), .val (.int p), S, .val v, .val (.int N), P, g] st = .next [.val (.cell 0), .val (.int f), .val (.int p), S, .val v, .val (.int N), P, .val (.bl (good v N))] st := by
  have hs := sort_ok (st := st) hv
  rw [← sort_eq] at hs
  cases v with
  | int x =>
    unfold good at e2 ⊢
    have h2 : (D.int x).sortI = 2 := rfl
    rw [h2] at hs
    by_cases h1 : 2 ≤ x
    · by_cases h2 : x < N
      · have hx : x = ((x.toNat : Nat) : Int) := by omega
        have e5 := e1 x.toNat
        rw [← hx] at e5
        simp [hs, h1, h2] at e2
        simp [hs, e2, e3, h1, h2, e5]
      · simp [hs, h1, h2] at e2
        simp [hs, e2, e3, h1, h2]
    · simp [hs, h1] at e2
      simp [hs, e2, e3, h1]
  | _ => first | (simp [D.able] at hv; done) | (simp only [D.sortI] at hs; simp [good] at e2; simp [hs, e2, e3, good])

end
end Lw

set_option maxRecDepth 100000
namespace Lw
open PySem PySem.Spec L2 Mi
open PyProof.Rows hiding St
section
variable {f p N : Nat} {c0 c1 : Int}
theorem t_loop {G__law_is_false G__law_like G_is_false_paper : Mi.Fn} {S P : Slot} {st : Store}
  (e1 : ∀ (b : Nat) st, G__law_is_false [.int b, .int N] st = .ok (.bl (isF b N)) .s st) (e2 : ∀ v st, v.able 5 = true → G_is_false_paper [.int f, .int p, v] st = .ok (.bl (good v N)) .s st) (e3 : ∀ b st, G__law_like [.bl b, .bl b] st = .ok (.bl true) .s st) (ds : List D) (hds : ∀ d ∈ ds, d.able 5 = true) :
  ∃ a g, forL (gN 4) ((mSeq (mSet 7 (mAnd (mOp2 dEq (mCall F__law_sort (aCons (mV 4) aNil)) (mC (.int 2))) (mAnd (mChain dLe dLt (mC (.int 2)) (mV 4) (mV 5)) (mCall G__law_is_false (aCons (mV 4) (aCons (mV 5) aNil))))))
    (mIfS (mNot (mCall G__law_like (aCons (mCall G_is_false_paper (aCons (mV 1) (aCons (mV 2) (aCons (mV 4) aNil)))) (aCons (mV 7) aNil)))) (mRet (mC (.bl false))) mSkip))) ds [.val (.cell 0), .val (.int f), .val (.int p), S, .no, .val (.int N), P, .no] st = .next [.val (.cell 0), .val (.int f), .val (.int p), S, a, .val (.int N), P, g] st := by
  obtain ⟨t', h, _⟩ := for_fold (S := Slot) (i := 4) (body := (mSeq (mSet 7 (mAnd (mOp2 dEq (mCall F__law_sort (aCons (mV 4) aNil)) (mC (.int 2))) (mAnd (mChain dLe dLt (mC (.int 2)) (mV 4) (mV 5)) (mCall G__law_is_false (aCons (mV 4) (aCons (mV 5) aNil))))))
    (mIfS (mNot (mCall G__law_like (aCons (mCall G_is_false_paper (aCons (mV 1) (aCons (mV 2) (aCons (mV 4) aNil)))) (aCons (mV 7) aNil)))) (mRet (mC (.bl false))) mSkip))) (st := st) (fun g t => [.val (.cell 0), .val (.int f), .val (.int p), S, t, .val (.int N), P, g]) (fun d _ => .val (.bl (good d N))) (fun _ => True) ds .no .no (fun _ _ _ => rfl) (fun g d _ hd => ⟨t_one (hds d hd) (fun b => e1 b st) (e2 d st (hds d hd)) fun b => e3 b st, trivial⟩) trivial
  exact ⟨_, _, h⟩
theorem t_right {G__law_above G__law_is_false G__law_like G_false_paper G_is_false_paper G_is_shape_prime : Mi.Fn} {P : D} {v : Bool} (h3 : 3 ≤ N) (hP : (P = .non ∧ v = true) ∨ ∃ b : Nat, P = .int b ∧ v = false ∧ 2 ≤ b ∧ b < N ∧ isF b N = true) (c : Cup c0 c1)
  (ea : ∀ st, G__law_above [.int f, .int p] st = .ok (.int N) .s st) (ef : ∀ st, G_false_paper [.int f, .int p] st = .ok P .s st) (es : ∀ st, G_is_shape_prime [.int f, .int p] st = .ok (.bl v) .s st)
  (e1 : ∀ (b : Nat) st, G__law_is_false [.int b, .int N] st = .ok (.bl (isF b N)) .s st) (e2 : ∀ v st, v.able 5 = true → G_is_false_paper [.int f, .int p, v] st = .ok (.bl (good v N)) .s st) (e3 : ∀ b st, G__law_like [.bl b, .bl b] st = .ok (.bl true) .s st) :
  ∃ d0 d1, Cup d0 d1 ∧ mFun 3 8 ((mSeq (mPar [5, 6] (kCons (mCall G__law_above (aCons (mV 1) (aCons (mV 2) aNil))) (kCons (mCall G_false_paper (aCons (mV 1) (aCons (mV 2) aNil))) kNil)))
    (mSeq (mIfS (mOp2 dNe (mOp2 dIsN (mV 6) (mC .non)) (mCall G_is_shape_prime (aCons (mV 1) (aCons (mV 2) aNil)))) (mRet (mC (.bl false))) mSkip)
    (mSeq (mIfS (mAnd (mOp2 dNotN (mV 6) (mC .non)) (mOr (mOp2 dNe (mCall F__law_sort (aCons (mV 6) aNil)) (mC (.int 2))) (mOr (mNot (mChain dLe dLt (mC (.int 2)) (mV 6) (mV 5))) (mNot (mCall G__law_is_false (aCons (mV 6) (aCons (mV 5) aNil))))))) (mRet (mC (.bl false))) mSkip)
    (mSeq (mSet 3 (mIf (mOp2 dNotN (mV 6) (mC .non)) (mV 6) (mC (.int 2))))
    (mSeq (mFor (iSeq (mTup (aCons (mV 3) (aCons (mOp2 dAdd (mV 3) (mC (.int 1))) (aCons (mOp2 dSub (mV 5) (mV 3)) (aCons (mOp2 dAdd (mV 5) (mV 3)) (aCons (mOp2 dSub (mV 5) (mC (.int 1))) (aCons (mV 5) (aCons (mC (.int 1)) (aCons (mC (.int 0)) (aCons (mOp1 dNeg (mC (.int 2))) (aCons (mC .non) (aCons (mC (.bl true)) (aCons (mC (.str "2")) (aCons (mTup (aCons (mV 3) aNil)) (aCons (mOp2 dAdd (mC (.int 2)) (mCall F__law_roll (aCons (mV 0) (aCons (mOp2 dPow (mC (.int 10)) (mC (.int 6))) aNil)))) aNil)))))))))))))))) (gN 4) (mSeq (mSet 7 (mAnd (mOp2 dEq (mCall F__law_sort (aCons (mV 4) aNil)) (mC (.int 2))) (mAnd (mChain dLe dLt (mC (.int 2)) (mV 4) (mV 5)) (mCall G__law_is_false (aCons (mV 4) (aCons (mV 5) aNil))))))
    (mIfS (mNot (mCall G__law_like (aCons (mCall G_is_false_paper (aCons (mV 1) (aCons (mV 2) (aCons (mV 4) aNil)))) (aCons (mV 7) aNil)))) (mRet (mC (.bl false))) mSkip)))
    (mRet (mC (.bl true))))))))) [.cell 0, .int f, .int p] (cupS c0 c1) = .ok (.bl true) .s (cupS d0 d1) := by
  obtain ⟨r, d0, d1, r0, r1, cd, er⟩ := roll_ok c (m := 1000000) (by decide) (by decide +kernel)
  refine ⟨d0, d1, cd, ?_⟩
  rw [fun_eq (show [D.cell 0, D.int f, D.int p].length = 3 from rfl)]
  obtain ⟨s, hs1, hs2⟩ : ∃ s : Nat, (if v = true then D.int 2 else P) = .int s ∧ True := by
    rcases hP with ⟨rfl, rfl⟩ | ⟨b, rfl, rfl, h⟩
    · exact ⟨2, rfl, trivial⟩
    · exact ⟨b, rfl, trivial⟩
  refine end_next (ρ' := [.val (.cell 0), .val (.int f), .val (.int p), .no, .no, .val (.int N), .val P, .no]) (st' := cupS c0 c1) (by simp [startE, mPar, kCons, kNil, setAll, ea, ef]) ?_
  refine end_next (ρ' := [.val (.cell 0), .val (.int f), .val (.int p), .no, .no, .val (.int N), .val P, .no]) (st' := cupS c0 c1) ?_ ?_
  · rcases hP with ⟨rfl, rfl⟩ | ⟨b, rfl, rfl, h⟩
    · simp [dIsN, es, dNe, D.flat, D.eqd]
    · simp [dIsN, es, dNe, D.flat, D.eqd]
  refine end_next (ρ' := [.val (.cell 0), .val (.int f), .val (.int p), .no, .no, .val (.int N), .val P, .no]) (st' := cupS c0 c1) ?_ ?_
  · rcases hP with ⟨rfl, rfl⟩ | ⟨b, rfl, rfl, h1, h2, h3⟩
    · simp [dNotN]
    · have hs := sort_ok (d := .int b) (n := 5) (st := cupS c0 c1) rfl
      rw [← sort_eq] at hs
      have h1i : (2 : Int) ≤ b := by omega
      simp [dNotN, hs, D.sortI, h1, h1i, h2, h3, e1]
  refine end_next (ρ' := [.val (.cell 0), .val (.int f), .val (.int p), .val (.int s), .no, .val (.int N), .val P, .no]) (st' := cupS c0 c1) ?_ ?_
  · rcases hP with ⟨rfl, rfl⟩ | ⟨b, rfl, rfl, h⟩
    · simp only [if_true] at hs1
      simp [dNotN, hs1]
    · have : (s : Int) = b := by injection hs1 with z; exact z.symm
      simp [dNotN, this]
  obtain ⟨a, g, hl⟩ := t_loop (S := .val (.int s)) (P := .val P) (st := cupS d0 d1) (f := f) (p := p) e1 e2 e3 [.int s, .int ((s : Int) + 1), .int ((N : Int) - s), .int ((N : Int) + s), .int ((N : Int) - 1), .int N, .int 1, .int 0, .int (-2), .non, .bl true, .str "2", .tup [.int s], .int (2 + r)] (by
    intro d hd
    simp only [List.mem_cons, List.not_mem_nil, or_false] at hd
    rcases hd with rfl | rfl | rfl | rfl | rfl | rfl | rfl | rfl | rfl | rfl | rfl | rfl | rfl | rfl <;> first | rfl | decide +kernel)
  refine end_next (ρ' := [.val (.cell 0), .val (.int f), .val (.int p), .val (.int s), a, .val (.int N), .val P, g]) (st' := cupS d0 d1) ?_ ?_
  · rw [e_For]
    have hm : dPow (.int 10) (.int 6) = some (.int 1000000) := rfl
    have hr : F__law_roll [.cell 0, .int 1000000] (cupS c0 c1) = .ok (.int r) .s (cupS d0 d1) := er
    simp only [e_iSeq, e_Tup, e_Cons, e_V0, e_Vs, consE_ok, e_Op2, e_C, e_bind_ok, dAdd_int, dSub_int, e_mk_some, kd_int, e_Op1, dNeg_int, e_Nil, consR_s, a_bind_ok, e_Call, hm, hr, List.length_cons, List.length_nil, Nat.reduceAdd, Nat.reduceLeDiff, if_true, seqI_tup, forR_ok]
    exact hl
  · simp
end
end Lw

set_option maxRecDepth 100000
namespace Lw
open PySem PySem.Spec L2 Mi
open PyProof.Rows hiding St
section
variable {f p N : Nat} {c0 c1 : Int}
theorem law_right_ok (h : Shp f p) (c : Cup c0 c1) : ∃ d0 d1, Cup d0 d1 ∧ F__law_right [.cell 0, .int f, .int p] (cupS c0 c1) = .ok (.bl true) .s (cupS d0 d1) := by
  obtain ⟨N, hN, h3, hod, hN2, a1, a2, a3, a4, a5, a6⟩ := t_pre h
  have e2 : ∀ (v : D) st, v.able 5 = true → F_is_false_paper [.int f, .int p, v] st = .ok (.bl (good v N)) .s st := fun v st hv => is_false_ok hv (a1 st) (a2 st) fun b => a4 b st
  have e3 : ∀ b st, F__law_like [.bl b, .bl b] st = .ok (.bl true) .s st := fun b st => like_ok _ st rfl
  have es : ∀ st, F_is_shape_prime [.int f, .int p] st = .ok (.bl (ipa N)) .s st := fun st => shape_prime_ok (a1 st) (a2 st) (a3 st)
  cases hi : ipa N with
  | true =>
    rw [hi] at es a3
    exact t_right h3 (.inl ⟨rfl, rfl⟩) c a5 (fun st => false_paper_none (a1 st) (a2 st) (a3 st)) es a6 e2 e3
  | false =>
    rw [hi] at es a3
    have hN5 : 5 ≤ N := by
      by_cases z : N = 3
      · rw [z] at hi; simp [ipa] at hi
      · omega
    obtain ⟨b, b1, b2, b3, b4⟩ := false_paper_some hN5 hN2 hi a1 a2 a3 a4
    exact t_right h3 (.inr ⟨b, rfl, rfl, b1, b2, b3⟩) c a5 b4 es a6 e2 e3
def wC (T s : Nat) : Bool := decide (T ≤ s)
def wS (s : Nat) : Nat := s / 4 * 2 + 1
theorem w_next {T : Nat} (hT : 2 ≤ T) (s : Nat) (h : s % 2 = 1 ∧ s ≤ 2000000) (c : wC T s = true) : (wS s % 2 = 1 ∧ wS s ≤ 2000000) ∧ wS s < s := by
  have : T ≤ s := of_decide_eq_true c
  unfold wS
  omega
theorem t_draw {G__law_above : Mi.Fn} {most : Nat} (hm : 1 ≤ most) (hm2 : most ≤ 110) (c : Cup c0 c1) (ea : ∀ p : Nat, p ≤ 110 → ∀ st, G__law_above [.int 1, .int p] st = .ok (.int ((2 ^ p + 1 : Nat) : Int)) .s st) :
  ∃ f p d0 d1, 1 ≤ f ∧ f % 2 = 1 ∧ f ≤ 2000000 ∧ 1 ≤ p ∧ p ≤ most ∧ f < 2 ^ p ∧ Cup d0 d1 ∧ mFun 2 4 ((mSeq (mSet 2 (mOp2 dAdd (mC (.int 1)) (mCall F__law_roll (aCons (mV 0) (aCons (mV 1) aNil)))))
    (mSeq (mSet 3 (mOp2 dAdd (mC (.int 1)) (mOp2 dMul (mC (.int 2)) (mCall F__law_roll (aCons (mV 0) (aCons (mB bMin2 (lCons (mOp2 dPow (mC (.int 10)) (mC (.int 6))) (lCons (mOp2 dSub (mCall G__law_above (aCons (mC (.int 1)) (aCons (mV 2) aNil))) (mC (.int 1))) aNil))) aNil))))))
    (mSeq (mWhile (mOp2 dGe (mV 3) (mOp2 dSub (mCall G__law_above (aCons (mC (.int 1)) (aCons (mV 2) aNil))) (mC (.int 1)))) (mSet 3 (mOp2 dAdd (mOp2 dMul (mB bInt (lCons (mOp2 dFdiv (mV 3) (mC (.int 4))) aNil)) (mC (.int 2))) (mC (.int 1)))))
    (mRet (mTup (aCons (mV 3) (aCons (mV 2) aNil)))))))) [.cell 0, .int most] (cupS c0 c1) = .ok (.tup [.int (f : Nat), .int (p : Nat)]) .s (cupS d0 d1) := by
  have lm : ((most : Nat) : Int).natAbs.log2 < 9000 := by
    have := log2_le' (n := most) (k := 6) (by omega)
    simp
    omega
  obtain ⟨r1, b0, b1, r10, r11, cb, er1⟩ := roll_ok c (m := most) (by omega) lm
  obtain ⟨p, hp⟩ : ∃ p : Nat, 1 + r1 = (p : Int) := ⟨(1 + r1).toNat, by omega⟩
  have hT2 : 2 ≤ 2 ^ p := by
    calc 2 = 2 ^ 1 := rfl
      _ ≤ 2 ^ p := Nat.pow_le_pow_right (by decide) (by omega)
  have e1 := ea p (by omega)
  generalize hTT : 2 ^ p = T at e1 hT2
  obtain ⟨m, hm3⟩ : ∃ m : Int, (if ((T + 1 : Nat) : Int) - 1 < 1000000 then ((T + 1 : Nat) : Int) - 1 else 1000000) = m := ⟨_, rfl⟩
  have m0 : 0 < m := by split at hm3 <;> omega
  have m1 : m ≤ 1000000 := by split at hm3 <;> omega
  have lm2 : m.natAbs.log2 < 9000 := by
    have := log2_le' (n := m.natAbs) (k := 19) (by omega)
    omega
  obtain ⟨r2, d0, d1, r20, r21, cd, er2⟩ := roll_ok cb (m := m) m0 lm2
  obtain ⟨f0, hf0⟩ : ∃ f0 : Nat, 1 + 2 * r2 = (f0 : Int) := ⟨(1 + 2 * r2).toNat, by omega⟩
  have W := while_loop (S := Nat) (mc := mOp2 dGe (mV 3) (mOp2 dSub (mCall G__law_above (aCons (mC (.int 1)) (aCons (mV 2) aNil))) (mC (.int 1)))) (body := mSet 3 (mOp2 dAdd (mOp2 dMul (mB bInt (lCons (mOp2 dFdiv (mV 3) (mC (.int 4))) aNil)) (mC (.int 2))) (mC (.int 1)))) (st := cupS d0 d1)
    (fun s => [.val (.cell 0), .val (.int most), .val (.int p), .val (.int s)]) (wC T) wS (fun s => s) (fun s => s % 2 = 1 ∧ s ≤ 2000000)
    (fun s hs => ⟨.bl (decide (((T + 1 : Nat) : Int) - 1 ≤ s)), .s, by simp [e1], by simp only [tru_bl, wC, Option.some.injEq, decide_eq_decide]; omega⟩)
    (fun s hs cc => ⟨by
      have m1 : dMul (.int ((s : Int) / 4)) (.int 2) = some (.int ((s : Int) / 4 * 2)) := dMul_b (by omega) (by decide)
      simp [dFdiv_s, m1, wS], w_next hT2 s hs cc⟩)
    f0 ⟨by omega, by omega⟩ (BIG_gt (by omega))
  obtain ⟨⟨w1, w2⟩, w3⟩ := loopS_inv (cond := wC T) (step := wS) (fun s => s) (fun s => s % 2 = 1 ∧ s ≤ 2000000) (fun s hs cc => w_next hT2 s hs cc) f0 f0 ⟨by omega, by omega⟩ (Nat.le_refl _)
  have w4 : ¬ T ≤ loopS (wC T) wS f0 f0 := of_decide_eq_false w3
  refine ⟨loopS (wC T) wS f0 f0, p, d0, d1, by omega, w1, w2, by omega, by omega, by rw [hTT]; omega, cd, ?_⟩
  rw [fun_eq (show [D.cell 0, D.int most].length = 2 from rfl)]
  refine end_next (ρ' := [.val (.cell 0), .val (.int most), .val (.int p), .no]) (st' := cupS b0 b1) (by simp [startE, roll_eq, er1, hp]) ?_
  refine end_next (ρ' := [.val (.cell 0), .val (.int most), .val (.int p), .val (.int f0)]) (st' := cupS d0 d1) ?_ ?_
  · have hm : dPow (.int 10) (.int 6) = some (.int 1000000) := rfl
    have m2 : dMul (.int 2) (.int r2) = some (.int (2 * r2)) := dMul_b (by decide) (by omega)
    have hr : F__law_roll [.cell 0, .int m] (cupS b0 b1) = .ok (.int r2) .s (cupS d0 d1) := er2
    simp only [e_Set, e_Op2, e_C, e_bind_ok, e_Call, e_Cons, e_V0, e_Vs, consE_ok, e_B, e_lCons, consL_ok, hm, e_mk_some, kd_int, e_Nil, consR_s, a_bind_ok, e1, dSub_int, bMin_int, hm3, hr, m2, dAdd_int, hf0, with_ok, setK_s, List.set]
  refine end_next (st' := cupS d0 d1) W ?_
  simp
theorem shape_draw {most : Nat} (hm : 1 ≤ most) (hm2 : most ≤ 110) (c : Cup c0 c1) : ∃ f p d0 d1, Shp f p ∧ p ≤ most ∧ Cup d0 d1 ∧ F__law_shape [.cell 0, .int most] (cupS c0 c1) = .ok (.tup [.int (f : Nat), .int (p : Nat)]) .s (cupS d0 d1) := by
  have ea : ∀ p : Nat, p ≤ 110 → ∀ st, F__law_above [.int 1, .int p] st = .ok (.int ((2 ^ p + 1 : Nat) : Int)) .s st := fun p hp st => by
    have hpw := pow132 (show p ≤ 132 by omega)
    have := law_above_ok (f := 1) (p := p) (st := st) (by rw [Nat.one_mul]; exact Nat.lt_of_le_of_lt hpw (by decide)) (by omega)
    rw [Nat.one_mul] at this
    exact this
  obtain ⟨f, p, d0, d1, h1, h2, h3, h4, h5, h6, cd, e⟩ := t_draw hm hm2 c ea
  refine ⟨f, p, d0, d1, ⟨h1, h2, h4, by omega, h6, ?_⟩, h5, cd, e⟩
  have q : f * 2 ^ p ≤ 2000000 * 2 ^ 110 := Nat.mul_le_mul h3 (Nat.pow_le_pow_right (by decide) (by omega))
  have g : 2000000 * 2 ^ 110 + 1 ≤ GREATn := by decide
  omega
end
end Lw

set_option maxRecDepth 100000
namespace Lw
open PySem PySem.Spec L2 Mi
open PyProof.Rows hiding St
/-! trial division -/
def lpC (n f : Nat) : Bool := decide (f * f ≤ n)
def lpStop (n f : Nat) : Option D := if n % f = 0 then some (.bl false) else none
def lpL (n : Nat) : Nat → Nat → Bool
  | 0, _ => true
  | k + 1, f => if f * f ≤ n then (if n % f = 0 then false else lpL n k (f + 1)) else true
def lp (n : Nat) : Bool := if n < 2 then false else lpL n n 2
theorem lp_loop {n : Nat} : ∀ k f, (match loopR (lpC n) (lpStop n) (fun f => f + 1) k f with | .inl d => d = .bl false | .inr _ => True) ∧ (lpL n k f = match loopR (lpC n) (lpStop n) (fun f => f + 1) k f with | .inl _ => false | .inr _ => true)
  | 0, f => ⟨trivial, rfl⟩
  | k + 1, f => by
    have ih := lp_loop (n := n) k (f + 1)
    unfold loopR lpL lpC lpStop
    by_cases h1 : f * f ≤ n
    · by_cases h2 : n % f = 0
      · simp [h1, h2]
      · simp only [h1, h2, decide_true, if_true, if_false]
        exact ih
    · simp [h1]
theorem law_prime_ok {n : Nat} {st : Store} (hn : n < 2 ^ 190) : F__law_is_prime [.int n] st = .ok (.bl (lp n)) .s st := by
  unfold F__law_is_prime m__law_is_prime
  rw [fun_eq (show [D.int n].length = 1 from rfl)]
  by_cases h2 : n < 2
  · have h2i : (n : Int) < 2 := by omega
    simp [startE, h2i, lp, h2]
  · have h2i : ¬ (n : Int) < 2 := by omega
    have W := while_ret (S := Nat) (mc := mOp2 dLe (mOp2 dMul (mV 1) (mV 1)) (mV 0)) (body := mSeq (mIfS (mOp2 dEq (mOp2 dMod (mB bInt (lCons (mV 0) aNil)) (mV 1)) (mC (.int 0))) (mRet (mC (.bl false))) mSkip) (mSet 1 (mOp2 dAdd (mV 1) (mC (.int 1))))) (st := st)
      (fun f => [.val (.int n), .val (.int f)]) (lpC n) (lpStop n) (fun f => f + 1) (fun f => n + 1 - f) (fun f => 2 ≤ f ∧ f ≤ n + 1)
      (fun f hf => ⟨.bl (decide ((f : Int) * f ≤ n)), .s, by
        have m1 : dMul (.int f) (.int f) = some (.int (f * f)) := dMul_b (nabs (by omega)) (nabs (by omega))
        simp [m1], by simp only [tru_bl, lpC, Option.some.injEq, decide_eq_decide]; exact_mod_cast Iff.rfl⟩)
      (fun f d hf hc hs => by
        unfold lpStop at hs
        split at hs
        · rename_i h0
          cases hs
          have h0i : (n : Int) % f = 0 := by omega
          have f0 : 0 < f := by omega
          simp [dMod_s, f0, h0i]
        · cases hs)
      (fun f hf hc hs => by
        have hc' : f * f ≤ n := of_decide_eq_true hc
        have h0 : ¬ n % f = 0 := fun z => by unfold lpStop at hs; rw [if_pos z] at hs; cases hs
        have h0i : ¬ (n : Int) % f = 0 := by
          intro z
          apply h0
          exact_mod_cast z
        have f0 : 0 < f := by omega
        have hfn : f ≤ n := Nat.le_trans (Nat.le_mul_of_pos_left f f0) hc'
        refine ⟨by simp [dMod_s, f0, h0i], by omega, by omega⟩)
      n 2 ⟨by omega, by omega⟩ (BIG_gt (by omega)) (by omega)
    have hq := lp_loop (n := n) n 2
    refine end_next (ρ' := startE [.int n] 1) (st' := st) (by simp [startE, h2i]) ?_
    refine end_next (ρ' := [.val (.int n), .val (.int ((2 : Nat) : Int))]) (st' := st) (by simp [startE]) ?_
    rw [e_Seq, W]
    unfold lp
    rw [if_neg h2]
    revert hq
    cases loopR (lpC n) (lpStop n) (fun f => f + 1) n 2 with
    | inl d =>
      rintro ⟨h1, h2⟩
      dsimp only at h1 h2
      rw [h2, h1]
      rfl
    | inr s =>
      rintro ⟨h1, h2⟩
      dsimp only at h2
      rw [h2]
      rfl
/-! prime_fronts -/
def fitD (p : Nat) : D → Bool
  | .int x => decide (x.toNat < 2 ^ p) && decide (x.toNat * 2 ^ p + 1 ≤ GREATn)
  | _ => false
def ipaD (p : Nat) : D → Bool
  | .int x => ipa (x.toNat * 2 ^ p + 1)
  | _ => false
theorem odd_mem {m : Nat} {d : D} (hd : d ∈ rangeC 1 2 (cntC 1 ((m : Int) + 1) 2)) : ∃ f : Nat, d = .int f ∧ 1 ≤ f ∧ f % 2 = 1 ∧ f ≤ m := by
  obtain ⟨j, hj, rfl⟩ := rangeC_mem hd
  rw [cntC_iff (by decide)] at hj
  exact ⟨1 + 2 * j, by congr 1, by omega, by omega, by omega⟩
theorem t_fronts {G1 G2 G3 G4 : Mi.Fn} {p m : Nat} {st : Store} {pr : D → Bool} (hm : m ≤ 1000) (e1 : G1 [.int p, .int 1, .int 120] st = .ok .non .s st) (e2 : G1 [.int m, .int 1, .int 400] st = .ok .non .s st)
  (e3 : ∀ f : Nat, 1 ≤ f → f % 2 = 1 → f ≤ m → G2 [.int f, .int p] st = .ok (.bl (fitD p (.int f))) .s st)
  (e4 : ∀ f : Nat, 1 ≤ f → f % 2 = 1 → f ≤ m → ∃ d, G4 [.int f, .int p] st = .ok d .s st ∧ G3 [d] st = .ok (.bl (pr (.int f))) .s st) :
  mFun 2 4 (mSeq (mExpr (mCall G1 (aCons (mV 0) (aCons (mC (.int 1)) (aCons (mC (.int (120))) aNil)))))
    (mSeq (mExpr (mCall G1 (aCons (mV 1) (aCons (mC (.int 1)) (aCons (mC (.int (400))) aNil)))))
    (mSeq (mSet 2 (mComp [3] (iRange (aCons (mC (.int 1)) (aCons (mOp2 dAdd (mV 1) (mC (.int 1))) (aCons (mC (.int 2)) aNil)))) (gN 3) (some (mCall G2 (aCons (mV 3) (aCons (mV 0) aNil)))) (mV 3)))
    (mSeq (mFrz 2) (mRet (mB bTuple (lCons (mComp [3] (iSeq (mV 2)) (gN 3) (some (mCall G3 (aCons (mCall G4 (aCons (mV 3) (aCons (mV 0) aNil))) aNil))) (mV 3)) aNil))))))) [.int p, .int m] st =
    .ok (.tup (((rangeC 1 2 (cntC 1 ((m : Int) + 1) 2)).filter (fitD p)).filter pr)) .s st := by
  rw [fun_eq (show [D.int p, D.int m].length = 2 from rfl)]
  have hc : cntC 1 ((m : Int) + 1) 2 ≤ 16777216 := by
    by_cases z : cntC 1 ((m : Int) + 1) 2 ≤ 16777216
    · exact z
    · exfalso
      have hq : 16777216 < cntC 1 ((m : Int) + 1) 2 := by omega
      rw [cntC_iff (by omega)] at hq
      omega
  have r1 : iRange (aCons (mC (.int 1)) (aCons (mOp2 dAdd (mV 1) (mC (.int 1))) (aCons (mC (.int 2)) aNil))) [.val (.int p), .val (.int m), .no, .no] st = .ok (rangeC 1 2 (cntC 1 ((m : Int) + 1) 2)) st := e_range3 (by simp) (by decide) (by decide) (small_ok (by decide) (by decide) (by omega) (by omega) (by decide) (by decide))
  have q1 := e_comp (vs := [3]) (g := gN 3) (mt := some (mCall G2 (aCons (mV 3) (aCons (mV 0) aNil)))) (me := mV 3) r1 (by rw [rangeC_len]; exact hc) (compL_filter (fitD p) (by simp [wipeE]) _ fun d hd => by
    obtain ⟨f, rfl, f1, f2, f3⟩ := odd_mem hd
    exact ⟨.s, by simp [wipeE, e3 f f1 f2 f3]⟩)
  have hlen : ((rangeC 1 2 (cntC 1 ((m : Int) + 1) 2)).filter (fitD p)).length ≤ 16777216 := Nat.le_trans (List.length_filter_le _ _) (by rw [rangeC_len]; exact hc)
  have hall : ∀ d ∈ (rangeC 1 2 (cntC 1 ((m : Int) + 1) 2)).filter (fitD p), ∃ f : Nat, d = .int f ∧ 1 ≤ f ∧ f % 2 = 1 ∧ f ≤ m := fun d hd => odd_mem (List.mem_filter.mp hd).1
  revert q1 hlen hall
  generalize (rangeC 1 2 (cntC 1 ((m : Int) + 1) 2)).filter (fitD p) = l
  intro q1 hlen hall
  have q2 := e_comp (vs := [3]) (g := gN 3) (mi := iSeq (mV 2)) (ρ := [.val (.int p), .val (.int m), .val (.lst l), .no]) (st := st) (mt := some (mCall G3 (aCons (mCall G4 (aCons (mV 3) (aCons (mV 0) aNil))) aNil))) (me := mV 3) (ds := l) (s1 := st) (by simp) hlen (compL_filter pr (by simp [wipeE]) _ fun d hd => by
    obtain ⟨f, rfl, f1, f2, f3⟩ := hall d hd
    obtain ⟨x, x1, x2⟩ := e4 f f1 f2 f3
    exact ⟨.s, by simp [wipeE, x1, x2]⟩)
  refine end_next (ρ' := [.val (.int p), .val (.int m), .no, .no]) (st' := st) (by simp [startE, e1]) ?_
  refine end_next (ρ' := [.val (.int p), .val (.int m), .no, .no]) (st' := st) (by simp [e2]) ?_
  refine end_next (ρ' := [.val (.int p), .val (.int m), .own (.lst l), .no]) (st' := st) (by rw [e_Set, q1]; rfl) ?_
  refine end_next (ρ' := [.val (.int p), .val (.int m), .val (.lst l), .no]) (st' := st) (by simp [e_Frz]) ?_
  rw [e_Ret, e_B, e_lCons, q2]
  simp [bTuple]
end Lw

set_option maxRecDepth 100000

namespace Lw
open PySem PySem.Spec L2 Mi
open PyProof.Rows hiding St
def chkB (p : Nat) : Bool := (List.range 200).all (fun j => !decide (2 * j + 1 < 2 ^ p) || (ipa ((2 * j + 1) * 2 ^ p + 1) == lp ((2 * j + 1) * 2 ^ p + 1)))
def cntF (N : Nat) : Nat → Nat → Nat
  | 0, _ => 0
  | k + 1, lo => (if isF lo N = true then 1 else 0) + cntF N k (lo + 1)
def chkA1 (f p : Nat) : Bool := let N := f * 2 ^ p + 1; let c := cntF N (N - 2) 2; ((c == 0) == lp N) && (c == 0 || decide (N ≤ 2 * c + 3))
def chkA (p : Nat) : Bool := (List.range 32).all (fun j => !decide (2 * j + 1 < 2 ^ p) || chkA1 (2 * j + 1) p)
end Lw

set_option maxRecDepth 100000
namespace Lw
open PySem PySem.Spec L2 Mi
open PyProof.Rows hiding St
section
variable {p m f : Nat} {st : Store}
theorem big120 (hf : f ≤ 400) (hp : p ≤ 120) : f * 2 ^ p < 2 ^ 197 := by
  have q : f * 2 ^ p ≤ 400 * 2 ^ 120 := Nat.mul_le_mul hf (Nat.pow_le_pow_right (by decide) hp)
  exact Nat.lt_of_le_of_lt q (by decide)
theorem need_whole_ok {x lo hi : Int} (h1 : lo ≤ x) (h2 : x ≤ hi) (st : Store) : F_need_whole [.int x, .int lo, .int hi] st = .ok .non .s st := by
  have e := whole_true (st := st) h1 h2
  unfold F_need_whole m_need_whole
  rw [fun_eq (show [D.int x, D.int lo, D.int hi].length = 3 from rfl)]
  simp [startE, e]
theorem prime_fronts_ok (p1 : 1 ≤ p) (p2 : p ≤ 120) (m1 : 1 ≤ m) (m2 : m ≤ 400) : F_prime_fronts [.int p, .int m] st = .ok (.tup (((rangeC 1 2 (cntC 1 ((m : Int) + 1) 2)).filter (fitD p)).filter (ipaD p))) .s st :=
  t_fronts (by omega) (need_whole_ok (by omega) (by omega) st) (need_whole_ok (by omega) (by omega) st)
    (fun f f1 f2 f3 => fits_ok f1 f2 p1 (by omega) (Nat.lt_trans (big120 (by omega) p2) (by decide)))
    (fun f f1 f2 f3 => ⟨.int ((f * 2 ^ p + 1 : Nat) : Int), above_ok (Nat.lt_trans (big120 (by omega) p2) (by decide)) (by omega), by
      have hb := big120 (f := f) (p := p) (by omega) p2
      have := Nat.mul_pos f1 (Nat.two_pow_pos p)
      exact ipa_ok (by omega) (by omega)⟩)
theorem t_isshape {Ga : Mi.Fn} {T F : Nat} (f1 : 1 ≤ f) (p1 : 1 ≤ p) (p2 : p ≤ 9) (hF : F + 1 ≤ GREATn) (e1 : Ga [.int 1, .int p] st = .ok (.int ((T + 1 : Nat) : Int)) .s st) (e2 : Ga [.int f, .int p] st = .ok (.int ((F + 1 : Nat) : Int)) .s st) :
  mFun 2 2 ((mSeq (mIfS (mOr (mOp2 dNe (mCall F__law_sort (aCons (mV 0) aNil)) (mC (.int 2))) (mOr (mOp2 dNe (mCall F__law_sort (aCons (mV 1) aNil)) (mC (.int 2))) (mOr (mOp2 dLt (mV 0) (mC (.int 1))) (mOr (mOp2 dEq (mOp2 dMod (mB bInt (lCons (mV 0) aNil)) (mC (.int 2))) (mC (.int 0))) (mNot (mChain dLe dLe (mC (.int 1)) (mV 1) (mC (.int 140)))))))) (mRet (mC (.bl false))) mSkip)
    (mRet (mAnd (mOp2 dGt (mOp2 dSub (mCall Ga (aCons (mC (.int 1)) (aCons (mV 1) aNil))) (mC (.int 1))) (mV 0)) (mOp2 dLe (mCall Ga (aCons (mV 0) (aCons (mV 1) aNil))) (mOp2 dPow (mC (.int 10)) (mC (.int 40)))))))) [.int f, .int p] st = .ok (.bl (decide (f % 2 = 1) && decide (f < T))) .s st := by
  rw [fun_eq (show [D.int f, D.int p].length = 2 from rfl)]
  have hs : ∀ x : Int, F__law_sort [.int x] st = .ok (.int 2) .s st := fun x => by
    have := sort_ok (d := .int x) (n := 5) (st := st) rfl
    rw [← sort_eq] at this
    exact this
  have f1i : ¬ (f : Int) < 1 := by omega
  have p1i : (1 : Int) ≤ p := by omega
  have p2i : (p : Int) ≤ 140 := by omega
  by_cases ho : f % 2 = 1
  · have hoi : ¬ (f : Int) % 2 = 0 := by omega
    refine end_next (ρ' := startE [.int f, .int p] 0) (st' := st) (by simp [startE, hs, f1i, dMod_s, hoi, p1i, p2i]) ?_
    have hp : dPow (.int 10) (.int 40) = some (.int 10000000000000000000000000000000000000000) := rfl
    have hG : ((F + 1 : Nat) : Int) ≤ 10000000000000000000000000000000000000000 := by unfold GREATn at hF; omega
    generalize (10000000000000000000000000000000000000000 : Int) = G at hp hG
    by_cases c : f < T
    · have ci : (f : Int) < ((T + 1 : Nat) : Int) - 1 := by omega
      generalize ((T + 1 : Nat) : Int) = T1 at e1 ci
      generalize ((F + 1 : Nat) : Int) = F1 at e2 hG
      simp [startE, e1, e2, ci, hp, hG, ho, c]
    · have ci : ¬ (f : Int) < ((T + 1 : Nat) : Int) - 1 := by omega
      generalize ((T + 1 : Nat) : Int) = T1 at e1 ci
      simp [startE, e1, ci, ho, c]
  · have hoi : (f : Int) % 2 = 0 := by omega
    simp [startE, hs, f1i, dMod_s, hoi, ho]
/-- odd ones -/
def oddD : D → Bool
  | .int x => decide (x.toNat % 2 = 1)
  | _ => false
theorem odd_filter : ∀ (k lo : Nat), lo % 2 = 1 → (rangeD (lo : Int) (2 * k)).filter oddD = rangeC lo 2 k ∧ (rangeD (lo : Int) (2 * k + 1)).filter oddD = rangeC lo 2 (k + 1)
  | 0, lo, h => by
    refine ⟨rfl, ?_⟩
    simp [rangeD, rangeC, oddD, h]
  | k + 1, lo, h => by
    have ih := odd_filter k (lo + 2) (by omega)
    have e : ((lo : Int) + 1 + 1) = ((lo + 2 : Nat) : Int) := by omega
    have e2 : ((lo : Int) + 2) = ((lo + 2 : Nat) : Int) := by omega
    have h2 : ¬ (lo + 1) % 2 = 1 := by omega
    have o1 : oddD (.int (lo : Int)) = true := by simp [oddD, h]
    have o2 : oddD (.int ((lo : Int) + 1)) = false := by
      have : ((lo : Int) + 1).toNat = lo + 1 := by omega
      simp [oddD, this, h2]
    constructor
    · rw [show 2 * (k + 1) = 2 * k + 1 + 1 from by omega, rangeD, rangeD, List.filter_cons_of_pos o1, List.filter_cons_of_neg (by simp [o2]), e, ih.1, rangeC, e2]
    · rw [show 2 * (k + 1) + 1 = 2 * k + 1 + 1 + 1 from by omega, rangeD, rangeD, List.filter_cons_of_pos o1, List.filter_cons_of_neg (by simp [o2]), e, ih.2, ← e2]
      rfl
theorem cnt_odd : cntC 1 ((m : Int) + 1) 2 = (m + 1) / 2 := by
  have h1 := cntC_iff (a := 1) (b := (m : Int) + 1) (c := 2) (by decide) ((m + 1) / 2)
  by_cases z : (m + 1) / 2 = 0
  · omega
  · have h2 := cntC_iff (a := 1) (b := (m : Int) + 1) (c := 2) (by decide) ((m + 1) / 2 - 1)
    omega
theorem odds_eq : (rangeD 1 m).filter oddD = rangeC 1 2 (cntC 1 ((m : Int) + 1) 2) := by
  rw [cnt_odd]
  have h : (rangeD 1 (2 * (m / 2))).filter oddD = rangeC 1 2 (m / 2) ∧ (rangeD 1 (2 * (m / 2) + 1)).filter oddD = rangeC 1 2 (m / 2 + 1) := odd_filter (m / 2) 1 rfl
  by_cases z : m % 2 = 0
  · have e1 : (m + 1) / 2 = m / 2 := by omega
    have e2 : 2 * (m / 2) = m := by omega
    rw [e1, ← h.1, e2]
  · have e1 : (m + 1) / 2 = m / 2 + 1 := by omega
    have e2 : 2 * (m / 2) + 1 = m := by omega
    rw [e1, ← h.2, e2]
def shapeD (p : Nat) : D → Bool
  | .int x => (decide (x.toNat % 2 = 1) && decide (x.toNat < 2 ^ p)) && lp (x.toNat * 2 ^ p + 1)
  | _ => false
theorem t_fr {G1 G2 G3 G4 G5 : Mi.Fn} {l : List D} (hm : m ≤ 1000) (hl : (rangeD 1 m).filter (shapeD p) = l)
  (e1 : ∀ f : Nat, 1 ≤ f → f ≤ m → G1 [.int f, .int p] st = .ok (.bl (decide (f % 2 = 1) && decide (f < 2 ^ p))) .s st) (e3 : ∀ f : Nat, 1 ≤ f → f ≤ m → G3 [.int f, .int p] st = .ok (.int ((f * 2 ^ p + 1 : Nat) : Int)) .s st)
  (e2 : ∀ f : Nat, 1 ≤ f → f ≤ m → G2 [.int ((f * 2 ^ p + 1 : Nat) : Int)] st = .ok (.bl (lp (f * 2 ^ p + 1))) .s st) (e5 : G5 [.int p, .int m] st = .ok (.tup l) .s st) (e4 : G4 [.tup l, .tup l] st = .ok (.bl true) .s st) :
  mFun 2 4 ((mSeq (mSet 2 (mComp [3] (iRange (aCons (mC (.int 1)) (aCons (mOp2 dAdd (mV 1) (mC (.int 1))) aNil))) (gN 3) (some (mAnd (mCall G1 (aCons (mV 3) (aCons (mV 0) aNil))) (mCall G2 (aCons (mCall G3 (aCons (mV 3) (aCons (mV 0) aNil))) aNil)))) (mV 3)))
    (mRet (mCall G4 (aCons (mCall G5 (aCons (mV 0) (aCons (mV 1) aNil))) (aCons (mB bTuple (lCons (mV 2) aNil)) aNil)))))) [.int p, .int m] st = .ok (.bl true) .s st := by
  rw [fun_eq (show [D.int p, D.int m].length = 2 from rfl)]
  have r1 : (iRange (aCons (mC (.int 1)) (aCons (mOp2 dAdd (mV 1) (mC (.int 1))) aNil))) [.val (.int p), .val (.int m), .no, .no] st = .ok (rangeD 1 m) st := by
    have := e_range2 (ms := (aCons (mC (.int 1)) (aCons (mOp2 dAdd (mV 1) (mC (.int 1))) aNil))) (ρ := [.val (.int p), .val (.int m), .no, .no]) (st := st) (st' := st) (x := 1) (y := (m : Int) + 1) (by simp) ⟨by decide, by decide, by omega, by omega⟩
    rw [show ((m : Int) + 1 - 1).toNat = m from by omega] at this
    exact this
  have q1 := e_comp (vs := [3]) (g := gN 3) (mt := some (mAnd (mCall G1 (aCons (mV 3) (aCons (mV 0) aNil))) (mCall G2 (aCons (mCall G3 (aCons (mV 3) (aCons (mV 0) aNil))) aNil)))) (me := mV 3) r1 (by rw [rangeD_len]; omega) (compL_filter (shapeD p) (by simp [wipeE]) _ fun d hd => by
    rw [rangeD_C] at hd
    obtain ⟨j, hj, rfl⟩ := rangeC_mem hd
    obtain ⟨f, hf⟩ : ∃ f : Nat, 1 + 1 * (j : Int) = f := ⟨1 + j, by omega⟩
    rw [hf]
    have f1 := e1 f (by omega) (by omega)
    have f2 := e2 f (by omega) (by omega)
    have f3 := e3 f (by omega) (by omega)
    have hsd : shapeD p (.int (f : Int)) = ((decide (f % 2 = 1) && decide (f < 2 ^ p)) && lp (f * 2 ^ p + 1)) := rfl
    rw [hsd]
    generalize lp (f * 2 ^ p + 1) = b at f2
    generalize ((f * 2 ^ p + 1 : Nat) : Int) = N at f2 f3
    generalize (decide (f % 2 = 1) && decide (f < 2 ^ p)) = c at f1
    cases c
    · exact ⟨.s, by simp [wipeE, f1]⟩
    · exact ⟨.s, by simp [wipeE, f1, f2, f3]⟩)
  rw [hl] at q1
  refine end_next (ρ' := [.val (.int p), .val (.int m), .own (.lst l), .no]) (st' := st) (by rw [e_Set, show startE [.int (p : Int), .int (m : Int)] (4 - 2) = [.val (.int p), .val (.int m), .no, .no] from rfl, q1]; rfl) ?_
  simp [e5, bTuple, e4]
end
end Lw

set_option maxRecDepth 100000
namespace Lw
open PySem PySem.Spec L2 Mi
open PyProof.Rows hiding St
section
variable {p m f N : Nat} {st : Store}
theorem rangeD_int {d : D} (hd : d ∈ rangeD 1 m) : ∃ f : Nat, d = .int f ∧ 1 ≤ f ∧ f ≤ m := by
  rw [rangeD_C] at hd
  obtain ⟨j, hj, rfl⟩ := rangeC_mem hd
  exact ⟨1 + j, by congr 1; omega, by omega, by omega⟩
theorem shapes_same (hB : chkB p = true) (p9 : p ≤ 9) (m2 : m ≤ 400) : (rangeD 1 m).filter (shapeD p) = ((rangeC 1 2 (cntC 1 ((m : Int) + 1) 2)).filter (fitD p)).filter (ipaD p) := by
  rw [← odds_eq, List.filter_filter, List.filter_filter]
  refine List.filter_congr fun d hd => ?_
  obtain ⟨f, rfl, f1, f2⟩ := rangeD_int hd
  show ((decide (f % 2 = 1) && decide (f < 2 ^ p)) && lp (f * 2 ^ p + 1)) = ((ipa (f * 2 ^ p + 1) && (decide (f < 2 ^ p) && decide (f * 2 ^ p + 1 ≤ GREATn))) && decide (f % 2 = 1))
  have hle : f * 2 ^ p + 1 ≤ GREATn := by
    have q : f * 2 ^ p ≤ 400 * 2 ^ 9 := Nat.mul_le_mul (by omega) (Nat.pow_le_pow_right (by decide) p9)
    have g : 400 * 2 ^ 9 + 1 ≤ GREATn := by decide
    omega
  rw [decide_eq_true hle]
  by_cases ho : f % 2 = 1
  · by_cases hl : f < 2 ^ p
    · have := List.all_eq_true.mp hB ((f - 1) / 2) (List.mem_range.mpr (by omega))
      have e : 2 * ((f - 1) / 2) + 1 = f := by omega
      rw [e, decide_eq_true hl] at this
      have q : ipa (f * 2 ^ p + 1) = lp (f * 2 ^ p + 1) := by simpa using this
      rw [q, decide_eq_true ho, decide_eq_true hl]
      simp
    · rw [decide_eq_false hl]; simp
  · rw [decide_eq_false ho]; simp
theorem fronts_able (n : Nat) : (D.tup (((rangeC 1 2 (cntC 1 ((m : Int) + 1) 2)).filter (fitD p)).filter (ipaD p))).able (n + 1) = true ∨ 16777216 < cntC 1 ((m : Int) + 1) 2 := by
  by_cases z : cntC 1 ((m : Int) + 1) 2 ≤ 16777216
  · left
    have h1 : ∀ d ∈ ((rangeC 1 2 (cntC 1 ((m : Int) + 1) 2)).filter (fitD p)).filter (ipaD p), ∃ x, d = .int x := fun d hd => by
      obtain ⟨j, _, rfl⟩ := rangeC_mem (List.mem_filter.mp (List.mem_filter.mp hd).1).1
      exact ⟨_, rfl⟩
    have h2 : (((rangeC 1 2 (cntC 1 ((m : Int) + 1) 2)).filter (fitD p)).filter (ipaD p)).length ≤ 16777216 := Nat.le_trans (List.length_filter_le _ _) (Nat.le_trans (List.length_filter_le _ _) (by rw [rangeC_len]; exact z))
    generalize ((rangeC 1 2 (cntC 1 ((m : Int) + 1) 2)).filter (fitD p)).filter (ipaD p) = l at h1 h2
    have ha : ableL n l = true := by
      clear h2
      induction l with
      | nil => rfl
      | cons d l ih =>
        obtain ⟨x, rfl⟩ := h1 d List.mem_cons_self
        rw [ableL, ih fun d hd => h1 d (List.mem_cons_of_mem _ hd)]
        cases n <;> rfl
    show (ableL n l && decide _) = true
    rw [ha, decide_eq_true h2]; rfl
  · right; omega
theorem fronts_right_ok (hB : chkB p = true) (p1 : 1 ≤ p) (p9 : p ≤ 9) (m1 : 1 ≤ m) (m2 : m ≤ 400) : F__law_fronts_right [.int p, .int m] st = .ok (.bl true) .s st := by
  have hc : cntC 1 ((m : Int) + 1) 2 ≤ 16777216 := by rw [cnt_odd]; omega
  have hpow : ∀ f : Nat, f ≤ m → f * 2 ^ p < 2 ^ 197 := fun f hf => big120 (by omega) (by omega)
  refine t_fr (by omega) (shapes_same hB p9 m2) (fun f f1 f2 => ?_) (fun f f1 f2 => law_above_ok (Nat.lt_trans (hpow f f2) (by decide)) (by omega)) (fun f f1 f2 => law_prime_ok ?_) (prime_fronts_ok p1 (by omega) m1 m2) (like_ok _ st ?_)
  · have a1 : F__law_above [.int 1, .int p] st = .ok (.int ((2 ^ p + 1 : Nat) : Int)) .s st := by
      have := law_above_ok (f := 1) (p := p) (st := st) (Nat.lt_trans (big120 (f := 1) (by omega) (by omega)) (by decide)) (by omega)
      rw [Nat.one_mul] at this
      exact this
    refine t_isshape f1 p1 p9 ?_ a1 (law_above_ok (Nat.lt_trans (hpow f f2) (by decide)) (by omega))
    have q : f * 2 ^ p ≤ 400 * 2 ^ 9 := Nat.mul_le_mul (by omega) (Nat.pow_le_pow_right (by decide) p9)
    have g : 400 * 2 ^ 9 + 1 ≤ GREATn := by decide
    omega
  · have q : f * 2 ^ p ≤ 400 * 2 ^ 9 := Nat.mul_le_mul (by omega) (Nat.pow_le_pow_right (by decide) p9)
    have g : 400 * 2 ^ 9 + 1 < 2 ^ 190 := by decide
    omega
  · rcases fronts_able (p := p) (m := m) 4 with h | h
    · exact h
    · omega
def fD (N : Nat) : D → Bool
  | .int x => isF x.toNat N
  | _ => false
theorem cnt_len : ∀ (k lo : Nat), ((rangeD (lo : Int) k).filter (fD N)).length = cntF N k lo
  | 0, _ => rfl
  | k + 1, lo => by
    have ih := cnt_len k (lo + 1)
    have e : ((lo + 1 : Nat) : Int) = (lo : Int) + 1 := by omega
    rw [e] at ih
    rw [rangeD, cntF]
    have hf : fD N (.int (lo : Int)) = isF lo N := rfl
    cases q : isF lo N with
    | true => rw [List.filter_cons_of_pos (by rw [hf, q]), List.length_cons, ih, if_pos rfl]; omega
    | false => rw [List.filter_cons_of_neg (by rw [hf, q]; simp), ih]; simp
theorem t_every {G : Mi.Fn} {x0 x1 x2 x3 x5 x7 x9 : Slot} (hN2 : 2 ≤ N) (hN : N ≤ 100000) (e : ∀ b : Nat, 2 ≤ b → b < N → G [.int f, .int p, .int b] st = .ok (.bl (isF b N)) .s st) :
  (mSet 5 (mComp [9] (iRange (aCons (mC (.int 2)) (aCons (mV 4) aNil))) (gN 9) (some (mCall G (aCons (mV 8) (aCons (mV 6) (aCons (mV 9) aNil))))) (mV 9))) [x0, x1, x2, x3, .val (.int N), x5, .val (.int p), x7, .val (.int f), x9] st =
    .next [x0, x1, x2, x3, .val (.int N), .own (.lst ((rangeD 2 (N - 2)).filter (fD N))), .val (.int p), x7, .val (.int f), x9] st := by
  have r1 : iRange (aCons (mC (.int 2)) (aCons (mV 4) aNil)) [x0, x1, x2, x3, .val (.int N), x5, .val (.int p), x7, .val (.int f), x9] st = .ok (rangeD 2 (N - 2)) st := by
    have := e_range2 (ms := aCons (mC (.int 2)) (aCons (mV 4) aNil)) (ρ := [x0, x1, x2, x3, .val (.int N), x5, .val (.int p), x7, .val (.int f), x9]) (st := st) (st' := st) (x := 2) (y := (N : Int)) (by simp) ⟨by decide, by decide, by omega, by omega⟩
    rw [show ((N : Int) - 2).toNat = N - 2 from by omega] at this
    exact this
  have q1 := e_comp (vs := [9]) (g := gN 9) (mt := some (mCall G (aCons (mV 8) (aCons (mV 6) (aCons (mV 9) aNil))))) (me := mV 9) r1 (by rw [rangeD_len]; omega) (compL_filter (fD N) (by simp [wipeE]) _ fun d hd => by
    rw [rangeD_C] at hd
    obtain ⟨j, hj, rfl⟩ := rangeC_mem hd
    obtain ⟨b, hb⟩ : ∃ b : Nat, 2 + 1 * (j : Int) = b := ⟨2 + j, by omega⟩
    rw [hb]
    have f1 := e b (by omega) (by omega)
    have hsd : fD N (.int (b : Int)) = isF b N := rfl
    rw [hsd]
    exact ⟨.s, by simp [wipeE, f1]⟩)
  rw [e_Set, q1]
  rfl
end
end Lw

set_option maxRecDepth 100000
namespace Lw
open PySem PySem.Spec L2 Mi
open PyProof.Rows hiding St
section
variable {x s2 s3 s4 s5 s6 s7 s8 s9 : Slot} {c0 c1 : Int} {st : Store}
theorem t_body {G1 G2 : Mi.Fn} {most : Nat} {f p : Nat} {b0 b1 d0 d1 : Int} (e1 : G1 [.cell 0, .int most] (cupS c0 c1) = .ok (.tup [.int f, .int p]) .s (cupS b0 b1)) (e2 : G2 [.cell 0, .int f, .int p] (cupS b0 b1) = .ok (.bl true) .s (cupS d0 d1)) :
  (mSeq (mSeq (mFrz 1) (mAsg (gT [(gN 8), (gN 6)]) (mCall G1 (aCons (mV 1) (aCons (mV 3) aNil)))))
    (mSeq (mFrz 1) (mIfS (mNot (mCall G2 (aCons (mV 1) (aCons (mV 8) (aCons (mV 6) aNil))))) (mRet (mC (.bl false))) mSkip))) [x, .val (.cell 0), s2, .val (.int most), s4, s5, s6, s7, s8, s9] (cupS c0 c1) =
    .next [x, .val (.cell 0), s2, .val (.int most), s4, s5, .val (.int p), s7, .val (.int f), s9] (cupS d0 d1) := by
  simp [e_Frz, mAsg, e1, gT, gAll, gN, e2]
theorem loop2 : ∀ (l : List Nat), (∀ n ∈ l, 1 ≤ n ∧ n ≤ 110) → ∀ (s3 s6 s8 : Slot) (c0 c1 : Int), Cup c0 c1 → ∃ t3 t6 t8 d0 d1, Cup d0 d1 ∧
  forL (gN 3) (mSeq (mSeq (mFrz 1) (mAsg (gT [(gN 8), (gN 6)]) (mCall F__law_shape (aCons (mV 1) (aCons (mV 3) aNil)))))
    (mSeq (mFrz 1) (mIfS (mNot (mCall F__law_right (aCons (mV 1) (aCons (mV 8) (aCons (mV 6) aNil))))) (mRet (mC (.bl false))) mSkip))) (l.map fun (n : Nat) => D.int (n : Int)) [x, .val (.cell 0), s2, s3, s4, s5, s6, s7, s8, s9] (cupS c0 c1) =
    .next [x, .val (.cell 0), s2, t3, s4, s5, t6, s7, t8, s9] (cupS d0 d1)
  | [], _, s3, s6, s8, c0, c1, c => ⟨s3, s6, s8, c0, c1, c, rfl⟩
  | n :: l, h, s3, s6, s8, c0, c1, c => by
    have hn := h n List.mem_cons_self
    obtain ⟨f, p, b0, b1, S, hp, cb, e1⟩ := shape_draw hn.1 hn.2 c
    obtain ⟨a0, a1, ca, e2⟩ := law_right_ok S cb
    obtain ⟨t3, t6, t8, d0, d1, cd, e⟩ := loop2 l (fun k hk => h k (List.mem_cons_of_mem _ hk)) (.val (.int n)) (.val (.int p)) (.val (.int f)) a0 a1 ca
    refine ⟨t3, t6, t8, d0, d1, cd, ?_⟩
    rw [List.map_cons, forL_gN]
    have hb := t_body (x := x) (s2 := s2) (s4 := s4) (s5 := s5) (s6 := s6) (s7 := s7) (s8 := s8) (s9 := s9) e1 e2
    rw [show List.set [x, Slot.val (.cell 0), s2, s3, s4, s5, s6, s7, s8, s9] 3 (.val (.int (n : Int))) = [x, .val (.cell 0), s2, .val (.int n), s4, s5, s6, s7, s8, s9] from rfl, hb, step_next, e]
theorem law2_ok (c : Cup c0 c1) : ∃ t3 t6 t8 d0 d1, Cup d0 d1 ∧ m_law_2 [x, .val (.cell 0), s2, s3, s4, s5, s6, s7, s8, s9] (cupS c0 c1) = .next [x, .val (.cell 0), s2, t3, s4, s5, t6, s7, t8, s9] (cupS d0 d1) := by
  obtain ⟨t3, t6, t8, d0, d1, cd, e⟩ := loop2 (x := x) (s2 := s2) (s4 := s4) (s5 := s5) (s7 := s7) (s9 := s9) [1, 3, 6, 12, 40, 110] (by decide) s3 s6 s8 c0 c1 c
  refine ⟨t3, t6, t8, d0, d1, cd, ?_⟩
  unfold m_law_2
  rw [e_For]
  simp only [e_iSeq, e_Tup, e_Cons, e_C, consE_ok, consR_s, e_Nil, a_bind_ok, List.length_cons, List.length_nil, Nat.reduceAdd, Nat.reduceLeDiff, if_true, seqI_tup, forR_ok]
  exact e
theorem t_law3 {G1 : Mi.Fn} {f p : Nat} {d0 d1 : Int} (e1 : G1 [.cell 0, .int 6] (cupS c0 c1) = .ok (.tup [.int f, .int p]) .s (cupS d0 d1)) :
  (mSeq (mFrz 1) (mAsg (gT [(gN 8), (gN 6)]) (mCall G1 (aCons (mV 1) (aCons (mC (.int 6)) aNil))))) [x, .val (.cell 0), s2, s3, s4, s5, s6, s7, s8, s9] (cupS c0 c1) = .next [x, .val (.cell 0), s2, s3, s4, s5, .val (.int p), s7, .val (.int f), s9] (cupS d0 d1) := by
  simp [e_Frz, mAsg, e1, gT, gAll, gN]
theorem t_law4 {G1 : Mi.Fn} {f p N : Nat} (e1 : G1 [.int f, .int p] st = .ok (.int N) .s st) :
  (mSet 4 (mCall G1 (aCons (mV 8) (aCons (mV 6) aNil)))) [x, .val (.cell 0), s2, s3, s4, s5, .val (.int p), s7, .val (.int f), s9] st = .next [x, .val (.cell 0), s2, s3, .val (.int N), s5, .val (.int p), s7, .val (.int f), s9] st := by
  simp [e1]
theorem dEq_nil {l : List D} (h : ∀ d ∈ l, ∃ x, d = .int x) : dEq (.lst l) (.lst []) = some (.bl l.isEmpty) ∧ dNe (.lst l) (.lst []) = some (.bl (!l.isEmpty)) := by
  have e : (D.lst l).flat 60 = true := by
    show flatL 59 l = true
    induction l with
    | nil => rfl
    | cons d l ih =>
      obtain ⟨x, rfl⟩ := h d List.mem_cons_self
      rw [flatL, flat_int, ih fun d hd => h d (List.mem_cons_of_mem _ hd)]
      rfl
  unfold dEq dNe
  rw [e]
  cases l <;> exact ⟨rfl, rfl⟩
theorem t_law6 {G1 : Mi.Fn} {N : Nat} {b : Bool} {l : List D} (hl : ∀ d ∈ l, ∃ x, d = .int x) (e1 : G1 [.int N] st = .ok (.bl b) .s st) (h1 : l.isEmpty = b) (h2 : l.isEmpty = true ∨ N ≤ 2 * l.length + 3) (h3 : l.length ≤ 100000) :
  (mIfS (mOr (mOp2 dNe (mOp2 dEq (mV 5) (mLst aNil)) (mCall G1 (aCons (mV 4) aNil))) (mAnd (mOp2 dNe (mV 5) (mLst aNil)) (mOp2 dLt (mOp2 dMul (mC (.int 2)) (mB bLen (lCons (mV 5) aNil))) (mOp2 dSub (mV 4) (mC (.int 3)))))) (mRet (mC (.bl false))) mSkip) [x, .val (.cell 0), s2, s3, .val (.int N), .own (.lst l), s6, s7, s8, s9] st =
   .next [x, .val (.cell 0), s2, s3, .val (.int N), .own (.lst l), s6, s7, s8, s9] st := by
  obtain ⟨q1, q2⟩ := dEq_nil hl
  have q3 : dNe (.bl b) (.bl b) = some (.bl false) := by cases b <;> rfl
  have m1 : dMul (.int 2) (.int (l.length : Int)) = some (.int (2 * l.length)) := dMul_b (by decide) (nabs (by omega))
  rw [h1] at q1 q2
  cases b with
  | true => simp [q1, q2, e1, q3]
  | false =>
    have h2' : N ≤ 2 * l.length + 3 := by
      rcases h2 with z | z
      · rw [h1] at z; cases z
      · exact z
    have h4 : ¬ (2 * (l.length : Int) < (N : Int) - 3) := by omega
    simp [q1, q2, e1, q3, bLen, m1, h4]
theorem law7_ok (c : Cup c0 c1) : ∃ (p : Nat) (d0 d1 : Int), 1 ≤ p ∧ p ≤ 9 ∧ Cup d0 d1 ∧ m_law_7 [x, .val (.cell 0), s2, s3, s4, s5, s6, s7, s8, s9] (cupS c0 c1) = .next [x, .val (.cell 0), s2, s3, s4, s5, .val (.int p), s7, s8, s9] (cupS d0 d1) := by
  obtain ⟨r, d0, d1, r0, r1, cd, er⟩ := roll_ok c (m := 9) (by decide) (by decide +kernel)
  obtain ⟨p, hp⟩ : ∃ p : Nat, 1 + r = (p : Int) := ⟨(1 + r).toNat, by omega⟩
  exact ⟨p, d0, d1, by omega, by omega, cd, by simp [m_law_7, e_Frz, roll_eq, er, hp]⟩
theorem t_law8 {G1 : Mi.Fn} {p : Nat} (c : Cup c0 c1) (e1 : ∀ (m : Nat) st, 1 ≤ m → m ≤ 400 → G1 [.int p, .int m] st = .ok (.bl true) .s st) : ∃ d0 d1, Cup d0 d1 ∧ (mSeq (mFrz 1) (mIfS (mNot (mCall G1 (aCons (mV 6) (aCons (mOp2 dAdd (mC (.int 1)) (mCall F__law_roll (aCons (mV 1) (aCons (mC (.int 400)) aNil)))) aNil)))) (mRet (mC (.bl false))) mSkip)) [x, .val (.cell 0), s2, s3, s4, s5, .val (.int p), s7, s8, s9] (cupS c0 c1) = .next [x, .val (.cell 0), s2, s3, s4, s5, .val (.int p), s7, s8, s9] (cupS d0 d1) := by
  obtain ⟨r, d0, d1, r0, r1, cd, er⟩ := roll_ok c (m := 400) (by decide) (by decide +kernel)
  obtain ⟨m, hm⟩ : ∃ m : Nat, 1 + r = (m : Int) := ⟨(1 + r).toNat, by omega⟩
  have e := e1 m (cupS d0 d1) (by omega) (by omega)
  exact ⟨d0, d1, cd, by simp [e_Frz, roll_eq, er, hm, e]⟩
theorem law9_ok (c : Cup c0 c1) : ∃ (p m : Nat) (d0 d1 : Int), 20 ≤ p ∧ p ≤ 119 ∧ 1 ≤ m ∧ m ≤ 60 ∧ Cup d0 d1 ∧ m_law_9 [x, .val (.cell 0), s2, s3, s4, s5, s6, s7, s8, s9] (cupS c0 c1) = .next [x, .val (.cell 0), s2, .val (.int m), s4, s5, .val (.int p), s7, s8, s9] (cupS d0 d1) := by
  obtain ⟨r, b0, b1, r0, r1, cb, er⟩ := roll_ok c (m := 100) (by decide) (by decide +kernel)
  obtain ⟨q, d0, d1, q0, q1, cd, eq⟩ := roll_ok cb (m := 60) (by decide) (by decide +kernel)
  obtain ⟨p, hp⟩ : ∃ p : Nat, 20 + r = (p : Int) := ⟨(20 + r).toNat, by omega⟩
  obtain ⟨m, hm⟩ : ∃ m : Nat, 1 + q = (m : Int) := ⟨(1 + q).toNat, by omega⟩
  exact ⟨p, m, d0, d1, by omega, by omega, by omega, by omega, cd, by simp [m_law_9, e_Frz, mPar, kCons, kNil, setAll, roll_eq, er, eq, hp, hm]⟩
end
end Lw

set_option maxRecDepth 100000
namespace Lw
open PySem PySem.Spec L2 Mi
open PyProof.Rows hiding St
def leM (M : Int) : D → Bool
  | .int x => decide (x ≤ M)
  | _ => false
theorem rangeD_le (M : Int) : ∀ (n : Nat) (lo : Int), (rangeD lo n).filter (leM M) = rangeD lo (min n (M + 1 - lo).toNat)
  | 0, lo => by simp [rangeD]
  | n + 1, lo => by
    have ih := rangeD_le M n (lo + 1)
    rw [rangeD]
    by_cases h : lo ≤ M
    · rw [List.filter_cons_of_pos (by simp [leM, h]), ih]
      have e : min (n + 1) (M + 1 - lo).toNat = min n (M + 1 - (lo + 1)).toNat + 1 := by omega
      rw [e, rangeD]
    · rw [List.filter_cons_of_neg (by simp [leM, h]), ih]
      have e : min (n + 1) (M + 1 - lo).toNat = 0 := by omega
      have e2 : min n (M + 1 - (lo + 1)).toNat = 0 := by omega
      rw [e, e2]
      rfl
def FR (p m : Nat) : List D := ((rangeC 1 2 (cntC 1 ((m : Int) + 1) 2)).filter (fitD p)).filter (ipaD p)
theorem FR_less (p m : Nat) : (FR p (m + 6)).filter (leM m) = FR p m := by
  unfold FR
  rw [← odds_eq, ← odds_eq]
  have h : (rangeD 1 (m + 6)).filter (leM m) = rangeD 1 m := by
    rw [rangeD_le]
    have : min (m + 6) ((m : Int) + 1 - 1).toNat = m := by omega
    rw [this]
  rw [← h]
  simp only [List.filter_filter]
  refine List.filter_congr fun d _ => ?_
  cases leM m d <;> cases ipaD p d <;> cases fitD p d <;> cases oddD d <;> rfl
theorem FR_int {p m : Nat} : ∀ d ∈ FR p m, ∃ x, d = .int x := fun d hd => by
  obtain ⟨j, _, rfl⟩ := rangeC_mem (List.mem_filter.mp (List.mem_filter.mp hd).1).1
  exact ⟨_, rfl⟩
theorem FR_len {p m : Nat} (hm : m ≤ 1000) : (FR p m).length ≤ 16777216 := by
  refine Nat.le_trans (List.length_filter_le _ _) (Nat.le_trans (List.length_filter_le _ _) ?_)
  rw [rangeC_len, cnt_odd]
  omega
theorem tup_eq {l : List D} (h : ∀ d ∈ l, ∃ x, d = .int x) : dEq (.tup l) (.tup l) = some (.bl true) := by
  have e : (D.tup l).flat 60 = true := by
    show flatL 59 l = true
    induction l with
    | nil => rfl
    | cons d l ih =>
      obtain ⟨x, rfl⟩ := h d List.mem_cons_self
      rw [flatL, flat_int, ih fun d hd => h d (List.mem_cons_of_mem _ hd)]
      rfl
  have e2 : (D.tup l).eqd (.tup l) = true := by
    show eqdL l l = true
    clear e
    induction l with
    | nil => rfl
    | cons d l ih =>
      obtain ⟨x, rfl⟩ := h d List.mem_cons_self
      show ((x == x) && eqdL l l) = true
      rw [ih fun d hd => h d (List.mem_cons_of_mem _ hd)]
      simp
  unfold dEq
  rw [e, e2]
  rfl
section
variable {x s2 s3 s4 s5 s6 s7 s8 s9 : Slot} {st : Store}
theorem t_law10 {G : Mi.Fn} {p m : Nat} {l : List D} (e1 : G [.int p, .int m] st = .ok (.tup l) .s st) :
  (mSet 7 (mCall G (aCons (mV 6) (aCons (mV 3) aNil)))) [x, .val (.cell 0), s2, .val (.int m), s4, s5, .val (.int p), s7, s8, s9] st = .next [x, .val (.cell 0), s2, .val (.int m), s4, s5, .val (.int p), .val (.tup l), s8, s9] st := by
  simp [e1]
theorem t_law11 {G : Mi.Fn} {p m : Nat} {l l2 : List D} (e1 : G [.int p, .int ((m : Int) + 6)] st = .ok (.tup l2) .s st) (hl : l2.filter (leM m) = l) (h2 : ∀ d ∈ l2, ∃ x, d = .int x) (hn : l2.length ≤ 16777216) :
  (mRet (mOp2 dEq (mV 7) (mB bTuple (lCons (mComp [8] (iSeq (mCall G (aCons (mV 6) (aCons (mOp2 dAdd (mV 3) (mC (.int 6))) aNil)))) (gN 8) (some (mOp2 dLe (mV 8) (mV 3))) (mV 8)) aNil)))) [x, .val (.cell 0), s2, .val (.int m), s4, s5, .val (.int p), .val (.tup l), s8, s9] st = .ret (.bl true) .s st := by
  have q := e_comp (vs := [8]) (g := gN 8) (mi := iSeq (mCall G (aCons (mV 6) (aCons (mOp2 dAdd (mV 3) (mC (.int 6))) aNil)))) (ρ := [x, .val (.cell 0), s2, .val (.int m), s4, s5, .val (.int p), .val (.tup l), s8, s9]) (st := st) (mt := some (mOp2 dLe (mV 8) (mV 3))) (me := mV 8) (ds := l2) (s1 := st) (by simp [e1]) hn (compL_filter (leM m) (by simp [wipeE]) _ fun d hd => by
    obtain ⟨y, rfl⟩ := h2 d hd
    exact ⟨.s, by simp [wipeE, leM]⟩)
  rw [hl] at q
  have hi : ∀ d ∈ l, ∃ x, d = .int x := fun d hd => h2 d (by rw [← hl] at hd; exact (List.mem_filter.mp hd).1)
  have eqq : mB bTuple (lCons (mComp [8] (iSeq (mCall G (aCons (mV 6) (aCons (mOp2 dAdd (mV 3) (mC (.int 6))) aNil)))) (gN 8) (some (mOp2 dLe (mV 8) (mV 3))) (mV 8)) aNil) [x, .val (.cell 0), s2, .val (.int m), s4, s5, .val (.int p), .val (.tup l), s8, s9] st = .ok (.tup l) .s st := by
    rw [e_B, e_lCons, q]
    rfl
  have e7 : mV 7 [x, .val (.cell 0), s2, .val (.int m), s4, s5, .val (.int p), .val (.tup l), s8, s9] st = .ok (.tup l) .s st := rfl
  simp only [e_Ret, e_Op2, e7, e_bind_ok, eqq, tup_eq hi, e_mk_some, kd_bl, with_ok, retK_s]
end
theorem law_all (hA : ∀ p, 1 ≤ p → p ≤ 6 → chkA p = true) (hB : ∀ p, 1 ≤ p → p ≤ 9 → chkB p = true)
  (h1 : (m_law_1 [.no, .val (.cell 0), .no, .no, .no, .no, .no, .no, .no, .no] []).pins [none, some (.val (.cell 0)), none, none, none, none, none, none, none, none] = true) :
  ∀ ns : List Int, ns.length ≤ 63 → (∀ z ∈ ns, PySem.Builtin.Int.intBits z ≤ 1048576) → ∃ k st, F_law [.scr ns] [] = .ok (.bl true) k st ∧ k ≠ .b := by
  intro ns hl hb
  obtain ⟨c0, c1, c, ec⟩ := cup_ok hl hb
  obtain ⟨ρ', e1⟩ := group0 (b := mSeq m_law_2 (mSeq m_law_3 (mSeq m_law_4 (mSeq m_law_5 (mSeq m_law_6 (mSeq m_law_7 (mSeq m_law_8 (mSeq m_law_9 (mSeq m_law_10 m_law_11))))))))) fs_law_1 zs_law_1 (ρ := [.val (.cell 0), .no, .no, .no, .no, .no, .no, .no, .no]) (.val (.scr ns)) [some (.val (.cell 0)), none, none, none, none, none, none, none, none] h1 (cupS c0 c1)
  simp only [pin] at e1
  generalize ρ'.tail.headD .no = s2 at e1
  generalize ρ'.tail.tail.headD .no = s3 at e1
  generalize ρ'.tail.tail.tail.headD .no = s4 at e1
  generalize ρ'.tail.tail.tail.tail.headD .no = s5 at e1
  generalize ρ'.tail.tail.tail.tail.tail.headD .no = s6 at e1
  generalize ρ'.tail.tail.tail.tail.tail.tail.headD .no = s7 at e1
  generalize ρ'.tail.tail.tail.tail.tail.tail.tail.headD .no = s8 at e1
  generalize ρ'.tail.tail.tail.tail.tail.tail.tail.tail.headD .no = s9 at e1
  obtain ⟨t3, t6, t8, a0, a1, ca, e2⟩ := law2_ok (x := .val (.scr ns)) (s2 := s2) (s3 := s3) (s4 := s4) (s5 := s5) (s6 := s6) (s7 := s7) (s8 := s8) (s9 := s9) c
  obtain ⟨f, p, b0, b1, S, hp, cb, e3⟩ := shape_draw (most := 6) (by decide) (by decide) ca
  obtain ⟨N, hN, h3, hod, hN2, n1, n2, n3, n4, n5, n6⟩ := t_pre S
  have hNle : N ≤ 100000 := by
    have q : f * 2 ^ p ≤ 2 ^ 6 * 2 ^ 6 := Nat.mul_le_mul (Nat.le_of_lt (Nat.lt_of_lt_of_le S.lt (Nat.pow_le_pow_right (by decide) hp))) (Nat.pow_le_pow_right (by decide) hp)
    have : (2 : Nat) ^ 6 * 2 ^ 6 = 4096 := by decide
    omega
  have e3' := t_law3 (x := .val (.scr ns)) (s2 := s2) (s3 := t3) (s4 := s4) (s5 := s5) (s6 := t6) (s7 := s7) (s8 := t8) (s9 := s9) e3
  have e4 := t_law4 (x := .val (.scr ns)) (s2 := s2) (s3 := t3) (s4 := s4) (s5 := s5) (s7 := s7) (s9 := s9) (n5 (cupS b0 b1))
  have e5 := t_every (G := F_is_false_paper) (f := f) (p := p) (N := N) (st := cupS b0 b1) (x0 := .val (.scr ns)) (x1 := .val (.cell 0)) (x2 := s2) (x3 := t3) (x5 := s5) (x7 := s7) (x9 := s9) (by omega) hNle (fun b hb1 hb2 => by
    rw [is_false_ok (v := .int b) rfl (n1 _) (n2 _) fun b => n4 b _]
    have g1 : (2 : Int) ≤ b := by omega
    have g2 : (b : Int) < N := by omega
    have : good (.int (b : Int)) N = isF b N := by
      show (decide _ && (decide _ && isF b N)) = _
      rw [decide_eq_true g1, decide_eq_true g2]; rfl
    rw [this])
  have hcnt := cnt_len (N := N) (N - 2) 2
  have hA1 := List.all_eq_true.mp (hA p S.p1 hp) ((f - 1) / 2) (List.mem_range.mpr (by
    have := S.lt
    have q : 2 ^ p ≤ 2 ^ 6 := Nat.pow_le_pow_right (by decide) hp
    have : (2 : Nat) ^ 6 = 64 := by decide
    omega))
  have ef : 2 * ((f - 1) / 2) + 1 = f := by have := S.f1; have := S.fo; omega
  rw [ef, decide_eq_true S.lt] at hA1
  unfold chkA1 at hA1
  rw [← hN] at hA1
  dsimp only at hA1
  rw [← hcnt] at hA1
  have hint : ∀ d ∈ (rangeD ((2 : Nat) : Int) (N - 2)).filter (fD N), ∃ x, d = .int x := fun d hd => by
    have := (List.mem_filter.mp hd).1
    rw [rangeD_C] at this
    obtain ⟨j, _, rfl⟩ := rangeC_mem this
    exact ⟨_, rfl⟩
  have hlen : ((rangeD ((2 : Nat) : Int) (N - 2)).filter (fD N)).length ≤ 100000 := Nat.le_trans (List.length_filter_le _ _) (by rw [rangeD_len]; omega)
  have e5' : mSet 5 _ _ _ = SR.next [.val (.scr ns), .val (.cell 0), s2, t3, .val (.int N), .own (.lst ((rangeD ((2 : Nat) : Int) (N - 2)).filter (fD N))), .val (.int p), s7, .val (.int f), s9] (cupS b0 b1) := e5
  generalize (rangeD ((2 : Nat) : Int) (N - 2)).filter (fD N) = E at hA1 hint hlen e5'
  have hA2 : E.isEmpty = lp N ∧ (E.isEmpty = true ∨ N ≤ 2 * E.length + 3) := by
    cases E with
    | nil =>
      simp at hA1
      exact ⟨hA1.symm ▸ rfl, .inl rfl⟩
    | cons d E =>
      simp at hA1
      refine ⟨?_, .inr (by simp; omega)⟩
      have := hA1.1
      simp [this]
  have e6 := t_law6 (x := .val (.scr ns)) (s2 := s2) (s3 := t3) (s6 := .val (.int p)) (s7 := s7) (s8 := .val (.int f)) (s9 := s9) hint (law_prime_ok (n := N) (st := cupS b0 b1) (Nat.lt_of_le_of_lt hNle (by decide))) hA2.1 hA2.2 hlen
  obtain ⟨q, g0, g1, q1, q9, cg, e7⟩ := law7_ok (x := .val (.scr ns)) (s2 := s2) (s3 := t3) (s4 := .val (.int N)) (s5 := .own (.lst E)) (s6 := .val (.int p)) (s7 := s7) (s8 := .val (.int f)) (s9 := s9) cb
  obtain ⟨i0, i1, ci, e8⟩ := t_law8 (G1 := F__law_fronts_right) (x := .val (.scr ns)) (s2 := s2) (s3 := t3) (s4 := .val (.int N)) (s5 := .own (.lst E)) (s7 := s7) (s8 := .val (.int f)) (s9 := s9) (p := q) cg (fun m st m1 m2 => fronts_right_ok (hB q q1 q9) q1 q9 m1 m2)
  obtain ⟨u, v, k0, k1, u1, u2, v1, v2, ck, e9⟩ := law9_ok (x := .val (.scr ns)) (s2 := s2) (s3 := t3) (s4 := .val (.int N)) (s5 := .own (.lst E)) (s6 := .val (.int q)) (s7 := s7) (s8 := .val (.int f)) (s9 := s9) ci
  have fr1 : F_prime_fronts [.int u, .int v] (cupS k0 k1) = .ok (.tup (FR u v)) .s (cupS k0 k1) := prime_fronts_ok (by omega) (by omega) v1 (by omega)
  have fr2 : F_prime_fronts [.int u, .int ((v : Int) + 6)] (cupS k0 k1) = .ok (.tup (FR u (v + 6))) .s (cupS k0 k1) := prime_fronts_ok (m := v + 6) (by omega) (by omega) (by omega) (by omega)
  have e10 := t_law10 (x := .val (.scr ns)) (s2 := s2) (s4 := .val (.int N)) (s5 := .own (.lst E)) (s7 := s7) (s8 := .val (.int f)) (s9 := s9) fr1
  have e11 := t_law11 (x := .val (.scr ns)) (s2 := s2) (s4 := .val (.int N)) (s5 := .own (.lst E)) (s8 := .val (.int f)) (s9 := s9) fr2 (FR_less u v) FR_int (FR_len (by omega))
  refine ⟨.s, cupS k0 k1, ?_, fun z => by cases z⟩
  unfold F_law
  rw [fun_eq (show [D.scr ns].length = 1 from rfl), m_law_eq]
  have e0 : m_law_0 (startE [.scr ns] 9) [] = .next (.val (.scr ns) :: [.val (.cell 0), .no, .no, .no, .no, .no, .no, .no, .no]) (cupS c0 c1) := by
    simp [m_law_0, startE, cup_eq, ec]
  refine end_next e0 ?_
  rw [e1]
  refine end_next e2 (end_next (a := m_law_3) e3' (end_next (a := m_law_4) e4 (end_next (a := m_law_5) e5' (end_next (a := m_law_6) e6 (end_next e7 (end_next (a := m_law_8) e8 (end_next e9 (end_next (a := m_law_10) e10 ?_))))))))
  show endF (m_law_11 _ _) = _
  unfold m_law_11
  rw [e11]
  rfl
end Lw

set_option maxRecDepth 100000
namespace Lw
open PySem PySem.Spec L2 Mi
open PyProof.Rows hiding St
theorem A1 : chkA 1 = true := by decide +kernel
theorem A2 : chkA 2 = true := by decide +kernel
theorem A3 : chkA 3 = true := by decide +kernel
theorem A4 : chkA 4 = true := by decide +kernel
theorem A5 : chkA 5 = true := by decide +kernel
theorem A6 : chkA 6 = true := by decide +kernel
theorem B1 : chkB 1 = true := by decide +kernel
theorem B2 : chkB 2 = true := by decide +kernel
theorem B3 : chkB 3 = true := by decide +kernel
theorem B4 : chkB 4 = true := by decide +kernel
theorem B5 : chkB 5 = true := by decide +kernel
theorem B6 : chkB 6 = true := by decide +kernel
theorem B7 : chkB 7 = true := by decide +kernel
theorem B8 : chkB 8 = true := by decide +kernel
theorem B9 : chkB 9 = true := by decide +kernel
theorem law1_ok : (m_law_1 [.no, .val (.cell 0), .no, .no, .no, .no, .no, .no, .no, .no] []).pins [none, some (.val (.cell 0)), none, none, none, none, none, none, none, none] = true := by decide +kernel
theorem hA : ∀ p, 1 ≤ p → p ≤ 6 → chkA p = true := fun p h1 h2 => by
  have : p = 1 ∨ p = 2 ∨ p = 3 ∨ p = 4 ∨ p = 5 ∨ p = 6 := by omega
  rcases this with rfl | rfl | rfl | rfl | rfl | rfl
  · exact A1
  · exact A2
  · exact A3
  · exact A4
  · exact A5
  · exact A6
theorem hB : ∀ p, 1 ≤ p → p ≤ 9 → chkB p = true := fun p h1 h2 => by
  have : p = 1 ∨ p = 2 ∨ p = 3 ∨ p = 4 ∨ p = 5 ∨ p = 6 ∨ p = 7 ∨ p = 8 ∨ p = 9 := by omega
  rcases this with rfl | rfl | rfl | rfl | rfl | rfl | rfl | rfl | rfl
  · exact B1
  · exact B2
  · exact B3
  · exact B4
  · exact B5
  · exact B6
  · exact B7
  · exact B8
  · exact B9
end Lw

set_option maxRecDepth 100000
namespace Lw
open PySem PySem.Spec L2 Mi
open PyProof.Rows hiding St
theorem law_true : ∀ ns : List Int, ns.length ≤ 63 → (∀ z ∈ ns, PySem.Builtin.Int.intBits z ≤ 1048576) → ∃ k st, F_law [.scr ns] [] = .ok (.bl true) k st ∧ k ≠ .b := law_all hA hB law1_ok
end Lw

set_option maxRecDepth 100000
namespace Lw
open PySem PySem.Spec L2 Mi
open PyProof.Rows hiding St
theorem all_mk {l : PySem.W.OpenLaw} {w : World} {K : PySem.W.Frag} {h : Heap} {mg : Str → Option Value} {fa : Addr} (X : K.In h) (G : h.Ns mainGlobals mg) (hmg : mg "law" = some (.ref fa)) (T : Tx K mg)
    (d_is_integer : FunFact K "is_integer" s_is_integer)
    (d_is_whole : FunFact K "is_whole" s_is_whole)
    (d_need_whole : FunFact K "need_whole" s_need_whole)
    (d_power_in : FunFact K "power_in" s_power_in)
    (d_sign_in : FunFact K "sign_in" s_sign_in)
    (d_above_in : FunFact K "above_in" s_above_in)
    (d_fits_two_shape : FunFact K "fits_two_shape" s_fits_two_shape)
    (d_need_two_shape : FunFact K "need_two_shape" s_need_two_shape)
    (d_half_in : FunFact K "half_in" s_half_in)
    (d_is_square_number : FunFact K "is_square_number" s_is_square_number)
    (d_paper_base : FunFact K "paper_base" s_paper_base)
    (d_is_prime_above : FunFact K "is_prime_above" s_is_prime_above)
    (d_is_false_in : FunFact K "is_false_in" s_is_false_in)
    (d_is_base_to : FunFact K "is_base_to" s_is_base_to)
    (d_is_shape_prime : FunFact K "is_shape_prime" s_is_shape_prime)
    (d_false_paper : FunFact K "false_paper" s_false_paper)
    (d_is_false_paper : FunFact K "is_false_paper" s_is_false_paper)
    (d_prime_fronts : FunFact K "prime_fronts" s_prime_fronts)
    (d__law_cup : FunFact K "_law_cup" s__law_cup)
    (d__law_roll : FunFact K "_law_roll" s__law_roll)
    (d__law_sort : FunFact K "_law_sort" s__law_sort)
    (d__law_like : FunFact K "_law_like" s__law_like)
    (d__law_is_prime : FunFact K "_law_is_prime" s__law_is_prime)
    (d__law_power : FunFact K "_law_power" s__law_power)
    (d__law_above : FunFact K "_law_above" s__law_above)
    (d__law_is_shape : FunFact K "_law_is_shape" s__law_is_shape)
    (d__law_sign : FunFact K "_law_sign" s__law_sign)
    (d__law_half : FunFact K "_law_half" s__law_half)
    (d__law_is_false : FunFact K "_law_is_false" s__law_is_false)
    (d__law_shape : FunFact K "_law_shape" s__law_shape)
    (d__law_right : FunFact K "_law_right" s__law_right)
    (d__law_fronts_right : FunFact K "_law_fronts_right" s__law_fronts_right)
    (d_law : FunFact K "law" s_law)
    (hF : ∀ ns : List Int, ns.length ≤ 63 → (∀ z ∈ ns, Builtin.Int.intBits z ≤ 1048576) → ∃ k st, F_law [.scr ns] [] = .ok (.bl true) k st ∧ k ≠ .b) :
    ∃ fd : FuncData, (∀ (s : Shared) (u : Value), BindsTo s fd ⟨[u], []⟩ [("script", u)]) ∧ ∀ base : Heap, K.In base → base.Ns mainGlobals mg → FnOk l.prog w K mg base (L2.CX l.prog w) 9 fa fd ["script"] (spLaw 63 K) := by
  obtain ⟨_, _, n_is_integer, g_is_integer⟩ := d_is_integer.at X G
  obtain ⟨_, _, n_is_whole, g_is_whole⟩ := d_is_whole.at X G
  obtain ⟨_, _, n_need_whole, g_need_whole⟩ := d_need_whole.at X G
  obtain ⟨_, _, n_power_in, g_power_in⟩ := d_power_in.at X G
  obtain ⟨_, _, n_sign_in, g_sign_in⟩ := d_sign_in.at X G
  obtain ⟨_, _, n_above_in, g_above_in⟩ := d_above_in.at X G
  obtain ⟨_, _, n_fits_two_shape, g_fits_two_shape⟩ := d_fits_two_shape.at X G
  obtain ⟨_, _, n_need_two_shape, g_need_two_shape⟩ := d_need_two_shape.at X G
  obtain ⟨_, _, n_half_in, g_half_in⟩ := d_half_in.at X G
  obtain ⟨_, _, n_is_square_number, g_is_square_number⟩ := d_is_square_number.at X G
  obtain ⟨_, _, n_paper_base, g_paper_base⟩ := d_paper_base.at X G
  obtain ⟨_, _, n_is_prime_above, g_is_prime_above⟩ := d_is_prime_above.at X G
  obtain ⟨_, _, n_is_false_in, g_is_false_in⟩ := d_is_false_in.at X G
  obtain ⟨_, _, n_is_base_to, g_is_base_to⟩ := d_is_base_to.at X G
  obtain ⟨_, _, n_is_shape_prime, g_is_shape_prime⟩ := d_is_shape_prime.at X G
  obtain ⟨_, _, n_false_paper, g_false_paper⟩ := d_false_paper.at X G
  obtain ⟨_, _, n_is_false_paper, g_is_false_paper⟩ := d_is_false_paper.at X G
  obtain ⟨_, _, n_prime_fronts, g_prime_fronts⟩ := d_prime_fronts.at X G
  obtain ⟨_, _, n__law_cup, g__law_cup⟩ := d__law_cup.at X G
  obtain ⟨_, _, n__law_roll, g__law_roll⟩ := d__law_roll.at X G
  obtain ⟨_, _, n__law_sort, g__law_sort⟩ := d__law_sort.at X G
  obtain ⟨_, _, n__law_like, g__law_like⟩ := d__law_like.at X G
  obtain ⟨_, _, n__law_is_prime, g__law_is_prime⟩ := d__law_is_prime.at X G
  obtain ⟨_, _, n__law_power, g__law_power⟩ := d__law_power.at X G
  obtain ⟨_, _, n__law_above, g__law_above⟩ := d__law_above.at X G
  obtain ⟨_, _, n__law_is_shape, g__law_is_shape⟩ := d__law_is_shape.at X G
  obtain ⟨_, _, n__law_sign, g__law_sign⟩ := d__law_sign.at X G
  obtain ⟨_, _, n__law_half, g__law_half⟩ := d__law_half.at X G
  obtain ⟨_, _, n__law_is_false, g__law_is_false⟩ := d__law_is_false.at X G
  obtain ⟨_, _, n__law_shape, g__law_shape⟩ := d__law_shape.at X G
  obtain ⟨_, _, n__law_right, g__law_right⟩ := d__law_right.at X G
  obtain ⟨_, _, n__law_fronts_right, g__law_fronts_right⟩ := d__law_fronts_right.at X G
  obtain ⟨f, oc, odd, kV, doc, pm, an, cdv, ct, osl, a, l2, c, k⟩ := d_law
  have e := hmg.symm.trans (PySem.W.mg_of X G a)
  cases e
  refine ⟨PySem.W.fnOf "law" "law" (defArgs s_law) (defBody s_law) (defScope s_law) .none kV doc pm an cdv ct, fun s u => .of_eq rfl, fun base _ _ => FnOk.imp ?_ (spLaw_imp (mg := mg) hF)⟩
  have o_is_integer := ok_is_integer (P := l.prog) (w := w) (base := base) T n_is_integer g_is_integer 
  have o_is_whole := ok_is_whole (P := l.prog) (w := w) (base := base) T n_is_whole g_is_whole o_is_integer
  have o_need_whole := ok_need_whole (P := l.prog) (w := w) (base := base) T n_need_whole g_need_whole o_is_whole
  have o_power_in := ok_power_in (P := l.prog) (w := w) (base := base) T n_power_in g_power_in 
  have o_sign_in := ok_sign_in (P := l.prog) (w := w) (base := base) T n_sign_in g_sign_in 
  have o_above_in := ok_above_in (P := l.prog) (w := w) (base := base) T n_above_in g_above_in 
  have o_fits_two_shape := ok_fits_two_shape (P := l.prog) (w := w) (base := base) T n_fits_two_shape g_fits_two_shape o_is_whole o_above_in
  have o_need_two_shape := ok_need_two_shape (P := l.prog) (w := w) (base := base) T n_need_two_shape g_need_two_shape o_fits_two_shape
  have o_half_in := ok_half_in (P := l.prog) (w := w) (base := base) T n_half_in g_half_in o_power_in
  have o_is_square_number := ok_is_square_number (P := l.prog) (w := w) (base := base) T n_is_square_number g_is_square_number 
  have o_paper_base := ok_paper_base (P := l.prog) (w := w) (base := base) T n_paper_base g_paper_base o_sign_in
  have o_is_prime_above := ok_is_prime_above (P := l.prog) (w := w) (base := base) T n_is_prime_above g_is_prime_above o_half_in o_is_square_number o_paper_base
  have o_is_false_in := ok_is_false_in (P := l.prog) (w := w) (base := base) T n_is_false_in g_is_false_in o_sign_in o_half_in
  have o_is_base_to := ok_is_base_to (P := l.prog) (w := w) (base := base) T n_is_base_to g_is_base_to o_is_integer
  have o_is_shape_prime := ok_is_shape_prime (P := l.prog) (w := w) (base := base) T n_is_shape_prime g_is_shape_prime o_above_in o_need_two_shape o_is_prime_above
  have o_false_paper := ok_false_paper (P := l.prog) (w := w) (base := base) T n_false_paper g_false_paper o_above_in o_need_two_shape o_is_prime_above o_is_false_in
  have o_is_false_paper := ok_is_false_paper (P := l.prog) (w := w) (base := base) T n_is_false_paper g_is_false_paper o_above_in o_need_two_shape o_is_false_in o_is_base_to
  have o_prime_fronts := ok_prime_fronts (P := l.prog) (w := w) (base := base) T n_prime_fronts g_prime_fronts o_need_whole o_above_in o_fits_two_shape o_is_prime_above
  have o__law_cup := ok__law_cup (P := l.prog) (w := w) (base := base) T n__law_cup g__law_cup 
  have o__law_roll := ok__law_roll (P := l.prog) (w := w) (base := base) T n__law_roll g__law_roll 
  have o__law_sort := ok__law_sort (P := l.prog) (w := w) (base := base) T n__law_sort g__law_sort 
  have o__law_like := ok__law_like (P := l.prog) (w := w) (base := base) T n__law_like g__law_like o__law_sort 6
  have o__law_is_prime := ok__law_is_prime (P := l.prog) (w := w) (base := base) T n__law_is_prime g__law_is_prime 
  have o__law_power := ok__law_power (P := l.prog) (w := w) (base := base) T n__law_power g__law_power 
  have o__law_above := ok__law_above (P := l.prog) (w := w) (base := base) T n__law_above g__law_above 
  have o__law_is_shape := ok__law_is_shape (P := l.prog) (w := w) (base := base) T n__law_is_shape g__law_is_shape o__law_sort o__law_above
  have o__law_sign := ok__law_sign (P := l.prog) (w := w) (base := base) T n__law_sign g__law_sign 
  have o__law_half := ok__law_half (P := l.prog) (w := w) (base := base) T n__law_half g__law_half o__law_power
  have o__law_is_false := ok__law_is_false (P := l.prog) (w := w) (base := base) T n__law_is_false g__law_is_false o__law_sign o__law_half
  have o__law_shape := ok__law_shape (P := l.prog) (w := w) (base := base) T n__law_shape g__law_shape o__law_roll o__law_above
  have o__law_right := ok__law_right (P := l.prog) (w := w) (base := base) T n__law_right g__law_right o_is_shape_prime o_false_paper o_is_false_paper o__law_roll o__law_sort o__law_like o__law_above o__law_is_false
  have o__law_fronts_right := ok__law_fronts_right (P := l.prog) (w := w) (base := base) T n__law_fronts_right g__law_fronts_right o_prime_fronts o__law_like o__law_is_prime o__law_above o__law_is_shape
  exact ok_law T (fun_mk l2 c k) o_false_paper o_is_false_paper o_prime_fronts o__law_cup o__law_roll o__law_like o__law_is_prime o__law_above o__law_shape o__law_right o__law_fronts_right
end Lw

open PySem PySem.W PyProof.Rows
set_option maxHeartbeats 0 in
theorem PySem.Challenge.cw_primessure_k77_whole_false_papers_and_fr_holds : PySem.Challenge.rw_primessure_k77_whole_false_papers_and_fr.Holds := by
  w_on; o_law; k_head; (case hw => w_witness2)
  k_fill
  refine Mi.walk_end (l := PySem.Challenge.rw_primessure_k77_whole_false_papers_and_fr) (n := 63) (k := 9) (x := "script") rfl (by decide) rfl ⟨rfl, by decide, by decide⟩ (fun w h Y => PySem.W.kIn_of Y) ?F
  case F =>
    intro w mg fa h KX G hmg XP
    refine' Lw.all_mk KX G hmg ⟨PySem.W.mg_none_of KX G ?b_abs, PySem.W.mg_none_of KX G ?b_bool, PySem.W.mg_none_of KX G ?b_int, PySem.W.mg_none_of KX G ?b_isinstance, PySem.W.mg_none_of KX G ?b_len, PySem.W.mg_none_of KX G ?b_list, PySem.W.mg_none_of KX G ?b_min, PySem.W.mg_none_of KX G ?b_range, PySem.W.mg_none_of KX G ?b_str, PySem.W.mg_none_of KX G ?b_tuple, PySem.W.mg_none_of KX G ?b_zip, Mi.loose_int XP.2 (by simp), Mi.glo_int KX G ?c_LISTED_FRONT, Mi.glo_int KX G ?c_LISTED_POWER, Mi.glo_int KX G ?c_MOST_POWER⟩ (.of ?a_is_integer ?l_is_integer ?k_is_integer ?p_is_integer) (.of ?a_is_whole ?l_is_whole ?k_is_whole ?p_is_whole) (.of ?a_need_whole ?l_need_whole ?k_need_whole ?p_need_whole) (.of ?a_power_in ?l_power_in ?k_power_in ?p_power_in) (.of ?a_sign_in ?l_sign_in ?k_sign_in ?p_sign_in) (.of ?a_above_in ?l_above_in ?k_above_in ?p_above_in) (.of ?a_fits_two_shape ?l_fits_two_shape ?k_fits_two_shape ?p_fits_two_shape) (.of ?a_need_two_shape ?l_need_two_shape ?k_need_two_shape ?p_need_two_shape) (.of ?a_half_in ?l_half_in ?k_half_in ?p_half_in) (.of ?a_is_square_number ?l_is_square_number ?k_is_square_number ?p_is_square_number) (.of ?a_paper_base ?l_paper_base ?k_paper_base ?p_paper_base) (.of ?a_is_prime_above ?l_is_prime_above ?k_is_prime_above ?p_is_prime_above) (.of ?a_is_false_in ?l_is_false_in ?k_is_false_in ?p_is_false_in) (.of ?a_is_base_to ?l_is_base_to ?k_is_base_to ?p_is_base_to) (.of ?a_is_shape_prime ?l_is_shape_prime ?k_is_shape_prime ?p_is_shape_prime) (.of ?a_false_paper ?l_false_paper ?k_false_paper ?p_false_paper) (.of ?a_is_false_paper ?l_is_false_paper ?k_is_false_paper ?p_is_false_paper) (.of ?a_prime_fronts ?l_prime_fronts ?k_prime_fronts ?p_prime_fronts) (.of ?a__law_cup ?l__law_cup ?k__law_cup ?p__law_cup) (.of ?a__law_roll ?l__law_roll ?k__law_roll ?p__law_roll) (.of ?a__law_sort ?l__law_sort ?k__law_sort ?p__law_sort) (.of ?a__law_like ?l__law_like ?k__law_like ?p__law_like) (.of ?a__law_is_prime ?l__law_is_prime ?k__law_is_prime ?p__law_is_prime) (.of ?a__law_power ?l__law_power ?k__law_power ?p__law_power) (.of ?a__law_above ?l__law_above ?k__law_above ?p__law_above) (.of ?a__law_is_shape ?l__law_is_shape ?k__law_is_shape ?p__law_is_shape) (.of ?a__law_sign ?l__law_sign ?k__law_sign ?p__law_sign) (.of ?a__law_half ?l__law_half ?k__law_half ?p__law_half) (.of ?a__law_is_false ?l__law_is_false ?k__law_is_false ?p__law_is_false) (.of ?a__law_shape ?l__law_shape ?k__law_shape ?p__law_shape) (.of ?a__law_right ?l__law_right ?k__law_right ?p__law_right) (.of ?a__law_fronts_right ?l__law_fronts_right ?k__law_fronts_right ?p__law_fronts_right) (.of ?a_law ?l_law ?k_law ?p_law) Lw.law_true
    (case b_abs => k_is)
    (case b_bool => k_is)
    (case b_int => k_is)
    (case b_isinstance => k_is)
    (case b_len => k_is)
    (case b_list => k_is)
    (case b_min => k_is)
    (case b_range => k_is)
    (case b_str => k_is)
    (case b_tuple => k_is)
    (case b_zip => k_is)
    (case c_LISTED_FRONT => k_is)
    (case c_LISTED_POWER => k_is)
    (case c_MOST_POWER => k_is)
    (case a_is_integer => k_is)
    (case l_is_integer => k_is)
    (case k_is_integer => k_is)
    (case p_is_integer => k_is)
    (case a_is_whole => k_is)
    (case l_is_whole => k_is)
    (case k_is_whole => k_is)
    (case p_is_whole => k_is)
    (case a_need_whole => k_is)
    (case l_need_whole => k_is)
    (case k_need_whole => k_is)
    (case p_need_whole => k_is)
    (case a_power_in => k_is)
    (case l_power_in => k_is)
    (case k_power_in => k_is)
    (case p_power_in => k_is)
    (case a_sign_in => k_is)
    (case l_sign_in => k_is)
    (case k_sign_in => k_is)
    (case p_sign_in => k_is)
    (case a_above_in => k_is)
    (case l_above_in => k_is)
    (case k_above_in => k_is)
    (case p_above_in => k_is)
    (case a_fits_two_shape => k_is)
    (case l_fits_two_shape => k_is)
    (case k_fits_two_shape => k_is)
    (case p_fits_two_shape => k_is)
    (case a_need_two_shape => k_is)
    (case l_need_two_shape => k_is)
    (case k_need_two_shape => k_is)
    (case p_need_two_shape => k_is)
    (case a_half_in => k_is)
    (case l_half_in => k_is)
    (case k_half_in => k_is)
    (case p_half_in => k_is)
    (case a_is_square_number => k_is)
    (case l_is_square_number => k_is)
    (case k_is_square_number => k_is)
    (case p_is_square_number => k_is)
    (case a_paper_base => k_is)
    (case l_paper_base => k_is)
    (case k_paper_base => k_is)
    (case p_paper_base => k_is)
    (case a_is_prime_above => k_is)
    (case l_is_prime_above => k_is)
    (case k_is_prime_above => k_is)
    (case p_is_prime_above => k_is)
    (case a_is_false_in => k_is)
    (case l_is_false_in => k_is)
    (case k_is_false_in => k_is)
    (case p_is_false_in => k_is)
    (case a_is_base_to => k_is)
    (case l_is_base_to => k_is)
    (case k_is_base_to => k_is)
    (case p_is_base_to => k_is)
    (case a_is_shape_prime => k_is)
    (case l_is_shape_prime => k_is)
    (case k_is_shape_prime => k_is)
    (case p_is_shape_prime => k_is)
    (case a_false_paper => k_is)
    (case l_false_paper => k_is)
    (case k_false_paper => k_is)
    (case p_false_paper => k_is)
    (case a_is_false_paper => k_is)
    (case l_is_false_paper => k_is)
    (case k_is_false_paper => k_is)
    (case p_is_false_paper => k_is)
    (case a_prime_fronts => k_is)
    (case l_prime_fronts => k_is)
    (case k_prime_fronts => k_is)
    (case p_prime_fronts => k_is)
    (case a__law_cup => k_is)
    (case l__law_cup => k_is)
    (case k__law_cup => k_is)
    (case p__law_cup => k_is)
    (case a__law_roll => k_is)
    (case l__law_roll => k_is)
    (case k__law_roll => k_is)
    (case p__law_roll => k_is)
    (case a__law_sort => k_is)
    (case l__law_sort => k_is)
    (case k__law_sort => k_is)
    (case p__law_sort => k_is)
    (case a__law_like => k_is)
    (case l__law_like => k_is)
    (case k__law_like => k_is)
    (case p__law_like => k_is)
    (case a__law_is_prime => k_is)
    (case l__law_is_prime => k_is)
    (case k__law_is_prime => k_is)
    (case p__law_is_prime => k_is)
    (case a__law_power => k_is)
    (case l__law_power => k_is)
    (case k__law_power => k_is)
    (case p__law_power => k_is)
    (case a__law_above => k_is)
    (case l__law_above => k_is)
    (case k__law_above => k_is)
    (case p__law_above => k_is)
    (case a__law_is_shape => k_is)
    (case l__law_is_shape => k_is)
    (case k__law_is_shape => k_is)
    (case p__law_is_shape => k_is)
    (case a__law_sign => k_is)
    (case l__law_sign => k_is)
    (case k__law_sign => k_is)
    (case p__law_sign => k_is)
    (case a__law_half => k_is)
    (case l__law_half => k_is)
    (case k__law_half => k_is)
    (case p__law_half => k_is)
    (case a__law_is_false => k_is)
    (case l__law_is_false => k_is)
    (case k__law_is_false => k_is)
    (case p__law_is_false => k_is)
    (case a__law_shape => k_is)
    (case l__law_shape => k_is)
    (case k__law_shape => k_is)
    (case p__law_shape => k_is)
    (case a__law_right => k_is)
    (case l__law_right => k_is)
    (case k__law_right => k_is)
    (case p__law_right => k_is)
    (case a__law_fronts_right => k_is)
    (case l__law_fronts_right => k_is)
    (case k__law_fronts_right => k_is)
    (case p__law_fronts_right => k_is)
    (case a_law => k_is)
    (case l_law => k_is)
    (case k_law => k_is)
    (case p_law => k_is)

