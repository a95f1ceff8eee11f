import PyProof.Rows.All
import Wide.All
import OpenK.AllK
import Wide.FinOn
import KE.KStateDown
import Lean
import HandS.ForMost
import HandS.Wide
import HandS.TupAny
import HandS.TupMul
import HandS.Deep
import HandS.IsInst
import HandS.Zip
import KE.GoesNew
import KE.GoesEnum
import HandS.Style
import HandS.DictComp
import HandS.More
import HandS.Defaults
import HandS.Text
import PyProof.FString5
import KE.SortData
import HandS.ListItems
import HandS.DictTup
import HandS.WordsExc
import HandS.Head0
import HandS.Head1
import HandS.Head2
import HandS.HeadEnd
import HandS.HeadHook1
import HandS.HeadHook2
import HandS.HeadHook3
import HandS.HeadHook4
import PySem.Challenge.RW_slipshafts_k31_whole_fewest_locked
set_option Elab.async false
set_option linter.all false
set_option maxRecDepth 100000
set_option maxHeartbeats 0
/-! DL1: data over the abstract heap: frozen data, owned lists and dicts, states, steps. -/
namespace DL
open PySem PySem.Spec PyProof.Rows L2

abbrev D := PyData
abbrev Zp := Addr → Prop
/-- the script -/
def scrD (ns : List Int) : D := .dict [(.none, .list (ns.map PyData.int))]
def dictD (kvs : List (Str × D)) : D := .dict (kvs.map fun p => (.str p.1, p.2))

mutual
/-- the value v is the datum d, in objects of Z (or of the module's own top) -/
inductive R (K : PySem.W.Frag) (Z : Zp) (H : Hp) : V → D → Prop
  | non : R K Z H .non .none
  | bl (b : Bool) : R K Z H (.bl b) (.bool b)
  | int (i : Int) : R K Z H (.int i) (.int i)
  | str (x : Str) : R K Z H (.str x) (.str x)
  | tup {a : Addr} {xs : List V} {ds : List D} : Z a → H a = some (.tup xs) → RA K Z H xs ds → R K Z H (.ref a) (.tuple ds)
  | ktup {a : Addr} {xs : List V} {ds : List D} : (∀ H, SqT K H a xs) → RA K Z H xs ds → R K Z H (.ref a) (.tuple ds)
  | lst {a : Addr} {xs : List V} {ds : List D} : Z a → H a = some (.lst xs) → RA K Z H xs ds → R K Z H (.ref a) (.list ds)
  | dic {a : Addr} {ks : List (Key × V)} {kvs : List (Str × D)} : Z a → Rd H a (.dK ks) → RK K Z H ks kvs → R K Z H (.ref a) (.dict (kvs.map fun p => (PyData.str p.1, p.2)))
  | scr {a : Addr} {ns : List Int} : Z a → Rd H a (.lst (ns.map V.int)) → R K Z H (.ref a) (.dict [(.none, .list (ns.map PyData.int))])
  | kscr {a : Addr} {ns : List Int} : (∀ H, SqL K H a (ns.map V.int)) → R K Z H (.ref a) (.dict [(.none, .list (ns.map PyData.int))])
inductive RA (K : PySem.W.Frag) (Z : Zp) (H : Hp) : List V → List D → Prop
  | nil : RA K Z H [] []
  | cons {v : V} {vs : List V} {d : D} {ds : List D} : R K Z H v d → RA K Z H vs ds → RA K Z H (v :: vs) (d :: ds)
inductive RK (K : PySem.W.Frag) (Z : Zp) (H : Hp) : List (Key × V) → List (Str × D) → Prop
  | nil : RK K Z H [] []
  | cons {s : Str} {v : V} {vs : List (Key × V)} {d : D} {ds : List (Str × D)} : R K Z H v d → RK K Z H vs ds → RK K Z H ((Sum.inr s, v) :: vs) ((s, d) :: ds)
end

theorem rd_mono {H H' : Hp} {a : Addr} {u : HO} (h : H' a = H a) (e : Rd H a u) : Rd H' a u := by
  rcases e with e | ⟨o, e⟩
  · exact .inl (h.trans e)
  · exact .inr ⟨o, h.trans e⟩
section
variable {K : PySem.W.Frag} {Z Z' : Zp} {H H' : Hp}
mutual
theorem R.mono (hz : ∀ a, Z a → Z' a) (hh : ∀ a, Z a → H' a = H a) {v : V} {d : D} : R K Z H v d → R K Z' H' v d
  | .non => .non
  | .bl b => .bl b
  | .int i => .int i
  | .str x => .str x
  | .tup z e r => .tup (hz _ z) ((hh _ z).trans e) (RA.mono hz hh r)
  | .ktup e r => .ktup e (RA.mono hz hh r)
  | .lst z e r => .lst (hz _ z) ((hh _ z).trans e) (RA.mono hz hh r)
  | .dic z e r => .dic (hz _ z) (rd_mono (hh _ z) e) (RK.mono hz hh r)
  | .scr z e => .scr (hz _ z) (rd_mono (hh _ z) e)
  | .kscr e => .kscr e
theorem RA.mono (hz : ∀ a, Z a → Z' a) (hh : ∀ a, Z a → H' a = H a) {vs : List V} {ds : List D} : RA K Z H vs ds → RA K Z' H' vs ds
  | .nil => .nil
  | .cons r t => .cons (R.mono hz hh r) (RA.mono hz hh t)
theorem RK.mono (hz : ∀ a, Z a → Z' a) (hh : ∀ a, Z a → H' a = H a) {vs : List (Key × V)} {ds : List (Str × D)} : RK K Z H vs ds → RK K Z' H' vs ds
  | .nil => .nil
  | .cons r t => .cons (R.mono hz hh r) (RK.mono hz hh t)
end
theorem RA.length : ∀ {vs : List V} {ds : List D}, RA K Z H vs ds → vs.length = ds.length
  | _, _, .nil => rfl
  | _, _, .cons _ t => by simp [RA.length t]
theorem RA.get : ∀ {vs : List V} {ds : List D} {i : Nat} {d : D}, RA K Z H vs ds → ds[i]? = some d → ∃ v, vs[i]? = some v ∧ R K Z H v d
  | _, _, _, _, .nil, e => by simp at e
  | _, _, 0, _, .cons r _, e => by simp at e; subst e; exact ⟨_, rfl, r⟩
  | _, _, i + 1, _, .cons _ t, e => by
    obtain ⟨v, h1, h2⟩ := RA.get (i := i) t (by simpa using e)
    exact ⟨v, by simpa using h1, h2⟩
theorem RA.append : ∀ {vs ws : List V} {ds es : List D}, RA K Z H vs ds → RA K Z H ws es → RA K Z H (vs ++ ws) (ds ++ es)
  | _, _, _, _, .nil, s => s
  | _, _, _, _, .cons r t, s => .cons r (RA.append t s)
theorem RA.set {v : V} {d : D} (r : R K Z H v d) : ∀ {vs : List V} {ds : List D} (i : Nat), RA K Z H vs ds → RA K Z H (vs.set i v) (ds.set i d)
  | _, _, _, .nil => .nil
  | _, _, 0, .cons _ t => .cons r t
  | _, _, i + 1, .cons q t => .cons q (RA.set r i t)
theorem RA.take : ∀ {vs : List V} {ds : List D} (n : Nat), RA K Z H vs ds → RA K Z H (vs.take n) (ds.take n)
  | _, _, 0, _ => .nil
  | _, _, _ + 1, .nil => .nil
  | _, _, n + 1, .cons r t => .cons r (RA.take n t)
theorem RA.drop : ∀ {vs : List V} {ds : List D} (n : Nat), RA K Z H vs ds → RA K Z H (vs.drop n) (ds.drop n)
  | _, _, 0, r => r
  | _, _, _ + 1, .nil => .nil
  | _, _, n + 1, .cons _ t => RA.drop n t
theorem RA.reverse : ∀ {vs : List V} {ds : List D}, RA K Z H vs ds → RA K Z H vs.reverse ds.reverse
  | _, _, .nil => .nil
  | _, _, .cons r t => by
    rw [List.reverse_cons, List.reverse_cons]
    exact RA.append (RA.reverse t) (.cons r .nil)
theorem RA.insertIdx {v : V} {d : D} (r : R K Z H v d) : ∀ {vs : List V} {ds : List D} (i : Nat), RA K Z H vs ds → RA K Z H (vs.insertIdx i v) (ds.insertIdx i d)
  | _, _, 0, t => by simpa using RA.cons r t
  | _, _, i + 1, .nil => by simpa using RA.nil
  | _, _, i + 1, .cons q t => by simpa using RA.cons q (RA.insertIdx r i t)
theorem RA.eraseIdx : ∀ {vs : List V} {ds : List D} (i : Nat), RA K Z H vs ds → RA K Z H (vs.eraseIdx i) (ds.eraseIdx i)
  | _, _, _, .nil => .nil
  | _, _, 0, .cons _ t => t
  | _, _, i + 1, .cons q t => .cons q (RA.eraseIdx i t)
theorem RK.length : ∀ {vs : List (Key × V)} {ds : List (Str × D)}, RK K Z H vs ds → vs.length = ds.length
  | _, _, .nil => rfl
  | _, _, .cons _ t => by simp [RK.length t]
end

/-! ### slots, states -/
/-- what is known of a slot: nothing; it holds a frozen datum; it alone holds this list, this dict -/
inductive Sl where
  | un | fz (d : D) | ow (ds : List D) | od (kvs : List (Str × D))
abbrev Dn := List Sl
def Sl.own : Sl → Bool
  | .ow _ => true
  | .od _ => true
  | _ => false
/-- what may be written: the objects of owned slots -/
def Wr (σ : L2.St) (δ : Dn) (a : Addr) : Prop := ∃ (i : Nat) (s : Sl), δ[i]? = some s ∧ s.own = true ∧ σ[i]? = some (some (V.ref a))
def OwnAt (K : PySem.W.Frag) (Z : Zp) (H : Hp) (v : V) : Sl → Prop
  | .un => True
  | .fz d => R K Z H v d
  | .ow ds => ∃ p xs, v = .ref p ∧ ¬ Z p ∧ H p = some (.lst xs) ∧ RA K Z H xs ds
  | .od kvs => ∃ p ks, v = .ref p ∧ ¬ Z p ∧ H p = some (.dK ks) ∧ RK K Z H ks kvs
def Trk (Z : Zp) (H : Hp) : Prop := ∀ a, Z a → ∃ o, H a = some o
structure Rep (K : PySem.W.Frag) (Z : Zp) (H : Hp) (σ : L2.St) (δ : Dn) : Prop where
  len : σ.length = δ.length
  trk : Trk Z H
  at_ : ∀ (i : Nat) (s : Sl), δ[i]? = some s → s ≠ .un → ∃ v, σ[i]? = some (some v) ∧ OwnAt K Z H v s
  sep : ∀ (i j : Nat) (s t : Sl) (p : Addr), i ≠ j → δ[i]? = some s → δ[j]? = some t → s.own = true → t.own = true → σ[i]? = some (some (V.ref p)) → σ[j]? = some (some (V.ref p)) → False
/-- the first slot, where it is owned, has stood so -/
def Pin (σ : L2.St) (δ : Dn) (σ' : L2.St) (δ' : Dn) : Prop := ∀ s', δ'[0]? = some s' → s'.own = true → σ'[0]? = σ[0]? ∧ ∃ s, δ[0]? = some s ∧ s.own = true
/-- from one state to a later one -/
structure Stp (Z : Zp) (H : Hp) (σ : L2.St) (δ : Dn) (Z' : Zp) (H' : Hp) (σ' : L2.St) (δ' : Dn) : Prop where
  zsub : ∀ a, Z a → Z' a
  znew : ∀ a, Z' a → Z a ∨ H a = none ∨ Wr σ δ a
  keep : ∀ a o, H a = some o → ¬ Wr σ δ a → H' a = some o
  there : ∀ a o, H a = some o → ∃ o', H' a = some o'
  own : ∀ a, Wr σ' δ' a → Wr σ δ a ∨ H a = none
  pin : Pin σ δ σ' δ'
/-- nothing but new objects, some of them frozen -/
structure Grow (Z : Zp) (H : Hp) (Z' : Zp) (H' : Hp) : Prop where
  zsub : ∀ a, Z a → Z' a
  znew : ∀ a, Z' a → Z a ∨ H a = none
  keep : ∀ a o, H a = some o → H' a = some o
  trk : Trk Z' H'

section
variable {K : PySem.W.Frag} {Z Z' Z2 : Zp} {H H' H2 : Hp} {σ σ' σ2 : L2.St} {δ δ' δ2 : Dn}
theorem sn {a : Addr} {o : HO} (e : H a = some o) (z : H a = none) : False := by
  rw [e] at z
  cases z
theorem none_of_there (h : ∀ a o, H a = some o → ∃ o', H' a = some o') {a : Addr} (e : H' a = none) : H a = none := by
  cases q : H a with
  | none => rfl
  | some o =>
    obtain ⟨o', e'⟩ := h a o q
    rw [e] at e'
    cases e'
theorem Pin.refl : Pin σ δ σ δ := fun s e h => ⟨rfl, s, e, h⟩
theorem Pin.trans (a : Pin σ δ σ' δ') (b : Pin σ' δ' σ2 δ2) : Pin σ δ σ2 δ2 := fun s e h => by
  obtain ⟨e1, s1, e2, h2⟩ := b s e h
  obtain ⟨e3, s3, e4, h4⟩ := a s1 e2 h2
  exact ⟨e1.trans e3, s3, e4, h4⟩
theorem Stp.refl : Stp Z H σ δ Z H σ δ := ⟨fun _ h => h, fun _ h => .inl h, fun _ _ h _ => h, fun _ o h => ⟨o, h⟩, fun _ h => .inl h, .refl⟩
theorem Stp.trans (a : Stp Z H σ δ Z' H' σ' δ') (b : Stp Z' H' σ' δ' Z2 H2 σ2 δ2) : Stp Z H σ δ Z2 H2 σ2 δ2 where
  zsub := fun x h => b.zsub x (a.zsub x h)
  znew := fun x h => by
    rcases b.znew x h with h | h | h
    · exact a.znew x h
    · exact .inr (.inl (none_of_there a.there h))
    · rcases a.own x h with h | h
      · exact .inr (.inr h)
      · exact .inr (.inl h)
  keep := fun x o e n => b.keep x o (a.keep x o e n) fun w => by
    rcases a.own x w with h | h
    · exact n h
    · rw [e] at h; cases h
  there := fun x o e => by
    obtain ⟨o', e'⟩ := a.there x o e
    exact b.there x o' e'
  own := fun x h => by
    rcases b.own x h with h | h
    · exact a.own x h
    · exact .inr (none_of_there a.there h)
  pin := a.pin.trans b.pin
theorem Rep.nwr (r : Rep K Z H σ δ) {a : Addr} (z : Z a) : ¬ Wr σ δ a := by
  rintro ⟨i, s, e, ho, hv⟩
  obtain ⟨v, ev, q⟩ := r.at_ i s e (by rintro rfl; cases ho)
  rw [hv] at ev
  cases ev
  cases s with
  | un => cases ho
  | fz d => cases ho
  | ow ds => obtain ⟨p, xs, ep, nz, _⟩ := q; cases ep; exact nz z
  | od kvs => obtain ⟨p, xs, ep, nz, _⟩ := q; cases ep; exact nz z
theorem Rep.wsome (r : Rep K Z H σ δ) {a : Addr} (w : Wr σ δ a) : ∃ o, H a = some o := by
  obtain ⟨i, s, e, ho, hv⟩ := w
  obtain ⟨v, ev, q⟩ := r.at_ i s e (by rintro rfl; cases ho)
  rw [hv] at ev
  cases ev
  cases s with
  | un => cases ho
  | fz d => cases ho
  | ow ds => obtain ⟨p, xs, ep, nz, e2, _⟩ := q; cases ep; exact ⟨_, e2⟩
  | od kvs => obtain ⟨p, xs, ep, nz, e2, _⟩ := q; cases ep; exact ⟨_, e2⟩
/-- frozen objects stand through a step -/
theorem Stp.zh (s : Stp Z H σ δ Z' H' σ' δ') (r : Rep K Z H σ δ) : ∀ a, Z a → H' a = H a := fun a z => by
  obtain ⟨o, e⟩ := r.trk a z
  rw [s.keep a o e (r.nwr z), e]
theorem Stp.R (s : Stp Z H σ δ Z' H' σ' δ') (r : Rep K Z H σ δ) {v : V} {d : D} (h : DL.R K Z H v d) : DL.R K Z' H' v d := h.mono s.zsub (s.zh r)
theorem Stp.RA (s : Stp Z H σ δ Z' H' σ' δ') (r : Rep K Z H σ δ) {v : List V} {d : List D} (h : DL.RA K Z H v d) : DL.RA K Z' H' v d := h.mono s.zsub (s.zh r)
theorem Stp.RK (s : Stp Z H σ δ Z' H' σ' δ') (r : Rep K Z H σ δ) {v : List (Key × V)} {d : List (Str × D)} (h : DL.RK K Z H v d) : DL.RK K Z' H' v d := h.mono s.zsub (s.zh r)
theorem Grow.refl (t : Trk Z H) : Grow Z H Z H := ⟨fun _ h => h, fun _ h => .inl h, fun _ _ h => h, t⟩
theorem Grow.trans (a : Grow Z H Z' H') (b : Grow Z' H' Z2 H2) : Grow Z H Z2 H2 where
  zsub := fun x h => b.zsub x (a.zsub x h)
  znew := fun x h => by
    rcases b.znew x h with h | h
    · exact a.znew x h
    · exact .inr (none_of_there (fun a' o e => ⟨o, a.keep a' o e⟩) h)
  keep := fun x o e => b.keep x o (a.keep x o e)
  trk := b.trk
theorem Grow.zh (g : Grow Z H Z' H') (t : Trk Z H) : ∀ a, Z a → H' a = H a := fun a z => by
  obtain ⟨o, e⟩ := t a z
  rw [g.keep a o e, e]
theorem Grow.stp (g : Grow Z H Z' H') : Stp Z H σ δ Z' H' σ δ :=
  ⟨g.zsub, fun a h => by
    rcases g.znew a h with h | h
    · exact .inl h
    · exact .inr (.inl h), fun a o e _ => g.keep a o e, fun a o e => ⟨o, g.keep a o e⟩, fun a h => .inl h, .refl⟩
theorem Grow.rep (g : Grow Z H Z' H') (r : Rep K Z H σ δ) : Rep K Z' H' σ δ where
  len := r.len
  trk := g.trk
  at_ := fun i s e ne => by
    obtain ⟨v, ev, q⟩ := r.at_ i s e ne
    refine ⟨v, ev, ?_⟩
    cases s with
    | un => exact True.intro
    | fz d => exact DL.R.mono g.zsub (g.zh r.trk) q
    | ow ds =>
      obtain ⟨p, xs, rfl, nz, hp, ra⟩ := q
      exact ⟨p, xs, rfl, fun z => by
        rcases g.znew p z with z | z
        · exact nz z
        · exact sn hp z, g.keep _ _ hp, DL.RA.mono g.zsub (g.zh r.trk) ra⟩
    | od kvs =>
      obtain ⟨p, xs, rfl, nz, hp, ra⟩ := q
      exact ⟨p, xs, rfl, fun z => by
        rcases g.znew p z with z | z
        · exact nz z
        · exact sn hp z, g.keep _ _ hp, DL.RK.mono g.zsub (g.zh r.trk) ra⟩
  sep := r.sep
/-- a new object, frozen or not -/
theorem Grow.new (t : Trk Z H) {p : Addr} {o : HO} (h : H p = none) : Grow Z H Z (upd H p o) := by
  refine ⟨fun _ h => h, fun _ h => .inl h, fun a u e => ?_, fun a z => ?_⟩
  · rw [upd_ne (ne_of_none e h)]
    exact e
  · obtain ⟨u, e⟩ := t a z
    exact ⟨u, by rw [upd_ne (ne_of_none e h)]; exact e⟩
theorem Grow.newZ (t : Trk Z H) {p : Addr} {o : HO} (h : H p = none) : Grow Z H (fun a => Z a ∨ a = p) (upd H p o) := by
  refine ⟨fun _ h => .inl h, fun a z => ?_, fun a u e => ?_, fun a z => ?_⟩
  · rcases z with z | rfl
    · exact .inl z
    · exact .inr h
  · rw [upd_ne (ne_of_none e h)]
    exact e
  · rcases z with z | rfl
    · obtain ⟨u, e⟩ := t a z
      exact ⟨u, by rw [upd_ne (ne_of_none e h)]; exact e⟩
    · exact ⟨o, upd_same⟩
theorem Grow.R (g : Grow Z H Z' H') (t : Trk Z H) {v : V} {d : D} (h : DL.R K Z H v d) : DL.R K Z' H' v d := h.mono g.zsub (g.zh t)
theorem Grow.RA (g : Grow Z H Z' H') (t : Trk Z H) {v : List V} {d : List D} (h : DL.RA K Z H v d) : DL.RA K Z' H' v d := h.mono g.zsub (g.zh t)
theorem Grow.RK (g : Grow Z H Z' H') (t : Trk Z H) {v : List (Key × V)} {d : List (Str × D)} (h : DL.RK K Z H v d) : DL.RK K Z' H' v d := h.mono g.zsub (g.zh t)
end

/-! ### values of expressions -/
/-- a frozen datum; what the owned slot i holds; a new list, a new dict, held by nobody else -/
inductive T where
  | fz (d : D) | al (i : Nat) | nw (ds : List D) | nd (kvs : List (Str × D))
/-- H0: the heap at the expression's start -/
def TV (K : PySem.W.Frag) (H0 : Hp) (Z : Zp) (H : Hp) (σ : L2.St) (δ : Dn) (v : V) : T → Prop
  | .fz d => R K Z H v d
  | .al i => σ[i]? = some (some v)
  | .nw ds => ∃ p xs, v = .ref p ∧ H0 p = none ∧ ¬ Z p ∧ ¬ Wr σ δ p ∧ H p = some (.lst xs) ∧ RA K Z H xs ds
  | .nd kvs => ∃ p ks, v = .ref p ∧ H0 p = none ∧ ¬ Z p ∧ ¬ Wr σ δ p ∧ H p = some (.dK ks) ∧ RK K Z H ks kvs
/-- what an operation hands back: no alias -/
def RT (K : PySem.W.Frag) (H0 : Hp) (Z : Zp) (H : Hp) (v : V) : T → Prop
  | .fz d => R K Z H v d
  | .al _ => False
  | .nw ds => ∃ p xs, v = .ref p ∧ H0 p = none ∧ ¬ Z p ∧ H p = some (.lst xs) ∧ RA K Z H xs ds
  | .nd kvs => ∃ p ks, v = .ref p ∧ H0 p = none ∧ ¬ Z p ∧ H p = some (.dK ks) ∧ RK K Z H ks kvs
/-- what can be read at once -/
def Pk (K : PySem.W.Frag) (Z : Zp) (H : Hp) (v : V) (d : D) : Prop :=
  R K Z H v d ∨ (∃ p xs ds, v = .ref p ∧ d = .list ds ∧ H p = some (.lst xs) ∧ RA K Z H xs ds) ∨ (∃ p ks kvs, v = .ref p ∧ d = dictD kvs ∧ H p = some (.dK ks) ∧ RK K Z H ks kvs)
def Sl.rd : Sl → Option D
  | .un => none
  | .fz d => some d
  | .ow ds => some (.list ds)
  | .od kvs => some (dictD kvs)
def T.rd (t : T) (δ : Dn) : Option D := match t with
  | .fz d => some d
  | .al i => (δ[i]?).bind Sl.rd
  | .nw ds => some (.list ds)
  | .nd kvs => some (dictD kvs)
/-- what can be kept: frozen or new -/
def T.st (t : T) : Option D := match t with
  | .fz d => some d
  | .al _ => none
  | .nw ds => some (.list ds)
  | .nd kvs => some (dictD kvs)

section
variable {K : PySem.W.Frag} {H0 H0' : Hp} {Z Z' Z2 : Zp} {H H' H2 : Hp} {σ σ' σ2 : L2.St} {δ δ' δ2 : Dn} {v : V} {t : T} {d : D}
theorem TV.stp (q : TV K H0 Z H σ δ v t) (r : Rep K Z H σ δ) (s : Stp Z H σ δ Z' H' σ δ') : TV K H0 Z' H' σ δ' v t := by
  cases t with
  | fz d => exact s.R r q
  | al i => exact q
  | nw ds =>
    obtain ⟨p, xs, rfl, n0, nz, nw, e, ra⟩ := q
    refine ⟨p, xs, rfl, n0, fun z => ?_, fun w => ?_, s.keep _ _ e nw, s.RA r ra⟩
    · rcases s.znew p z with z | z | z
      · exact nz z
      · rw [e] at z; cases z
      · exact nw z
    · rcases s.own p w with w | w
      · exact nw w
      · rw [e] at w; cases w
  | nd kvs =>
    obtain ⟨p, xs, rfl, n0, nz, nw, e, ra⟩ := q
    refine ⟨p, xs, rfl, n0, fun z => ?_, fun w => ?_, s.keep _ _ e nw, s.RK r ra⟩
    · rcases s.znew p z with z | z | z
      · exact nz z
      · rw [e] at z; cases z
      · exact nw z
    · rcases s.own p w with w | w
      · exact nw w
      · rw [e] at w; cases w
/-- an operation's value, seen from an earlier start -/
theorem RT.tv (q : RT K H Z' H' v t) (r : Rep K Z H σ δ) (hs : ∀ a o, H0 a = some o → ∃ o', H a = some o') : TV K H0 Z' H' σ δ v t := by
  cases t with
  | fz d => exact q
  | al i => exact q.elim
  | nw ds =>
    obtain ⟨p, xs, rfl, n0, nz, e, ra⟩ := q
    exact ⟨p, xs, rfl, none_of_there hs n0, nz, fun w => by
      obtain ⟨o, e2⟩ := r.wsome w
      exact sn e2 n0, e, ra⟩
  | nd kvs =>
    obtain ⟨p, xs, rfl, n0, nz, e, ra⟩ := q
    exact ⟨p, xs, rfl, none_of_there hs n0, nz, fun w => by
      obtain ⟨o, e2⟩ := r.wsome w
      exact sn e2 n0, e, ra⟩
theorem TV.early (q : TV K H0 Z H σ δ v t) (hs : ∀ a o, H0' a = some o → ∃ o', H0 a = some o') : TV K H0' Z H σ δ v t := by
  cases t with
  | fz d => exact q
  | al i => exact q
  | nw ds =>
    obtain ⟨p, xs, rfl, n0, r⟩ := q
    exact ⟨p, xs, rfl, none_of_there hs n0, r⟩
  | nd ds =>
    obtain ⟨p, xs, rfl, n0, r⟩ := q
    exact ⟨p, xs, rfl, none_of_there hs n0, r⟩
theorem OwnAt.pk {s : Sl} (q : OwnAt K Z H v s) (e : s.rd = some d) : Pk K Z H v d := by
  cases s with
  | un => cases e
  | fz d' => cases e; exact .inl q
  | ow ds =>
    cases e
    obtain ⟨p, xs, rfl, nz, e, ra⟩ := q
    exact .inr (.inl ⟨p, xs, ds, rfl, rfl, e, ra⟩)
  | od kvs =>
    cases e
    obtain ⟨p, xs, rfl, nz, e, ra⟩ := q
    exact .inr (.inr ⟨p, xs, kvs, rfl, rfl, e, ra⟩)
theorem TV.pk (q : TV K H0 Z H σ δ v t) (r : Rep K Z H σ δ) (e : t.rd δ = some d) : Pk K Z H v d := by
  cases t with
  | fz d' => cases e; exact .inl q
  | al i =>
    obtain ⟨s, es, e⟩ := Option.bind_eq_some_iff.mp e
    obtain ⟨u, eu, w⟩ := r.at_ i s es (by rintro rfl; cases e)
    have : σ[i]? = some (some v) := q
    rw [this] at eu
    cases eu
    exact w.pk e
  | nw ds =>
    cases e
    obtain ⟨p, xs, rfl, n0, nz, nw, e, ra⟩ := q
    exact .inr (.inl ⟨p, xs, ds, rfl, rfl, e, ra⟩)
  | nd kvs =>
    cases e
    obtain ⟨p, xs, rfl, n0, nz, nw, e, ra⟩ := q
    exact .inr (.inr ⟨p, xs, kvs, rfl, rfl, e, ra⟩)
/-- a new object is frozen: nothing else changes -/
theorem freeze1 {p : Addr} {o : HO} (r : Rep K Z H σ δ) (e : H p = some o) (nw : ¬ Wr σ δ p) : Rep K (fun a => Z a ∨ a = p) H σ δ := by
  refine ⟨r.len, fun a z => ?_, fun i s es ne => ?_, r.sep⟩
  · rcases z with z | rfl
    · exact r.trk a z
    · exact ⟨o, e⟩
  · obtain ⟨v, ev, q⟩ := r.at_ i s es ne
    refine ⟨v, ev, ?_⟩
    cases s with
    | un => exact True.intro
    | fz d => exact R.mono (fun _ h => .inl h) (fun _ _ => rfl) q
    | ow ds =>
      obtain ⟨b, xs, rfl, nz, hp, ra⟩ := q
      exact ⟨b, xs, rfl, fun z => by
        rcases z with z | rfl
        · exact nz z
        · exact nw ⟨i, _, es, rfl, ev⟩, hp, ra.mono (fun _ h => .inl h) (fun _ _ => rfl)⟩
    | od ds =>
      obtain ⟨b, xs, rfl, nz, hp, ra⟩ := q
      exact ⟨b, xs, rfl, fun z => by
        rcases z with z | rfl
        · exact nz z
        · exact nw ⟨i, _, es, rfl, ev⟩, hp, ra.mono (fun _ h => .inl h) (fun _ _ => rfl)⟩
/-- what is to be kept gets frozen -/
theorem TV.freeze {H1 : Hp} {Z1 : Zp} {δ1 : Dn} (q : TV K H1 Z H σ δ v t) (r : Rep K Z H σ δ) (s : Stp Z1 H1 σ δ1 Z H σ δ) (e : t.st = some d) : ∃ Z', Rep K Z' H σ δ ∧ Stp Z1 H1 σ δ1 Z' H σ δ ∧ (∀ a, Z a → Z' a) ∧ R K Z' H v d := by
  cases t with
  | fz d' => cases e; exact ⟨Z, r, s, fun _ h => h, q⟩
  | al i => cases e
  | nw ds =>
    cases e
    obtain ⟨p, xs, rfl, n0, nz, nw, e, ra⟩ := q
    exact ⟨_, freeze1 r e nw, ⟨fun a z => .inl (s.zsub a z), fun a z => by
      rcases z with z | rfl
      · exact s.znew a z
      · exact .inr (.inl n0), s.keep, s.there, s.own, s.pin⟩, fun _ h => .inl h, .lst (.inr rfl) e (ra.mono (fun _ h => .inl h) (fun _ _ => rfl))⟩
  | nd kvs =>
    cases e
    obtain ⟨p, xs, rfl, n0, nz, nw, e, ra⟩ := q
    exact ⟨_, freeze1 r e nw, ⟨fun a z => .inl (s.zsub a z), fun a z => by
      rcases z with z | rfl
      · exact s.znew a z
      · exact .inr (.inl n0), s.keep, s.there, s.own, s.pin⟩, fun _ h => .inl h, .dic (.inr rfl) (.inl e) (ra.mono (fun _ h => .inl h) (fun _ _ => rfl))⟩
end
end DL
/-! DL2: expressions: judgements and rules. -/
namespace DL
open PySem PySem.Spec PyProof.Rows L2

abbrev M (α : Type) := Dn → Option (α × Dn)

section
variable (K : PySem.W.Frag)
def Sem1 (t : TE) (F : M T) : Prop := ∀ Z H σ δ a δ', Rep K Z H σ δ → F δ = some (a, δ') → ∀ Q : VK,
  (∀ v Z' H', Rep K Z' H' σ δ' → Stp Z H σ δ Z' H' σ δ' → TV K H Z' H' σ δ' v a → Q v H') → t σ H Q
def SemB (t : TT) (F : M Bool) : Prop := ∀ Z H σ δ b δ', Rep K Z H σ δ → F δ = some (b, δ') → ∀ Q : Bool → Hp → Prop,
  (∀ Z' H', Rep K Z' H' σ δ' → Stp Z H σ δ Z' H' σ δ' → Q b H') → t σ H Q
def SemS (t : TA) (F : M (List D)) : Prop := ∀ Z H σ δ ds δ', Rep K Z H σ δ → F δ = some (ds, δ') → ∀ Q : List V → Hp → Prop,
  (∀ vs Z' H', Rep K Z' H' σ δ' → Stp Z H σ δ Z' H' σ δ' → RA K Z' H' vs ds → Q vs H') → t σ H Q
inductive TVs (H0 : Hp) (Z : Zp) (H : Hp) (σ : L2.St) (δ : Dn) : List V → List T → Prop
  | nil : TVs H0 Z H σ δ [] []
  | cons {v : V} {vs : List V} {t : T} {ts : List T} : TV K H0 Z H σ δ v t → TVs H0 Z H σ δ vs ts → TVs H0 Z H σ δ (v :: vs) (t :: ts)
def SemP (t : TA) (F : M (List T)) : Prop := ∀ Z H σ δ ts δ', Rep K Z H σ δ → F δ = some (ts, δ') → ∀ Q : List V → Hp → Prop,
  (∀ vs Z' H', Rep K Z' H' σ δ' → Stp Z H σ δ Z' H' σ δ' → TVs K H Z' H' σ δ' vs ts → Q vs H') → t σ H Q
inductive PkA (Z : Zp) (H : Hp) : List V → List D → Prop
  | nil : PkA Z H [] []
  | cons {v : V} {vs : List V} {d : D} {ds : List D} : Pk K Z H v d → PkA Z H vs ds → PkA Z H (v :: vs) (d :: ds)
end
def Ev (X : Cx) (e : Expr) (F : M T) : Prop := ∃ t, PE X e t ∧ Sem1 X.K t F
def EvT (X : Cx) (e : Expr) (F : M Bool) : Prop := ∃ t, PT X e t ∧ SemB X.K t F
def EvW (X : Cx) (e : Expr) (F : M Bool) : Prop := ∃ t, PW X e t ∧ SemB X.K t F
/-- arguments that are kept; arguments that are but read -/
def EvS (X : Cx) (es : List Expr) (F : M (List D)) : Prop := ∃ t, PA X es t ∧ SemS X.K t F
def EvP (X : Cx) (es : List Expr) (F : M (List T)) : Prop := ∃ t, PA X es t ∧ SemP X.K t F

/-! ### the functions -/
@[simp] def fVar (i : Nat) : M T := fun δ => match δ[i]? with
  | some (.fz d) => some (.fz d, δ)
  | some (.ow _) => some (.al i, δ)
  | some (.od _) => some (.al i, δ)
  | _ => none
@[simp] def fC (d : D) : M T := fun δ => some (.fz d, δ)
@[simp] def f1 (g : D → Option T) (A : M T) : M T := fun δ => (A δ).bind fun p => (p.1.rd p.2).bind fun x => (g x).map fun t => (t, p.2)
@[simp] def f2 (g : D → D → Option T) (A B : M T) : M T := fun δ => (A δ).bind fun p => (B p.2).bind fun q => (p.1.rd q.2).bind fun x => (q.1.rd q.2).bind fun y => (g x y).map fun t => (t, q.2)
def asB : T → Option Bool
  | .fz (.bool b) => some b
  | _ => none
@[simp] theorem asB_bool (b : Bool) : asB (.fz (.bool b)) = some b := rfl
@[simp] def fAnd (A B : M T) : M T := fun δ => (A δ).bind fun p => (asB p.1).bind fun b => if b = true then B p.2 else some (.fz (.bool false), p.2)
@[simp] def fOr (A B : M T) : M T := fun δ => (A δ).bind fun p => (asB p.1).bind fun b => if b = true then some (.fz (.bool true), p.2) else B p.2
@[simp] def fNot (A : M T) : M T := fun δ => (A δ).bind fun p => (asB p.1).map fun b => (.fz (.bool (!b)), p.2)
@[simp] def fIf (c : M Bool) (A B : M T) : M T := fun δ => (c δ).bind fun p => if p.1 = true then A p.2 else B p.2
@[simp] def tTst (A : M T) : M Bool := fun δ => (A δ).bind fun p => (asB p.1).map fun b => (b, p.2)
def tru : D → Option Bool
  | .none => some false
  | .bool b => some b
  | .int i => some (i != 0)
  | .str x => if x.length ≤ 1000000 then some (x.length != 0) else none
  | .list ds => some (!ds.isEmpty)
  | .tuple ds => some (!ds.isEmpty)
  | _ => none
@[simp] def tTru (A : M T) : M Bool := fun δ => (A δ).bind fun p => (p.1.rd p.2).bind fun x => (tru x).map fun b => (b, p.2)
@[simp] def tAnd (A B : M Bool) : M Bool := fun δ => (A δ).bind fun p => if p.1 = true then B p.2 else some (false, p.2)
@[simp] def tOr (A B : M Bool) : M Bool := fun δ => (A δ).bind fun p => if p.1 = true then some (true, p.2) else B p.2
@[simp] def tNot (A : M Bool) : M Bool := fun δ => (A δ).map fun p => (!p.1, p.2)
@[simp] def sNil : M (List D) := fun δ => some ([], δ)
@[simp] def sCons (A : M T) (As : M (List D)) : M (List D) := fun δ => (A δ).bind fun p => p.1.st.bind fun d => (As p.2).map fun q => (d :: q.1, q.2)
@[simp] def pNil : M (List T) := fun δ => some ([], δ)
@[simp] def pCons (A : M T) (As : M (List T)) : M (List T) := fun δ => (A δ).bind fun p => (As p.2).map fun q => (p.1 :: q.1, q.2)
def rdA (δ : Dn) : List T → Option (List D)
  | [] => some []
  | t :: ts => (t.rd δ).bind fun d => (rdA δ ts).map fun ds => d :: ds
@[simp] theorem rdA_nil (δ : Dn) : rdA δ [] = some [] := rfl
@[simp] theorem rdA_cons (δ : Dn) (t : T) (ts : List T) : rdA δ (t :: ts) = (t.rd δ).bind fun d => (rdA δ ts).map fun ds => d :: ds := rfl
@[simp] theorem rd_fz (d : D) (δ : Dn) : (T.fz d).rd δ = some d := rfl
@[simp] theorem rd_nw (ds : List D) (δ : Dn) : (T.nw ds).rd δ = some (.list ds) := rfl
@[simp] theorem rd_nd (ds : List (Str × D)) (δ : Dn) : (T.nd ds).rd δ = some (dictD ds) := rfl
@[simp] theorem rd_al (i : Nat) (δ : Dn) : (T.al i).rd δ = (δ[i]?).bind Sl.rd := rfl
@[simp] theorem slrd_fz (d : D) : (Sl.fz d).rd = some d := rfl
@[simp] theorem slrd_ow (d : List D) : (Sl.ow d).rd = some (.list d) := rfl
@[simp] theorem slrd_od (d : List (Str × D)) : (Sl.od d).rd = some (dictD d) := rfl
@[simp] theorem st_fz (d : D) : (T.fz d).st = some d := rfl
@[simp] theorem st_nw (ds : List D) : (T.nw ds).st = some (.list ds) := rfl
@[simp] theorem st_nd (ds : List (Str × D)) : (T.nd ds).st = some (dictD ds) := rfl
@[simp] theorem st_al (i : Nat) : (T.al i).st = none := rfl
@[simp] def fB (g : List D → Option T) (As : M (List T)) : M T := fun δ => (As δ).bind fun q => (rdA q.2 q.1).bind fun ds => (g ds).map fun t => (t, q.2)
@[simp] def fTup (As : M (List D)) : M T := fun δ => (As δ).bind fun q => if q.1.length ≤ 1000000 then some (.fz (.tuple q.1), q.2) else none
@[simp] def fLst (As : M (List D)) : M T := fun δ => (As δ).bind fun q => if q.1.length ≤ 1000000 then some (.nw q.1, q.2) else none
@[simp] def fF (g : List D → Option T) (As : M (List D)) : M T := fun δ => (As δ).bind fun q => (g q.1).map fun t => (t, q.2)

/-! ### operations by values -/
def Op2 (X : Cx) (f : Value → Value → Sem Value) (g : D → D → Option T) : Prop := ∃ r : R2, OpR X f r ∧ ∀ Z H x y dx dy a, Trk Z H → Pk X.K Z H x dx → Pk X.K Z H y dy → g dx dy = some a → ∀ Q : VK,
  (∀ v Z' H', Grow Z H Z' H' → RT X.K H Z' H' v a → Q v H') → r x y H Q
def Ix2 (X : Cx) (g : D → D → Option T) : Prop := ∃ r : R2, IxR X r ∧ ∀ Z H x y dx dy a, Trk Z H → Pk X.K Z H x dx → Pk X.K Z H y dy → g dx dy = some a → ∀ Q : VK,
  (∀ v Z' H', Grow Z H Z' H' → RT X.K H Z' H' v a → Q v H') → r x y H Q
def Un1 (X : Cx) (f : Value → Sem Value) (g : D → Option T) : Prop := ∃ r : V → Hp → VK → Prop, UnR X f r ∧ ∀ Z H x dx a, Trk Z H → Pk X.K Z H x dx → g dx = some a → ∀ Q : VK,
  (∀ v Z' H', Grow Z H Z' H' → RT X.K H Z' H' v a → Q v H') → r x H Q
def Call1 (X : Cx) (f : Value) (g : List D → Option T) : Prop := ∃ r : List V → Hp → VK → Prop, CallR X f r ∧ ∀ Z H xs ds a, Trk Z H → PkA X.K Z H xs ds → g ds = some a → ∀ Q : VK,
  (∀ v Z' H', Grow Z H Z' H' → RT X.K H Z' H' v a → Q v H') → r xs H Q

section
variable {K : PySem.W.Frag} {Z Z' : Zp} {H H0 H' : Hp} {σ : L2.St} {δ δ' : Dn} {x : V}
theorem TVs.stp {vs : List V} {ts : List T} (q : TVs K H0 Z H σ δ vs ts) (r : Rep K Z H σ δ) (s : Stp Z H σ δ Z' H' σ δ') : TVs K H0 Z' H' σ δ' vs ts := by
  induction q with
  | nil => exact .nil
  | cons a _ ih => exact .cons (a.stp r s) ih
theorem TVs.early {H1 : Hp} {vs : List V} {ts : List T} (q : TVs K H0 Z H σ δ vs ts) (hs : ∀ a o, H1 a = some o → ∃ o', H0 a = some o') : TVs K H1 Z H σ δ vs ts := by
  induction q with
  | nil => exact .nil
  | cons a _ ih => exact .cons (a.early hs) ih
theorem TVs.pk (r : Rep K Z H σ δ) : ∀ {vs : List V} {ts : List T} {ds : List D}, TVs K H0 Z H σ δ vs ts → rdA δ ts = some ds → PkA K Z H vs ds
  | _, _, _, .nil, e => by cases e; exact .nil
  | _, _, _, .cons a b, e => by
    obtain ⟨d, e1, e⟩ := Option.bind_eq_some_iff.mp e
    obtain ⟨ds, e2, e⟩ := Option.map_eq_some_iff.mp e
    subst e
    exact .cons (a.pk r e1) (TVs.pk r b e2)
/-! what a readable value is -/
theorem Pk.int {i : Int} (h : Pk K Z H x (.int i)) : x = .int i := by
  rcases h with h | ⟨p, xs, ds, _, e, _⟩ | ⟨p, xs, ds, _, e, _⟩
  · cases h; rfl
  · cases e
  · cases e
theorem Pk.str {i : Str} (h : Pk K Z H x (.str i)) : x = .str i := by
  rcases h with h | ⟨p, xs, ds, _, e, _⟩ | ⟨p, xs, ds, _, e, _⟩
  · cases h; rfl
  · cases e
  · cases e
theorem Pk.bool {i : Bool} (h : Pk K Z H x (.bool i)) : x = .bl i := by
  rcases h with h | ⟨p, xs, ds, _, e, _⟩ | ⟨p, xs, ds, _, e, _⟩
  · cases h; rfl
  · cases e
  · cases e
theorem Pk.none (h : Pk K Z H x .none) : x = .non := by
  rcases h with h | ⟨p, xs, ds, _, e, _⟩ | ⟨p, xs, ds, _, e, _⟩
  · cases h; rfl
  · cases e
  · cases e
theorem R.tuple {ds : List D} (h : R K Z H x (.tuple ds)) : ∃ p xs, x = .ref p ∧ SqT K H p xs ∧ RA K Z H xs ds := by
  cases h with
  | tup z e r => exact ⟨_, _, rfl, .inl (.inl e), r⟩
  | ktup e r => exact ⟨_, _, rfl, e H, r⟩
theorem Pk.r {d : D} (h : Pk K Z H x d) (n1 : ∀ ds, d ≠ .list ds) (n2 : ∀ ds, d ≠ .dict ds) : R K Z H x d := by
  rcases h with h | ⟨p, xs, ds, _, e, _⟩ | ⟨p, xs, ds, _, e, _⟩
  · exact h
  · exact (n1 _ e).elim
  · exact (n2 _ e).elim
theorem Pk.tuple {ds : List D} (h : Pk K Z H x (.tuple ds)) : ∃ p xs, x = .ref p ∧ SqT K H p xs ∧ RA K Z H xs ds := R.tuple (h.r (fun _ e => nomatch e) (fun _ e => nomatch e))
theorem Pk.list {ds : List D} (h : Pk K Z H x (.list ds)) : ∃ p xs, x = .ref p ∧ H p = some (.lst xs) ∧ RA K Z H xs ds := by
  rcases h with h | ⟨p, xs, es, rfl, e, h⟩ | ⟨p, xs, ds, _, e, _⟩
  · cases h with
    | lst z e r => exact ⟨_, _, rfl, e, r⟩
  · cases e; exact ⟨_, _, rfl, h⟩
  · cases e
theorem dictD_inj : ∀ {a b : List (Str × D)}, (a.map fun p => ((.str p.1 : D), p.2)) = b.map (fun p => (.str p.1, p.2)) → a = b
  | [], [], _ => rfl
  | [], _ :: _, e => by simp at e
  | _ :: _, [], e => by simp at e
  | (a, d) :: r, (b, f) :: t, e => by
    simp only [List.map_cons, List.cons.injEq, Prod.mk.injEq, PyData.str.injEq] at e
    obtain ⟨⟨rfl, rfl⟩, e⟩ := e
    rw [dictD_inj e]
theorem dictD_scr {a : List (Str × D)} {ns : List Int} : (a.map fun p => ((.str p.1 : D), p.2)) ≠ [(.none, .list (ns.map PyData.int))] := by
  intro e
  cases a with
  | nil => simp at e
  | cons p r => simp at e
theorem R.dict {kvs : List (Str × D)} (h : R K Z H x (dictD kvs)) : ∃ p ks, x = .ref p ∧ Rd H p (.dK ks) ∧ RK K Z H ks kvs := by
  unfold dictD at h
  generalize e : PyData.dict (kvs.map fun p => ((.str p.1 : D), p.2)) = d at h
  cases h with
  | dic z e1 r =>
    have e' := PyData.dict.inj e
    cases dictD_inj e'
    exact ⟨_, _, rfl, e1, r⟩
  | scr z e1 => exact (dictD_scr (PyData.dict.inj e)).elim
  | kscr e1 => exact (dictD_scr (PyData.dict.inj e)).elim
  | _ => cases e
theorem Pk.dict {kvs : List (Str × D)} (h : Pk K Z H x (dictD kvs)) : ∃ p ks, x = .ref p ∧ Rd H p (.dK ks) ∧ RK K Z H ks kvs := by
  rcases h with h | ⟨p, xs, ds, _, e, _⟩ | ⟨p, ks, ds, rfl, e, h1, h2⟩
  · exact h.dict
  · cases e
  · unfold dictD at e
    have e' := PyData.dict.inj e
    cases dictD_inj e'
    exact ⟨p, ks, rfl, .inl h1, h2⟩
theorem Pk.scr {ns : List Int} (h : Pk K Z H x (scrD ns)) : ∃ p, x = .ref p ∧ SqL K H p (ns.map V.int) := by
  rcases h with h | ⟨p, xs, ds, _, e, _⟩ | ⟨p, ks, ds, rfl, e, h1, h2⟩
  · unfold scrD at h
    generalize e : PyData.dict [(PyData.none, PyData.list (ns.map PyData.int))] = d at h
    cases h with
    | dic z e1 r => exact (dictD_scr (PyData.dict.inj e).symm).elim
    | scr z e1 =>
      have e' := PyData.dict.inj e
      simp only [List.cons.injEq, Prod.mk.injEq, true_and, and_true, PyData.list.injEq] at e'
      have : ns = _ := (List.map_inj_right (fun _ _ h => PyData.int.inj h)).mp e'
      subst this
      exact ⟨_, rfl, .inl e1⟩
    | kscr e1 =>
      have e' := PyData.dict.inj e
      simp only [List.cons.injEq, Prod.mk.injEq, true_and, and_true, PyData.list.injEq] at e'
      have : ns = _ := (List.map_inj_right (fun _ _ h => PyData.int.inj h)).mp e'
      subst this
      exact ⟨_, rfl, e1 H⟩
    | _ => cases e
  · cases e
  · unfold dictD scrD at e
    exact (dictD_scr (PyData.dict.inj e).symm).elim
end

/-! ### rules -/
section
variable {X : Cx} {e a b c : Expr} {es : List Expr} {pos : Pos} {A B C : M T} {P Q R' : M Bool}
theorem ev_var (i : Nat) {x : Str} {pos : Pos} (hN : X.N[i]? = some x := by rfl) (hv : Vis X.env.scope x := by first | exact Or.inl rfl | exact Or.inr (Or.inl rfl) | exact Or.inr (Or.inr rfl)) (hd : (x == ("__debug__" : Str)) = false := by decide)
    (hcd : (x == ("__classdict__" : Str)) = false := by decide) : Ev X (.Name x pos) (fVar i) := by
  refine ⟨_, pe_var hN hv hd hcd, fun Z H σ δ t δ' r e Q q => ?_⟩
  have key : ∀ s, δ[i]? = some s → s ≠ .un → ∃ v, σ[i]? = some (some v) ∧ OwnAt X.K Z H v s := fun s es ne => r.at_ i s es ne
  unfold fVar at e
  cases es : δ[i]? with
  | none => rw [es] at e; cases e
  | some s =>
    rw [es] at e
    cases s with
    | un => cases e
    | fz d =>
      cases e
      obtain ⟨v, ev, o⟩ := key _ es (fun z => nomatch z)
      exact ⟨v, ev, q v Z H r .refl o⟩
    | ow d =>
      cases e
      obtain ⟨v, ev, o⟩ := key _ es (fun z => nomatch z)
      exact ⟨v, ev, q v Z H r .refl ev⟩
    | od d =>
      cases e
      obtain ⟨v, ev, o⟩ := key _ es (fun z => nomatch z)
      exact ⟨v, ev, q v Z H r .refl ev⟩
theorem ev_c {t : TE} {v : V} {d : D} (h : PE X e (tC v)) (hr : ∀ Z H, R X.K Z H v d) : Ev X e (fC d) :=
  ⟨_, h, fun Z H σ δ a δ' r e Q q => by
    cases e
    exact q v Z H r .refl (hr Z H)⟩
theorem ev_int {i j} : Ev X (.Constant (.int i) j pos) (fC (.int i)) := ev_c (t := tC .non) pe_int fun _ _ => .int i
theorem ev_bl {i j} : Ev X (.Constant (.bool i) j pos) (fC (.bool i)) := ev_c (t := tC .non) pe_bl fun _ _ => .bl i
theorem ev_non {j} : Ev X (.Constant .none j pos) (fC .none) := ev_c (t := tC .non) pe_non fun _ _ => .non
theorem ev_str {i j} : Ev X (.Constant (.str i) j pos) (fC (.str i)) := ev_c (t := tC .non) pe_str fun _ _ => .str i
/-- a module's constant -/
theorem ev_glob {x : Str} {v : V} {u : Value} {d : D} (hm : X.mg x = some u) (r : RelV v u) (hr : ∀ Z H, R X.K Z H v d) (hg : Gl X x := by rfl) (hd : (x == ("__debug__" : Str)) = false := by decide) : Ev X (.Name x pos) (fC d) :=
  ev_c (t := tC .non) (pe_glob hg hm r hd) hr

theorem sem_bin {r : R2} {g : D → D → Option T} {ta tb : TE} (sa : Sem1 X.K ta A) (sb : Sem1 X.K tb B) (hg : ∀ Z H x y dx dy a, Trk Z H → Pk X.K Z H x dx → Pk X.K Z H y dy → g dx dy = some a → ∀ Q : VK,
    (∀ v Z' H', Grow Z H Z' H' → RT X.K H Z' H' v a → Q v H') → r x y H Q) : Sem1 X.K (tOp r ta tb) (f2 g A B) := by
  intro Z H σ δ t δ' r e Q q
  obtain ⟨⟨t1, δ1⟩, e1, e⟩ := Option.bind_eq_some_iff.mp e
  obtain ⟨⟨t2, δ2⟩, e2, e⟩ := Option.bind_eq_some_iff.mp e
  obtain ⟨dx, ex, e⟩ := Option.bind_eq_some_iff.mp e
  obtain ⟨dy, ey, e⟩ := Option.bind_eq_some_iff.mp e
  obtain ⟨t3, eg, e⟩ := Option.map_eq_some_iff.mp e
  cases e
  refine sa Z H σ δ t1 δ1 r e1 _ fun v Z1 H1 r1 s1 v1 => ?_
  refine sb Z1 H1 σ δ1 t2 _ r1 e2 _ fun u Z2 H2 r2 s2 v2 => ?_
  refine hg Z2 H2 v u dx dy _ r2.trk ((v1.stp r1 s2).pk r2 ex) (v2.pk r2 ey) eg _ fun w Z3 H3 g3 w3 => ?_
  have s12 := s1.trans s2
  exact q w Z3 H3 (g3.rep r2) (s12.trans g3.stp) (w3.tv r2 s12.there)
theorem ev_bin {op : Operator} {g : D → D → Option T} (ho : Op2 X (binaryOp op) g) (ha : Ev X a A) (hb : Ev X b B) : Ev X (.BinOp a op b pos) (f2 g A B) := by
  obtain ⟨r, ho, hg⟩ := ho
  obtain ⟨ta, pa, sa⟩ := ha
  obtain ⟨tb, pb, sb⟩ := hb
  exact ⟨_, pe_op ho pa pb, sem_bin sa sb hg⟩
theorem ev_cmp {op : CmpOp} {g : D → D → Option T} (ho : Op2 X (compareOp op) g) (ha : Ev X a A) (hb : Ev X b B) (hm : behindInMarks op b = false := by first | exact nomark _ | rfl) : Ev X (.Compare a [op] [b] pos) (f2 g A B) := by
  obtain ⟨r, ho, hg⟩ := ho
  obtain ⟨ta, pa, sa⟩ := ha
  obtain ⟨tb, pb, sb⟩ := hb
  exact ⟨_, pe_cmpR ho pa pb hm, sem_bin sa sb hg⟩
theorem sem_tst {t : TE} (s : Sem1 X.K t A) : SemB X.K (tTest t) (tTst A) := by
  intro Z H σ δ b δ' r e Q q
  obtain ⟨⟨t1, δ1⟩, e1, e⟩ := Option.bind_eq_some_iff.mp e
  obtain ⟨b', eb, e⟩ := Option.map_eq_some_iff.mp e
  cases e
  refine s Z H σ δ t1 _ r e1 _ fun v Z1 H1 r1 s1 v1 => ?_
  cases t1 with
  | fz d =>
    cases d with
    | bool k =>
      cases eb
      have v1 : R X.K Z1 H1 v (.bool b) := v1
      cases v1
      exact ⟨b, rfl, q Z1 H1 r1 s1⟩
    | _ => cases eb
  | _ => cases eb
theorem et_cmp {op : CmpOp} {g : D → D → Option T} (ho : Op2 X (compareOp op) g) (ha : Ev X a A) (hb : Ev X b B) (hm : behindInMarks op b = false := by first | exact nomark _ | rfl) : EvT X (.Compare a [op] [b] pos) (tTst (f2 g A B)) := by
  obtain ⟨r, ho, hg⟩ := ho
  obtain ⟨ta, pa, sa⟩ := ha
  obtain ⟨tb, pb, sb⟩ := hb
  exact ⟨_, pt_cmpR ho pa pb hm, sem_tst (sem_bin sa sb hg)⟩
theorem ev_ix {g : D → D → Option T} (ho : Ix2 X g) (ha : Ev X a A) (hb : Ev X b B) (hs : PlainIx b := by exact fun _ _ => rfl) : Ev X (.Subscript a b pos) (f2 g A B) := by
  obtain ⟨r, ho, hg⟩ := ho
  obtain ⟨ta, pa, sa⟩ := ha
  obtain ⟨tb, pb, sb⟩ := hb
  exact ⟨_, pe_ix ho pa pb hs, sem_bin sa sb hg⟩
theorem ev_un {op : UnaryOp} {g : D → Option T} (ho : Un1 X (unaryOp op) g) (ha : Ev X a A) : Ev X (.UnaryOp op a pos) (f1 g A) := by
  obtain ⟨r, ho, hg⟩ := ho
  obtain ⟨ta, pa, sa⟩ := ha
  refine ⟨_, pe_un ho pa, fun Z H σ δ t δ' r e Q q => ?_⟩
  obtain ⟨⟨t1, δ1⟩, e1, e⟩ := Option.bind_eq_some_iff.mp e
  obtain ⟨dx, ex, e⟩ := Option.bind_eq_some_iff.mp e
  obtain ⟨t3, eg, e⟩ := Option.map_eq_some_iff.mp e
  cases e
  refine sa Z H σ δ t1 _ r e1 _ fun v Z1 H1 r1 s1 v1 => ?_
  refine hg Z1 H1 v dx _ r1.trk (v1.pk r1 ex) eg _ fun w Z3 H3 g3 w3 => ?_
  exact q w Z3 H3 (g3.rep r1) (s1.trans g3.stp) (w3.tv r1 s1.there)
/-- and, or, not as values -/
theorem ev_one {op} (h : Ev X a A) : Ev X (.BoolOp op [a] pos) A := let ⟨t, p, s⟩ := h; ⟨t, pe_one p, s⟩
theorem ev_and (ha : Ev X a A) (hb : Ev X (.BoolOp .And (b :: es) pos) B) : Ev X (.BoolOp .And (a :: b :: es) pos) (fAnd A B) := by
  obtain ⟨ta, pa, sa⟩ := ha
  obtain ⟨tb, pb, sb⟩ := hb
  refine ⟨_, pe_and pa pb, fun Z H σ δ t δ' r e Q q => ?_⟩
  obtain ⟨⟨t1, δ1⟩, e1, e⟩ := Option.bind_eq_some_iff.mp e
  obtain ⟨k, ek, e⟩ := Option.bind_eq_some_iff.mp e
  refine sa Z H σ δ t1 δ1 r e1 _ fun v Z1 H1 r1 s1 v1 => ?_
  cases t1 with
  | fz d =>
    cases d with
    | bool k' =>
      cases ek
      have v1 : R X.K Z1 H1 v (.bool k) := v1
      cases v1
      refine ⟨k, rfl, ?_⟩
      cases k with
      | true => exact sb Z1 H1 σ δ1 t δ' r1 e _ fun u Z2 H2 r2 s2 v2 => q u Z2 H2 r2 (s1.trans s2) (v2.early s1.there)
      | false => cases e; exact q _ Z1 H1 r1 s1 (R.bl false)
    | _ => cases ek
  | _ => cases ek
theorem ev_or (ha : Ev X a A) (hb : Ev X (.BoolOp .Or (b :: es) pos) B) : Ev X (.BoolOp .Or (a :: b :: es) pos) (fOr A B) := by
  obtain ⟨ta, pa, sa⟩ := ha
  obtain ⟨tb, pb, sb⟩ := hb
  refine ⟨_, pe_or pa pb, fun Z H σ δ t δ' r e Q q => ?_⟩
  obtain ⟨⟨t1, δ1⟩, e1, e⟩ := Option.bind_eq_some_iff.mp e
  obtain ⟨k, ek, e⟩ := Option.bind_eq_some_iff.mp e
  refine sa Z H σ δ t1 δ1 r e1 _ fun v Z1 H1 r1 s1 v1 => ?_
  cases t1 with
  | fz d =>
    cases d with
    | bool k' =>
      cases ek
      have v1 : R X.K Z1 H1 v (.bool k) := v1
      cases v1
      refine ⟨k, rfl, ?_⟩
      cases k with
      | true => cases e; exact q _ Z1 H1 r1 s1 (R.bl true)
      | false => exact sb Z1 H1 σ δ1 t δ' r1 e _ fun u Z2 H2 r2 s2 v2 => q u Z2 H2 r2 (s1.trans s2) (v2.early s1.there)
    | _ => cases ek
  | _ => cases ek
theorem ev_not (ha : Ev X a A) : Ev X (.UnaryOp .Not a pos) (fNot A) := by
  obtain ⟨ta, pa, sa⟩ := ha
  refine ⟨_, pe_not pa, fun Z H σ δ t δ' r e Q q => ?_⟩
  obtain ⟨⟨t1, δ1⟩, e1, e⟩ := Option.bind_eq_some_iff.mp e
  obtain ⟨k, ek, e⟩ := Option.map_eq_some_iff.mp e
  cases e
  refine sa Z H σ δ t1 _ r e1 _ fun v Z1 H1 r1 s1 v1 => ?_
  cases t1 with
  | fz d =>
    cases d with
    | bool k' =>
      cases ek
      have v1 : R X.K Z1 H1 v (.bool k) := v1
      cases v1
      exact ⟨k, rfl, q _ Z1 H1 r1 s1 (R.bl _)⟩
    | _ => cases ek
  | _ => cases ek
theorem ev_if (hc : EvT X c P) (ha : Ev X a A) (hb : Ev X b B) : Ev X (.IfExp c a b pos) (fIf P A B) := by
  obtain ⟨tc, pc, sc⟩ := hc
  obtain ⟨ta, pa, sa⟩ := ha
  obtain ⟨tb, pb, sb⟩ := hb
  refine ⟨_, pe_ifExp pc pa pb, fun Z H σ δ t δ' r e Q q => ?_⟩
  obtain ⟨⟨k, δ1⟩, e1, e⟩ := Option.bind_eq_some_iff.mp e
  refine sc Z H σ δ k δ1 r e1 _ fun Z1 H1 r1 s1 => ?_
  cases k with
  | true => exact sa Z1 H1 σ δ1 t δ' r1 e _ fun u Z2 H2 r2 s2 v2 => q u Z2 H2 r2 (s1.trans s2) (v2.early s1.there)
  | false => exact sb Z1 H1 σ δ1 t δ' r1 e _ fun u Z2 H2 r2 s2 v2 => q u Z2 H2 r2 (s1.trans s2) (v2.early s1.there)
/-! tests -/
theorem et_val (ha : Ev X a A) (he : ∀ whole, isTrue a X.env whole = (do let v ← whole; standAt a.pos; holding [v] (truthy v)) := by intro _; rfl) : EvT X a (tTst A) := by
  obtain ⟨ta, pa, sa⟩ := ha
  exact ⟨_, pt_val pa he, sem_tst sa⟩
theorem et_tru (ha : Ev X a A) (he : ∀ whole, isTrue a X.env whole = (do let v ← whole; standAt a.pos; holding [v] (truthy v)) := by intro _; rfl) : EvT X a (tTru A) := by
  obtain ⟨ta, pa, sa⟩ := ha
  refine ⟨_, pt_truth pa he, fun Z H σ δ b δ' r e Q q => ?_⟩
  obtain ⟨⟨t1, δ1⟩, e1, e⟩ := Option.bind_eq_some_iff.mp e
  obtain ⟨d, ed, e⟩ := Option.bind_eq_some_iff.mp e
  obtain ⟨k, ek, e⟩ := Option.map_eq_some_iff.mp e
  cases e
  refine sa Z H σ δ t1 _ r e1 _ fun v Z1 H1 r1 s1 v1 => ?_
  have p := v1.pk r1 ed
  refine ⟨b, ?_, q Z1 H1 r1 s1⟩
  cases d with
  | none => cases p.none; cases ek; rfl
  | bool k => cases p.bool; cases ek; rfl
  | int i => cases p.int; cases ek; rfl
  | str z =>
    cases p.str
    have ek : (if z.length ≤ 1000000 then some (z.length != 0) else none) = some b := ek
    by_cases hz : z.length ≤ 1000000
    · rw [if_pos hz] at ek
      cases ek
      exact ⟨Nat.le_trans hz (by decide), by rw [Bool.eq_iff_iff]; simp⟩
    · rw [if_neg hz] at ek
      cases ek
  | list ds =>
    obtain ⟨l, xs, rfl, h1, h2⟩ := p.list
    cases ek
    have : xs.isEmpty = ds.isEmpty := by cases h2 <;> rfl
    exact .inl ⟨xs, .inl (.inl h1), by rw [this]⟩
  | tuple ds =>
    obtain ⟨l, xs, rfl, h1, h2⟩ := p.tuple
    cases ek
    have : xs.isEmpty = ds.isEmpty := by cases h2 <;> rfl
    exact .inr (.inl ⟨xs, h1, by rw [this]⟩)
  | dict _ => cases ek
theorem EvW.t (h : EvW X a P) : EvT X a P := let ⟨t, p, s⟩ := h; ⟨t, p.pt, s⟩
theorem ew_and1 (h : EvT X a P) : EvW X (.BoolOp .And [a] pos) P := let ⟨t, p, s⟩ := h; ⟨t, pw_and1 p, s⟩
theorem ew_or1 (h : EvT X a P) : EvW X (.BoolOp .Or [a] pos) P := let ⟨t, p, s⟩ := h; ⟨t, pw_or1 p, s⟩
theorem ew_and (ha : EvT X a P) (hb : EvW X (.BoolOp .And (b :: es) pos) Q) : EvW X (.BoolOp .And (a :: b :: es) pos) (tAnd P Q) := by
  obtain ⟨ta, pa, sa⟩ := ha
  obtain ⟨tb, pb, sb⟩ := hb
  refine ⟨_, pw_and pa pb, fun Z H σ δ k δ' r e Q q => ?_⟩
  obtain ⟨⟨k1, δ1⟩, e1, e⟩ := Option.bind_eq_some_iff.mp e
  refine sa Z H σ δ k1 δ1 r e1 _ fun Z1 H1 r1 s1 => ?_
  cases k1 with
  | true => exact sb Z1 H1 σ δ1 k δ' r1 e _ fun Z2 H2 r2 s2 => q Z2 H2 r2 (s1.trans s2)
  | false => cases e; exact q Z1 H1 r1 s1
theorem ew_or (ha : EvT X a P) (hb : EvW X (.BoolOp .Or (b :: es) pos) Q) : EvW X (.BoolOp .Or (a :: b :: es) pos) (tOr P Q) := by
  obtain ⟨ta, pa, sa⟩ := ha
  obtain ⟨tb, pb, sb⟩ := hb
  refine ⟨_, pw_or pa pb, fun Z H σ δ k δ' r e Q q => ?_⟩
  obtain ⟨⟨k1, δ1⟩, e1, e⟩ := Option.bind_eq_some_iff.mp e
  refine sa Z H σ δ k1 δ1 r e1 _ fun Z1 H1 r1 s1 => ?_
  cases k1 with
  | true => cases e; exact q Z1 H1 r1 s1
  | false => exact sb Z1 H1 σ δ1 k δ' r1 e _ fun Z2 H2 r2 s2 => q Z2 H2 r2 (s1.trans s2)
theorem et_not (ha : EvT X a P) : EvT X (.UnaryOp .Not a pos) (tNot P) := by
  obtain ⟨ta, pa, sa⟩ := ha
  refine ⟨_, pt_not pa, fun Z H σ δ k δ' r e Q q => ?_⟩
  obtain ⟨⟨k1, δ1⟩, e1, e⟩ := Option.map_eq_some_iff.mp e
  cases e
  exact sa Z H σ δ k1 _ r e1 _ fun Z1 H1 r1 s1 => q Z1 H1 r1 s1
/-! arguments, displays -/
theorem es_nil : EvS X [] sNil := ⟨_, pa_nil, fun Z H σ δ ds δ' r e Q q => by cases e; exact q [] Z H r .refl .nil⟩
theorem es_cons {As : M (List D)} (ha : Ev X a A) (hb : EvS X es As) (hs : starEach (a :: es) X.env = (false, eval a X.env) :: starEach es X.env := by rfl) : EvS X (a :: es) (sCons A As) := by
  obtain ⟨ta, pa, sa⟩ := ha
  obtain ⟨tb, pb, sb⟩ := hb
  refine ⟨_, pa_cons pa pb hs, fun Z H σ δ ds δ' r e Q q => ?_⟩
  obtain ⟨⟨t1, δ1⟩, e1, e⟩ := Option.bind_eq_some_iff.mp e
  obtain ⟨d, ed, e⟩ := Option.bind_eq_some_iff.mp e
  obtain ⟨⟨ds2, δ2⟩, e2, e⟩ := Option.map_eq_some_iff.mp e
  cases e
  refine sa Z H σ δ t1 δ1 r e1 _ fun v Z1 H1 r1 s1 v1 => ?_
  -- freeze: the frozen set grows, the heap stands
  have fr : ∃ Z1', Rep X.K Z1' H1 σ δ1 ∧ Stp Z H σ δ Z1' H1 σ δ1 ∧ R X.K Z1' H1 v d := by
    cases t1 with
    | fz d' => cases ed; exact ⟨Z1, r1, s1, v1⟩
    | al i => cases ed
    | nw ds =>
      cases ed
      obtain ⟨p, xs, rfl, n0, nz, nw, e, ra⟩ := v1
      exact ⟨_, freeze1 r1 e nw, ⟨fun a z => .inl (s1.zsub a z), fun a z => by
        rcases z with z | rfl
        · exact s1.znew a z
        · exact .inr (.inl n0), s1.keep, s1.there, s1.own, s1.pin⟩, .lst (.inr rfl) e (ra.mono (fun _ h => .inl h) (fun _ _ => rfl))⟩
    | nd ds =>
      cases ed
      obtain ⟨p, xs, rfl, n0, nz, nw, e, ra⟩ := v1
      exact ⟨_, freeze1 r1 e nw, ⟨fun a z => .inl (s1.zsub a z), fun a z => by
        rcases z with z | rfl
        · exact s1.znew a z
        · exact .inr (.inl n0), s1.keep, s1.there, s1.own, s1.pin⟩, .dic (.inr rfl) (.inl e) (ra.mono (fun _ h => .inl h) (fun _ _ => rfl))⟩
  obtain ⟨Z1', r1', s1', v1'⟩ := fr
  refine sb Z1' H1 σ δ1 ds2 _ r1' e2 _ fun vs Z2 H2 r2 s2 v2 => ?_
  exact q (v :: vs) Z2 H2 r2 (s1'.trans s2) (.cons (s2.R r1' v1') v2)
theorem ep_nil : EvP X [] pNil := ⟨_, pa_nil, fun Z H σ δ ds δ' r e Q q => by cases e; exact q [] Z H r .refl .nil⟩
theorem ep_cons {As : M (List T)} (ha : Ev X a A) (hb : EvP X es As) (hs : starEach (a :: es) X.env = (false, eval a X.env) :: starEach es X.env := by rfl) : EvP X (a :: es) (pCons A As) := by
  obtain ⟨ta, pa, sa⟩ := ha
  obtain ⟨tb, pb, sb⟩ := hb
  refine ⟨_, pa_cons pa pb hs, fun Z H σ δ ds δ' r e Q q => ?_⟩
  obtain ⟨⟨t1, δ1⟩, e1, e⟩ := Option.bind_eq_some_iff.mp e
  obtain ⟨⟨ds2, δ2⟩, e2, e⟩ := Option.map_eq_some_iff.mp e
  cases e
  refine sa Z H σ δ t1 δ1 r e1 _ fun v Z1 H1 r1 s1 v1 => ?_
  refine sb Z1 H1 σ δ1 ds2 _ r1 e2 _ fun vs Z2 H2 r2 s2 v2 => ?_
  exact q (v :: vs) Z2 H2 r2 (s1.trans s2) (.cons (v1.stp r1 s2) (v2.early s1.there))
theorem ev_tup {As : M (List D)} {k : Nat} (h : EvS X es As) : Ev X (.Tuple es k pos) (fTup As) := by
  obtain ⟨t, p, s⟩ := h
  refine ⟨_, pe_tup p, fun Z H σ δ a δ' r e Q q => ?_⟩
  obtain ⟨⟨ds, δ1⟩, e1, e⟩ := Option.bind_eq_some_iff.mp e
  split at e
  · rename_i hz
    cases e
    refine s Z H σ δ ds _ r e1 _ fun vs Z1 H1 r1 s1 v1 => ⟨?_, fun p np => ?_⟩
    · rw [v1.length]; exact Nat.le_trans hz (by decide)
    · have g := Grow.newZ (o := .tup vs) r1.trk np
      exact q _ _ _ (g.rep r1) (s1.trans g.stp) (R.tup (.inr rfl) upd_same (g.RA r1.trk v1))
  · cases e
theorem ev_lst {As : M (List D)} (h : EvS X es As) : Ev X (.List es pos) (fLst As) := by
  obtain ⟨t, p, s⟩ := h
  refine ⟨_, pe_lst p, fun Z H σ δ a δ' r e Q q => ?_⟩
  obtain ⟨⟨ds, δ1⟩, e1, e⟩ := Option.bind_eq_some_iff.mp e
  split at e
  · rename_i hz
    cases e
    refine s Z H σ δ ds _ r e1 _ fun vs Z1 H1 r1 s1 v1 => ⟨?_, fun p np => ?_⟩
    · rw [v1.length]; exact Nat.le_trans hz (by decide)
    · have g := Grow.new (o := .lst vs) r1.trk np
      have r2 := g.rep r1
      refine q _ _ _ r2 (s1.trans g.stp) ⟨p, vs, rfl, none_of_there s1.there np, fun z => ?_, fun w => ?_, upd_same, g.RA r1.trk v1⟩
      · obtain ⟨o, e⟩ := r1.trk p z
        exact sn e np
      · obtain ⟨o, e⟩ := r1.wsome w
        exact sn e np
  · cases e
/-! builtins called -/
theorem sem_cb {r : List V → Hp → VK → Prop} {g : List D → Option T} {ta : TA} {As : M (List T)} (sa : SemP X.K ta As) (hg : ∀ Z H xs ds a, Trk Z H → PkA X.K Z H xs ds → g ds = some a → ∀ Q : VK,
    (∀ v Z' H', Grow Z H Z' H' → RT X.K H Z' H' v a → Q v H') → r xs H Q) : Sem1 X.K (tCB r ta) (fB g As) := by
  intro Z H σ δ t δ' r e Q q
  obtain ⟨⟨ts, δ1⟩, e1, e⟩ := Option.bind_eq_some_iff.mp e
  obtain ⟨ds, ed, e⟩ := Option.bind_eq_some_iff.mp e
  obtain ⟨t3, eg, e⟩ := Option.map_eq_some_iff.mp e
  cases e
  refine sa Z H σ δ ts _ r e1 _ fun vs Z1 H1 r1 s1 v1 => ?_
  refine hg Z1 H1 vs ds _ r1.trk (v1.pk r1 ed) eg _ fun w Z3 H3 g3 w3 => ?_
  exact q w Z3 H3 (g3.rep r1) (s1.trans g3.stp) (w3.tv r1 s1.there)
end
end DL
/-! DL3: operations by values. -/
namespace DL
open PySem PySem.Spec PyProof.Rows L2

section
variable {X : Cx} {K : PySem.W.Frag} {Z Z' : Zp} {H H' : Hp} {x y : V} {f : Value → Value → Sem Value} {g g1 g2 : D → D → Option T}
theorem Op2.or (h1 : Op2 X f g1) (h2 : Op2 X f g2) (hg : ∀ x y a, g x y = some a → g1 x y = some a ∨ g2 x y = some a) : Op2 X f g := by
  obtain ⟨r1, o1, p1⟩ := h1
  obtain ⟨r2, o2, p2⟩ := h2
  refine ⟨_, o1.or o2, fun Z H x y dx dy a t px py e Q q => ?_⟩
  rcases hg dx dy a e with e | e
  · exact .inl (p1 Z H x y dx dy a t px py e Q q)
  · exact .inr (p2 Z H x y dx dy a t px py e Q q)
theorem Ix2.or (h1 : Ix2 X g1) (h2 : Ix2 X g2) (hg : ∀ x y a, g x y = some a → g1 x y = some a ∨ g2 x y = some a) : Ix2 X g := by
  obtain ⟨r1, o1, p1⟩ := h1
  obtain ⟨r2, o2, p2⟩ := h2
  refine ⟨_, o1.or o2, fun Z H x y dx dy a t px py e Q q => ?_⟩
  rcases hg dx dy a e with e | e
  · exact .inl (p1 Z H x y dx dy a t px py e Q q)
  · exact .inr (p2 Z H x y dx dy a t px py e Q q)
/-- a new list is laid -/
theorem new_lst (t : Trk Z H) {p : Addr} (np : H p = none) {vs : List V} {ds : List D} (ra : RA K Z H vs ds) : Grow Z H Z (upd H p (.lst vs)) ∧ RT K H Z (upd H p (.lst vs)) (.ref p) (.nw ds) := by
  have g := Grow.new (o := .lst vs) t np
  exact ⟨g, p, vs, rfl, np, fun z => by
    obtain ⟨o, e⟩ := t p z
    exact sn e np, upd_same, g.RA t ra⟩
theorem new_tup (t : Trk Z H) {p : Addr} (np : H p = none) {vs : List V} {ds : List D} (ra : RA K Z H vs ds) : Grow Z H (fun a => Z a ∨ a = p) (upd H p (.tup vs)) ∧ RT K H (fun a => Z a ∨ a = p) (upd H p (.tup vs)) (.ref p) (.fz (.tuple ds)) := by
  have g := Grow.newZ (o := .tup vs) t np
  exact ⟨g, R.tup (.inr rfl) upd_same (g.RA t ra)⟩
theorem line_of {n : Nat} (h : n ≤ 1000000) : n ≤ sizeLine := Nat.le_trans h (by decide)
theorem line_lt {n : Nat} (h : n ≤ 1000000) : n < sizeLine := Nat.lt_of_le_of_lt h (by decide)

/-! ### ints -/
theorem op2_ints {C : Int → Int → Prop} {k : Int → Int → V} {dk : Int → Int → D} (ho : OpR X f (rI C k)) (hr : ∀ i j Z H, R X.K Z H (k i j) (dk i j))
    (hg : ∀ x y a, g x y = some a → ∃ i j, x = .int i ∧ y = .int j ∧ C i j ∧ a = .fz (dk i j)) : Op2 X f g := by
  refine ⟨_, ho, fun Z H x y dx dy a t px py e Q q => ?_⟩
  obtain ⟨i, j, rfl, rfl, c, rfl⟩ := hg _ _ _ e
  cases px.int
  cases py.int
  exact ⟨i, j, rfl, rfl, c, q _ Z H (.refl t) (hr i j Z H)⟩
theorem op2_ints0 {k : Int → Int → V} {dk : Int → Int → D} (ho : OpR X f (rI0 k)) (hr : ∀ i j Z H, R X.K Z H (k i j) (dk i j))
    (hg : ∀ x y a, g x y = some a → ∃ i j, x = .int i ∧ y = .int j ∧ a = .fz (dk i j)) : Op2 X f g := by
  refine ⟨_, ho, fun Z H x y dx dy a t px py e Q q => ?_⟩
  obtain ⟨i, j, rfl, rfl, rfl⟩ := hg _ _ _ e
  cases px.int
  cases py.int
  exact ⟨i, j, rfl, rfl, q _ Z H (.refl t) (hr i j Z H)⟩
instance (i j : Int) : Decidable (CMulW i j) := by unfold CMulW; infer_instance
instance (i j : Int) : Decidable (CDivW i j) := by unfold CDivW; infer_instance
instance (i j : Int) : Decidable (CPow i j) := by unfold CPow; infer_instance
def gAdd : D → D → Option T
  | .int i, .int j => some (.fz (.int (i + j)))
  | .tuple a, .tuple b => if a.length + b.length ≤ 1000000 then some (.fz (.tuple (a ++ b))) else none
  | .list a, .list b => if a.length + b.length ≤ 1000000 then some (.nw (a ++ b)) else none
  | .str a, .str b => if a.length + b.length ≤ 1000000 then some (.fz (.str (a ++ b))) else none
  | _, _ => none
def gSub : D → D → Option T
  | .int i, .int j => some (.fz (.int (i - j)))
  | _, _ => none
def gMulI : D → D → Option T
  | .int i, .int j => if CMulW i j then some (.fz (.int (i * j))) else none
  | _, _ => none
def gDiv : D → D → Option T
  | .int i, .int j => if CDivW i j then some (.fz (.int (i / j))) else none
  | _, _ => none
def gMod : D → D → Option T
  | .int i, .int j => if 0 < j then some (.fz (.int (i % j))) else none
  | _, _ => none
def gPow : D → D → Option T
  | .int i, .int j => if CPow i j then some (.fz (.int (i ^ j.toNat))) else none
  | _, _ => none
def gNeg : D → Option T
  | .int i => some (.fz (.int (-i)))
  | _ => none
@[simp] theorem gAdd_int (i j : Int) : gAdd (.int i) (.int j) = some (.fz (.int (i + j))) := rfl
@[simp] theorem gSub_int (i j : Int) : gSub (.int i) (.int j) = some (.fz (.int (i - j))) := rfl
theorem gMul_int {i j : Int} (h : CMulW i j) : gMulI (.int i) (.int j) = some (.fz (.int (i * j))) := if_pos h
theorem gDiv_int {i j : Int} (h : CDivW i j) : gDiv (.int i) (.int j) = some (.fz (.int (i / j))) := if_pos h
theorem gMod_int {i j : Int} (h : 0 < j) : gMod (.int i) (.int j) = some (.fz (.int (i % j))) := if_pos h
@[simp] theorem gNeg_int (i : Int) : gNeg (.int i) = some (.fz (.int (-i))) := rfl

theorem op2_addI : Op2 X (binaryOp .Add) (fun x y => match x, y with | .int i, .int j => some (.fz (.int (i + j))) | _, _ => none) :=
  op2_ints0 (dk := fun i j => .int (i + j)) op_add (fun i j _ _ => .int _) fun x y a e => by
    try dsimp only at e
    split at e
    · cases e; exact ⟨_, _, rfl, rfl, rfl⟩
    · cases e
theorem op2_addT : Op2 X (binaryOp .Add) (fun x y => match x, y with | .tuple a, .tuple b => if a.length + b.length ≤ 1000000 then some (.fz (.tuple (a ++ b))) else none | _, _ => none) := by
  refine ⟨_, op_catA, fun Z H x y dx dy a t px py e Q q => ?_⟩
  try dsimp only at e
  split at e
  · split at e
    · rename_i hz
      cases e
      obtain ⟨p, xs, rfl, h1, r1⟩ := px.tuple
      obtain ⟨p2, ys, rfl, h2, r2⟩ := py.tuple
      have l1 := r1.length
      have l2 := r2.length
      refine ⟨p, p2, xs, ys, rfl, rfl, h1, h2, by rw [l1, l2]; exact line_of hz, fun e => ?_, fun e e2 => ?_, fun _ _ b nb => ?_⟩
      · subst e
        cases r1
        have := py.r (fun _ e => nomatch e) (fun _ e => nomatch e)
        exact q _ Z H (.refl t) this
      · subst e2
        cases r2
        rw [List.append_nil] at q
        exact q _ Z H (.refl t) (px.r (fun _ e => nomatch e) (fun _ e => nomatch e))
      · obtain ⟨g, w⟩ := new_tup t nb (r1.append r2)
        exact q _ _ _ g w
    · cases e
  · cases e
theorem op2_addL : Op2 X (binaryOp .Add) (fun x y => match x, y with | .list a, .list b => if a.length + b.length ≤ 1000000 then some (.nw (a ++ b)) else none | _, _ => none) := by
  refine ⟨_, op_cat, fun Z H x y dx dy a t px py e Q q => ?_⟩
  try dsimp only at e
  split at e
  · split at e
    · rename_i hz
      cases e
      obtain ⟨p, xs, rfl, h1, r1⟩ := px.list
      obtain ⟨p2, ys, rfl, h2, r2⟩ := py.list
      have l1 := r1.length
      have l2 := r2.length
      refine ⟨p, p2, xs, ys, rfl, rfl, h1, h2, by rw [l1, l2]; exact line_of hz, fun b nb => ?_⟩
      obtain ⟨g, w⟩ := new_lst t nb (r1.append r2)
      exact q _ _ _ g w
    · cases e
  · cases e
theorem op2_addS : Op2 X (binaryOp .Add) (fun x y => match x, y with | .str a, .str b => if a.length + b.length ≤ 1000000 then some (.fz (.str (a ++ b))) else none | _, _ => none) := by
  refine ⟨_, op_add_str, fun Z H x y dx dy a t px py e Q q => ?_⟩
  try dsimp only at e
  split at e
  · split at e
    · rename_i hz
      cases e
      cases px.str
      cases py.str
      exact ⟨_, _, rfl, rfl, line_of hz, q _ Z H (.refl t) (.str _)⟩
    · cases e
  · cases e
theorem op2_add : Op2 X (binaryOp .Add) gAdd := by
  refine Op2.or op2_addI (Op2.or op2_addT (Op2.or op2_addL op2_addS (g := fun x y => match x, y with
    | .list a, .list b => if a.length + b.length ≤ 1000000 then some (.nw (a ++ b)) else none
    | .str a, .str b => if a.length + b.length ≤ 1000000 then some (.fz (.str (a ++ b))) else none
    | _, _ => none) ?_) (g := fun x y => match x, y with
    | .tuple a, .tuple b => if a.length + b.length ≤ 1000000 then some (.fz (.tuple (a ++ b))) else none
    | .list a, .list b => if a.length + b.length ≤ 1000000 then some (.nw (a ++ b)) else none
    | .str a, .str b => if a.length + b.length ≤ 1000000 then some (.fz (.str (a ++ b))) else none
    | _, _ => none) ?_) ?_
  · intro x y a e
    (try dsimp only at e)
    split at e
    · exact .inl e
    · exact .inr e
    · cases e
  · intro x y a e
    (try dsimp only at e)
    split at e
    · exact .inl e
    · exact .inr e
    · exact .inr e
    · cases e
  · intro x y a e
    unfold gAdd at e
    (try dsimp only at e)
    split at e
    · exact .inl e
    · exact .inr e
    · exact .inr e
    · exact .inr e
    · cases e
theorem op2_sub : Op2 X (binaryOp .Sub) gSub := op2_ints0 (dk := fun i j => .int (i - j)) op_sub (fun i j _ _ => .int _) fun x y a e => by
  unfold gSub at e
  split at e
  · cases e; exact ⟨_, _, rfl, rfl, rfl⟩
  · cases e
theorem op2_mulI : Op2 X (binaryOp .Mult) gMulI := op2_ints (dk := fun i j => .int (i * j)) op_mulW (fun i j _ _ => .int _) fun x y a e => by
  unfold gMulI at e
  split at e
  · split at e
    · cases e; exact ⟨_, _, rfl, rfl, by assumption, rfl⟩
    · cases e
  · cases e
theorem op2_div : Op2 X (binaryOp .FloorDiv) gDiv := op2_ints (dk := fun i j => .int (i / j)) op_fdivW (fun i j _ _ => .int _) fun x y a e => by
  unfold gDiv at e
  split at e
  · split at e
    · cases e; exact ⟨_, _, rfl, rfl, by assumption, rfl⟩
    · cases e
  · cases e
theorem op2_mod : Op2 X (binaryOp .Mod) gMod := op2_ints (dk := fun i j => .int (i % j)) op_mod (fun i j _ _ => .int _) fun x y a e => by
  unfold gMod at e
  split at e
  · split at e
    · cases e; exact ⟨_, _, rfl, rfl, by assumption, rfl⟩
    · cases e
  · cases e
theorem op2_pow : Op2 X (binaryOp .Pow) gPow := op2_ints (dk := fun i j => .int (i ^ j.toNat)) op_pow (fun i j _ _ => .int _) fun x y a e => by
  unfold gPow at e
  split at e
  · split at e
    · cases e; exact ⟨_, _, rfl, rfl, by assumption, rfl⟩
    · cases e
  · cases e
theorem un1_neg : Un1 X (unaryOp .USub) gNeg := by
  refine ⟨_, un_neg, fun Z H x dx a t px e Q q => ?_⟩
  unfold gNeg at e
  split at e
  · cases e
    cases px.int
    exact ⟨_, rfl, q _ Z H (.refl t) (.int _)⟩
  · cases e

/-! ### comparisons -/
mutual
theorem dp_of : ∀ {d : D} {v : V}, R K Z H v d → d.canLay0 = true → Dp K H v d
  | .none, _, .non, _ => .non
  | .bool _, _, .bl b, _ => .bl b
  | .int _, _, .int i, _ => .int i
  | .str _, _, .str x, _ => .str x
  | .tuple _, _, .tup z e r, h => .tup (.inl (.inl e)) (dpa_of r (by simpa [PyData.canLay0] using h))
  | .tuple _, _, .ktup e r, h => .tup (e H) (dpa_of r (by simpa [PyData.canLay0] using h))
  | .list _, _, .lst z e r, h => .lst (.inl (.inl e)) (dpa_of r (by simpa [PyData.canLay0] using h))
  | .dict _, _, _, h => by simp [PyData.canLay0] at h
theorem dpa_of : ∀ {ds : List D} {vs : List V}, RA K Z H vs ds → PyData.canLayAll0 ds = true → DpAll K H vs ds
  | _, _, .nil, _ => .nil
  | d :: ds, _, .cons a b, h => by
    simp only [PyData.canLayAll0, Bool.and_eq_true] at h
    exact .cons (dp_of a h.1) (dpa_of b h.2)
end
theorem Pk.dp {d : D} (h : Pk K Z H x d) (hs : SeqAt.shaped d = true) : Dp K H x d := by
  have c := SeqAt.canLay_of_shaped hs
  rcases h with h | ⟨p, xs, ds, rfl, rfl, e, r⟩ | ⟨p, xs, ds, _, rfl, _⟩
  · exact dp_of h c
  · exact .lst (.inl (.inl e)) (dpa_of r (by simpa [PyData.canLay0] using c))
  · simp [dictD, PyData.canLay0] at c
def gEq : D → D → Option T := fun x y => if SeqAt.shaped x && SeqAt.shaped y then some (.fz (.bool (PyData.eqv x y))) else none
def gNe : D → D → Option T := fun x y => if SeqAt.shaped x && SeqAt.shaped y then some (.fz (.bool (!PyData.eqv x y))) else none
theorem op2_eq (hu : X.A.units + 64 < cLine) : Op2 X (compareOp .Eq) gEq := by
  refine ⟨_, op_eqD hu, fun Z H x y dx dy a t px py e Q q => ?_⟩
  unfold gEq at e
  split at e
  · rename_i h
    cases e
    rw [Bool.and_eq_true] at h
    exact ⟨dx, dy, px.dp h.1, py.dp h.2, h.1, h.2, q _ Z H (.refl t) (.bl _)⟩
  · cases e
theorem op2_ne (hu : X.A.units + 64 < cLine) : Op2 X (compareOp .NotEq) gNe := by
  refine ⟨_, op_neD hu, fun Z H x y dx dy a t px py e Q q => ?_⟩
  unfold gNe at e
  split at e
  · rename_i h
    cases e
    rw [Bool.and_eq_true] at h
    exact ⟨dx, dy, px.dp h.1, py.dp h.2, h.1, h.2, q _ Z H (.refl t) (.bl _)⟩
  · cases e
def gLe : D → D → Option T
  | .int i, .int j => some (.fz (.bool (decide (i ≤ j))))
  | _, _ => none
def gGt : D → D → Option T
  | .int i, .int j => some (.fz (.bool (decide (j < i))))
  | _, _ => none
def gGe : D → D → Option T
  | .int i, .int j => some (.fz (.bool (decide (j ≤ i))))
  | _, _ => none
@[simp] theorem gLe_int (i j : Int) : gLe (.int i) (.int j) = some (.fz (.bool (decide (i ≤ j)))) := rfl
@[simp] theorem gGt_int (i j : Int) : gGt (.int i) (.int j) = some (.fz (.bool (decide (j < i)))) := rfl
@[simp] theorem gGe_int (i j : Int) : gGe (.int i) (.int j) = some (.fz (.bool (decide (j ≤ i)))) := rfl
theorem op2_le : Op2 X (compareOp .LtE) gLe := op2_ints0 (dk := fun i j => .bool (decide (i ≤ j))) op_le (fun i j _ _ => .bl _) fun x y a e => by
  unfold gLe at e
  split at e
  · cases e; exact ⟨_, _, rfl, rfl, rfl⟩
  · cases e
theorem op2_gt : Op2 X (compareOp .Gt) gGt := op2_ints0 (dk := fun i j => .bool (decide (j < i))) op_gt (fun i j _ _ => .bl _) fun x y a e => by
  unfold gGt at e
  split at e
  · cases e; exact ⟨_, _, rfl, rfl, rfl⟩
  · cases e
theorem op2_ge : Op2 X (compareOp .GtE) gGe := op2_ints0 (dk := fun i j => .bool (decide (j ≤ i))) op_ge (fun i j _ _ => .bl _) fun x y a e => by
  unfold gGe at e
  split at e
  · cases e; exact ⟨_, _, rfl, rfl, rfl⟩
  · cases e
def gLt : D → D → Option T
  | .int i, .int j => some (.fz (.bool (decide (i < j))))
  | .str i, .str j => some (.fz (.bool (decide (i.cps.toList < j.cps.toList))))
  | _, _ => none
@[simp] theorem gLt_int (i j : Int) : gLt (.int i) (.int j) = some (.fz (.bool (decide (i < j)))) := rfl
@[simp] theorem gLt_str (i j : Str) : gLt (.str i) (.str j) = some (.fz (.bool (decide (i.cps.toList < j.cps.toList)))) := rfl
theorem op2_lt : Op2 X (compareOp .Lt) gLt := by
  refine Op2.or (g1 := fun x y => match x, y with | .int i, .int j => some (.fz (.bool (decide (i < j)))) | _, _ => none)
    (g2 := fun x y => match x, y with | .str i, .str j => some (.fz (.bool (decide (i.cps.toList < j.cps.toList)))) | _, _ => none) ?_ ?_ ?_
  · refine op2_ints0 (dk := fun i j => .bool (decide (i < j))) op_lt (fun i j _ _ => .bl _) fun x y a e => ?_
    try dsimp only at e
    split at e
    · cases e; exact ⟨_, _, rfl, rfl, rfl⟩
    · cases e
  · refine ⟨_, op_lt_str, fun Z H x y dx dy a t px py e Q q => ?_⟩
    try dsimp only at e
    split at e
    · cases e
      cases px.str
      cases py.str
      exact ⟨_, _, rfl, rfl, q _ Z H (.refl t) (.bl _)⟩
    · cases e
  · intro x y a e
    unfold gLt at e
    split at e
    · exact .inl e
    · exact .inr e
    · cases e
def isN : D → Bool
  | .none => true
  | _ => false
def gIsN : D → D → Option T
  | x, .none => some (.fz (.bool (isN x)))
  | _, _ => none
def gNotN : D → D → Option T
  | x, .none => some (.fz (.bool (!isN x)))
  | _, _ => none
@[simp] theorem gIsN_none (x : D) : gIsN x .none = some (.fz (.bool (isN x))) := by cases x <;> rfl
@[simp] theorem gNotN_none (x : D) : gNotN x .none = some (.fz (.bool (!isN x))) := by cases x <;> rfl
theorem Pk.isN {d : D} (h : Pk K Z H x d) : decide (x = .non) = DL.isN d := by
  cases d with
  | none => cases h.none; rfl
  | bool b => cases h.bool; rfl
  | int b => cases h.int; rfl
  | str b => cases h.str; rfl
  | list ds => obtain ⟨p, xs, rfl, _⟩ := h.list; rfl
  | tuple ds => obtain ⟨p, xs, rfl, _⟩ := h.tuple; rfl
  | dict ds =>
    have : ∃ p, x = .ref p := by
      rcases h with h | ⟨p, xs, es, rfl, e, _⟩ | ⟨p, ks, es, rfl, _⟩
      · cases h <;> exact ⟨_, rfl⟩
      · exact ⟨_, rfl⟩
      · exact ⟨_, rfl⟩
    obtain ⟨p, rfl⟩ := this
    rfl
theorem op2_isN : Op2 X (compareOp .Is) gIsN := by
  refine ⟨_, op_isN, fun Z H x y dx dy a t px py e Q q => ?_⟩
  cases dy with
  | none =>
    rw [gIsN_none] at e
    cases e
    cases py.none
    exact ⟨rfl, q _ Z H (.refl t) (by rw [px.isN]; exact .bl _)⟩
  | _ => cases dx <;> cases e
theorem op2_notN : Op2 X (compareOp .IsNot) gNotN := by
  refine ⟨_, op_notN, fun Z H x y dx dy a t px py e Q q => ?_⟩
  cases dy with
  | none =>
    rw [gNotN_none] at e
    cases e
    cases py.none
    exact ⟨rfl, q _ Z H (.refl t) (by rw [px.isN]; exact .bl _)⟩
  | _ => cases dx <;> cases e
def gIn : D → D → Option T
  | x, .list ds => if SeqAt.shaped x && SeqAt.shaped (.list ds) then some (.fz (.bool (ds.any fun z => PyData.eqv z x))) else none
  | _, _ => none
def gNotIn : D → D → Option T
  | x, .list ds => if SeqAt.shaped x && SeqAt.shaped (.list ds) then some (.fz (.bool (!ds.any fun z => PyData.eqv z x))) else none
  | _, _ => none
theorem op2_in (hu : X.A.units + 65 < cLine) : Op2 X (compareOp .In) gIn := by
  refine ⟨_, op_inD hu, fun Z H x y dx dy a t px py e Q q => ?_⟩
  unfold gIn at e
  split at e
  · split at e
    · rename_i h
      cases e
      rw [Bool.and_eq_true] at h
      exact ⟨dx, _, px.dp h.1, py.dp h.2, h.1, h.2, q _ Z H (.refl t) (.bl _)⟩
    · cases e
  · cases e
theorem op2_notIn (hu : X.A.units + 65 < cLine) : Op2 X (compareOp .NotIn) gNotIn := by
  refine ⟨_, op_notInD hu, fun Z H x y dx dy a t px py e Q q => ?_⟩
  unfold gNotIn at e
  split at e
  · split at e
    · rename_i h
      cases e
      rw [Bool.and_eq_true] at h
      exact ⟨dx, _, px.dp h.1, py.dp h.2, h.1, h.2, q _ Z H (.refl t) (.bl _)⟩
    · cases e
  · cases e

/-! ### subscripts -/
theorem atI_RA {vs : List V} {ds : List D} (r : RA K Z H vs ds) {i : Int} {d : D} (e : atI ds i = some d) : ∃ v, atI vs i = some v ∧ R K Z H v d := by
  unfold atI at e ⊢
  obtain ⟨j, e1, e2⟩ := Option.bind_eq_some_iff.mp e
  obtain ⟨v, e3, rv⟩ := r.get e2
  exact ⟨v, Option.bind_eq_some_iff.mpr ⟨j, by rw [r.length]; exact e1, e3⟩, rv⟩
def rIxD : R2 := fun x y H Q => ∃ p ks k v, x = .ref p ∧ y = kV k ∧ Rd H p (.dK ks) ∧ valV ks k = some v ∧ Q v H
theorem ix_dict (hu : X.A.units + 1 < cLine) : IxR X rIxD := by
  intro value slice pins s σ H x y v u Q I rx ry h hs
  obtain ⟨p, ks, k, z, rfl, rfl, hq, he, q⟩ := h
  cases rx
  have g : DGet H p (kV k) (some z) := .inl ⟨ks, k, hq, rfl, he.symm⟩
  have hT := dict_typeIs I g
  have h₂ : wpAny (model X.prog X.w) X.A (getItem (.ref p) u) (EP X pins σ Q) X.xe s := d_getItem hu I g ry fun w' s3 I3 rw' => ⟨z, H, I3, rw', q⟩
  unfold subscriptTail
  refine wpAny_bind ?_
  rw [getitemInPython_of_ne hT.not_modules]
  refine wpAny_bind (wpAny_specialOf hT PySem.F.slot_dict_getitem.lookup ?_)
  have fin : wpAny (model X.prog X.w) X.A (subscripted slice false (.ref p) u) (fun r s₃ => wpAny (model X.prog X.w) X.A (letTemporaryGo value (.ref p) r >>= fun _ => pure r) (EP X pins σ Q) X.xe s₃) X.xe s := by
    rw [hs]
    exact wpAny_operating (wpAny_mono h₂ (fun r s₃ h₃ => wpAny_bind (wpAny_letTemporaryGo (wpAny_pure h₃))) fun _ _ x => x)
  first
    | exact wpAny_pure (wpAny_bind fin)
    | exact wpAny_bind (wpAny_pure (wpAny_bind fin))
    | exact wpAny_bind fin
def asDict : List (D × D) → Option (List (Str × D))
  | [] => some []
  | (.str s, d) :: r => (asDict r).map fun t => (s, d) :: t
  | _ => none
theorem asDict_ok : ∀ {kvs : List (D × D)} {r : List (Str × D)}, asDict kvs = some r → PyData.dict kvs = dictD r
  | [], _, e => by cases e; rfl
  | (.str s, d) :: t, _, e => by
    obtain ⟨r, e1, e2⟩ := Option.map_eq_some_iff.mp e
    subst e2
    have := PyData.dict.inj (asDict_ok e1)
    show PyData.dict ((.str s, d) :: t) = _
    rw [this]
    rfl
  | (.none, d) :: _, _, e => by cases e
  | (.bool _, d) :: _, _, e => by cases e
  | (.int _, d) :: _, _, e => by cases e
  | (.list _, d) :: _, _, e => by cases e
  | (.tuple _, d) :: _, _, e => by cases e
  | (.dict _, d) :: _, _, e => by cases e
@[simp] theorem asDict_map (r : List (Str × D)) : asDict (r.map fun p => (.str p.1, p.2)) = some r := by
  induction r with
  | nil => rfl
  | cons p r ih =>
    show (asDict (r.map fun p => (.str p.1, p.2))).map _ = _
    rw [ih]
    rfl
/-- look up -/
def dget (kvs : List (Str × D)) (s : Str) : Option D := (kvs.find? fun p => decide (p.1 = s)).map (·.2)
theorem RK.get {s : Str} {d : D} : ∀ {ks : List (Key × V)} {kvs : List (Str × D)}, RK K Z H ks kvs → dget kvs s = some d → ∃ v, valV ks (.inr s) = some v ∧ R K Z H v d
  | _, _, .nil, e => by simp [dget] at e
  | _, _, @RK.cons _ _ _ s' v vs d' ds rv t, e => by
    by_cases h : s' = s
    · subst h
      simp [dget] at e
      subst e
      exact ⟨v, by simp [valV], rv⟩
    · have : dget ds s = some d := by simpa [dget, List.find?_cons, h] using e
      obtain ⟨w, e1, e2⟩ := RK.get t this
      refine ⟨w, ?_, e2⟩
      rw [valV_neg (by simpa using h)]
      exact e1
def gIx : D → D → Option T
  | .tuple ds, .int i => (atI ds i).map .fz
  | .list ds, .int i => (atI ds i).map .fz
  | .dict kvs, .str s => (asDict kvs).bind fun r => (dget r s).map .fz
  | .dict [(.none, .list ds)], .int i => (atI ds i).map .fz
  | _, _ => none
@[simp] theorem gIx_tup (ds : List D) (i : Int) : gIx (.tuple ds) (.int i) = (atI ds i).map .fz := rfl
@[simp] theorem gIx_lst (ds : List D) (i : Int) : gIx (.list ds) (.int i) = (atI ds i).map .fz := rfl
@[simp] theorem gIx_scr (ns : List Int) (i : Int) : gIx (scrD ns) (.int i) = (atI (ns.map PyData.int) i).map .fz := rfl
@[simp] theorem gIx_dict (kvs : List (Str × D)) (s : Str) : gIx (dictD kvs) (.str s) = (dget kvs s).map .fz := by
  unfold dictD
  have h : ∀ l : List (D × D), gIx (.dict l) (.str s) = (asDict l).bind fun r => (dget r s).map .fz := fun l => rfl
  rw [h, asDict_map]
  rfl
theorem ix2 (hu : X.A.units + 1 < cLine) : Ix2 X gIx := by
  refine ⟨_, ix_list.or (ix_tup.or (ix_dict hu)), fun Z H x y dx dy a t px py e Q q => ?_⟩
  unfold gIx at e
  split at e
  · obtain ⟨d, e1, rfl⟩ := Option.map_eq_some_iff.mp e
    obtain ⟨p, xs, rfl, h1, r1⟩ := px.tuple
    cases py.int
    obtain ⟨v, e2, rv⟩ := atI_RA r1 e1
    exact .inr (.inl ⟨p, xs, _, v, rfl, rfl, h1, e2, q v Z H (.refl t) rv⟩)
  · obtain ⟨d, e1, rfl⟩ := Option.map_eq_some_iff.mp e
    obtain ⟨p, xs, rfl, h1, r1⟩ := px.list
    cases py.int
    obtain ⟨v, e2, rv⟩ := atI_RA r1 e1
    exact .inl ⟨p, xs, _, v, rfl, rfl, .inl (.inl h1), e2, q v Z H (.refl t) rv⟩
  · obtain ⟨r, e1, e⟩ := Option.bind_eq_some_iff.mp e
    obtain ⟨d, e2, rfl⟩ := Option.map_eq_some_iff.mp e
    rw [asDict_ok e1] at px
    obtain ⟨p, ks, rfl, h1, r1⟩ := px.dict
    cases py.str
    obtain ⟨v, e3, rv⟩ := r1.get e2
    exact .inr (.inr ⟨p, ks, .inr _, v, rfl, rfl, h1, e3, q v Z H (.refl t) rv⟩)
  · obtain ⟨d, e1, rfl⟩ := Option.map_eq_some_iff.mp e
    cases py.int
    rename_i ds i
    have hs : ∃ ns : List Int, ds = ns.map PyData.int ∧ ∃ p, x = .ref p ∧ SqL X.K H p (ns.map V.int) := by
      rcases px with h | ⟨p, xs, ds, _, e, _⟩ | ⟨p, ks, ds, rfl, e, h1, h2⟩
      · generalize e : PyData.dict [(PyData.none, PyData.list ds)] = d at h
        cases h with
        | dic z e1 r =>
          have e' := PyData.dict.inj e
          rename_i kvs
          cases kvs with
          | nil => simp at e'
          | cons p r => simp at e'
        | scr z e1 =>
          have e' := PyData.dict.inj e
          simp only [List.cons.injEq, Prod.mk.injEq, true_and, and_true, PyData.list.injEq] at e'
          exact ⟨_, e', _, rfl, .inl e1⟩
        | kscr e1 =>
          have e' := PyData.dict.inj e
          simp only [List.cons.injEq, Prod.mk.injEq, true_and, and_true, PyData.list.injEq] at e'
          exact ⟨_, e', _, rfl, e1 H⟩
        | _ => cases e
      · cases e
      · unfold dictD at e
        have e' := PyData.dict.inj e
        cases ds with
        | nil => simp at e'
        | cons p r => simp at e'
    obtain ⟨ns, rfl, p, rfl, hl⟩ := hs
    have : ∃ v, atI (ns.map V.int) i = some v ∧ R X.K Z H v d := by
      unfold atI at e1 ⊢
      obtain ⟨j, e2, e3⟩ := Option.bind_eq_some_iff.mp e1
      rw [List.getElem?_map] at e3
      obtain ⟨k, e4, rfl⟩ := Option.map_eq_some_iff.mp e3
      refine ⟨.int k, Option.bind_eq_some_iff.mpr ⟨j, ?_, by rw [List.getElem?_map, e4]; rfl⟩, .int k⟩
      rw [List.length_map] at e2 ⊢
      exact e2
    obtain ⟨v, e2, rv⟩ := this
    exact .inl ⟨p, _, i, v, rfl, rfl, hl, e2, q v Z H (.refl t) rv⟩
  · cases e
end
end DL
/-! DZ: zip of two or three, enumerate, over lists and tuples in any mix, for the hand layer's loops. -/
namespace DL
open PySem PySem.Spec PyProof.Rows L2

/-- a list (true) or a tuple (false) that can be read -/
def SqS (K : PySem.W.Frag) (H : Hp) (k : Bool) (a : Addr) (xs : List V) : Prop := match k with
  | true => SqL K H a xs
  | false => SqT K H a xs
def srcH (k : Bool) (h : Heap) (a : Addr) (its : Array Value) : Prop := match k with
  | true => h.IsList a its
  | false => h.IsTuple a its
def itH (k : Bool) (h : Heap) (it a : Addr) (i : Nat) : Prop := match k with
  | true => h.IsListIter it a i
  | false => h.IsTupleIter it a i
def itO (k : Bool) (a : Addr) : Obj := match k with
  | true => { cls := .type "list_iterator", data := .fields #[.ref a, .int 0 0] }
  | false => { cls := .type "tuple_iterator", data := .fields #[.ref a, .int 0 0] }
theorem itH_get {k : Bool} {h : Heap} {it a : Addr} {i : Nat} (st : itH k h it a i) : ∃ o, h.get? it = some o ∧ ∀ v, o.data ≠ .cell v := by
  cases k with
  | true => obtain ⟨o, e, c, d⟩ := st; exact ⟨o, e, fun v z => by rw [d] at z; cases z⟩
  | false => obtain ⟨o, e, c, d⟩ := st; exact ⟨o, e, fun v z => by rw [d] at z; cases z⟩
theorem itH_at {k : Bool} {h h' : Heap} {it a : Addr} {i : Nat} (st : itH k h it a i) (e : ∀ o, h.get? it = some o → h'.get? it = some o) : itH k h' it a i := by
  cases k with
  | true => exact Heap.IsListIter.at st e
  | false => exact Heap.IsTupleIter.at st e
theorem itO_new {k : Bool} {h : Heap} {it a : Addr} (e : h.get? it = some (itO k a)) : itH k h it a 0 := by
  cases k with
  | true => exact ⟨_, e, rfl, rfl⟩
  | false => exact ⟨_, e, rfl, rfl⟩
theorem draws_of {prog : Program} {w : World} {A : Around} (hh : A.handled = none) (k : Bool) (it l : Addr) (hne : l ≠ it) (items : Array Value) :
    Draws prog w A it [it, l] items.size (fun i v => items[i]? = some v) (fun i h => itH k h it l i ∧ srcH k h l items) := by
  cases k with
  | true => exact Draws.list hh it l hne items
  | false => exact Draws.tuple hh it l hne items
theorem begins_of (k : Bool) (l : Addr) (items : Array Value) : Begins (.ref l) (itO k l) fun h => srcH k h l items := by
  cases k with
  | true => exact begins_list l items
  | false => exact begins_tuple l items
section
variable {X : Cx} {pins : List (Addr × Obj)} {σ : L2.St} {H : Hp} {s : Shared} {a : Addr} {xs ys : List V} {k k' : Bool}
theorem src_of (I : Inv X pins σ H s) (h : SqS X.K H k a xs) : ∃ its : List Value, Vals xs its ∧ srcH k s.heap a its.toArray ∧ a < s.heap.objs.size := by
  cases k with
  | true =>
    obtain ⟨its, r, p, _⟩ := I.list h
    exact ⟨its, r, p.isList, p.lt⟩
  | false =>
    obtain ⟨its, r, p, _⟩ := I.tuple h
    exact ⟨its, r, p, p.lt⟩
theorem src_inj (I : Inv X pins σ H s) (h : SqS X.K H k a xs) (h' : SqS X.K H k a ys) : xs = ys := by
  cases k with
  | true => exact I.list_inj h h'
  | false => exact I.tuple_inj h h'
theorem tup_new {h : Heap} {T : Addr} {vals : List Value} {vs : List V} {P : Program} {w : World} {H' : Hp} (hT : h.IsTuple T vals.toArray) (r : Vals vs vals) (hz : vs.length ≤ sizeLine) : ObjOk P w H' h T (.tup vs) := ⟨hz, vals, r, hT⟩
end

/-! ### zip of two -/
def ItZ2 (K : PySem.W.Frag) (k1 k2 : Bool) (a b : Addr) : It :=
  ⟨fun i H => ∃ (xs ys : List V) (x y : V), SqS K H k1 a xs ∧ SqS K H k2 b ys ∧ xs[i]? = some x ∧ ys[i]? = some y,
    fun i H v H' => ∃ T x y, v = .ref T ∧ H T = none ∧ H' = upd H T (.tup [x, y]) ∧ (∀ xs, SqS K H k1 a xs → xs[i]? = some x) ∧ ∀ ys, SqS K H k2 b ys → ys[i]? = some y,
    fun i H => ∃ xs ys : List V, SqS K H k1 a xs ∧ SqS K H k2 b ys ∧ i = min xs.length ys.length⟩
theorem turn_z2 {P : Program} {w : World} {K : PySem.W.Frag} {elts : List Expr} {kk : Nat} {tpos : Pos} {k1 k2 : Bool} {a b z TI TO i1 i2 : Addr} (S : ZipSep2 z TI TO i1 i2 [i1, a] [i2, b]) (ha : a ≠ i1) (hb : b ≠ i2) :
    Turn P w K (.Tuple elts kk tpos) (ItZ2 K k1 k2 a b) [z, TI, TO, i1, i2] z (fun i h => IsZip h z TI TO .none ∧ IsTupOf2 h TI (.ref i1) (.ref i2) ∧ (∃ a1 a2, IsTupOf2 h TO a1 a2) ∧ itH k1 h i1 a i ∧ itH k2 h i2 b i) where
  mem := by simp
  obj := fun i h st c hc => by
    obtain ⟨hz, hTI, ⟨x, y, hTO⟩, h1, h2⟩ := st
    have e' : c = z ∨ c = TI ∨ c = TO ∨ c = i1 ∨ c = i2 := by simpa using hc
    rcases e' with q | q | q | q | q
    · rw [q]; exact ⟨_, hz, fun v q => nomatch q⟩
    · rw [q]; exact ⟨_, hTI, fun v q => nomatch q⟩
    · rw [q]; exact ⟨_, hTO, fun v q => nomatch q⟩
    · rw [q]; exact itH_get h1
    · rw [q]; exact itH_get h2
  keep := fun i h h' st k => by
    obtain ⟨hz, hTI, ⟨x, y, hTO⟩, h1, h2⟩ := st
    exact ⟨k z (by simp) _ hz, k TI (by simp) _ hTI, ⟨x, y, k TO (by simp) _ hTO⟩, itH_at h1 fun o q => k i1 (by simp) o q, itH_at h2 fun o q => k i2 (by simp) o q⟩
  item := by
    intro X hP hw hK hc i pins s σ H E I hf st hg
    subst hP hw hK
    obtain ⟨xs, ys, x, y, hqx, hqy, hx, hy⟩ := hg
    obtain ⟨its, rv, p, _⟩ := src_of I hqx
    obtain ⟨its2, rv2, p2, _⟩ := src_of I hqy
    have l1 := rv.length
    have l2 := rv2.length
    have hh : X.A.in1.handled = none := I.ok.hd hc
    have W := GoesN.zip2 (prog := X.prog) (w := X.w) (A := X.A) (elts := elts) (x1 := kk) (pos := tpos) S (draws_of hh k1 i1 a ha its.toArray) (draws_of hh k2 i2 b hb its2.toArray)
    have old : ∀ c ∈ [z, TI, TO, i1, i2], c < s.heap.objs.size := fun c hc => by
      obtain ⟨hz, hTI, ⟨x, y, hTO⟩, h1, h2⟩ := st
      have e' : c = z ∨ c = TI ∨ c = TO ∨ c = i1 ∨ c = i2 := by simpa using hc
      rcases e' with q | q | q | q | q
      · rw [q]; exact Heap.lt_size hz
      · rw [q]; exact Heap.lt_size hTI
      · rw [q]; exact Heap.lt_size hTO
      · rw [q]; obtain ⟨o, e, _⟩ := itH_get h1; exact Heap.lt_size e
      · rw [q]; obtain ⟨o, e, _⟩ := itH_get h2; exact Heap.lt_size e
    have hi : i < min its.toArray.size its2.toArray.size := by
      have := (List.getElem?_eq_some_iff.mp hx).1
      have := (List.getElem?_eq_some_iff.mp hy).1
      simp; omega
    refine W.goes i s _ E hi ⟨st.1, st.2.1, st.2.2.1, ⟨st.2.2.2.1, p⟩, st.2.2.2.2, p2⟩ fun v h' tk hY st' keep _ => ?_
    obtain ⟨T, u, u2, rfl, hT, hu, hu2, hTup⟩ := hY
    obtain ⟨u', e1, ru⟩ := rv.get hx
    obtain ⟨u2', e2, ru2⟩ := rv2.get hy
    have hu : its[i]? = some u := by simpa using hu
    have hu2 : its2[i]? = some u2 := by simpa using hu2
    rw [hu] at e1
    rw [hu2] at e2
    cases e1
    cases e2
    have I1 : Inv X pins σ (upd H T (.tup [x, y])) { s with heap := h', toks := tk } :=
      I.turnedNew (t' := tk) (ch := [z, TI, TO, i1, i2]) (fun c o hb q => keep c o (fun q' => hb (by simp at q' ⊢; rcases q' with q' | q' | q' | q' <;> simp [q'])) q) hf hT (tup_new (vals := [u, u2]) hTup (.cons ru (.cons ru2 .nil)) (by show 2 ≤ sizeLine; decide))
    refine ⟨.ref T, _, I1, rfl, ⟨T, x, y, rfl, I.hok.fresh hT, rfl, fun l hl => by rw [src_inj I hl hqx]; exact hx, fun l hl => by rw [src_inj I hl hqy]; exact hy⟩, ⟨st'.1, st'.2.1, st'.2.2.1, st'.2.2.2.1.1, st'.2.2.2.2.1⟩, fun c hcm => ?_⟩
    rw [upd_ne (Nat.ne_of_lt (Nat.lt_of_lt_of_le (old c hcm) hT))]
    exact (hf c hcm).1
  done := by
    intro X hP hw hK hc i pins s σ H E I hf st hg
    subst hP hw hK
    obtain ⟨xs, ys, hqx, hqy, rfl⟩ := hg
    obtain ⟨its, rv, p, _⟩ := src_of I hqx
    obtain ⟨its2, rv2, p2, _⟩ := src_of I hqy
    have l1 := rv.length
    have l2 := rv2.length
    have hh : X.A.in1.handled = none := I.ok.hd hc
    have W := GoesN.zip2 (prog := X.prog) (w := X.w) (A := X.A) (elts := elts) (x1 := kk) (pos := tpos) S (draws_of hh k1 i1 a ha its.toArray) (draws_of hh k2 i2 b hb its2.toArray)
    have en : min its.toArray.size its2.toArray.size = min xs.length ys.length := by simp [l1, l2]
    refine W.stops s _ E (by rw [en]; exact ⟨st.1, st.2.1, st.2.2.1, ⟨st.2.2.2.1, p⟩, st.2.2.2.2, p2⟩) fun h' tk keep _ => ?_
    exact I.turnedL (t' := tk) (ch := [z, TI, TO, i1, i2]) (fun c o hb q => keep c o (fun q' => hb (by simp at q' ⊢; rcases q' with q' | q' | q' | q' <;> simp [q'])) q) hf
  self := fun A i s Q E st h => wpAny_pyIter_zip st.1 h
def iZ2 (K : PySem.W.Frag) (ta : TA) : TI := fun σ H R => ta σ H fun vs H1 => ∃ k1 k2 a b xs ys, vs = [.ref a, .ref b] ∧ SqS K H1 k1 a xs ∧ SqS K H1 k2 b ys ∧ R (ItZ2 K k1 k2 a b) H1
theorem pi_z2 {X : Cx} {e e2 : Expr} {ta : TA} {p pos tpos : Pos} {elts : List Expr} {kk : Nat} (hg : Gl X "zip") (hm : X.mg "zip" = none) (ha : PA X [e, e2] ta)
    (hs : starEach [e, e2] X.env = (false, eval e X.env) :: starEach [e2] X.env := by rfl) (hpl : (backTo pos (starEach [e2] X.env)).any (·.1) = false := by rfl) :
    PI X (.Tuple elts kk tpos) (.Call (.Name "zip" p) [e, e2] [] pos) (iZ2 X.K ta) := by
  refine ⟨fun pins s σ H R I h => ?_⟩
  refine Call_ (ld_blt I hg hm PyProof.Rows.boot_zip (PyProof.Rows.callWith_type1 (thn (ha.run pos pins s σ H _ I h) fun us s1 ⟨vs, H1, I1, r1, q1⟩ => ?_) hs hpl))
  obtain ⟨k1, k2, a, b, xs, ys, ex, hqx, hqy, q⟩ := q1
  subst ex
  cases r1 with
  | cons r rr =>
    cases rr with
    | cons r' rr =>
      cases rr
      cases r
      cases r'
      obtain ⟨its, rv, p1, la⟩ := src_of I1 hqx
      obtain ⟨its2, rv2, p2, lb⟩ := src_of I1 hqy
      refine zip_begins2 (begins_of k1 a its.toArray) (begins_of k2 b its2.toArray) p1 p2 fun h' hz hTI hTO h1 h2 hsz hk => wpAny_pyIter_zip hz ?_
      have I2 : Inv X pins σ H1 { s1 with heap := h' } := I1.kept (t' := s1.toks) hk
      have one : ∀ {d x : Addr}, x < s1.heap.objs.size → d ∈ [x] → d < s1.heap.objs.size := fun {d x} h hd => by
        have : d = x := by simpa using hd
        rw [this]
        exact h
      refine ⟨s1.heap.objs.size + 4, [s1.heap.objs.size + 4, s1.heap.objs.size + 2, s1.heap.objs.size + 3, s1.heap.objs.size, s1.heap.objs.size + 1], _, _, H1, rfl, I2,
        turn_z2 (k1 := k1) (k2 := k2) (a := a) (b := b) (zip_sep2 (N := s1.heap.objs.size) (fp1 := [a]) (fp2 := [b]) (fun d => one la) (fun d => one lb)) (Nat.ne_of_lt la) (Nat.ne_of_lt (Nat.lt_succ_of_lt lb)),
        ⟨hz, hTI, ⟨_, _, hTO⟩, itO_new h1, itO_new h2⟩, fun c hcm => ?_, q⟩
      have e' : c = s1.heap.objs.size + 4 ∨ c = s1.heap.objs.size + 2 ∨ c = s1.heap.objs.size + 3 ∨ c = s1.heap.objs.size ∨ c = s1.heap.objs.size + 1 := by simpa using hcm
      have hle : s1.heap.objs.size ≤ c := by
        rcases e' with z | z | z | z | z
        · rw [z]; exact Nat.le_add_right _ _
        · rw [z]; exact Nat.le_add_right _ _
        · rw [z]; exact Nat.le_add_right _ _
        · rw [z]; exact Nat.le_refl _
        · rw [z]; exact Nat.le_add_right _ _
      exact I1.fpOk hle (I1.hok.fresh hle)

/-! ### zip of three -/
def ItZ3 (K : PySem.W.Frag) (k1 k2 k3 : Bool) (a b c : Addr) : It :=
  ⟨fun i H => ∃ (xs ys zs : List V) (x y z : V), SqS K H k1 a xs ∧ SqS K H k2 b ys ∧ SqS K H k3 c zs ∧ xs[i]? = some x ∧ ys[i]? = some y ∧ zs[i]? = some z,
    fun i H v H' => ∃ T x y z, v = .ref T ∧ H T = none ∧ H' = upd H T (.tup [x, y, z]) ∧ (∀ xs, SqS K H k1 a xs → xs[i]? = some x) ∧ (∀ ys, SqS K H k2 b ys → ys[i]? = some y) ∧ ∀ zs, SqS K H k3 c zs → zs[i]? = some z,
    fun i H => ∃ xs ys zs : List V, SqS K H k1 a xs ∧ SqS K H k2 b ys ∧ SqS K H k3 c zs ∧ i = min (min xs.length ys.length) zs.length⟩
theorem turn_z3 {P : Program} {w : World} {K : PySem.W.Frag} {elts : List Expr} {kk : Nat} {tpos : Pos} {k1 k2 k3 : Bool} {a b c z TI TO i1 i2 i3 : Addr} (S : ZipSep3 z TI TO i1 i2 i3 [i1, a] [i2, b] [i3, c]) (ha : a ≠ i1) (hb : b ≠ i2) (hc0 : c ≠ i3) :
    Turn P w K (.Tuple elts kk tpos) (ItZ3 K k1 k2 k3 a b c) [z, TI, TO, i1, i2, i3] z (fun i h => IsZip h z TI TO .none ∧ IsTupOf3 h TI (.ref i1) (.ref i2) (.ref i3) ∧ (∃ a1 a2 a3, IsTupOf3 h TO a1 a2 a3) ∧ itH k1 h i1 a i ∧ itH k2 h i2 b i ∧ itH k3 h i3 c i) where
  mem := by simp
  obj := fun i h st d hd => by
    obtain ⟨hz, hTI, ⟨x, y, _, hTO⟩, h1, h2, h3⟩ := st
    have e' : d = z ∨ d = TI ∨ d = TO ∨ d = i1 ∨ d = i2 ∨ d = i3 := by simpa using hd
    rcases e' with q | q | q | q | q | q
    · rw [q]; exact ⟨_, hz, fun v q => nomatch q⟩
    · rw [q]; exact ⟨_, hTI, fun v q => nomatch q⟩
    · rw [q]; exact ⟨_, hTO, fun v q => nomatch q⟩
    · rw [q]; exact itH_get h1
    · rw [q]; exact itH_get h2
    · rw [q]; exact itH_get h3
  keep := fun i h h' st k => by
    obtain ⟨hz, hTI, ⟨x, y, u, hTO⟩, h1, h2, h3⟩ := st
    exact ⟨k z (by simp) _ hz, k TI (by simp) _ hTI, ⟨x, y, u, k TO (by simp) _ hTO⟩, itH_at h1 fun o q => k i1 (by simp) o q, itH_at h2 fun o q => k i2 (by simp) o q, itH_at h3 fun o q => k i3 (by simp) o q⟩
  item := by
    intro X hP hw hK hc i pins s σ H E I hf st hg
    subst hP hw hK
    obtain ⟨xs, ys, zs, x, y, zz, hqx, hqy, hqz, hx, hy, hzz⟩ := hg
    obtain ⟨its, rv, p, _⟩ := src_of I hqx
    obtain ⟨its2, rv2, p2, _⟩ := src_of I hqy
    obtain ⟨its3, rv3, p3, _⟩ := src_of I hqz
    have l1 := rv.length
    have l2 := rv2.length
    have l3 := rv3.length
    have hh : X.A.in1.handled = none := I.ok.hd hc
    have W := GoesN.zip3 (prog := X.prog) (w := X.w) (A := X.A) (elts := elts) (x1 := kk) (pos := tpos) S (draws_of hh k1 i1 a ha its.toArray) (draws_of hh k2 i2 b hb its2.toArray) (draws_of hh k3 i3 c hc0 its3.toArray)
    have old : ∀ d ∈ [z, TI, TO, i1, i2, i3], d < s.heap.objs.size := fun d hd => by
      obtain ⟨hz, hTI, ⟨x, y, _, hTO⟩, h1, h2, h3⟩ := st
      have e' : d = z ∨ d = TI ∨ d = TO ∨ d = i1 ∨ d = i2 ∨ d = i3 := by simpa using hd
      rcases e' with q | q | q | q | q | q
      · rw [q]; exact Heap.lt_size hz
      · rw [q]; exact Heap.lt_size hTI
      · rw [q]; exact Heap.lt_size hTO
      · rw [q]; obtain ⟨o, e, _⟩ := itH_get h1; exact Heap.lt_size e
      · rw [q]; obtain ⟨o, e, _⟩ := itH_get h2; exact Heap.lt_size e
      · rw [q]; obtain ⟨o, e, _⟩ := itH_get h3; exact Heap.lt_size e
    have hi : i < min (min its.toArray.size its2.toArray.size) its3.toArray.size := by
      have := (List.getElem?_eq_some_iff.mp hx).1
      have := (List.getElem?_eq_some_iff.mp hy).1
      have := (List.getElem?_eq_some_iff.mp hzz).1
      simp; omega
    refine W.goes i s _ E hi ⟨st.1, st.2.1, st.2.2.1, ⟨st.2.2.2.1, p⟩, ⟨st.2.2.2.2.1, p2⟩, st.2.2.2.2.2, p3⟩ fun v h' tk hY st' keep _ => ?_
    obtain ⟨T, u, u2, u3, rfl, hT, hu, hu2, hu3, hTup⟩ := hY
    obtain ⟨u', e1, ru⟩ := rv.get hx
    obtain ⟨u2', e2, ru2⟩ := rv2.get hy
    obtain ⟨u3', e3, ru3⟩ := rv3.get hzz
    have hu : its[i]? = some u := by simpa using hu
    have hu2 : its2[i]? = some u2 := by simpa using hu2
    have hu3 : its3[i]? = some u3 := by simpa using hu3
    rw [hu] at e1
    rw [hu2] at e2
    rw [hu3] at e3
    cases e1
    cases e2
    cases e3
    have I1 : Inv X pins σ (upd H T (.tup [x, y, zz])) { s with heap := h', toks := tk } :=
      I.turnedNew (t' := tk) (ch := [z, TI, TO, i1, i2, i3]) (fun c o hb q => keep c o (fun q' => hb (by simp at q' ⊢; rcases q' with q' | q' | q' | q' | q' <;> simp [q'])) q) hf hT (tup_new (vals := [u, u2, u3]) hTup (.cons ru (.cons ru2 (.cons ru3 .nil))) (by show 3 ≤ sizeLine; decide))
    refine ⟨.ref T, _, I1, rfl, ⟨T, x, y, zz, rfl, I.hok.fresh hT, rfl, fun l hl => by rw [src_inj I hl hqx]; exact hx, fun l hl => by rw [src_inj I hl hqy]; exact hy, fun l hl => by rw [src_inj I hl hqz]; exact hzz⟩, ⟨st'.1, st'.2.1, st'.2.2.1, st'.2.2.2.1.1, st'.2.2.2.2.1.1, st'.2.2.2.2.2.1⟩, fun c hcm => ?_⟩
    rw [upd_ne (Nat.ne_of_lt (Nat.lt_of_lt_of_le (old c hcm) hT))]
    exact (hf c hcm).1
  done := by
    intro X hP hw hK hc i pins s σ H E I hf st hg
    subst hP hw hK
    obtain ⟨xs, ys, zs, hqx, hqy, hqz, rfl⟩ := hg
    obtain ⟨its, rv, p, _⟩ := src_of I hqx
    obtain ⟨its2, rv2, p2, _⟩ := src_of I hqy
    obtain ⟨its3, rv3, p3, _⟩ := src_of I hqz
    have l1 := rv.length
    have l2 := rv2.length
    have l3 := rv3.length
    have hh : X.A.in1.handled = none := I.ok.hd hc
    have W := GoesN.zip3 (prog := X.prog) (w := X.w) (A := X.A) (elts := elts) (x1 := kk) (pos := tpos) S (draws_of hh k1 i1 a ha its.toArray) (draws_of hh k2 i2 b hb its2.toArray) (draws_of hh k3 i3 c hc0 its3.toArray)
    have en : min (min its.toArray.size its2.toArray.size) its3.toArray.size = min (min xs.length ys.length) zs.length := by simp [l1, l2, l3]
    refine W.stops s _ E (by rw [en]; exact ⟨st.1, st.2.1, st.2.2.1, ⟨st.2.2.2.1, p⟩, ⟨st.2.2.2.2.1, p2⟩, st.2.2.2.2.2, p3⟩) fun h' tk keep _ => ?_
    exact I.turnedL (t' := tk) (ch := [z, TI, TO, i1, i2, i3]) (fun c o hb q => keep c o (fun q' => hb (by simp at q' ⊢; rcases q' with q' | q' | q' | q' | q' <;> simp [q'])) q) hf
  self := fun A i s Q E st h => wpAny_pyIter_zip st.1 h
def iZ3 (K : PySem.W.Frag) (ta : TA) : TI := fun σ H R => ta σ H fun vs H1 => ∃ k1 k2 k3 a b c xs ys zs, vs = [.ref a, .ref b, .ref c] ∧ SqS K H1 k1 a xs ∧ SqS K H1 k2 b ys ∧ SqS K H1 k3 c zs ∧ R (ItZ3 K k1 k2 k3 a b c) H1
theorem pi_z3 {X : Cx} {e e2 e3 : Expr} {ta : TA} {p pos tpos : Pos} {elts : List Expr} {kk : Nat} (hg : Gl X "zip") (hm : X.mg "zip" = none) (ha : PA X [e, e2, e3] ta)
    (hs : starEach [e, e2, e3] X.env = (false, eval e X.env) :: starEach [e2, e3] X.env := by rfl) (hpl : (backTo pos (starEach [e2, e3] X.env)).any (·.1) = false := by rfl) :
    PI X (.Tuple elts kk tpos) (.Call (.Name "zip" p) [e, e2, e3] [] pos) (iZ3 X.K ta) := by
  refine ⟨fun pins s σ H R I h => ?_⟩
  refine Call_ (ld_blt I hg hm PyProof.Rows.boot_zip (PyProof.Rows.callWith_type1 (thn (ha.run pos pins s σ H _ I h) fun us s1 ⟨vs, H1, I1, r1, q1⟩ => ?_) hs hpl))
  obtain ⟨k1, k2, k3, a, b, c, xs, ys, zs, ex, hqx, hqy, hqz, q⟩ := q1
  subst ex
  cases r1 with
  | cons r rr =>
    cases rr with
    | cons r' rr =>
      cases rr with
      | cons r'' rr =>
        cases rr
        cases r
        cases r'
        cases r''
        obtain ⟨its, rv, p1, la⟩ := src_of I1 hqx
        obtain ⟨its2, rv2, p2, lb⟩ := src_of I1 hqy
        obtain ⟨its3, rv3, p3, lc⟩ := src_of I1 hqz
        refine zip_begins3 (begins_of k1 a its.toArray) (begins_of k2 b its2.toArray) (begins_of k3 c its3.toArray) p1 p2 p3 fun h' hz hTI hTO h1 h2 h3 hsz hk => wpAny_pyIter_zip hz ?_
        have I2 : Inv X pins σ H1 { s1 with heap := h' } := I1.kept (t' := s1.toks) hk
        have one : ∀ {d x : Addr}, x < s1.heap.objs.size → d ∈ [x] → d < s1.heap.objs.size := fun {d x} h hd => by
          have : d = x := by simpa using hd
          rw [this]
          exact h
        refine ⟨s1.heap.objs.size + 5, [s1.heap.objs.size + 5, s1.heap.objs.size + 3, s1.heap.objs.size + 4, s1.heap.objs.size, s1.heap.objs.size + 1, s1.heap.objs.size + 2], _, _, H1, rfl, I2,
          turn_z3 (k1 := k1) (k2 := k2) (k3 := k3) (a := a) (b := b) (c := c) (zip_sep3 (N := s1.heap.objs.size) (fp1 := [a]) (fp2 := [b]) (fp3 := [c]) (fun d => one la) (fun d => one lb) (fun d => one lc)) (Nat.ne_of_lt la) (Nat.ne_of_lt (Nat.lt_succ_of_lt lb)) (Nat.ne_of_lt (Nat.lt_succ_of_lt (Nat.lt_succ_of_lt lc))),
          ⟨hz, hTI, ⟨_, _, _, hTO⟩, itO_new h1, itO_new h2, itO_new h3⟩, fun d hcm => ?_, q⟩
        have e' : d = s1.heap.objs.size + 5 ∨ d = s1.heap.objs.size + 3 ∨ d = s1.heap.objs.size + 4 ∨ d = s1.heap.objs.size ∨ d = s1.heap.objs.size + 1 ∨ d = s1.heap.objs.size + 2 := by simpa using hcm
        have hle : s1.heap.objs.size ≤ d := by
          rcases e' with z | z | z | z | z | z
          · rw [z]; exact Nat.le_add_right _ _
          · rw [z]; exact Nat.le_add_right _ _
          · rw [z]; exact Nat.le_add_right _ _
          · rw [z]; exact Nat.le_refl _
          · rw [z]; exact Nat.le_add_right _ _
          · rw [z]; exact Nat.le_add_right _ _
        exact I1.fpOk hle (I1.hok.fresh hle)
end DL
/-! DE: enumerate(v), v a list or a tuple. -/
namespace DL
open PySem PySem.Spec PyProof.Rows L2
theorem meets_enum1 {v : Value} {o : Obj} {H : Heap → Prop} (B : Begins v o H) :
    Meets (Builtin.«enumerate.__new__» ⟨[.type "enumerate", v], []⟩) (fun _ R s => H s.heap ∧
      R (.ok (.ret (.ref (s.heap.push o).objs.size))) { s with heap := (s.heap.push o).push { cls := .type "enumerate", data := .fields #[.none, .bool false, .ref s.heap.objs.size, rawInt 0, .none, .none] } }) :=
  .of_wp fun prog w A R s h => by
    obtain ⟨hp, g, d, tk, os⟩ := s; obtain ⟨h1, h⟩ := h
    have hsub := sub_enumerate
    have q1 : ∀ {A' : Around} {E : Value → Shared → Prop} {Q : Value → Shared → Prop}, Q (.ref hp.objs.size) ⟨hp.push o, g, d, tk, os⟩ → wpAny (model prog w) A' (pyIter v) Q E ⟨hp, g, d, tk, os⟩ :=
      fun q => B.iter prog w _ _ ⟨hp, g, d, tk, os⟩ _ h1 q
    wp_walk using q1
    refine wpAny_stack_any fun st => wpAny_pure ?_
    split
    · rename_i c _ _ _ _ _
      cases (c == Value.type "enumerate")
      · wp_walk using q1
        exact ⟨_, rfl, h⟩
      · wp_walk using q1
        exact ⟨_, rfl, h⟩
    · wp_walk using q1
      exact ⟨_, rfl, h⟩
section
variable {prog : Program} {w : World} {A : Around} {E : Value → Shared → Prop} {s : Shared}
theorem enum_begins1 {v : Value} {o : Obj} {H : Heap → Prop} {Q : Value → Shared → Prop} (B : Begins v o H) (h1 : H s.heap)
    (h : ∀ h', IsEnum h' (s.heap.objs.size + 1) s.heap.objs.size 0 .none → h'.get? s.heap.objs.size = some o → h'.objs.size = s.heap.objs.size + 2 →
      (∀ b o, s.heap.get? b = some o → h'.get? b = some o) → Q (.ref (s.heap.objs.size + 1)) { s with heap := h' }) :
    wpAny (model prog w) A (call (.type "enumerate") [v]) Q E s := by
  refine callType_new F.called_enumerate (by decide) (F.typeCall_enumerate_1 _) (F.newCall_enumerate_1 _) (fun obj => F.args_object_init_2 obj _) F.entry_enumerate_new
    (meets_enum1 B) ⟨h1, ?_⟩
  have hz : (s.heap.push o).objs.size = s.heap.objs.size + 1 := Heap.size_push ..
  show _ ∧ _
  rw [hz]
  have he : IsEnum ((s.heap.push o).push { cls := .type "enumerate", data := .fields #[.none, .bool false, .ref s.heap.objs.size, rawInt 0, .none, .none] }) (s.heap.objs.size + 1) s.heap.objs.size 0 .none := by
    have := Heap.get?_push_size (s.heap.push o) (o := { cls := .type "enumerate", data := .fields #[.none, .bool false, .ref s.heap.objs.size, rawInt 0, .none, .none] }) rfl
    rw [hz] at this; exact this
  refine ⟨⟨_, he, rfl⟩, h _ he (Heap.get?_push_of_some _ (Heap.get?_push_size _ B.free)) (by rw [Heap.size_push, hz]) fun b o x => Heap.get?_push_of_some _ (Heap.get?_push_of_some _ x)⟩
end
def ItEn (K : PySem.W.Frag) (k : Bool) (a : Addr) : It :=
  ⟨fun i H => ∃ (xs : List V) (x : V), SqS K H k a xs ∧ xs[i]? = some x,
    fun i H v H' => ∃ T x, v = .ref T ∧ H T = none ∧ H' = upd H T (.tup [.int (i : Nat), x]) ∧ ∀ xs, SqS K H k a xs → xs[i]? = some x,
    fun i H => ∃ xs : List V, SqS K H k a xs ∧ i = xs.length⟩
theorem turn_en {P : Program} {w : World} {K : PySem.W.Frag} {elts : List Expr} {kk : Nat} {tpos : Pos} {k : Bool} {a e it : Addr} (hei : e ≠ it) (hea : e ≠ a) (hai : a ≠ it) :
    Turn P w K (.Tuple elts kk tpos) (ItEn K k a) [e, it] e (fun i h => (∃ old, IsEnum h e it ((0 : Int) + (i : Int)) old) ∧ itH k h it a i) where
  mem := by simp
  obj := fun i h st b hb => by
    obtain ⟨⟨old, he⟩, hi⟩ := st
    have e' : b = e ∨ b = it := by simpa using hb
    rcases e' with z | z
    · rw [z]; exact ⟨_, he, fun v q => nomatch q⟩
    · rw [z]; exact itH_get hi
  keep := fun i h h' st k => let ⟨⟨old, he⟩, hi⟩ := st; ⟨⟨old, k e (by simp) _ he⟩, itH_at hi fun o q => k it (by simp) o q⟩
  item := by
    intro X hP hw hK hc i pins s σ H E I hf st hg
    subst hP hw hK
    obtain ⟨xs, x, hqx, hx⟩ := hg
    obtain ⟨its, rv, p, _⟩ := src_of I hqx
    have l1 := rv.length
    have hh : X.A.in1.handled = none := I.ok.hd hc
    have W := GoesN.enumFrom (prog := X.prog) (w := X.w) (A := X.A) (elts := elts) (x1 := kk) (pos := tpos) 0 (draws_of hh k it a hai its.toArray) e hei (by simp [hei, hea]) (by simp)
    have old : ∀ c ∈ [e, it], c < s.heap.objs.size := fun c hc => by
      obtain ⟨⟨_, he⟩, h1⟩ := st
      have e' : c = e ∨ c = it := by simpa using hc
      rcases e' with q | q
      · rw [q]; exact Heap.lt_size he
      · rw [q]; obtain ⟨o, e, _⟩ := itH_get h1; exact Heap.lt_size e
    have hi : i < its.toArray.size := by
      have := (List.getElem?_eq_some_iff.mp hx).1
      simp; omega
    refine W.goes i s _ E hi ⟨st.1, st.2, p⟩ fun v h' tk hY st' keep _ => ?_
    obtain ⟨T, t, u, rfl, hT, hu, hTup⟩ := hY
    obtain ⟨u', e1, ru⟩ := rv.get hx
    have hu : its[i]? = some u := by simpa using hu
    rw [hu] at e1
    cases e1
    have I1 : Inv X pins σ (upd H T (.tup [.int (i : Nat), x])) { s with heap := h', toks := tk } :=
      I.turnedNew (t' := tk) (ch := [e, it]) (fun c o hb q => keep c o hb q) hf hT (tup_new (vals := [.int (0 + (i : Int)) t, u]) hTup (.cons ⟨t, by rw [Int.zero_add]⟩ (.cons ru .nil)) (by show 2 ≤ sizeLine; decide))
    refine ⟨.ref T, _, I1, rfl, ⟨T, x, rfl, I.hok.fresh hT, rfl, fun l hl => by rw [src_inj I hl hqx]; exact hx⟩, ⟨st'.1, st'.2.1⟩, fun c hcm => ?_⟩
    rw [upd_ne (Nat.ne_of_lt (Nat.lt_of_lt_of_le (old c hcm) hT))]
    exact (hf c hcm).1
  done := by
    intro X hP hw hK hc i pins s σ H E I hf st hg
    subst hP hw hK
    obtain ⟨xs, hqx, rfl⟩ := hg
    obtain ⟨its, rv, p, _⟩ := src_of I hqx
    have l1 := rv.length
    have hh : X.A.in1.handled = none := I.ok.hd hc
    have W := GoesN.enumFrom (prog := X.prog) (w := X.w) (A := X.A) (elts := elts) (x1 := kk) (pos := tpos) 0 (draws_of hh k it a hai its.toArray) e hei (by simp [hei, hea]) (by simp)
    have en : its.toArray.size = xs.length := by simp [l1]
    refine W.stops s _ E (by rw [en]; exact ⟨st.1, st.2, p⟩) fun h' tk keep _ => ?_
    exact I.turnedL (t' := tk) (ch := [e, it]) (fun c o hb q => keep c o hb q) hf
  self := fun A i s Q E st h => let ⟨⟨_, he⟩, _⟩ := st; wpAny_pyIter_enum he h
def iEn (K : PySem.W.Frag) (ta : TA) : TI := fun σ H R => ta σ H fun vs H1 => ∃ k a xs, vs = [.ref a] ∧ SqS K H1 k a xs ∧ R (ItEn K k a) H1
theorem pi_en {X : Cx} {e : Expr} {ta : TA} {p pos tpos : Pos} {elts : List Expr} {kk : Nat} (hg : Gl X "enumerate") (hm : X.mg "enumerate" = none) (ha : PA X [e] ta) (hs : starEach [e] X.env = [(false, eval e X.env)] := by rfl) :
    PI X (.Tuple elts kk tpos) (.Call (.Name "enumerate" p) [e] [] pos) (iEn X.K ta) := by
  refine ⟨fun pins s σ H R I h => ?_⟩
  refine Call_ (ld_blt I hg hm boot_enumerate (PyProof.Rows.callWith_type1 (thn (ha.run pos pins s σ H _ I h) fun us s1 ⟨vs, H1, I1, r1, q1⟩ => ?_) hs rfl))
  obtain ⟨k, a, xs, ex, hq, q⟩ := q1
  subst ex
  cases r1 with
  | cons r rr =>
    cases rr
    cases r
    obtain ⟨its, rv, p', la⟩ := src_of I1 hq
    refine enum_begins1 (begins_of k a its.toArray) p' fun h' he hit hsz hk => wpAny_pyIter_enum he ?_
    have I2 : Inv X pins σ H1 { s1 with heap := h' } := I1.kept (t' := s1.toks) hk
    refine ⟨s1.heap.objs.size + 1, [s1.heap.objs.size + 1, s1.heap.objs.size], _, _, H1, rfl, I2, turn_en (k := k) (a := a) (e := s1.heap.objs.size + 1) (it := s1.heap.objs.size) (Nat.succ_ne_self _) (Nat.ne_of_gt (Nat.lt_succ_of_lt la)) (Nat.ne_of_lt la), ⟨⟨.none, he⟩, itO_new hit⟩, fun b hb => ?_, q⟩
    have e' : b = s1.heap.objs.size + 1 ∨ b = s1.heap.objs.size := by simpa using hb
    have hle : s1.heap.objs.size ≤ b := by
      rcases e' with z | z
      · rw [z]; exact Nat.le_add_right _ _
      · rw [z]; exact Nat.le_refl _
    exact I1.fpOk hle (I1.hok.fresh hle)
end DL
/-! DL4: builtins called, slices, what loops walk, targets. -/
namespace DL
open PySem PySem.Spec PyProof.Rows L2

section
variable {X : Cx} {K : PySem.W.Frag} {Z Z' : Zp} {H H' : Hp} {x y : V} {e a b : Expr} {es : List Expr} {pos p : Pos} {A B : M T} {As : M (List T)} {g : List D → Option T}
theorem ev_callB {nm : Str} {id : String} (hc : Call1 X (.builtin id) g) (hm : X.mg nm = none) (hv : bootBuiltins nm = some (.builtin id)) (ha : EvP X (e :: es) As) (hg : Gl X nm := by rfl) (hn : nm ≠ "__name__" := by decide) (hdb : (nm == ("__debug__" : Str)) = false := by decide)
    (he : starEach (e :: es) X.env = (false, eval e X.env) :: starEach es X.env := by rfl) (hpl : (backTo pos (starEach es X.env)).any (·.1) = false := by rfl) : Ev X (.Call (.Name nm p) (e :: es) [] pos) (fB g As) := by
  obtain ⟨r, hc, hr⟩ := hc
  obtain ⟨t, pa, sa⟩ := ha
  exact ⟨_, pe_callB hc hg hm hv pa hn hdb he hpl, sem_cb sa hr⟩
theorem ev_callT {nm : Str} {id : String} (hc : Call1 X (.type id) g) (hm : X.mg nm = none) (hv : bootBuiltins nm = some (.type id)) (ha : EvP X (e :: es) As) (hg : Gl X nm := by rfl) (hn : nm ≠ "__name__" := by decide) (hdb : (nm == ("__debug__" : Str)) = false := by decide)
    (he : starEach (e :: es) X.env = (false, eval e X.env) :: starEach es X.env := by rfl) (hpl : (backTo pos (starEach es X.env)).any (·.1) = false := by rfl) : Ev X (.Call (.Name nm p) (e :: es) [] pos) (fB g As) := by
  obtain ⟨r, hc, hr⟩ := hc
  obtain ⟨t, pa, sa⟩ := ha
  exact ⟨_, pe_callTy hc hg hm hv pa hn hdb he hpl, sem_cb sa hr⟩

/-! ### len, abs, tuple, list, all, any, sum, isinstance -/
def gLen : List D → Option T
  | [.list ds] => some (.fz (.int ds.length))
  | [.tuple ds] => some (.fz (.int ds.length))
  | [.dict [(.none, .list ds)]] => some (.fz (.int ds.length))
  | [.str s] => if s.length ≤ 1000000 then some (.fz (.int s.length)) else none
  | _ => none
@[simp] theorem gLen_lst (ds : List D) : gLen [.list ds] = some (.fz (.int ds.length)) := rfl
@[simp] theorem gLen_tup (ds : List D) : gLen [.tuple ds] = some (.fz (.int ds.length)) := rfl
@[simp] theorem gLen_scr (ns : List Int) : gLen [scrD ns] = some (.fz (.int ns.length)) := by
  show some (T.fz (.int (ns.map PyData.int).length)) = _
  rw [List.length_map]
theorem c_len : Call1 X (.builtin "len") gLen := by
  refine ⟨_, call_len, fun Z H xs ds a t px e Q q => ?_⟩
  unfold gLen at e
  split at e
  · cases e
    cases px with
    | cons h r =>
      cases r
      obtain ⟨p, xs, rfl, h1, r1⟩ := h.list
      exact ⟨_, xs.length, rfl, .inl ⟨xs, .inl (.inl h1), rfl⟩, q _ Z H (.refl t) (by rw [r1.length]; exact .int _)⟩
  · cases e
    cases px with
    | cons h r =>
      cases r
      obtain ⟨p, xs, rfl, h1, r1⟩ := h.tuple
      exact ⟨_, xs.length, rfl, .inr ⟨xs, h1, rfl⟩, q _ Z H (.refl t) (by rw [r1.length]; exact .int _)⟩
  · cases e
    cases px with
    | cons h r =>
      cases r
      rename_i ds v
      have hs : ∃ ns : List Int, ds = ns.map PyData.int ∧ Pk X.K Z H v (scrD ns) := by
        rcases h with h' | ⟨p, xs, ds, _, e, _⟩ | ⟨p, ks, ds, rfl, e, h1, h2⟩
        · generalize e : PyData.dict [(PyData.none, PyData.list ds)] = d at h'
          cases h' with
          | dic z e1 r =>
            have e' := PyData.dict.inj e
            rename_i kvs
            cases kvs with
            | nil => simp at e'
            | cons p r => simp at e'
          | scr z e1 =>
            have e' := PyData.dict.inj e
            simp only [List.cons.injEq, Prod.mk.injEq, true_and, and_true, PyData.list.injEq] at e'
            exact ⟨_, e', .inl (.scr z e1)⟩
          | kscr e1 =>
            have e' := PyData.dict.inj e
            simp only [List.cons.injEq, Prod.mk.injEq, true_and, and_true, PyData.list.injEq] at e'
            exact ⟨_, e', .inl (.kscr e1)⟩
          | _ => cases e
        · cases e
        · unfold dictD at e
          have e' := PyData.dict.inj e
          cases ds with
          | nil => simp at e'
          | cons p r => simp at e'
      obtain ⟨ns, rfl, h⟩ := hs
      obtain ⟨p, rfl, hl⟩ := h.scr
      exact ⟨_, _, rfl, .inl ⟨_, hl, rfl⟩, q _ Z H (.refl t) (by rw [List.length_map, List.length_map]; exact .int _)⟩
  · split at e
    · rename_i hz
      cases e
      cases px with
      | cons h r =>
        cases r
        cases h.str
        exact ⟨_, _, rfl, ⟨line_of hz, rfl⟩, q _ Z H (.refl t) (.int _)⟩
    · cases e
  · cases e
def gAbs : List D → Option T
  | [.int i] => some (.fz (.int (if i < 0 then -i else i)))
  | _ => none
@[simp] theorem gAbs_int (i : Int) : gAbs [.int i] = some (.fz (.int (if i < 0 then -i else i))) := rfl
theorem c_abs : Call1 X (.builtin "abs") gAbs := by
  refine ⟨_, call_abs, fun Z H xs ds a t px e Q q => ?_⟩
  unfold gAbs at e
  split at e
  · cases e
    cases px with
    | cons h r =>
      cases r
      cases h.int
      exact ⟨_, rfl, q _ Z H (.refl t) (.int _)⟩
  · cases e
def gTupOf : List D → Option T
  | [.list ds] => some (.fz (.tuple ds))
  | [.tuple ds] => some (.fz (.tuple ds))
  | _ => none
@[simp] theorem gTupOf_lst (ds : List D) : gTupOf [.list ds] = some (.fz (.tuple ds)) := rfl
@[simp] theorem gTupOf_tup (ds : List D) : gTupOf [.tuple ds] = some (.fz (.tuple ds)) := rfl
theorem c_tuple : Call1 X (.type "tuple") gTupOf := by
  refine ⟨_, call_tuple_of, fun Z H xs ds a t px e Q q => ?_⟩
  unfold gTupOf at e
  split at e
  · cases e
    cases px with
    | cons h r =>
      cases r
      obtain ⟨p, xs, rfl, h1, r1⟩ := h.list
      refine ⟨p, xs, rfl, .inl ⟨.inl (.inl h1), fun l nl => ?_⟩⟩
      obtain ⟨g, w⟩ := new_tup t nl r1
      exact q _ _ _ g w
  · cases e
    cases px with
    | cons h r =>
      cases r
      have h' := h.r (fun _ e => nomatch e) (fun _ e => nomatch e)
      obtain ⟨p, xs, rfl, h1, r1⟩ := h.tuple
      exact ⟨p, xs, rfl, .inr ⟨h1, q _ Z H (.refl t) h'⟩⟩
  · cases e
def gLstOf : List D → Option T
  | [.list ds] => some (.nw ds)
  | [.tuple ds] => some (.nw ds)
  | _ => none
@[simp] theorem gLstOf_lst (ds : List D) : gLstOf [.list ds] = some (.nw ds) := rfl
@[simp] theorem gLstOf_tup (ds : List D) : gLstOf [.tuple ds] = some (.nw ds) := rfl
theorem c_list : Call1 X (.type "list") gLstOf := by
  refine ⟨_, call_list_of, fun Z H xs ds a t px e Q q => ?_⟩
  unfold gLstOf at e
  split at e
  · cases e
    cases px with
    | cons h r =>
      cases r
      obtain ⟨p, xs, rfl, h1, r1⟩ := h.list
      refine ⟨p, xs, rfl, .inl (.inl (.inl h1)), fun l nl => ?_⟩
      obtain ⟨g, w⟩ := new_lst t nl r1
      exact q _ _ _ g w
  · cases e
    cases px with
    | cons h r =>
      cases r
      obtain ⟨p, xs, rfl, h1, r1⟩ := h.tuple
      refine ⟨p, xs, rfl, .inr h1, fun l nl => ?_⟩
      obtain ⟨g, w⟩ := new_lst t nl r1
      exact q _ _ _ g w
  · cases e
/-- a list of truths, of whole numbers -/
def boolsD : List D → Option (List Bool)
  | [] => some []
  | .bool b :: r => (boolsD r).map fun t => b :: t
  | _ => none
def intsD : List D → Option (List Int)
  | [] => some []
  | .int b :: r => (intsD r).map fun t => b :: t
  | _ => none
@[simp] theorem bools_map (bs : List Bool) : boolsD (bs.map PyData.bool) = some bs := by
  induction bs with
  | nil => rfl
  | cons b r ih => show (boolsD _).map _ = _; rw [ih]; rfl
@[simp] theorem ints_map (bs : List Int) : intsD (bs.map PyData.int) = some bs := by
  induction bs with
  | nil => rfl
  | cons b r ih => show (intsD _).map _ = _; rw [ih]; rfl
theorem bools_ok : ∀ {ds : List D} {bs : List Bool} {vs : List V}, boolsD ds = some bs → RA K Z H vs ds → vs = bs.map V.bl
  | [], _, _, e, r => by cases e; cases r; rfl
  | .bool b :: t, _, _, e, r => by
    obtain ⟨bs, e1, rfl⟩ := Option.map_eq_some_iff.mp e
    cases r with
    | cons h r =>
      cases h
      rw [bools_ok e1 r]
      rfl
  | .none :: _, _, _, e, _ => by cases e
  | .int _ :: _, _, _, e, _ => by cases e
  | .str _ :: _, _, _, e, _ => by cases e
  | .list _ :: _, _, _, e, _ => by cases e
  | .tuple _ :: _, _, _, e, _ => by cases e
  | .dict _ :: _, _, _, e, _ => by cases e
theorem ints_ok : ∀ {ds : List D} {bs : List Int} {vs : List V}, intsD ds = some bs → RA K Z H vs ds → vs = bs.map V.int
  | [], _, _, e, r => by cases e; cases r; rfl
  | .int b :: t, _, _, e, r => by
    obtain ⟨bs, e1, rfl⟩ := Option.map_eq_some_iff.mp e
    cases r with
    | cons h r =>
      cases h
      rw [ints_ok e1 r]
      rfl
  | .none :: _, _, _, e, _ => by cases e
  | .bool _ :: _, _, _, e, _ => by cases e
  | .str _ :: _, _, _, e, _ => by cases e
  | .list _ :: _, _, _, e, _ => by cases e
  | .tuple _ :: _, _, _, e, _ => by cases e
  | .dict _ :: _, _, _, e, _ => by cases e
def gAll : List D → Option T
  | [.list ds] => (boolsD ds).map fun bs => .fz (.bool (bs.all id))
  | _ => none
def gAny : List D → Option T
  | [.list ds] => (boolsD ds).map fun bs => .fz (.bool (bs.any id))
  | _ => none
def gSum : List D → Option T
  | [.list ds] => (intsD ds).map fun bs => .fz (.int bs.sum)
  | _ => none
@[simp] theorem gAll_lst (ds : List D) : gAll [.list ds] = (boolsD ds).map fun bs => .fz (.bool (bs.all id)) := rfl
@[simp] theorem gAny_lst (ds : List D) : gAny [.list ds] = (boolsD ds).map fun bs => .fz (.bool (bs.any id)) := rfl
@[simp] theorem gSum_lst (ds : List D) : gSum [.list ds] = (intsD ds).map fun bs => .fz (.int bs.sum) := rfl
theorem c_all (hc : X.calm = true) : Call1 X (.builtin "all") gAll := by
  refine ⟨_, cr_all hc, fun Z H xs ds a t px e Q q => ?_⟩
  unfold gAll at e
  split at e
  · obtain ⟨bs, e1, rfl⟩ := Option.map_eq_some_iff.mp e
    cases px with
    | cons h r =>
      cases r
      obtain ⟨p, xs, rfl, h1, r1⟩ := h.list
      cases bools_ok e1 r1
      exact ⟨p, bs, rfl, .inl (.inl h1), q _ Z H (.refl t) (.bl _)⟩
  · cases e
theorem c_any (hc : X.calm = true) : Call1 X (.builtin "any") gAny := by
  refine ⟨_, cr_any hc, fun Z H xs ds a t px e Q q => ?_⟩
  unfold gAny at e
  split at e
  · obtain ⟨bs, e1, rfl⟩ := Option.map_eq_some_iff.mp e
    cases px with
    | cons h r =>
      cases r
      obtain ⟨p, xs, rfl, h1, r1⟩ := h.list
      cases bools_ok e1 r1
      exact ⟨p, bs, rfl, .inl (.inl h1), q _ Z H (.refl t) (.bl _)⟩
  · cases e
theorem c_sum (hc : X.calm = true) : Call1 X (.builtin "sum") gSum := by
  refine ⟨_, cr_sum hc, fun Z H xs ds a t px e Q q => ?_⟩
  unfold gSum at e
  split at e
  · obtain ⟨bs, e1, rfl⟩ := Option.map_eq_some_iff.mp e
    cases px with
    | cons h r =>
      cases r
      obtain ⟨p, xs, rfl, h1, r1⟩ := h.list
      cases ints_ok e1 r1
      exact ⟨p, bs, rfl, .inl (.inl h1), q _ Z H (.refl t) (.int _)⟩
  · cases e
def gMax2 : List D → Option T
  | [.int i, .int j] => some (.fz (.int (if j > i then j else i)))
  | _ => none
def gMin2 : List D → Option T
  | [.int i, .int j] => some (.fz (.int (if j < i then j else i)))
  | _ => none
@[simp] theorem gMax2_int (i j : Int) : gMax2 [.int i, .int j] = some (.fz (.int (if j > i then j else i))) := rfl
@[simp] theorem gMin2_int (i j : Int) : gMin2 [.int i, .int j] = some (.fz (.int (if j < i then j else i))) := rfl
theorem c_max2 (hc : X.calm = true) : Call1 X (.builtin "max") gMax2 := by
  refine ⟨_, call_max2 hc, fun Z H xs ds a t px e Q q => ?_⟩
  unfold gMax2 at e
  split at e
  · cases e
    cases px with
    | cons h r =>
      cases r with
      | cons h2 r =>
        cases r
        cases h.int
        cases h2.int
        exact ⟨_, _, rfl, q _ Z H (.refl t) (.int _)⟩
  · cases e
theorem c_min2 (hc : X.calm = true) : Call1 X (.builtin "min") gMin2 := by
  refine ⟨_, call_min2 hc, fun Z H xs ds a t px e Q q => ?_⟩
  unfold gMin2 at e
  split at e
  · cases e
    cases px with
    | cons h r =>
      cases r with
      | cons h2 r =>
        cases r
        cases h.int
        cases h2.int
        exact ⟨_, _, rfl, q _ Z H (.refl t) (.int _)⟩
  · cases e
/-- isinstance -/
def tyD : D → Option String
  | .none => some "NoneType"
  | .bool _ => some "bool"
  | .int _ => some "int"
  | .str _ => some "str"
  | .list _ => some "list"
  | .tuple _ => some "tuple"
  | .dict _ => none
def isiB (t c : String) : Bool := t == c || (t == "bool" && c == "int")
def gIsi (c : String) (d : D) : Option T := (tyD d).map fun t => .fz (.bool (isiB t c))
theorem ty_of {d : D} {s : String} (h : Pk K Z H x d) (e : tyD d = some s) : TyX K H x (.type s) := by
  cases d with
  | none => cases h.none; cases e; exact .base .non
  | bool b => cases h.bool; cases e; exact .base (.bl b)
  | int b => cases h.int; cases e; exact .base (.int b)
  | str b => cases h.str; cases e; exact .base (.str b)
  | list ds => obtain ⟨p, xs, rfl, h1, _⟩ := h.list; cases e; exact .base (.lst h1)
  | tuple ds =>
    obtain ⟨p, xs, rfl, h1, _⟩ := h.tuple
    cases e
    rcases h1 with (h1 | ⟨o, h1⟩) | ⟨o, its, n, h1, hc, _⟩
    · exact .base (.tup h1)
    · exact .fTuple h1
    · exact .kTuple h1 hc
  | dict ds => cases e
theorem kit_isi {c s : String} {d : D} (hc : c ∈ ["int", "bool", "str", "list", "tuple"]) (e : tyD d = some s) : PySem.W.kitOne K (.type s) (.type c) = some (isiB s c) := by
  have hs : s ∈ ["NoneType", "bool", "int", "str", "list", "tuple"] := by
    cases d <;> cases e <;> simp
  apply kit_ty
  have all : (["NoneType", "bool", "int", "str", "list", "tuple"].all fun s => ["int", "bool", "str", "list", "tuple"].all fun c => kitB s c == some (isiB s c)) = true := by decide +kernel
  have h1 := List.all_eq_true.mp all s hs
  have h2 := List.all_eq_true.mp h1 c hc
  exact eq_of_beq h2
theorem ev_isi {nm : Str} {c : String} {p2 : Pos} (ha : Ev X a A) (hm : X.mg "isinstance" = none) (hm2 : X.mg nm = none) (hv : bootBuiltins nm = some (.type c)) (hc : c ∈ ["int", "bool", "str", "list", "tuple"] := by decide) (hg : Gl X "isinstance" := by rfl) (hg2 : Gl X nm := by rfl)
    (hn : nm ≠ "__name__" := by decide) (hdb : (nm == ("__debug__" : Str)) = false := by decide)
    (he : starEach [a, .Name nm p2] X.env = (false, eval a X.env) :: starEach [.Name nm p2] X.env := by rfl) (he2 : starEach [.Name nm p2] X.env = (false, eval (.Name nm p2) X.env) :: starEach [] X.env := by rfl)
    (hpl : (backTo pos (starEach [.Name nm p2] X.env)).any (·.1) = false := by rfl) : Ev X (.Call (.Name "isinstance" p) [a, .Name nm p2] [] pos) (f1 (gIsi c) A) := by
  obtain ⟨t, pa, sa⟩ := ha
  refine ⟨_, pe_callB call_isi hg hm PyProof.Rows.boot_isinstance (pa_cons pa (pa_cons (pe_bltn hg2 hm2 hv (v := .ty c) rfl hn hdb) pa_nil he2) he) (by decide) (by decide) he hpl, fun Z H σ δ t δ' r e Q q => ?_⟩
  obtain ⟨⟨t1, δ1⟩, e1, e⟩ := Option.bind_eq_some_iff.mp e
  obtain ⟨dx, ex, e⟩ := Option.bind_eq_some_iff.mp e
  obtain ⟨t3, eg, e⟩ := Option.map_eq_some_iff.mp e
  obtain ⟨s, es, eg⟩ := Option.map_eq_some_iff.mp eg
  cases e
  subst eg
  refine sa Z H σ δ t1 _ r e1 _ fun v Z1 H1 r1 s1 v1 => ?_
  exact ⟨v, .ty c, .type s, .type c, _, rfl, .ty c, ty_of (v1.pk r1 ex) es, kit_isi hc es, q _ Z1 H1 r1 s1 (R.bl _)⟩

/-! ### slices -/
def cutG {α : Type} (xs : List α) (lo hi : Option Int) : List α := (xs.drop (HT.sIx xs.length 0 lo)).take (HT.sIx xs.length xs.length hi - HT.sIx xs.length 0 lo)
theorem RA.cut {vs : List V} {ds : List D} (r : RA K Z H vs ds) (lo hi : Option Int) : RA K Z H (cutV vs lo hi) (cutG ds lo hi) := by
  unfold cutV cutG
  rw [r.length]
  exact (r.drop _).take _
abbrev MO := Dn → Option (Option Int × Dn)
def asI : T → Option Int
  | .fz (.int i) => some i
  | _ => none
@[simp] theorem asI_int (i : Int) : asI (.fz (.int i)) = some i := rfl
@[simp] def oNone : MO := fun δ => some (none, δ)
@[simp] def oSome (A : M T) : MO := fun δ => (A δ).bind fun p => (asI p.1).map fun i => (some i, p.2)
def EvO (X : Cx) (e : Option Expr) (F : MO) : Prop := ∃ t, PO X e t ∧ ∀ Z H σ δ o δ', Rep X.K Z H σ δ → F δ = some (o, δ') → ∀ Q : Option Int → Hp → Prop,
  (∀ Z' H', Rep X.K Z' H' σ δ' → Stp Z H σ δ Z' H' σ δ' → Q o H') → t σ H Q
theorem eo_none : EvO X none oNone := ⟨_, po_none, fun Z H σ δ o δ' r e Q q => by cases e; exact q Z H r .refl⟩
theorem eo_some (ha : Ev X a A) : EvO X (some a) (oSome A) := by
  obtain ⟨t, pa, sa⟩ := ha
  refine ⟨_, po_some pa, fun Z H σ δ o δ' r e Q q => ?_⟩
  obtain ⟨⟨t1, δ1⟩, e1, e⟩ := Option.bind_eq_some_iff.mp e
  obtain ⟨i, ei, e⟩ := Option.map_eq_some_iff.mp e
  cases e
  refine sa Z H σ δ t1 _ r e1 _ fun v Z1 H1 r1 s1 v1 => ?_
  cases t1 with
  | fz d =>
    cases d with
    | int k =>
      cases ei
      have v1 : R X.K Z1 H1 v (.int i) := v1
      cases v1
      exact ⟨i, rfl, q Z1 H1 r1 s1⟩
    | _ => cases ei
  | _ => cases ei
def gSl (lo hi : Option Int) : D → Option T
  | .tuple ds => some (.fz (.tuple (cutG ds lo hi)))
  | .list ds => some (.nw (cutG ds lo hi))
  | _ => none
@[simp] theorem gSl_tup (lo hi : Option Int) (ds : List D) : gSl lo hi (.tuple ds) = some (.fz (.tuple (cutG ds lo hi))) := rfl
@[simp] theorem gSl_lst (lo hi : Option Int) (ds : List D) : gSl lo hi (.list ds) = some (.nw (cutG ds lo hi)) := rfl
@[simp] def fSl (A : M T) (L U : MO) : M T := fun δ => (A δ).bind fun p => (L p.2).bind fun l => (U l.2).bind fun u => (p.1.rd u.2).bind fun d => (gSl l.1 u.1 d).map fun t => (t, u.2)
theorem ev_sl {lo hi : Option Expr} {p2 : Pos} {L U : MO} (ha : Ev X a A) (hl : EvO X lo L) (hu : EvO X hi U) : Ev X (.Subscript a (.Slice lo hi none p2) pos) (fSl A L U) := by
  obtain ⟨t, pa, sa⟩ := ha
  obtain ⟨tl, pl, sl⟩ := hl
  obtain ⟨tu, pu, su⟩ := hu
  refine ⟨_, pe_slice (sl_tupA.or sl_list) pa pl pu, fun Z H σ δ t δ' r e Q q => ?_⟩
  obtain ⟨⟨t1, δ1⟩, e1, e⟩ := Option.bind_eq_some_iff.mp e
  obtain ⟨⟨o1, δ2⟩, e2, e⟩ := Option.bind_eq_some_iff.mp e
  obtain ⟨⟨o2, δ3⟩, e3, e⟩ := Option.bind_eq_some_iff.mp e
  obtain ⟨dx, ex, e⟩ := Option.bind_eq_some_iff.mp e
  obtain ⟨t3, eg, e⟩ := Option.map_eq_some_iff.mp e
  cases e
  refine sa Z H σ δ t1 _ r e1 _ fun v Z1 H1 r1 s1 v1 => ?_
  refine sl Z1 H1 σ δ1 o1 _ r1 e2 _ fun Z2 H2 r2 s2 => ?_
  refine su Z2 H2 σ δ2 o2 _ r2 e3 _ fun Z3 H3 r3 s3 => ?_
  have v3 := ((v1.stp r1 s2).stp r2 s3).pk r3 ex
  have s13 := (s1.trans s2).trans s3
  cases dx with
  | tuple ds =>
    cases eg
    obtain ⟨p, xs, rfl, h1, ra⟩ := v3.tuple
    refine .inl ⟨p, xs, h1 |> fun _ => rfl, h1, fun hw => ?_, fun hw p2 np => ?_⟩
    · have : cutG ds o1 o2 = ds := by
        unfold cutG
        rw [ra.length] at hw
        rw [hw.1, hw.2]
        simp
      have h' := v3.r (fun _ e => nomatch e) (fun _ e => nomatch e)
      rw [this] at q
      exact q _ Z3 H3 r3 s13 h'
    · obtain ⟨g, w⟩ := new_tup r3.trk np (ra.cut o1 o2)
      exact q _ _ _ (g.rep r3) (s13.trans g.stp) (w.tv r3 s13.there)
  | list ds =>
    cases eg
    obtain ⟨p, xs, rfl, h1, ra⟩ := v3.list
    refine .inr ⟨p, xs, rfl, .inl (.inl h1), fun p2 np => ?_⟩
    obtain ⟨g, w⟩ := new_lst r3.trk np (ra.cut o1 o2)
    exact q _ _ _ (g.rep r3) (s13.trans g.stp) (w.tv r3 s13.there)
  | _ => cases eg
end

/-! ### what a loop walks -/
/-- J gives the data ds, one after another, in every later heap -/
structure Wlk (K : PySem.W.Frag) (J : It) (Z : Zp) (H : Hp) (ds : List D) : Prop where
  go : ∀ Z2 H2, (∀ a, Z a → Z2 a) → (∀ a, Z a → H2 a = H a) → Trk Z2 H2 → ∀ i, i < ds.length → J.go i H2
  stop : ∀ Z2 H2, (∀ a, Z a → Z2 a) → (∀ a, Z a → H2 a = H a) → Trk Z2 H2 → J.stop ds.length H2
  yld : ∀ Z2 H2, (∀ a, Z a → Z2 a) → (∀ a, Z a → H2 a = H a) → Trk Z2 H2 → ∀ i x H3 d, ds[i]? = some d → J.yld i H2 x H3 → ∃ Z3, Grow Z2 H2 Z3 H3 ∧ R K Z3 H3 x d
def EvI (X : Cx) (tg iter : Expr) (F : M (List D)) : Prop := ∃ wi, PI X tg iter wi ∧ ∀ Z H σ δ ds δ', Rep X.K Z H σ δ → F δ = some (ds, δ') → ∀ RR : It → Hp → Prop,
  (∀ J Z' H', Rep X.K Z' H' σ δ' → Stp Z H σ δ Z' H' σ δ' → Wlk X.K J Z' H' ds → RR J H') → wi σ H RR
def iSq (K : PySem.W.Frag) (tl : TE) : TI := fun σ H R => tl σ H fun x H1 => ∃ a, x = .ref a ∧ (((∃ xs, SqL K H1 a xs) ∧ R (Itl K a) H1) ∨ ((∃ xs, SqT K H1 a xs) ∧ R (Itt K a) H1))
section
variable {X : Cx} {tg : Expr}
theorem pi_sq {l : Expr} {tl : TE} (hl : PE X l tl) : PI X tg l (iSq X.K tl) := by
  refine ⟨fun pins s σ H R I h => ?_⟩
  refine thn (hl.run pins s σ H _ I h) fun v s1 ⟨x, H1, I1, r1, q1⟩ => ?_
  obtain ⟨a, e, q⟩ := q1
  subst e
  cases r1
  rcases q with ⟨⟨xs, hq⟩, q⟩ | ⟨⟨xs, hq⟩, q⟩
  · obtain ⟨its, rv, p, hz⟩ := I1.list hq
    refine wpAny_pyIter_list p.isList ?_
    refine ⟨s1.heap.objs.size, [s1.heap.objs.size], _, _, H1, rfl, I1.kept (t' := s1.toks) fun b o e => Heap.get?_push_of_some _ e, turn_list a _, ⟨_, Heap.get?_push_size _ rfl, rfl, rfl⟩, fun b hb => ?_, q⟩
    have e : b = s1.heap.objs.size := by simpa using hb
    subst e
    exact I1.fpOk (Nat.le_refl _) (I1.hok.fresh (Nat.le_refl _))
  · obtain ⟨its, rv, p, hz⟩ := I1.tuple hq
    refine wpAny_pyIter_tuple (show s1.heap.IsTuple a its.toArray from p) ?_
    refine ⟨s1.heap.objs.size, [s1.heap.objs.size], _, _, H1, rfl, I1.kept (t' := s1.toks) fun b o e => Heap.get?_push_of_some _ e, turn_tuple a _, ⟨_, Heap.get?_push_size _ rfl, rfl, rfl⟩, fun b hb => ?_, q⟩
    have e : b = s1.heap.objs.size := by simpa using hb
    subst e
    exact I1.fpOk (Nat.le_refl _) (I1.hok.fresh (Nat.le_refl _))
end
section
variable {X : Cx} {K : PySem.W.Frag} {Z Z' : Zp} {H H' : Hp} {a : Addr} {ds : List D} {tg : Expr}
/-- a frozen list or tuple, as it will stand -/
structure Src (K : PySem.W.Frag) (Z : Zp) (H : Hp) (k : Bool) (a : Addr) (ds : List D) : Prop where
  at_ : ∀ Z2 H2, (∀ a, Z a → Z2 a) → (∀ a, Z a → H2 a = H a) → ∃ xs, SqS K H2 k a xs ∧ RA K Z2 H2 xs ds
theorem src_mk {v : V} {d : D} (h : R K Z H v d) : (∀ ds, d = .list ds → ∃ a, v = .ref a ∧ Src K Z H true a ds) ∧ ∀ ds, d = .tuple ds → ∃ a, v = .ref a ∧ Src K Z H false a ds := by
  refine ⟨fun ds e => ?_, fun ds e => ?_⟩
  · subst e
    cases h with
    | lst z e r => exact ⟨_, rfl, ⟨fun Z2 H2 hz hh => ⟨_, .inl (.inl ((hh _ z).trans e)), r.mono hz hh⟩⟩⟩
  · subst e
    cases h with
    | tup z e r => exact ⟨_, rfl, ⟨fun Z2 H2 hz hh => ⟨_, .inl (.inl ((hh _ z).trans e)), r.mono hz hh⟩⟩⟩
    | ktup e r => exact ⟨_, rfl, ⟨fun Z2 H2 hz hh => ⟨_, e H2, r.mono hz hh⟩⟩⟩
theorem Src.later {k : Bool} (s : Src K Z H k a ds) (hz : ∀ a, Z a → Z' a) (hh : ∀ a, Z a → H' a = H a) : Src K Z' H' k a ds :=
  ⟨fun Z2 H2 z2 h2 => s.at_ Z2 H2 (fun a z => z2 a (hz a z)) fun a z => (h2 a (hz a z)).trans (hh a z)⟩
theorem wlk_list (s : Src K Z H true a ds) : Wlk K (Itl K a) Z H ds where
  go := fun Z2 H2 hz hh t i hi => by
    obtain ⟨xs, h1, r⟩ := s.at_ Z2 H2 hz hh
    obtain ⟨v, e, _⟩ := r.get (List.getElem?_eq_getElem hi)
    exact ⟨xs, v, h1, e⟩
  stop := fun Z2 H2 hz hh t => by
    obtain ⟨xs, h1, r⟩ := s.at_ Z2 H2 hz hh
    exact ⟨xs, h1, Nat.le_of_eq r.length⟩
  yld := fun Z2 H2 hz hh t i x H3 d e y => by
    obtain ⟨xs, h1, r⟩ := s.at_ Z2 H2 hz hh
    obtain ⟨rfl, y⟩ := y
    obtain ⟨v, e2, rv⟩ := r.get e
    have := (y xs h1).symm.trans e2
    cases this
    exact ⟨Z2, .refl t, rv⟩
theorem wlk_tup (s : Src K Z H false a ds) : Wlk K (Itt K a) Z H ds where
  go := fun Z2 H2 hz hh t i hi => by
    obtain ⟨xs, h1, r⟩ := s.at_ Z2 H2 hz hh
    obtain ⟨v, e, _⟩ := r.get (List.getElem?_eq_getElem hi)
    exact ⟨xs, v, h1, e⟩
  stop := fun Z2 H2 hz hh t => by
    obtain ⟨xs, h1, r⟩ := s.at_ Z2 H2 hz hh
    exact ⟨xs, h1, Nat.le_of_eq r.length⟩
  yld := fun Z2 H2 hz hh t i x H3 d e y => by
    obtain ⟨xs, h1, r⟩ := s.at_ Z2 H2 hz hh
    obtain ⟨rfl, y⟩ := y
    obtain ⟨v, e2, rv⟩ := r.get e
    have := (y xs h1).symm.trans e2
    cases this
    exact ⟨Z2, .refl t, rv⟩
/-- what can be walked -/
def wk : D → Option (List D)
  | .list ds => some ds
  | .tuple ds => some ds
  | _ => none
@[simp] theorem wk_lst (ds : List D) : wk (.list ds) = some ds := rfl
@[simp] theorem wk_tup (ds : List D) : wk (.tuple ds) = some ds := rfl
theorem R.src {v : V} {d : D} (h : R K Z H v d) (e : wk d = some ds) : ∃ k a, v = .ref a ∧ Src K Z H k a ds := by
  cases d with
  | list xs => cases e; obtain ⟨a, ea, s⟩ := (src_mk h).1 ds rfl; exact ⟨true, a, ea, s⟩
  | tuple xs => cases e; obtain ⟨a, ea, s⟩ := (src_mk h).2 ds rfl; exact ⟨false, a, ea, s⟩
  | _ => cases e
@[simp] def wSq (A : M T) : M (List D) := fun δ => (A δ).bind fun p => p.1.st.bind fun d => (wk d).map fun ds => (ds, p.2)
theorem ei_sq {e : Expr} {A : M T} (ha : Ev X e A) : EvI X tg e (wSq A) := by
  obtain ⟨t, pa, sa⟩ := ha
  refine ⟨_, pi_sq pa, fun Z H σ δ ds δ' r e RR q => ?_⟩
  obtain ⟨⟨t1, δ1⟩, e1, e⟩ := Option.bind_eq_some_iff.mp e
  obtain ⟨d, ed, e⟩ := Option.bind_eq_some_iff.mp e
  obtain ⟨ds', ew, e⟩ := Option.map_eq_some_iff.mp e
  cases e
  refine sa Z H σ δ t1 _ r e1 _ fun v Z1 H1 r1 s1 v1 => ?_
  obtain ⟨Z2, r2, s2, hz, rv⟩ := v1.freeze r1 s1 ed
  obtain ⟨k, a, rfl, s⟩ := rv.src ew
  have hx : ∃ xs, SqS X.K H1 k a xs := let ⟨xs, h, _⟩ := s.at_ Z2 H1 (fun _ h => h) (fun _ _ => rfl); ⟨xs, h⟩
  cases k with
  | true => exact ⟨a, rfl, .inl ⟨hx, q _ Z2 H1 r2 s2 (wlk_list s)⟩⟩
  | false => exact ⟨a, rfl, .inr ⟨hx, q _ Z2 H1 r2 s2 (wlk_tup s)⟩⟩
/-- zip of two -/
def zip2 : List D → List D → List D := List.zipWith fun x y => .tuple [x, y]
theorem zip2_get {xs ys : List D} {i : Nat} {d : D} (e : (zip2 xs ys)[i]? = some d) : ∃ x y, xs[i]? = some x ∧ ys[i]? = some y ∧ d = .tuple [x, y] := by
  unfold zip2 at e
  rw [List.getElem?_zipWith] at e
  split at e
  · cases e; exact ⟨_, _, by assumption, by assumption, rfl⟩
  · cases e
theorem wlk_z2 {k1 k2 : Bool} {b : Addr} {es : List D} (s : Src K Z H k1 a ds) (s2 : Src K Z H k2 b es) : Wlk K (ItZ2 K k1 k2 a b) Z H (zip2 ds es) where
  go := fun Z2 H2 hz hh t i hi => by
    obtain ⟨xs, h1, r⟩ := s.at_ Z2 H2 hz hh
    obtain ⟨ys, h2, r2⟩ := s2.at_ Z2 H2 hz hh
    obtain ⟨x, y, ex, ey, _⟩ := zip2_get (List.getElem?_eq_getElem hi)
    obtain ⟨v, e, _⟩ := r.get ex
    obtain ⟨u, e2, _⟩ := r2.get ey
    exact ⟨xs, ys, v, u, h1, h2, e, e2⟩
  stop := fun Z2 H2 hz hh t => by
    obtain ⟨xs, h1, r⟩ := s.at_ Z2 H2 hz hh
    obtain ⟨ys, h2, r2⟩ := s2.at_ Z2 H2 hz hh
    exact ⟨xs, ys, h1, h2, by unfold zip2; rw [List.length_zipWith, r.length, r2.length]⟩
  yld := fun Z2 H2 hz hh t i x H3 d e y => by
    obtain ⟨xs, h1, r⟩ := s.at_ Z2 H2 hz hh
    obtain ⟨ys, h2, r2⟩ := s2.at_ Z2 H2 hz hh
    obtain ⟨T, v, u, rfl, nT, rfl, y1, y2⟩ := y
    obtain ⟨dx, dy, ex, ey, rfl⟩ := zip2_get e
    obtain ⟨v', e1, rv⟩ := r.get ex
    obtain ⟨u', e2, ru⟩ := r2.get ey
    cases (y1 xs h1).symm.trans e1
    cases (y2 ys h2).symm.trans e2
    obtain ⟨g, w⟩ := new_tup (vs := [v, u]) (ds := [dx, dy]) t nT (.cons rv (.cons ru .nil))
    exact ⟨_, g, w⟩
@[simp] def wZ2 (As : M (List D)) : M (List D) := fun δ => (As δ).bind fun p => match p.1 with
  | [x, y] => (wk x).bind fun xs => (wk y).map fun ys => (zip2 xs ys, p.2)
  | _ => none
theorem ei_z2 {e e2 : Expr} {As : M (List D)} {p pos tpos : Pos} {elts : List Expr} {kk : Nat} (ha : EvS X [e, e2] As) (hm : X.mg "zip" = none) (hg : Gl X "zip" := by rfl)
    (hs : starEach [e, e2] X.env = (false, eval e X.env) :: starEach [e2] X.env := by rfl) (hpl : (backTo pos (starEach [e2] X.env)).any (·.1) = false := by rfl) : EvI X (.Tuple elts kk tpos) (.Call (.Name "zip" p) [e, e2] [] pos) (wZ2 As) := by
  obtain ⟨t, pa, sa⟩ := ha
  refine ⟨_, pi_z2 hg hm pa hs hpl, fun Z H σ δ ds δ' r e RR q => ?_⟩
  obtain ⟨⟨l, δ1⟩, e1, e⟩ := Option.bind_eq_some_iff.mp e
  match l, e, e1 with
  | [x, y], e, e1 =>
    obtain ⟨xs, ex, e⟩ := Option.bind_eq_some_iff.mp e
    obtain ⟨ys, ey, e⟩ := Option.map_eq_some_iff.mp e
    cases e
    refine sa Z H σ δ _ _ r e1 _ fun vs Z1 H1 r1 s1 v1 => ?_
    cases v1 with
    | cons w1 v1 =>
      cases v1 with
      | cons w2 v1 =>
        cases v1
        obtain ⟨k1, a, rfl, c1⟩ := w1.src ex
        obtain ⟨k2, b, rfl, c2⟩ := w2.src ey
        obtain ⟨ws, h1, _⟩ := c1.at_ Z1 H1 (fun _ h => h) (fun _ _ => rfl)
        obtain ⟨us, h2, _⟩ := c2.at_ Z1 H1 (fun _ h => h) (fun _ _ => rfl)
        exact ⟨k1, k2, a, b, ws, us, rfl, h1, h2, q _ Z1 H1 r1 s1 (wlk_z2 c1 c2)⟩
/-- zip of three -/
def zip3 : List D → List D → List D → List D
  | x :: xs, y :: ys, z :: zs => .tuple [x, y, z] :: zip3 xs ys zs
  | _, _, _ => []
theorem zip3_get : ∀ {xs ys zs : List D} {i : Nat} {d : D}, (zip3 xs ys zs)[i]? = some d → ∃ x y z, xs[i]? = some x ∧ ys[i]? = some y ∧ zs[i]? = some z ∧ d = .tuple [x, y, z]
  | x :: xs, y :: ys, z :: zs, 0, d, e => by simp [zip3] at e; subst e; exact ⟨x, y, z, rfl, rfl, rfl, rfl⟩
  | x :: xs, y :: ys, z :: zs, i + 1, d, e => by
    have e' : (zip3 xs ys zs)[i]? = some d := by simpa [zip3] using e
    simpa using zip3_get e'
  | [], _, _, _, _, e => by simp [zip3] at e
  | _ :: _, [], _, _, _, e => by simp [zip3] at e
  | _ :: _, _ :: _, [], _, _, e => by simp [zip3] at e
theorem zip3_len : ∀ xs ys zs : List D, (zip3 xs ys zs).length = min (min xs.length ys.length) zs.length
  | x :: xs, y :: ys, z :: zs => by
    show (zip3 xs ys zs).length + 1 = _
    rw [zip3_len xs ys zs]
    simp only [List.length_cons]
    omega
  | [], _, _ => by simp [zip3]
  | _ :: _, [], _ => by simp [zip3]
  | _ :: _, _ :: _, [] => by simp [zip3]
theorem wlk_z3 {k1 k2 k3 : Bool} {b c : Addr} {es fs : List D} (s : Src K Z H k1 a ds) (s2 : Src K Z H k2 b es) (s3 : Src K Z H k3 c fs) : Wlk K (ItZ3 K k1 k2 k3 a b c) Z H (zip3 ds es fs) where
  go := fun Z2 H2 hz hh t i hi => by
    obtain ⟨xs, h1, r⟩ := s.at_ Z2 H2 hz hh
    obtain ⟨ys, h2, r2⟩ := s2.at_ Z2 H2 hz hh
    obtain ⟨zs, h3, r3⟩ := s3.at_ Z2 H2 hz hh
    obtain ⟨x, y, z, ex, ey, ez, _⟩ := zip3_get (List.getElem?_eq_getElem hi)
    obtain ⟨v, e, _⟩ := r.get ex
    obtain ⟨u, e2, _⟩ := r2.get ey
    obtain ⟨w, e3, _⟩ := r3.get ez
    exact ⟨xs, ys, zs, v, u, w, h1, h2, h3, e, e2, e3⟩
  stop := fun Z2 H2 hz hh t => by
    obtain ⟨xs, h1, r⟩ := s.at_ Z2 H2 hz hh
    obtain ⟨ys, h2, r2⟩ := s2.at_ Z2 H2 hz hh
    obtain ⟨zs, h3, r3⟩ := s3.at_ Z2 H2 hz hh
    exact ⟨xs, ys, zs, h1, h2, h3, by rw [zip3_len, r.length, r2.length, r3.length]⟩
  yld := fun Z2 H2 hz hh t i x H3 d e y => by
    obtain ⟨xs, h1, r⟩ := s.at_ Z2 H2 hz hh
    obtain ⟨ys, h2, r2⟩ := s2.at_ Z2 H2 hz hh
    obtain ⟨zs, h3, r3⟩ := s3.at_ Z2 H2 hz hh
    obtain ⟨T, v, u, w, rfl, nT, rfl, y1, y2, y3⟩ := y
    obtain ⟨dx, dy, dz, ex, ey, ez, rfl⟩ := zip3_get e
    obtain ⟨v', e1, rv⟩ := r.get ex
    obtain ⟨u', e2, ru⟩ := r2.get ey
    obtain ⟨w', e3, rw'⟩ := r3.get ez
    cases (y1 xs h1).symm.trans e1
    cases (y2 ys h2).symm.trans e2
    cases (y3 zs h3).symm.trans e3
    obtain ⟨g, w⟩ := new_tup (vs := [v, u, w]) (ds := [dx, dy, dz]) t nT (.cons rv (.cons ru (.cons rw' .nil)))
    exact ⟨_, g, w⟩
@[simp] def wZ3 (As : M (List D)) : M (List D) := fun δ => (As δ).bind fun p => match p.1 with
  | [x, y, z] => (wk x).bind fun xs => (wk y).bind fun ys => (wk z).map fun zs => (zip3 xs ys zs, p.2)
  | _ => none
theorem ei_z3 {e e2 e3 : Expr} {As : M (List D)} {p pos tpos : Pos} {elts : List Expr} {kk : Nat} (ha : EvS X [e, e2, e3] As) (hm : X.mg "zip" = none) (hg : Gl X "zip" := by rfl)
    (hs : starEach [e, e2, e3] X.env = (false, eval e X.env) :: starEach [e2, e3] X.env := by rfl) (hpl : (backTo pos (starEach [e2, e3] X.env)).any (·.1) = false := by rfl) : EvI X (.Tuple elts kk tpos) (.Call (.Name "zip" p) [e, e2, e3] [] pos) (wZ3 As) := by
  obtain ⟨t, pa, sa⟩ := ha
  refine ⟨_, pi_z3 hg hm pa hs hpl, fun Z H σ δ ds δ' r e RR q => ?_⟩
  obtain ⟨⟨l, δ1⟩, e1, e⟩ := Option.bind_eq_some_iff.mp e
  match l, e, e1 with
  | [x, y, z], e, e1 =>
    obtain ⟨xs, ex, e⟩ := Option.bind_eq_some_iff.mp e
    obtain ⟨ys, ey, e⟩ := Option.bind_eq_some_iff.mp e
    obtain ⟨zs, ez, e⟩ := Option.map_eq_some_iff.mp e
    cases e
    refine sa Z H σ δ _ _ r e1 _ fun vs Z1 H1 r1 s1 v1 => ?_
    cases v1 with
    | cons w1 v1 =>
      cases v1 with
      | cons w2 v1 =>
        cases v1 with
        | cons w3 v1 =>
          cases v1
          obtain ⟨k1, a, rfl, c1⟩ := w1.src ex
          obtain ⟨k2, b, rfl, c2⟩ := w2.src ey
          obtain ⟨k3, c, rfl, c3⟩ := w3.src ez
          obtain ⟨ws, h1, _⟩ := c1.at_ Z1 H1 (fun _ h => h) (fun _ _ => rfl)
          obtain ⟨us, h2, _⟩ := c2.at_ Z1 H1 (fun _ h => h) (fun _ _ => rfl)
          obtain ⟨ts, h3, _⟩ := c3.at_ Z1 H1 (fun _ h => h) (fun _ _ => rfl)
          exact ⟨k1, k2, k3, a, b, c, ws, us, ts, rfl, h1, h2, h3, q _ Z1 H1 r1 s1 (wlk_z3 c1 c2 c3)⟩
/-- enumerate -/
def enumF (n : Nat) : List D → List D
  | [] => []
  | d :: ds => .tuple [.int n, d] :: enumF (n + 1) ds
theorem enumF_get : ∀ {ds : List D} {n i : Nat} {d : D}, (enumF n ds)[i]? = some d → ∃ x, ds[i]? = some x ∧ d = .tuple [.int ((n + i : Nat) : Int), x]
  | x :: ds, n, 0, d, e => by simp [enumF] at e; subst e; exact ⟨x, rfl, rfl⟩
  | x :: ds, n, i + 1, d, e => by
    have e' : (enumF (n + 1) ds)[i]? = some d := by simpa [enumF] using e
    obtain ⟨y, e1, e2⟩ := enumF_get e'
    exact ⟨y, by simpa using e1, by rw [e2]; congr 4; omega⟩
  | [], _, _, _, e => by simp [enumF] at e
theorem enumF_len : ∀ (ds : List D) (n : Nat), (enumF n ds).length = ds.length
  | [], _ => rfl
  | d :: ds, n => by show (enumF (n + 1) ds).length + 1 = _; rw [enumF_len ds]; rfl
theorem wlk_en {k : Bool} (s : Src K Z H k a ds) : Wlk K (ItEn K k a) Z H (enumF 0 ds) where
  go := fun Z2 H2 hz hh t i hi => by
    obtain ⟨xs, h1, r⟩ := s.at_ Z2 H2 hz hh
    obtain ⟨x, ex, _⟩ := enumF_get (List.getElem?_eq_getElem hi)
    obtain ⟨v, e, _⟩ := r.get ex
    exact ⟨xs, v, h1, e⟩
  stop := fun Z2 H2 hz hh t => by
    obtain ⟨xs, h1, r⟩ := s.at_ Z2 H2 hz hh
    exact ⟨xs, h1, by rw [enumF_len, r.length]⟩
  yld := fun Z2 H2 hz hh t i x H3 d e y => by
    obtain ⟨xs, h1, r⟩ := s.at_ Z2 H2 hz hh
    obtain ⟨T, v, rfl, nT, rfl, y1⟩ := y
    obtain ⟨dx, ex, rfl⟩ := enumF_get e
    obtain ⟨v', e1, rv⟩ := r.get ex
    cases (y1 xs h1).symm.trans e1
    obtain ⟨g, w⟩ := new_tup (vs := [.int (i : Nat), v]) (ds := [.int (i : Nat), dx]) t nT (.cons (.int _) (.cons rv .nil))
    rw [Nat.zero_add]
    exact ⟨_, g, w⟩
@[simp] def wEn (A : M T) : M (List D) := fun δ => (A δ).bind fun p => p.1.st.bind fun d => (wk d).map fun ds => (enumF 0 ds, p.2)
theorem ei_en {e : Expr} {A : M T} {p pos tpos : Pos} {elts : List Expr} {kk : Nat} (ha : Ev X e A) (hm : X.mg "enumerate" = none) (hg : Gl X "enumerate" := by rfl) (hs : starEach [e] X.env = [(false, eval e X.env)] := by rfl) :
    EvI X (.Tuple elts kk tpos) (.Call (.Name "enumerate" p) [e] [] pos) (wEn A) := by
  obtain ⟨t, pa, sa⟩ := ha
  refine ⟨_, pi_en hg hm (pa_cons pa pa_nil hs) hs, fun Z H σ δ ds δ' r e RR q => ?_⟩
  obtain ⟨⟨t1, δ1⟩, e1, e⟩ := Option.bind_eq_some_iff.mp e
  obtain ⟨d, ed, e⟩ := Option.bind_eq_some_iff.mp e
  obtain ⟨ds', ew, e⟩ := Option.map_eq_some_iff.mp e
  cases e
  refine sa Z H σ δ t1 _ r e1 _ fun v Z1 H1 r1 s1 v1 => ?_
  obtain ⟨Z2, r2, s2, hz, rv⟩ := v1.freeze r1 s1 ed
  obtain ⟨k, a, rfl, s⟩ := rv.src ew
  obtain ⟨xs, hx, _⟩ := s.at_ Z2 H1 (fun _ h => h) (fun _ _ => rfl)
  exact ⟨k, a, xs, rfl, hx, q _ Z2 H1 r2 s2 (wlk_en s)⟩
/-- range -/
def rngD (lo : Int) (n : Nat) : List D := (List.range n).map fun (i : Nat) => .int (lo + i)
theorem wlk_rng (lo : Int) (n : Nat) : Wlk K (Itr lo n) Z H (rngD lo n) where
  go := fun _ _ _ _ _ i hi => by
    show i < n
    simpa [rngD] using hi
  stop := fun _ _ _ _ _ => by
    show n ≤ (rngD lo n).length
    simp [rngD]
  yld := fun Z2 H2 hz hh t i x H3 d e y => by
    obtain ⟨rfl, rfl⟩ := y
    simp only [rngD, List.getElem?_map] at e
    obtain ⟨j, ej, rfl⟩ := Option.map_eq_some_iff.mp e
    obtain ⟨hj, ej⟩ := List.getElem?_eq_some_iff.mp ej
    rw [List.getElem_range] at ej
    subst ej
    exact ⟨Z2, .refl t, .int _⟩
@[simp] def wR1 (A : M T) : M (List D) := fun δ => (A δ).bind fun p => (asI p.1).bind fun j => if -(2 ^ 62) ≤ j ∧ j < 2 ^ 62 then some (rngD 0 j.toNat, p.2) else none
theorem ei_r1 {e : Expr} {A : M T} {p pos : Pos} (ha : Ev X e A) (hm : X.mg "range" = none) (hg : Gl X "range" := by rfl) (hs : starEach [e] X.env = [(false, eval e X.env)] := by rfl) :
    EvI X tg (.Call (.Name "range" p) [e] [] pos) (wR1 A) := by
  obtain ⟨t, pa, sa⟩ := ha
  refine ⟨_, pi_range1 hg hm (pa_cons pa pa_nil hs) hs, fun Z H σ δ ds δ' r e RR q => ?_⟩
  obtain ⟨⟨t1, δ1⟩, e1, e⟩ := Option.bind_eq_some_iff.mp e
  obtain ⟨j, ej, e⟩ := Option.bind_eq_some_iff.mp e
  split at e
  · rename_i hj
    cases e
    refine sa Z H σ δ t1 _ r e1 _ fun v Z1 H1 r1 s1 v1 => ?_
    cases t1 with
    | fz d =>
      cases d with
      | int k =>
        cases ej
        have v1 : R X.K Z1 H1 v (.int j) := v1
        cases v1
        exact ⟨j, rfl, hj.1, hj.2, q _ Z1 H1 r1 s1 (wlk_rng 0 _)⟩
      | _ => cases ej
    | _ => cases ej
  · cases e
@[simp] def wR2 (A B : M T) : M (List D) := fun δ => (A δ).bind fun p => (asI p.1).bind fun i => (B p.2).bind fun p => (asI p.1).bind fun j => if -(2 ^ 62) ≤ i ∧ i < 2 ^ 62 ∧ -(2 ^ 62) ≤ j ∧ j < 2 ^ 62 then some (rngD i (j - i).toNat, p.2) else none
theorem ei_r2 {e e2 : Expr} {A B : M T} {p pos : Pos} (ha : Ev X e A) (hb : Ev X e2 B) (hm : X.mg "range" = none) (hg : Gl X "range" := by rfl) (hs : starEach [e, e2] X.env = [(false, eval e X.env), (false, eval e2 X.env)] := by rfl) (hs2 : starEach [e2] X.env = [(false, eval e2 X.env)] := by rfl) :
    EvI X tg (.Call (.Name "range" p) [e, e2] [] pos) (wR2 A B) := by
  obtain ⟨t, pa, sa⟩ := ha
  obtain ⟨t', pb, sb⟩ := hb
  refine ⟨_, pi_range2 hg hm (pa_cons pa (pa_cons pb pa_nil hs2) (by rw [hs, hs2])) hs hs2, fun Z H σ δ ds δ' r e RR q => ?_⟩
  obtain ⟨⟨t1, δ1⟩, e1, e⟩ := Option.bind_eq_some_iff.mp e
  obtain ⟨i, ei, e⟩ := Option.bind_eq_some_iff.mp e
  obtain ⟨⟨t2, δ2⟩, e2, e⟩ := Option.bind_eq_some_iff.mp e
  obtain ⟨j, ej, e⟩ := Option.bind_eq_some_iff.mp e
  split at e
  · rename_i hj
    cases e
    have key : ∀ {t1 : T} {i : Int} {H0 Z1 H1} {σ : L2.St} {δ : Dn} {v : V}, asI t1 = some i → TV X.K H0 Z1 H1 σ δ v t1 → v = .int i := by
      intro t1 i H0 Z1 H1 σ δ v e h
      cases t1 with
      | fz d =>
        cases d with
        | int k =>
          cases e
          have h : R X.K Z1 H1 v (.int i) := h
          cases h
          rfl
        | _ => cases e
      | _ => cases e
    refine sa Z H σ δ t1 _ r e1 _ fun v Z1 H1 r1 s1 v1 => ?_
    refine sb Z1 H1 σ δ1 t2 _ r1 e2 _ fun u Z2 H2 r2 s2 v2 => ?_
    cases key ei v1
    cases key ej v2
    exact ⟨i, j, rfl, hj, q _ Z2 H2 r2 (s1.trans s2) (wlk_rng _ _)⟩
  · cases e
/-- the signs of a text -/
def sgnD (x : Str) : List D := x.cps.toList.map fun c => .str ⟨#[c]⟩
theorem wlk_str (x : Str) : Wlk K (Its x) Z H (sgnD x) where
  go := fun _ _ _ _ _ i hi => by
    show i < x.cps.size
    simpa [sgnD] using hi
  stop := fun _ _ _ _ _ => by
    show x.cps.size ≤ (sgnD x).length
    simp [sgnD]
  yld := fun Z2 H2 hz hh t i v H3 d e y => by
    obtain ⟨rfl, c, ec, rfl⟩ := y
    simp only [sgnD, List.getElem?_map] at e
    obtain ⟨j, ej, rfl⟩ := Option.map_eq_some_iff.mp e
    have : x.cps.toList[i]? = some c := by simpa using ec
    rw [this] at ej
    cases ej
    exact ⟨Z2, .refl t, .str _⟩
def asS : T → Option Str
  | .fz (.str i) => some i
  | _ => none
@[simp] theorem asS_str (i : Str) : asS (.fz (.str i)) = some i := rfl
@[simp] def wStr (A : M T) : M (List D) := fun δ => (A δ).bind fun p => (asS p.1).map fun x => (sgnD x, p.2)
theorem ei_str {e : Expr} {A : M T} (ha : Ev X e A) : EvI X tg e (wStr A) := by
  obtain ⟨t, pa, sa⟩ := ha
  refine ⟨_, pi_str pa, fun Z H σ δ ds δ' r e RR q => ?_⟩
  obtain ⟨⟨t1, δ1⟩, e1, e⟩ := Option.bind_eq_some_iff.mp e
  obtain ⟨x, ex, e⟩ := Option.map_eq_some_iff.mp e
  cases e
  refine sa Z H σ δ t1 _ r e1 _ fun v Z1 H1 r1 s1 v1 => ?_
  cases t1 with
  | fz d =>
    cases d with
    | str k =>
      cases ex
      have v1 : R X.K Z1 H1 v (.str x) := v1
      cases v1
      exact ⟨x, rfl, q _ Z1 H1 r1 s1 (wlk_str x)⟩
    | _ => cases ex
  | _ => cases ex
end
end DL
/-! DL5: stores, targets, statements, loops. -/
namespace DL
open PySem PySem.Spec PyProof.Rows L2

/-! ### slots are stored -/
section
variable {K : PySem.W.Frag} {Z Z' Z0 : Zp} {H H' H0 H1 : Hp} {σ σ0 : L2.St} {δ δ0 : Dn} {v u : V} {t t2 : T} {d : D} {s : Sl} {i : Nat} {p : Addr}
theorem wr_set {a : Addr} (w : Wr (σ.set i (some v)) (δ.set i s) a) : Wr σ δ a ∨ (s.own = true ∧ v = .ref a) := by
  obtain ⟨j, r, e, ho, hv⟩ := w
  by_cases h : i = j
  · subst h
    right
    by_cases hl : i < δ.length
    · rw [List.getElem?_set_self hl] at e
      cases e
      by_cases hl2 : i < σ.length
      · rw [List.getElem?_set_self hl2] at hv
        cases hv
        exact ⟨ho, rfl⟩
      · rw [List.getElem?_eq_none (by simpa using hl2)] at hv
        cases hv
    · rw [List.getElem?_eq_none (by simpa using hl)] at e
      cases e
  · rw [List.getElem?_set_ne h] at e hv
    exact .inl ⟨j, r, e, ho, hv⟩
/-- a slot gets what is frozen -/
theorem rep_fz (r : Rep K Z H σ δ) (h : R K Z H v d) (i : Nat) : Rep K Z H (σ.set i (some v)) (δ.set i (.fz d)) where
  len := by rw [List.length_set, List.length_set, r.len]
  trk := r.trk
  at_ := fun j s e ne => by
    by_cases hj : i = j
    · subst hj
      by_cases hl : i < δ.length
      · rw [List.getElem?_set_self hl] at e
        cases e
        rw [List.getElem?_set_self (by rw [r.len]; exact hl)]
        exact ⟨v, rfl, h⟩
      · rw [List.getElem?_eq_none (by simpa using hl)] at e
        cases e
    · rw [List.getElem?_set_ne hj] at e ⊢
      exact r.at_ j s e ne
  sep := fun j k s t p hjk e1 e2 h1 h2 g1 g2 => by
    have nj : i ≠ j := by
      rintro rfl
      by_cases hl : i < δ.length
      · rw [List.getElem?_set_self hl] at e1; cases e1; cases h1
      · rw [List.getElem?_eq_none (by simpa using hl)] at e1; cases e1
    have nk : i ≠ k := by
      rintro rfl
      by_cases hl : i < δ.length
      · rw [List.getElem?_set_self hl] at e2; cases e2; cases h2
      · rw [List.getElem?_eq_none (by simpa using hl)] at e2; cases e2
    rw [List.getElem?_set_ne nj] at e1 g1
    rw [List.getElem?_set_ne nk] at e2 g2
    exact r.sep j k s t p hjk e1 e2 h1 h2 g1 g2
theorem stp_fz (s : Stp Z0 H0 σ0 δ0 Z H σ δ) (v : V) (d : D) (i : Nat) : Stp Z0 H0 σ0 δ0 Z H (σ.set i (some v)) (δ.set i (.fz d)) :=
  ⟨s.zsub, s.znew, s.keep, s.there, fun a w => by
    rcases wr_set w with w | ⟨w, _⟩
    · exact s.own a w
    · exact absurd w (by simp [Sl.own]), s.pin.trans fun t e h => by
    by_cases hi : i = 0
    · subst hi
      by_cases hl : 0 < δ.length
      · rw [List.getElem?_set_self hl] at e
        cases e
        cases h
      · rw [List.getElem?_eq_none (by simpa using hl)] at e
        cases e
    · rw [List.getElem?_set_ne hi] at e
      exact ⟨List.getElem?_set_ne hi, t, e, h⟩⟩
/-- a slot gets what it will own -/
theorem rep_own (r : Rep K Z H σ δ) (hs : s.own = true) (h : OwnAt K Z H (.ref p) s) (nw : ¬ Wr σ δ p) (i : Nat) : Rep K Z H (σ.set i (some (.ref p))) (δ.set i s) where
  len := by rw [List.length_set, List.length_set, r.len]
  trk := r.trk
  at_ := fun j t e ne => by
    by_cases hj : i = j
    · subst hj
      by_cases hl : i < δ.length
      · rw [List.getElem?_set_self hl] at e
        cases e
        rw [List.getElem?_set_self (by rw [r.len]; exact hl)]
        exact ⟨_, rfl, h⟩
      · rw [List.getElem?_eq_none (by simpa using hl)] at e
        cases e
    · rw [List.getElem?_set_ne hj] at e ⊢
      exact r.at_ j t e ne
  sep := fun j k s' t q hjk e1 e2 h1 h2 g1 g2 => by
    by_cases nj : i = j
    · subst nj
      have nk : i ≠ k := hjk
      rw [List.getElem?_set_ne nk] at e2 g2
      by_cases hl2 : i < σ.length
      · rw [List.getElem?_set_self hl2] at g1
        cases g1
        exact nw ⟨k, t, e2, h2, g2⟩
      · rw [List.getElem?_eq_none (by simpa using hl2)] at g1
        cases g1
    · rw [List.getElem?_set_ne nj] at e1 g1
      by_cases nk : i = k
      · subst nk
        by_cases hl2 : i < σ.length
        · rw [List.getElem?_set_self hl2] at g2
          cases g2
          exact nw ⟨j, s', e1, h1, g1⟩
        · rw [List.getElem?_eq_none (by simpa using hl2)] at g2
          cases g2
      · rw [List.getElem?_set_ne nk] at e2 g2
        exact r.sep j k s' t q hjk e1 e2 h1 h2 g1 g2
theorem stp_own (s' : Stp Z0 H0 σ0 δ0 Z H σ δ) (n0 : H0 p = none) (i : Nat) (hi : i ≠ 0) (s : Sl) : Stp Z0 H0 σ0 δ0 Z H (σ.set i (some (.ref p))) (δ.set i s) :=
  ⟨s'.zsub, s'.znew, s'.keep, s'.there, fun a w => by
    rcases wr_set w with w | ⟨_, w⟩
    · exact s'.own a w
    · cases w
      exact .inr n0, s'.pin.trans fun t e h => by
    rw [List.getElem?_set_ne hi] at e
    exact ⟨List.getElem?_set_ne hi, t, e, h⟩⟩
/-- how a value is stored: frozen (false), owned (true) -/
def sto (k : Bool) (t : T) : Option Sl := match k, t with
  | false, t => t.st.map .fz
  | true, .nw ds => some (.ow ds)
  | true, .nd kvs => some (.od kvs)
  | true, _ => none
@[simp] theorem sto_f (t : T) : sto false t = t.st.map .fz := by cases t <;> rfl
@[simp] theorem sto_nw (ds : List D) : sto true (.nw ds) = some (.ow ds) := rfl
@[simp] theorem sto_nd (ds : List (Str × D)) : sto true (.nd ds) = some (.od ds) := rfl
def T.new : T → Bool
  | .nw _ => true
  | .nd _ => true
  | _ => false
def T.isAl : T → Bool
  | .al _ => true
  | _ => false
theorem store1 {k : Bool} (r : Rep K Z H σ δ) (st : Stp Z0 H0 σ0 δ0 Z H σ δ) (q : TV K H0 Z H σ δ v t) (e : sto k t = some s) (i : Nat) (hi : k = true → i ≠ 0) :
    ∃ Z', (∀ a, Z a → Z' a) ∧ Rep K Z' H (σ.set i (some v)) (δ.set i s) ∧ Stp Z0 H0 σ0 δ0 Z' H (σ.set i (some v)) (δ.set i s) ∧
      ∀ u t2, TV K H0 Z H σ δ u t2 → t2.isAl = false → (t2.new = true → t.new = true → u ≠ v) → TV K H0 Z' H (σ.set i (some v)) (δ.set i s) u t2 := by
  have fzc : ∀ d Z', R K Z' H v d → (∀ a, Z a → Z' a) → Rep K Z' H σ δ → Stp Z0 H0 σ0 δ0 Z' H σ δ → (∀ a, Z' a → Z a ∨ (t.new = true ∧ v = .ref a)) → s = .fz d → ∃ Z', (∀ a, Z a → Z' a) ∧ Rep K Z' H (σ.set i (some v)) (δ.set i s) ∧ Stp Z0 H0 σ0 δ0 Z' H (σ.set i (some v)) (δ.set i s) ∧
      ∀ u t2, TV K H0 Z H σ δ u t2 → t2.isAl = false → (t2.new = true → t.new = true → u ≠ v) → TV K H0 Z' H (σ.set i (some v)) (δ.set i s) u t2 := by
    intro d Z' h hz r' st' zn es
    subst es
    refine ⟨Z', hz, rep_fz r' h i, stp_fz st' v d i, fun u t2 w na ne => ?_⟩
    have wn : ∀ p, ¬ Wr σ δ p → ¬ Wr (σ.set i (some v)) (δ.set i (.fz d)) p := fun p n w => by
      rcases wr_set w with w | ⟨w, _⟩
      · exact n w
      · cases w
    cases t2 with
    | fz d' => exact DL.R.mono hz (fun _ _ => rfl) w
    | al j => cases na
    | nw ds =>
      obtain ⟨p, xs, rfl, n0, nz, nw, e, ra⟩ := w
      exact ⟨p, xs, rfl, n0, fun z => by
        rcases zn p z with z | ⟨hn, z⟩
        · exact nz z
        · exact ne rfl hn z.symm, wn p nw, e, ra.mono hz (fun _ _ => rfl)⟩
    | nd ds =>
      obtain ⟨p, xs, rfl, n0, nz, nw, e, ra⟩ := w
      exact ⟨p, xs, rfl, n0, fun z => by
        rcases zn p z with z | ⟨hn, z⟩
        · exact nz z
        · exact ne rfl hn z.symm, wn p nw, e, ra.mono hz (fun _ _ => rfl)⟩
  have owc : i ≠ 0 → ∀ p, t.new = true → v = .ref p → H0 p = none → ¬ Wr σ δ p → s.own = true → OwnAt K Z H (.ref p) s → ∃ Z', (∀ a, Z a → Z' a) ∧ Rep K Z' H (σ.set i (some v)) (δ.set i s) ∧ Stp Z0 H0 σ0 δ0 Z' H (σ.set i (some v)) (δ.set i s) ∧
      ∀ u t2, TV K H0 Z H σ δ u t2 → t2.isAl = false → (t2.new = true → t.new = true → u ≠ v) → TV K H0 Z' H (σ.set i (some v)) (δ.set i s) u t2 := by
    intro hi0 p hn ev n0 nw hs h
    subst ev
    refine ⟨Z, fun _ h => h, rep_own r hs h nw i, stp_own st n0 i hi0 s, fun u t2 w na ne => ?_⟩
    have wn : ∀ b, ¬ Wr σ δ b → u = .ref b → t2.new = true → ¬ Wr (σ.set i (some (.ref p))) (δ.set i s) b := fun b n eu hn2 w => by
      rcases wr_set w with w | ⟨_, w⟩
      · exact n w
      · exact ne hn2 hn (eu.trans w.symm)
    cases t2 with
    | fz d' => exact w
    | al j => cases na
    | nw ds =>
      obtain ⟨b, xs, rfl, n0, nz, nw, e, ra⟩ := w
      exact ⟨b, xs, rfl, n0, nz, wn b nw rfl rfl, e, ra⟩
    | nd ds =>
      obtain ⟨b, xs, rfl, n0, nz, nw, e, ra⟩ := w
      exact ⟨b, xs, rfl, n0, nz, wn b nw rfl rfl, e, ra⟩
  cases k with
  | false =>
    rw [sto_f] at e
    obtain ⟨d, ed, es⟩ := Option.map_eq_some_iff.mp e
    cases t with
    | fz d' => cases ed; exact fzc _ Z q (fun _ h => h) r st (fun _ h => .inl h) es.symm
    | al j => cases ed
    | nw ds =>
      cases ed
      obtain ⟨p, xs, rfl, n0, nz, nw, e, ra⟩ := q
      refine fzc _ (fun a => Z a ∨ a = p) (.lst (.inr rfl) e (ra.mono (fun _ h => .inl h) (fun _ _ => rfl))) (fun _ h => .inl h) (freeze1 r e nw) ⟨fun a z => .inl (st.zsub a z), fun a z => ?_, st.keep, st.there, st.own, st.pin⟩ (fun a h => ?_) es.symm
      · rcases z with z | rfl
        · exact st.znew a z
        · exact .inr (.inl n0)
      · rcases h with h | rfl
        · exact .inl h
        · exact .inr ⟨rfl, rfl⟩
    | nd ds =>
      cases ed
      obtain ⟨p, xs, rfl, n0, nz, nw, e, ra⟩ := q
      refine fzc _ (fun a => Z a ∨ a = p) (.dic (.inr rfl) (.inl e) (ra.mono (fun _ h => .inl h) (fun _ _ => rfl))) (fun _ h => .inl h) (freeze1 r e nw) ⟨fun a z => .inl (st.zsub a z), fun a z => ?_, st.keep, st.there, st.own, st.pin⟩ (fun a h => ?_) es.symm
      · rcases z with z | rfl
        · exact st.znew a z
        · exact .inr (.inl n0)
      · rcases h with h | rfl
        · exact .inl h
        · exact .inr ⟨rfl, rfl⟩
  | true =>
    cases t with
    | fz d' => cases e
    | al j => cases e
    | nw ds =>
      cases e
      obtain ⟨p, xs, rfl, n0, nz, nw, e, ra⟩ := q
      exact owc (hi rfl) p rfl rfl n0 nw rfl ⟨p, xs, rfl, nz, e, ra⟩
    | nd ds =>
      cases e
      obtain ⟨p, xs, rfl, n0, nz, nw, e, ra⟩ := q
      exact owc (hi rfl) p rfl rfl n0 nw rfl ⟨p, xs, rfl, nz, e, ra⟩
/-- an owned list is changed -/
theorem up_own {o : HO} {s s' : Sl} (r : Rep K Z H σ δ) (es : δ[i]? = some s) (ho : s.own = true) (ev : σ[i]? = some (some (.ref p))) (nz : ¬ Z p) (hs : s'.own = true) (new : OwnAt K Z (upd H p o) (.ref p) s') :
    Rep K Z (upd H p o) σ (δ.set i s') ∧ Stp Z H σ δ Z (upd H p o) σ (δ.set i s') := by
  have hp : ∃ o', H p = some o' := r.wsome ⟨i, s, es, ho, ev⟩
  have hh : ∀ a, Z a → upd H p o a = H a := fun a z => upd_ne (fun e => nz (e ▸ z))
  have il : i < δ.length := (List.getElem?_eq_some_iff.mp es).1
  refine ⟨⟨by rw [List.length_set]; exact r.len, fun a z => by rw [hh a z]; exact r.trk a z, fun j t e ne => ?_, fun j k t u q hjk e1 e2 h1 h2 g1 g2 => ?_⟩, ⟨fun _ h => h, fun _ h => .inl h, fun a q e nw => ?_, fun a q e => ?_, fun a w => ?_, fun t e h => ?_⟩⟩
  · by_cases hj : i = j
    · subst hj
      rw [List.getElem?_set_self il] at e
      cases e
      exact ⟨_, ev, new⟩
    · rw [List.getElem?_set_ne hj] at e
      obtain ⟨v, e2, w⟩ := r.at_ j t e ne
      refine ⟨v, e2, ?_⟩
      have np : ∀ b, t.own = true → v = .ref b → b ≠ p := fun b ht eb z => by
        subst eb z
        exact r.sep i j s t b hj es e ho ht ev e2
      cases t with
      | un => exact True.intro
      | fz d => exact DL.R.mono (fun _ h => h) hh w
      | ow ds =>
        obtain ⟨b, xs, rfl, nb, hb, ra⟩ := w
        exact ⟨b, xs, rfl, nb, (upd_ne (np b rfl rfl)).trans hb, ra.mono (fun _ h => h) hh⟩
      | od ds =>
        obtain ⟨b, xs, rfl, nb, hb, ra⟩ := w
        exact ⟨b, xs, rfl, nb, (upd_ne (np b rfl rfl)).trans hb, ra.mono (fun _ h => h) hh⟩
  · have f : ∀ (j : Nat) (t : Sl), (δ.set i s')[j]? = some t → t.own = true → ∃ t', δ[j]? = some t' ∧ t'.own = true := fun j t e h => by
      by_cases hj : i = j
      · subst hj
        exact ⟨s, es, ho⟩
      · rw [List.getElem?_set_ne hj] at e
        exact ⟨t, e, h⟩
    obtain ⟨t', f1, f2⟩ := f j t e1 h1
    obtain ⟨u', f3, f4⟩ := f k u e2 h2
    exact r.sep j k t' u' q hjk f1 f3 f2 f4 g1 g2
  · rw [upd_ne]
    · exact e
    · rintro rfl
      exact nw ⟨i, s, es, ho, ev⟩
  · by_cases h : a = p
    · subst h
      exact ⟨o, upd_same⟩
    · exact ⟨q, by rw [upd_ne h]; exact e⟩
  · obtain ⟨j, t, e, h, g⟩ := w
    by_cases hj : i = j
    · subst hj
      rw [ev] at g
      cases g
      exact .inl ⟨i, s, es, ho, ev⟩
    · rw [List.getElem?_set_ne hj] at e
      exact .inl ⟨j, t, e, h, g⟩
  · refine ⟨rfl, ?_⟩
    by_cases hj : i = 0
    · subst hj
      exact ⟨s, es, ho⟩
    · rw [List.getElem?_set_ne hj] at e
      exact ⟨t, e, h⟩
/-- what an owned list, an owned dict is -/
theorem own_lst {ds : List D} (r : Rep K Z H σ δ) (e : δ[i]? = some (.ow ds)) : ∃ p xs, σ[i]? = some (some (.ref p)) ∧ ¬ Z p ∧ H p = some (.lst xs) ∧ RA K Z H xs ds := by
  obtain ⟨v, ev, p, xs, rfl, nz, h, ra⟩ := r.at_ i _ e (fun z => nomatch z)
  exact ⟨p, xs, ev, nz, h, ra⟩
theorem own_dic {ds : List (Str × D)} (r : Rep K Z H σ δ) (e : δ[i]? = some (.od ds)) : ∃ p xs, σ[i]? = some (some (.ref p)) ∧ ¬ Z p ∧ H p = some (.dK xs) ∧ RK K Z H xs ds := by
  obtain ⟨v, ev, p, xs, rfl, nz, h, ra⟩ := r.at_ i _ e (fun z => nomatch z)
  exact ⟨p, xs, ev, nz, h, ra⟩
theorem up_lst {ds ds' : List D} {xs' : List V} (r : Rep K Z H σ δ) (es : δ[i]? = some (.ow ds)) (ev : σ[i]? = some (some (.ref p))) (nz : ¬ Z p) (ra : RA K Z H xs' ds') :
    Rep K Z (upd H p (.lst xs')) σ (δ.set i (.ow ds')) ∧ Stp Z H σ δ Z (upd H p (.lst xs')) σ (δ.set i (.ow ds')) :=
  up_own r es rfl ev nz rfl ⟨p, xs', rfl, nz, upd_same, ra.mono (fun _ h => h) fun a z => upd_ne (fun (e : a = p) => nz (e ▸ z))⟩
theorem up_dic {ds ds' : List (Str × D)} {xs' : List (Key × V)} (r : Rep K Z H σ δ) (es : δ[i]? = some (.od ds)) (ev : σ[i]? = some (some (.ref p))) (nz : ¬ Z p) (ra : RK K Z H xs' ds') :
    Rep K Z (upd H p (.dK xs')) σ (δ.set i (.od ds')) ∧ Stp Z H σ δ Z (upd H p (.dK xs')) σ (δ.set i (.od ds')) :=
  up_own r es rfl ev nz rfl ⟨p, xs', rfl, nz, upd_same, ra.mono (fun _ h => h) fun a z => upd_ne (fun (e : a = p) => nz (e ▸ z))⟩
end

/-! ### targets -/
abbrev GF := D → Dn → Option Dn
/-- js: the slots that are stored -/
def EvG (X : Cx) (tg : Expr) (js : List Nat) (G : GF) : Prop := ∃ t, PG X tg t ∧ ∀ Z H σ δ d δ' v, Rep X.K Z H σ δ → R X.K Z H v d → G d δ = some δ' → ∀ Q : L2.St → Hp → Prop,
  (∀ σ', Rep X.K Z H σ' δ' → Stp Z H σ δ Z H σ' δ' → σ'.length = σ.length → (∀ k, k ∉ js → σ'[k]? = σ[k]?) → Q σ' H) → t v σ H Q
def EvGs (X : Cx) (tgs : List Expr) (js : List Nat) (G : List D → Dn → Option Dn) : Prop := ∃ t, PGs X tgs t ∧ ∀ Z H σ δ ds δ' vs, Rep X.K Z H σ δ → RA X.K Z H vs ds → G ds δ = some δ' → ∀ Q : L2.St → Hp → Prop,
  (∀ σ', Rep X.K Z H σ' δ' → Stp Z H σ δ Z H σ' δ' → σ'.length = σ.length → (∀ k, k ∉ js → σ'[k]? = σ[k]?) → Q σ' H) → t vs σ H Q
@[simp] def gN (i : Nat) : GF := fun d δ => some (δ.set i (.fz d))
@[simp] def gsNil : List D → Dn → Option Dn := fun ds δ => match ds with
  | [] => some δ
  | _ => none
@[simp] def gsCons (G : GF) (Gs : List D → Dn → Option Dn) : List D → Dn → Option Dn := fun ds δ => match ds with
  | d :: ds => (G d δ).bind fun δ1 => Gs ds δ1
  | _ => none
@[simp] def gT (n : Nat) (Gs : List D → Dn → Option Dn) : GF := fun d δ => match d with
  | .tuple ds => if ds.length = n then Gs ds δ else none
  | _ => none
section
variable {X : Cx} {pos : Pos}
theorem eg_name (i : Nat) {x : Str} (hN : X.N.Nodup) (hi : X.N[i]? = some x := by rfl) (hx : Loc X.env.scope x := by first | exact .inl rfl | exact .inr rfl) (hf : X.fn x = true ∨ X.env.scope.names.lookup x = some .local := by first | exact .inl rfl | exact .inr rfl) : EvG X (.Name x pos) [i] (gN i) := by
  refine ⟨_, pg_name hN hi hx hf, fun Z H σ δ d δ' v r rv e Q q => ?_⟩
  cases e
  exact q _ (rep_fz r rv i) (stp_fz .refl v d i) (List.length_set ..) fun k hk => List.getElem?_set_ne (fun e => hk (by simp [e]))
theorem egs_nil : EvGs X [] [] gsNil := by
  refine ⟨_, pgs_nil, fun Z H σ δ ds δ' vs r ra e Q q => ?_⟩
  unfold gsNil at e
  split at e
  · cases e
    cases ra
    exact ⟨rfl, q σ r .refl rfl fun _ _ => rfl⟩
  · cases e
theorem egs_cons {e : Expr} {es : List Expr} {js ks : List Nat} {G : GF} {Gs : List D → Dn → Option Dn} (h1 : EvG X e js G) (h2 : EvGs X es ks Gs) (hs : (assignEach (e :: es) X.env).map (·.2) = assign e X.env :: (assignEach es X.env).map (·.2) := by rfl) : EvGs X (e :: es) (js ++ ks) (gsCons G Gs) := by
  obtain ⟨t1, p1, s1⟩ := h1
  obtain ⟨t2, p2, s2⟩ := h2
  refine ⟨_, pgs_cons p1 p2 hs, fun Z H σ δ ds δ' vs r ra e Q q => ?_⟩
  unfold gsCons at e
  split at e
  · rename_i d ds
    obtain ⟨δ1, e1, e⟩ := Option.bind_eq_some_iff.mp e
    cases ra with
    | cons rv ra =>
      rename_i v vs
      refine ⟨v, vs, rfl, s1 Z H σ δ d δ1 v r rv e1 _ fun σ1 r1 st1 l1 k1 => ?_⟩
      refine s2 Z H σ1 δ1 ds δ' vs r1 ra e _ fun σ2 r2 st2 l2 k2 => ?_
      exact q σ2 r2 (st1.trans st2) (l2.trans l1) fun k hk => (k2 k (fun h => hk (List.mem_append_right _ h))).trans (k1 k fun h => hk (List.mem_append_left _ h))
  · cases e
theorem eg_tup {es : List Expr} {k n : Nat} {js : List Nat} {Gs : List D → Dn → Option Dn} (hc : X.calm = true) (h : EvGs X es js Gs) (hn : (assignEach es X.env).length = n := by rfl) (hst : (assignEach es X.env).findIdx? (·.1) = none := by rfl) : EvG X (.Tuple es k pos) js (gT n Gs) := by
  obtain ⟨t, p, s⟩ := h
  refine ⟨_, pg_tup hc p hn hst, fun Z H σ δ d δ' v r rv e Q q => ?_⟩
  unfold gT at e
  split at e
  · split at e
    · rename_i ds hl
      obtain ⟨a, xs, rfl, h1, ra⟩ := rv.tuple
      exact ⟨a, xs, rfl, h1, by rw [ra.length]; exact hl, s Z H σ δ ds δ' xs r ra e Q q⟩
    · cases e
  · cases e
end

/-! ### statements -/
inductive Out where
  | nx (δ : Dn) | rt (t : T) (δ : Dn) | bk (δ : Dn) | ct (δ : Dn)
def Post (K : PySem.W.Frag) (Dd : Ends) (Z : Zp) (H : Hp) (σ : L2.St) (δ : Dn) : Out → Prop
  | .nx δ' => ∀ Z' H' σ', Rep K Z' H' σ' δ' → Stp Z H σ δ Z' H' σ' δ' → Dd.nx σ' H'
  | .bk δ' => ∀ Z' H' σ', Rep K Z' H' σ' δ' → Stp Z H σ δ Z' H' σ' δ' → Dd.bk σ' H'
  | .ct δ' => ∀ Z' H' σ', Rep K Z' H' σ' δ' → Stp Z H σ δ Z' H' σ' δ' → Dd.ct σ' H'
  | .rt t δ' => ∀ v Z' H' σ', Rep K Z' H' σ' δ' → Stp Z H σ δ Z' H' σ' δ' → TV K H Z' H' σ' δ' v t → Dd.rt v H'
abbrev MS := Dn → Option Out
def SemO (K : PySem.W.Frag) (t : TS) (F : MS) : Prop := ∀ Z H σ δ o, Rep K Z H σ δ → F δ = some o → ∀ Dd : Ends, Post K Dd Z H σ δ o → t Dd σ H
def St1 (X : Cx) (st : Stmt) (F : MS) : Prop := ∃ t, PS X st t ∧ SemO X.K t F
def Sts (X : Cx) (st : List Stmt) (F : MS) : Prop := ∃ t, PSs X st t ∧ SemO X.K t F
/-- the post, told from an earlier state -/
theorem Post.from {K : PySem.W.Frag} {Dd : Ends} {Z Z1 : Zp} {H H1 : Hp} {σ σ1 : L2.St} {δ δ1 : Dn} {o : Out} (s : Stp Z H σ δ Z1 H1 σ1 δ1) (p : Post K Dd Z H σ δ o) : Post K Dd Z1 H1 σ1 δ1 o := by
  cases o with
  | nx δ' => exact fun Z' H' σ' r s' => p Z' H' σ' r (s.trans s')
  | bk δ' => exact fun Z' H' σ' r s' => p Z' H' σ' r (s.trans s')
  | ct δ' => exact fun Z' H' σ' r s' => p Z' H' σ' r (s.trans s')
  | rt t δ' => exact fun v Z' H' σ' r s' w => p v Z' H' σ' r (s.trans s') (w.early s.there)
@[simp] def oNil : MS := fun δ => some (.nx δ)
@[simp] def oSeq (F G : MS) : MS := fun δ => (F δ).bind fun o => match o with
  | .nx δ1 => G δ1
  | .rt t δ1 => some (.rt t δ1)
  | .bk δ1 => some (.bk δ1)
  | .ct δ1 => some (.ct δ1)
@[simp] def oSet (k : Bool) (i : Nat) (A : M T) : MS := fun δ => (A δ).bind fun p => (sto k p.1).map fun s => .nx (p.2.set i s)
@[simp] def oAsg (A : M T) (G : GF) : MS := fun δ => (A δ).bind fun p => p.1.st.bind fun d => (G d p.2).map .nx
@[simp] def oRet (A : M T) : MS := fun δ => (A δ).map fun p => .rt p.1 p.2
@[simp] def oIf (c : M Bool) (F G : MS) : MS := fun δ => (c δ).bind fun p => if p.1 = true then F p.2 else G p.2
@[simp] def oExp (A : M T) : MS := fun δ => (A δ).map fun p => .nx p.2
@[simp] def oNever : MS := fun _ => none
@[simp] def oRetN : MS := fun δ => some (.rt (.fz .none) δ)
@[simp] def oBrk : MS := fun δ => some (.bk δ)
@[simp] def oCont : MS := fun δ => some (.ct δ)
section
variable {X : Cx} {st : Stmt} {rest b1 b2 : List Stmt} {F G : MS} {e a b c : Expr} {A B C : M T} {P : M Bool} {pos pos' : Pos}
theorem ss_nil : Sts X [] oNil := ⟨_, pss_nil, fun Z H σ δ o r e Dd p => by cases e; exact p Z H σ r .refl⟩
theorem ss_cons (h1 : St1 X st F) (h2 : Sts X rest G) : Sts X (st :: rest) (oSeq F G) := by
  obtain ⟨t1, p1, s1⟩ := h1
  obtain ⟨t2, p2, s2⟩ := h2
  refine ⟨_, pss_cons p1 p2, fun Z H σ δ o r e Dd p => ?_⟩
  obtain ⟨o1, e1, e⟩ := Option.bind_eq_some_iff.mp e
  refine s1 Z H σ δ o1 r e1 _ ?_
  cases o1 with
  | nx δ1 => exact fun Z' H' σ' r' s' => s2 Z' H' σ' δ1 o r' e Dd (p.from s')
  | rt t δ1 => cases e; exact p
  | bk δ1 => cases e; exact p
  | ct δ1 => cases e; exact p
theorem ss_one (h1 : St1 X st F) : Sts X [st] F := let ⟨t, p, s⟩ := h1; ⟨t, pss_one p, s⟩
theorem st_never : St1 X st oNever := ⟨_, ps_never, fun _ _ _ _ _ _ e => by cases e⟩
theorem st_pass : St1 X (.Pass pos) oNil := ⟨_, ps_pass, fun Z H σ δ o r e Dd p => by cases e; exact p Z H σ r .refl⟩
theorem st_brk : St1 X (.Break pos) oBrk := ⟨_, ps_break, fun Z H σ δ o r e Dd p => by cases e; exact p Z H σ r .refl⟩
theorem st_cont : St1 X (.Continue pos) oCont := ⟨_, ps_continue, fun Z H σ δ o r e Dd p => by cases e; exact p Z H σ r .refl⟩
theorem st_retN : St1 X (.Return none pos) oRetN := ⟨_, ps_retN, fun Z H σ δ o r e Dd p => by cases e; exact p _ Z H σ r .refl .non⟩
theorem st_ret (ha : Ev X a A) : St1 X (.Return (some a) pos) (oRet A) := by
  obtain ⟨t, pa, sa⟩ := ha
  refine ⟨_, ps_ret pa, fun Z H σ δ o r e Dd p => ?_⟩
  obtain ⟨⟨t1, δ1⟩, e1, rfl⟩ := Option.map_eq_some_iff.mp e
  exact sa Z H σ δ t1 δ1 r e1 _ fun v Z1 H1 r1 s1 v1 => p v Z1 H1 σ r1 s1 v1
theorem st_exp (ha : Ev X a A) (hs : swapsWith a none pos.line X.env = pure false := by rfl) : St1 X (.Expr a pos) (oExp A) := by
  obtain ⟨t, pa, sa⟩ := ha
  refine ⟨_, ps_expr pa hs, fun Z H σ δ o r e Dd p => ?_⟩
  obtain ⟨⟨t1, δ1⟩, e1, rfl⟩ := Option.map_eq_some_iff.mp e
  exact sa Z H σ δ t1 δ1 r e1 _ fun v Z1 H1 r1 s1 v1 => p Z1 H1 σ r1 s1
theorem st_if (hc : EvT X c P) (h1 : Sts X b1 F) (h2 : Sts X b2 G) : St1 X (.If c b1 b2 pos) (oIf P F G) := by
  obtain ⟨tc, pc, sc⟩ := hc
  obtain ⟨t1, p1, s1⟩ := h1
  obtain ⟨t2, p2, s2⟩ := h2
  refine ⟨_, ps_if pc p1 p2, fun Z H σ δ o r e Dd p => ?_⟩
  obtain ⟨⟨k, δ1⟩, e1, e⟩ := Option.bind_eq_some_iff.mp e
  refine sc Z H σ δ k δ1 r e1 _ fun Z1 H1 r1 st1 => ?_
  cases k with
  | true => exact s1 Z1 H1 σ δ1 o r1 e Dd (p.from st1)
  | false => exact s2 Z1 H1 σ δ1 o r1 e Dd (p.from st1)
theorem st_set (k : Bool) (i : Nat) {x : Str} (hN : X.N.Nodup) (ha : Ev X a A) (hi : X.N[i]? = some x := by rfl) (hx : Loc X.env.scope x := by first | exact .inl rfl | exact .inr rfl) (hs : swapsWith a (some (.Name x pos')) pos.line X.env = pure false := by rfl)
    (hf : X.fn x = true ∨ X.env.scope.names.lookup x = some .local := by first | exact .inl rfl | exact .inr rfl) (hk0 : k = true → i ≠ 0 := by decide) : St1 X (.Assign [.Name x pos'] a pos) (oSet k i A) := by
  obtain ⟨t, pa, sa⟩ := ha
  refine ⟨_, ps_set hN hi hx pa hs hf, fun Z H σ δ o r e Dd p => ?_⟩
  obtain ⟨⟨t1, δ1⟩, e1, e⟩ := Option.bind_eq_some_iff.mp e
  obtain ⟨s, es, rfl⟩ := Option.map_eq_some_iff.mp e
  refine sa Z H σ δ t1 δ1 r e1 _ fun v Z1 H1 r1 s1 v1 => ?_
  obtain ⟨Z2, hz, r2, s2, _⟩ := store1 r1 s1 v1 es i hk0
  exact p Z2 H1 _ r2 s2
theorem st_asg {tg : Expr} {js : List Nat} {G : GF} (ha : Ev X a A) (hg : EvG X tg js G) (hs : swapsWithSole [tg] a pos.line X.env = pure false := by rfl) (hw : swappedStores [tg] a X.env = pure none := by rfl)
    (h1 : (assignEach [tg] X.env).map (·.2) = [assign tg X.env] := by rfl) : St1 X (.Assign [tg] a pos) (oAsg A G) := by
  obtain ⟨t, pa, sa⟩ := ha
  obtain ⟨tg', pg, sg⟩ := hg
  refine ⟨_, ps_asg pa pg hs hw h1, fun Z H σ δ o r e Dd p => ?_⟩
  obtain ⟨⟨t1, δ1⟩, e1, e⟩ := Option.bind_eq_some_iff.mp e
  obtain ⟨d, ed, e⟩ := Option.bind_eq_some_iff.mp e
  obtain ⟨δ2, e2, rfl⟩ := Option.map_eq_some_iff.mp e
  refine sa Z H σ δ t1 δ1 r e1 _ fun v Z1 H1 r1 s1 v1 => ?_
  obtain ⟨Z2, r2, s2, hz, rv⟩ := v1.freeze r1 s1 ed
  exact sg Z2 H1 σ δ1 d δ2 v r2 rv e2 _ fun σ' r3 s3 _ _ => p Z2 H1 σ' r3 (s2.trans s3)
/-- a, b = x, y with local names -/
@[simp] def oPar (k l : Bool) (i j : Nat) (A B : M T) : MS := fun δ => (A δ).bind fun p => (B p.2).bind fun q => (sto k p.1).bind fun s => (sto l q.1).map fun t => .nx ((q.2.set i s).set j t)
theorem sto_al {k : Bool} {t : T} {s : Sl} (e : sto k t = some s) : t.isAl = false := by
  cases t with
  | al i => cases k <;> cases e
  | _ => rfl
/-- of two values the later one, where it is new, is not the first one -/
theorem tv_ne {K : PySem.W.Frag} {H0 H1 : Hp} {Z Z2 : Zp} {H2 : Hp} {σ : L2.St} {δ δ2 : Dn} {v u : V} {t t2 : T} (r : Rep K Z H1 σ δ) (h1 : TV K H0 Z H1 σ δ v t) (h2 : TV K H1 Z2 H2 σ δ2 u t2) (hn : t2.new = true) (hf : t.new = true) : u ≠ v := by
  intro e
  subst e
  have n2 : ∃ p, u = .ref p ∧ H1 p = none := by
    cases t2 with
    | nw ds => obtain ⟨p, _, rfl, n, _⟩ := h2; exact ⟨p, rfl, n⟩
    | nd ds => obtain ⟨p, _, rfl, n, _⟩ := h2; exact ⟨p, rfl, n⟩
    | _ => cases hn
  obtain ⟨p, rfl, n⟩ := n2
  cases t with
  | nw ds => obtain ⟨q, _, eq, _, _, _, e, _⟩ := h1; cases eq; exact sn e n
  | nd ds => obtain ⟨q, _, eq, _, _, _, e, _⟩ := h1; cases eq; exact sn e n
  | _ => cases hf
end
end DL
/-! DL6: parallel stores, stores by place, list methods, loops, comprehensions. -/
namespace DL
open PySem PySem.Spec PyProof.Rows L2
section
variable {X : Cx} {st : Stmt} {rest b1 b2 : List Stmt} {F G : MS} {e a b c : Expr} {es : List Expr} {A B C : M T} {P : M Bool} {pos pos' : Pos}
theorem st_par (k l : Bool) (i j : Nat) {x y : Str} {px py pt : Pos} {kt k2 pt2} (hN : X.N.Nodup) (hc : X.calm = true) (ha : Ev X a A) (hb : Ev X b B) (hi : X.N[i]? = some x := by rfl) (hj : X.N[j]? = some y := by rfl) (hij : i ≠ j := by decide)
    (hx : X.env.scope.names.lookup x = some .local := by rfl) (hy : X.env.scope.names.lookup y = some .local := by rfl)
    (hw : swappedStores [.Tuple [.Name x px, .Name y py] kt pt] (.Tuple [a, b] k2 pt2) X.env = pure (some [x, y]) := by rfl)
    (hs : swapsWithSole [.Tuple [.Name x px, .Name y py] kt pt] (.Tuple [a, b] k2 pt2) pos.line X.env = pure false := by rfl)
    (h1 : starEach [a, b] X.env = (false, eval a X.env) :: starEach [b] X.env := by rfl) (h2 : starEach [b] X.env = (false, eval b X.env) :: starEach [] X.env := by rfl)
    (hk0 : k = true → i ≠ 0 := by decide) (hl0 : l = true → j ≠ 0 := by decide) : St1 X (.Assign [.Tuple [.Name x px, .Name y py] kt pt] (.Tuple [a, b] k2 pt2) pos) (oPar k l i j A B) := by
  obtain ⟨ta, pa, sa⟩ := ha
  obtain ⟨tb, pb, sb⟩ := hb
  refine ⟨_, ps_par hc hN hi hj hij hx hy (pa_cons pa (pa_cons pb pa_nil h2) h1) hw hs, fun Z H σ δ o r e Dd p => ?_⟩
  obtain ⟨⟨t1, δ1⟩, e1, e⟩ := Option.bind_eq_some_iff.mp e
  obtain ⟨⟨t2, δ2⟩, e2, e⟩ := Option.bind_eq_some_iff.mp e
  obtain ⟨s, es, e⟩ := Option.bind_eq_some_iff.mp e
  obtain ⟨s', es', rfl⟩ := Option.map_eq_some_iff.mp e
  refine sa Z H σ δ t1 δ1 r e1 _ fun v Z1 H1 r1 s1 v1 => ?_
  refine sb Z1 H1 σ δ1 t2 δ2 r1 e2 _ fun u Z2 H2 r2 s2 v2 => ?_
  refine ⟨v, u, rfl, ?_⟩
  have s12 := s1.trans s2
  obtain ⟨Z3, hz, r3, s3, k3⟩ := store1 r2 s12 (v1.stp r1 s2) es i hk0
  have v2' := k3 u t2 (v2.early s1.there) (sto_al es') fun h1 h2 => tv_ne r1 v1 v2 h1 h2
  obtain ⟨Z4, hz4, r4, s4, _⟩ := store1 r3 s3 v2' es' j hl0
  exact p Z4 H2 _ r4 s4
@[simp] def oPar3 (k l m : Bool) (i j n : Nat) (A B C : M T) : MS := fun δ => (A δ).bind fun p => (B p.2).bind fun q => (C q.2).bind fun r => (sto k p.1).bind fun s => (sto l q.1).bind fun t => (sto m r.1).map fun u => .nx (((r.2.set i s).set j t).set n u)
theorem st_par3 (k l m : Bool) (i j n : Nat) {x y z : Str} {px py pz pt : Pos} {kt k2 pt2} (hN : X.N.Nodup) (hc : X.calm = true) (ha : Ev X a A) (hb : Ev X b B) (hcc : Ev X c C) (hi : X.N[i]? = some x := by rfl) (hj : X.N[j]? = some y := by rfl) (hn : X.N[n]? = some z := by rfl) (hij : i ≠ j := by decide) (hin : i ≠ n := by decide) (hjn : j ≠ n := by decide)
    (hx : X.env.scope.names.lookup x = some .local := by rfl) (hy : X.env.scope.names.lookup y = some .local := by rfl) (hz : X.env.scope.names.lookup z = some .local := by rfl)
    (hw : swappedStores [.Tuple [.Name x px, .Name y py, .Name z pz] kt pt] (.Tuple [a, b, c] k2 pt2) X.env = pure (some [x, y, z]) := by rfl)
    (hs : swapsWithSole [.Tuple [.Name x px, .Name y py, .Name z pz] kt pt] (.Tuple [a, b, c] k2 pt2) pos.line X.env = pure false := by rfl)
    (h1 : starEach [a, b, c] X.env = (false, eval a X.env) :: starEach [b, c] X.env := by rfl) (h2 : starEach [b, c] X.env = (false, eval b X.env) :: starEach [c] X.env := by rfl) (h3 : starEach [c] X.env = (false, eval c X.env) :: starEach [] X.env := by rfl)
    (hk0 : k = true → i ≠ 0 := by decide) (hl0 : l = true → j ≠ 0 := by decide) (hm0 : m = true → n ≠ 0 := by decide) : St1 X (.Assign [.Tuple [.Name x px, .Name y py, .Name z pz] kt pt] (.Tuple [a, b, c] k2 pt2) pos) (oPar3 k l m i j n A B C) := by
  obtain ⟨ta, pa, sa⟩ := ha
  obtain ⟨tb, pb, sb⟩ := hb
  obtain ⟨tc, pc, sc⟩ := hcc
  refine ⟨_, ps_par3 hc hN hi hj hn hij hin hjn hx hy hz (pa_cons pa (pa_cons pb (pa_cons pc pa_nil h3) h2) h1) hw hs, fun Z H σ δ o r e Dd p => ?_⟩
  obtain ⟨⟨t1, δ1⟩, e1, e⟩ := Option.bind_eq_some_iff.mp e
  obtain ⟨⟨t2, δ2⟩, e2, e⟩ := Option.bind_eq_some_iff.mp e
  obtain ⟨⟨t3, δ3⟩, e3, e⟩ := Option.bind_eq_some_iff.mp e
  obtain ⟨s, es, e⟩ := Option.bind_eq_some_iff.mp e
  obtain ⟨s', es', e⟩ := Option.bind_eq_some_iff.mp e
  obtain ⟨s'', es'', rfl⟩ := Option.map_eq_some_iff.mp e
  refine sa Z H σ δ t1 δ1 r e1 _ fun v Z1 H1 r1 s1 v1 => ?_
  refine sb Z1 H1 σ δ1 t2 δ2 r1 e2 _ fun u Z2 H2 r2 s2 v2 => ?_
  refine sc Z2 H2 σ δ2 t3 δ3 r2 e3 _ fun w Z3 H3 r3 s3 v3 => ?_
  refine ⟨v, u, w, rfl, ?_⟩
  have s12 := s1.trans s2
  have s13 := s12.trans s3
  obtain ⟨Z4, hz4, r4, s4, k4⟩ := store1 r3 s13 ((v1.stp r1 s2).stp r2 s3) es i hk0
  have v2' := k4 u t2 ((v2.stp r2 s3).early s1.there) (sto_al es') fun h1 h2 => tv_ne r1 v1 v2 h1 h2
  have v3' := k4 w t3 (v3.early s12.there) (sto_al es'') fun h1 h2 => tv_ne r2 (v1.stp r1 s2) v3 h1 h2
  obtain ⟨Z5, hz5, r5, s5, k5⟩ := store1 r4 s4 v2' es' j hl0
  have v3'' := k5 w t3 v3' (sto_al es'') fun h1 h2 => tv_ne r2 v2 v3 h1 h2
  obtain ⟨Z6, hz6, r6, s6, _⟩ := store1 r5 s5 v3'' es'' n hm0
  exact p Z6 H3 _ r6 s6

/-! ### stores by place -/
def rSetD : V → V → V → Hp → (Hp → Prop) → Prop := fun o i v H Q => ∃ p ks k, o = .ref p ∧ i = kV k ∧ H p = some (.dK ks) ∧ ks.length < sizeLine ∧ Q (upd H p (.dK (putK ks k v)))
theorem set_dict (hu : X.A.units + 1 < cLine) : PSet X rSetD := by
  intro pins s σ H o i v ov iv u Q I ro ri rv h
  obtain ⟨p, ks, k, rfl, rfl, hp, hl, q⟩ := h
  cases ro
  exact d_setItem hu I (DPut.k hp hl) ri rv fun s' I' => ⟨_, I', q⟩
theorem pset_or {r r' : TSet} (h : PSet X r) (h' : PSet X r') : PSet X fun o i v H Q => r o i v H Q ∨ r' o i v H Q := by
  intro pins s σ H o i v ov iv u Q I ro ri rv q
  rcases q with q | q
  · exact h pins s σ H o i v ov iv u Q I ro ri rv q
  · exact h' pins s σ H o i v ov iv u Q I ro ri rv q
def dput (kvs : List (Str × D)) (s : Str) (d : D) : List (Str × D) :=
  if (kvs.any fun p => decide (p.1 = s)) = true then kvs.map (fun p => if p.1 = s then (p.1, d) else p) else kvs ++ [(s, d)]
theorem RK.any {K : PySem.W.Frag} {Z : Zp} {H : Hp} {s : Str} : ∀ {ks : List (Key × V)} {kvs : List (Str × D)}, RK K Z H ks kvs → (ks.any fun p => decide (p.1 = Sum.inr s)) = kvs.any fun p => decide (p.1 = s)
  | _, _, .nil => rfl
  | _, _, @RK.cons _ _ _ s' v vs d ds rv t => by
    rw [List.any_cons, List.any_cons, RK.any t]
    congr 1
    by_cases h : s' = s <;> simp [h]
theorem RK.map {K : PySem.W.Frag} {Z : Zp} {H : Hp} {s : Str} {v : V} {d : D} (rv : R K Z H v d) : ∀ {ks : List (Key × V)} {kvs : List (Str × D)}, RK K Z H ks kvs → RK K Z H (ks.map fun p => if p.1 = Sum.inr s then (p.1, v) else p) (kvs.map fun p => if p.1 = s then (p.1, d) else p)
  | _, _, .nil => .nil
  | _, _, @RK.cons _ _ _ s' v' vs d' ds rv' t => by
    rw [List.map_cons, List.map_cons]
    by_cases h : s' = s
    · subst h
      simp only [if_true]
      exact .cons rv (RK.map rv t)
    · rw [if_neg (by simpa using h), if_neg (by simpa using h)]
      exact .cons rv' (RK.map rv t)
theorem RK.append {K : PySem.W.Frag} {Z : Zp} {H : Hp} : ∀ {ks ls : List (Key × V)} {kvs lvs : List (Str × D)}, RK K Z H ks kvs → RK K Z H ls lvs → RK K Z H (ks ++ ls) (kvs ++ lvs)
  | _, _, _, _, .nil, s => s
  | _, _, _, _, .cons r t, s => .cons r (RK.append t s)
theorem RK.put {K : PySem.W.Frag} {Z : Zp} {H : Hp} {s : Str} {v : V} {d : D} {ks : List (Key × V)} {kvs : List (Str × D)} (r : RK K Z H ks kvs) (rv : R K Z H v d) : RK K Z H (putK ks (.inr s) v) (dput kvs s d) := by
  unfold putK dput
  rw [r.any]
  split
  · exact r.map rv
  · exact r.append (.cons rv .nil)
/-- name[i] = .. : what is stored, the place reckoned behind it -/
def putAt (i : Nat) (d x : D) (δ : Dn) : Option Dn := match δ[i]?, x with
  | some (.ow ds), .int k => (ixN ds.length k).map fun j => δ.set i (.ow (ds.set j d))
  | some (.od kvs), .str s => if kvs.length ≤ 1000000 then some (δ.set i (.od (dput kvs s d))) else none
  | _, _ => none
@[simp] def gPut (i : Nat) (I : M T) : D → Dn → Option Dn := fun d δ => (fVar i δ).bind fun _ => (I δ).bind fun q => (q.1.rd q.2).bind fun x => putAt i d x q.2
/-- targets that may write to objects -/
def EvH (X : Cx) (tg : Expr) (G : GF) : Prop := ∃ t, PG X tg t ∧ ∀ Z H σ δ d δ' v, Rep X.K Z H σ δ → R X.K Z H v d → G d δ = some δ' → ∀ Q : L2.St → Hp → Prop,
  (∀ Z' H' σ', Rep X.K Z' H' σ' δ' → Stp Z H σ δ Z' H' σ' δ' → Q σ' H') → t v σ H Q
theorem EvG.h {tg : Expr} {js : List Nat} {G : GF} (h : EvG X tg js G) : EvH X tg G := by
  obtain ⟨t, p, s⟩ := h
  exact ⟨t, p, fun Z H σ δ d δ' v r rv e Q q => s Z H σ δ d δ' v r rv e Q fun σ' r' s' _ _ => q Z H σ' r' s'⟩
theorem eh_put (i : Nat) {x : Str} {I : M T} {pi : Pos} (hu : X.A.units + 1 < cLine) (hI : Ev X b I) (hi : X.N[i]? = some x := by rfl) (hv : Vis X.env.scope x := by first | exact Or.inl rfl | exact Or.inr (Or.inl rfl) | exact Or.inr (Or.inr rfl))
    (hd : (x == ("__debug__" : Str)) = false := by decide) (hcd : (x == ("__classdict__" : Str)) = false := by decide)
    (hA : ∀ v, assign (.Subscript (.Name x pi) b pos') X.env v = (do
      let ov ← holding [v] (eval (.Name x pi) X.env)
      let iv ← holding [v, ov] (eval b X.env)
      standAt pos'
      holding [v, ov, iv] (setItem ov iv v)
      release [v, ov, iv] []) := by intro _; rfl) : EvH X (.Subscript (.Name x pi) b pos') (gPut i I) := by
  obtain ⟨ti, pI, si⟩ := hI
  refine ⟨_, pg_sub (pe_var hi hv hd hcd) pI (pset_or set_list (set_dict hu)) hA, fun Z H σ δ d δ' v r rv e Q q => ?_⟩
  obtain ⟨⟨t0, δ0⟩, e0, e⟩ := Option.bind_eq_some_iff.mp e
  obtain ⟨⟨t2, δ2⟩, e2, e⟩ := Option.bind_eq_some_iff.mp e
  obtain ⟨x2, ex, e⟩ := Option.bind_eq_some_iff.mp e
  have hs : ∃ s, δ[i]? = some s ∧ s ≠ .un := by
    unfold fVar at e0
    cases q : δ[i]? with
    | none => rw [q] at e0; cases e0
    | some s =>
      rw [q] at e0
      exact ⟨s, rfl, fun z => by subst z; cases e0⟩
  obtain ⟨s0, es0, ne0⟩ := hs
  obtain ⟨v0, ev0, _⟩ := r.at_ i s0 es0 ne0
  refine ⟨v0, ev0, ?_⟩
  refine si Z H σ δ t2 δ2 r e2 _ fun u Z2 H2 r2 s2 v2 => ?_
  have px := v2.pk r2 ex
  have rv2 := s2.R r rv
  unfold putAt at e
  split at e
  · rename_i ds k es
    obtain ⟨j, ej, rfl⟩ := Option.map_eq_some_iff.mp e
    obtain ⟨p, xs, ev, nz, hp, ra⟩ := own_lst r2 es
    rw [ev] at ev0
    cases ev0
    cases px.int
    obtain ⟨r3, s3⟩ := up_lst r2 es ev nz (ra.set rv2 j)
    exact .inl ⟨p, xs, k, j, rfl, rfl, hp, by rw [ra.length]; exact ej, q _ _ _ r3 (s2.trans s3)⟩
  · rename_i kvs s es
    split at e
    · rename_i hl
      cases e
      obtain ⟨p, xs, ev, nz, hp, ra⟩ := own_dic r2 es
      rw [ev] at ev0
      cases ev0
      cases px.str
      obtain ⟨r3, s3⟩ := up_dic r2 es ev nz (ra.put (s := s) rv2)
      exact .inr ⟨p, xs, .inr s, rfl, rfl, hp, by rw [ra.length]; exact line_lt hl, q _ _ _ r3 (s2.trans s3)⟩
    · cases e
  · cases e
def EvHs (X : Cx) (tgs : List Expr) (G : List D → Dn → Option Dn) : Prop := ∃ t, PGs X tgs t ∧ ∀ Z H σ δ ds δ' vs, Rep X.K Z H σ δ → RA X.K Z H vs ds → G ds δ = some δ' → ∀ Q : L2.St → Hp → Prop,
  (∀ Z' H' σ', Rep X.K Z' H' σ' δ' → Stp Z H σ δ Z' H' σ' δ' → Q σ' H') → t vs σ H Q
theorem ehs_nil : EvHs X [] gsNil := by
  refine ⟨_, pgs_nil, fun Z H σ δ ds δ' vs r ra e Q q => ?_⟩
  unfold gsNil at e
  split at e
  · cases e
    cases ra
    exact ⟨rfl, q Z H σ r .refl⟩
  · cases e
theorem ehs_cons {e : Expr} {es : List Expr} {G : GF} {Gs : List D → Dn → Option Dn} (h1 : EvH X e G) (h2 : EvHs X es Gs) (hs : (assignEach (e :: es) X.env).map (·.2) = assign e X.env :: (assignEach es X.env).map (·.2) := by rfl) : EvHs X (e :: es) (gsCons G Gs) := by
  obtain ⟨t1, p1, s1⟩ := h1
  obtain ⟨t2, p2, s2⟩ := h2
  refine ⟨_, pgs_cons p1 p2 hs, fun Z H σ δ ds δ' vs r ra e Q q => ?_⟩
  unfold gsCons at e
  split at e
  · rename_i d ds
    obtain ⟨δ1, e1, e⟩ := Option.bind_eq_some_iff.mp e
    cases ra with
    | cons rv ra =>
      rename_i v vs
      refine ⟨v, vs, rfl, s1 Z H σ δ d δ1 v r rv e1 _ fun Z1 H1 σ1 r1 st1 => ?_⟩
      exact s2 Z1 H1 σ1 δ1 ds δ' vs r1 (st1.RA r ra) e _ fun Z2 H2 σ2 r2 st2 => q Z2 H2 σ2 r2 (st1.trans st2)
  · cases e
theorem eh_tup {es : List Expr} {k n : Nat} {Gs : List D → Dn → Option Dn} (hc : X.calm = true) (h : EvHs X es Gs) (hn : (assignEach es X.env).length = n := by rfl) (hst : (assignEach es X.env).findIdx? (·.1) = none := by rfl) : EvH X (.Tuple es k pos) (gT n Gs) := by
  obtain ⟨t, p, s⟩ := h
  refine ⟨_, pg_tup hc p hn hst, fun Z H σ δ d δ' v r rv e Q q => ?_⟩
  unfold gT at e
  split at e
  · split at e
    · rename_i ds hl
      obtain ⟨a, xs, rfl, h1, ra⟩ := rv.tuple
      exact ⟨a, xs, rfl, h1, by rw [ra.length]; exact hl, s Z H σ δ ds δ' xs r ra e Q q⟩
    · cases e
  · cases e
theorem st_asgH {tg : Expr} {G : GF} (ha : Ev X a A) (hg : EvH X tg G) (hs : swapsWithSole [tg] a pos.line X.env = pure false := by rfl) (hw : swappedStores [tg] a X.env = pure none := by rfl)
    (h1 : (assignEach [tg] X.env).map (·.2) = [assign tg X.env] := by rfl) : St1 X (.Assign [tg] a pos) (oAsg A G) := by
  obtain ⟨t, pa, sa⟩ := ha
  obtain ⟨tg', pg, sg⟩ := hg
  refine ⟨_, ps_asg pa pg hs hw h1, fun Z H σ δ o r e Dd p => ?_⟩
  obtain ⟨⟨t1, δ1⟩, e1, e⟩ := Option.bind_eq_some_iff.mp e
  obtain ⟨d, ed, e⟩ := Option.bind_eq_some_iff.mp e
  obtain ⟨δ2, e2, rfl⟩ := Option.map_eq_some_iff.mp e
  refine sa Z H σ δ t1 δ1 r e1 _ fun v Z1 H1 r1 s1 v1 => ?_
  obtain ⟨Z2, r2, s2, hz, rv⟩ := v1.freeze r1 s1 ed
  exact sg Z2 H1 σ δ1 d δ2 v r2 rv e2 _ fun Z3 H3 σ' r3 s3 => p Z3 H3 σ' r3 (s2.trans s3)

/-! ### list methods of an owned list -/
/-- the slot i, an owned list, is read -/
theorem sem_own {to : TE} {K : PySem.W.Frag} {Z : Zp} {H : Hp} {σ : L2.St} {δ : Dn} {i : Nat} {v : V} (r : Rep K Z H σ δ) (h : ∃ s, δ[i]? = some s ∧ s ≠ .un) : ∃ v, σ[i]? = some (some v) := by
  obtain ⟨s, es, ne⟩ := h
  obtain ⟨v, ev, _⟩ := r.at_ i s es ne
  exact ⟨v, ev⟩
/-- name.append(e) -/
@[simp] def fAppend (i : Nat) (A : M T) : M T := fun δ => match δ[i]? with
  | some (.ow _) => (A δ).bind fun p => p.1.st.bind fun d => match p.2[i]? with
    | some (.ow ds) => if ds.length ≤ 1000000 then some (.fz .none, p.2.set i (.ow (ds ++ [d]))) else none
    | _ => none
  | _ => none
theorem ev_append (i : Nat) {x : Str} {pi pa pc : Pos} (ha : Ev X a A) (hi : X.N[i]? = some x := by rfl) (hv : Vis X.env.scope x := by first | exact Or.inl rfl | exact Or.inr (Or.inl rfl) | exact Or.inr (Or.inr rfl))
    (hd : (x == ("__debug__" : Str)) = false := by decide) (hcd : (x == ("__classdict__" : Str)) = false := by decide)
    (hbase : attributeBase (.Name x pi) "append" X.env (eval (.Name x pi) X.env) = eval (.Name x pi) X.env := by rfl)
    (hfew : ((backTo pc (starEach [a] X.env)).all (fun x => !x.1) && (backToKw pc (keywordEach [] X.env)).all (fun x => x.1.isSome)
      && decide ([a].length + ([] : List Keyword).length + (if ([] : List Keyword).isEmpty then 0 else 1) < 30)) = true := by rfl)
    (hline : (pa.endLine == pc.line) = true := by rfl) (hs : starEach [a] X.env = (false, eval a X.env) :: starEach [] X.env := by rfl) (hplain : (backTo pc (starEach [] X.env)).any (·.1) = false := by rfl) :
    Ev X (.Call (.Attribute (.Name x pi) "append" pa) [a] [] pc) (fAppend i A) := by
  obtain ⟨t, qa, sa⟩ := ha
  refine ⟨_, pe_bm PySem.F.plainAttrs_list PySem.F.slot_list_append PySem.F.type_list_append mt_append (pe_var hi hv hd hcd) (pa_cons qa pa_nil hs) hbase hfew hline hs hplain, fun Z H σ δ t δ' r e Q q => ?_⟩
  unfold fAppend at e
  split at e
  · rename_i ds0 es0
    obtain ⟨⟨t1, δ1⟩, e1, e⟩ := Option.bind_eq_some_iff.mp e
    obtain ⟨d, ed, e⟩ := Option.bind_eq_some_iff.mp e
    obtain ⟨p0, xs0, ev0, nz0, hp0, ra0⟩ := own_lst r es0
    refine ⟨_, ev0, .inl ⟨rfl, _, .inl (.inl hp0)⟩, ?_⟩
    refine sa Z H σ δ t1 δ1 r e1 _ fun v Z1 H1 r1 s1 v1 => ?_
    obtain ⟨Z2, r2, s2, hz, rv⟩ := v1.freeze r1 s1 ed
    split at e
    · rename_i ds es
      split at e
      · rename_i hl
        cases e
        obtain ⟨p, xs, ev, nz, hp, ra⟩ := own_lst r2 es
        rw [ev] at ev0
        cases ev0
        obtain ⟨r3, s3⟩ := up_lst r2 es ev nz (ra.append (.cons rv .nil))
        exact ⟨_, xs, v, rfl, rfl, hp, by rw [ra.length]; exact line_lt hl, q _ _ _ r3 (s2.trans s3) R.non⟩
      · cases e
    · cases e
  · cases e
/-- name.extend([..]) -/
@[simp] def fExtend (i : Nat) (A : M T) : M T := fun δ => match δ[i]? with
  | some (.ow _) => (A δ).bind fun p => (p.1.rd p.2).bind fun d => match p.2[i]?, d, p.1.isAl with
    | some (.ow ds), .list es, false => if ds.length + es.length ≤ 1000000 then some (.fz .none, p.2.set i (.ow (ds ++ es))) else none
    | _, _, _ => none
  | _ => none
theorem ev_extend (i : Nat) {x : Str} {pi pa pc : Pos} (ha : Ev X a A) (hi : X.N[i]? = some x := by rfl) (hv : Vis X.env.scope x := by first | exact Or.inl rfl | exact Or.inr (Or.inl rfl) | exact Or.inr (Or.inr rfl))
    (hd : (x == ("__debug__" : Str)) = false := by decide) (hcd : (x == ("__classdict__" : Str)) = false := by decide)
    (hbase : attributeBase (.Name x pi) "extend" X.env (eval (.Name x pi) X.env) = eval (.Name x pi) X.env := by rfl)
    (hfew : ((backTo pc (starEach [a] X.env)).all (fun x => !x.1) && (backToKw pc (keywordEach [] X.env)).all (fun x => x.1.isSome)
      && decide ([a].length + ([] : List Keyword).length + (if ([] : List Keyword).isEmpty then 0 else 1) < 30)) = true := by rfl)
    (hline : (pa.endLine == pc.line) = true := by rfl) (hs : starEach [a] X.env = (false, eval a X.env) :: starEach [] X.env := by rfl) (hplain : (backTo pc (starEach [] X.env)).any (·.1) = false := by rfl) :
    Ev X (.Call (.Attribute (.Name x pi) "extend" pa) [a] [] pc) (fExtend i A) := by
  obtain ⟨t, qa, sa⟩ := ha
  refine ⟨_, pe_bm PySem.F.plainAttrs_list PySem.F.slot_list_extend PySem.F.type_list_extend mt_extend (pe_var hi hv hd hcd) (pa_cons qa pa_nil hs) hbase hfew hline hs hplain, fun Z H σ δ t δ' r e Q q => ?_⟩
  unfold fExtend at e
  split at e
  · rename_i ds0 es0
    obtain ⟨⟨t1, δ1⟩, e1, e⟩ := Option.bind_eq_some_iff.mp e
    obtain ⟨d, ed, e⟩ := Option.bind_eq_some_iff.mp e
    obtain ⟨p0, xs0, ev0, nz0, hp0, ra0⟩ := own_lst r es0
    refine ⟨_, ev0, .inl ⟨rfl, _, .inl (.inl hp0)⟩, ?_⟩
    refine sa Z H σ δ t1 δ1 r e1 _ fun v Z1 H1 r1 s1 v1 => ?_
    split at e
    · rename_i ds es' al es hal
      split at e
      · rename_i hl
        cases e
        obtain ⟨p, xs, ev, nz, hp, ra⟩ := own_lst r1 es
        rw [ev] at ev0
        cases ev0
        obtain ⟨b, ys, rfl, hb, rb⟩ := (v1.pk r1 ed).list
        obtain ⟨r3, s3⟩ := up_lst r1 es ev nz (ra.append rb)
        exact ⟨_, b, xs, ys, rfl, rfl, hp, hb, by rw [ra.length, rb.length]; exact line_of hl, q _ _ _ r3 (s1.trans s3) R.non⟩
      · cases e
    · cases e
  · cases e
/-- name.pop(i) -/
@[simp] def fPopAt (i : Nat) (A : M T) : M T := fun δ => match δ[i]? with
  | some (.ow _) => (A δ).bind fun p => (asI p.1).bind fun k => match p.2[i]? with
    | some (.ow ds) => if 0 ≤ k then (ds[k.toNat]?).bind fun d => if ds.length ≤ 1000000 then some (.fz d, p.2.set i (.ow (ds.eraseIdx k.toNat))) else none else none
    | _ => none
  | _ => none
theorem tv_int {K : PySem.W.Frag} {H0 H1 : Hp} {Z1 : Zp} {σ : L2.St} {δ : Dn} {t1 : T} {i : Int} {v : V} (e : asI t1 = some i) (h : TV K H0 Z1 H1 σ δ v t1) : v = .int i := by
  cases t1 with
  | fz d =>
    cases d with
    | int k =>
      cases e
      have h : R K Z1 H1 v (.int i) := h
      cases h
      rfl
    | _ => cases e
  | _ => cases e
theorem ev_popAt (i : Nat) {x : Str} {pi pa pc : Pos} (ha : Ev X a A) (hi : X.N[i]? = some x := by rfl) (hv : Vis X.env.scope x := by first | exact Or.inl rfl | exact Or.inr (Or.inl rfl) | exact Or.inr (Or.inr rfl))
    (hd : (x == ("__debug__" : Str)) = false := by decide) (hcd : (x == ("__classdict__" : Str)) = false := by decide)
    (hbase : attributeBase (.Name x pi) "pop" X.env (eval (.Name x pi) X.env) = eval (.Name x pi) X.env := by rfl)
    (hfew : ((backTo pc (starEach [a] X.env)).all (fun x => !x.1) && (backToKw pc (keywordEach [] X.env)).all (fun x => x.1.isSome)
      && decide ([a].length + ([] : List Keyword).length + (if ([] : List Keyword).isEmpty then 0 else 1) < 30)) = true := by rfl)
    (hline : (pa.endLine == pc.line) = true := by rfl) (hs : starEach [a] X.env = (false, eval a X.env) :: starEach [] X.env := by rfl) (hplain : (backTo pc (starEach [] X.env)).any (·.1) = false := by rfl) :
    Ev X (.Call (.Attribute (.Name x pi) "pop" pa) [a] [] pc) (fPopAt i A) := by
  obtain ⟨t, qa, sa⟩ := ha
  refine ⟨_, pe_bm PySem.F.plainAttrs_list PySem.F.slot_list_pop PySem.F.type_list_pop mt_popAt (pe_var hi hv hd hcd) (pa_cons qa pa_nil hs) hbase hfew hline hs hplain, fun Z H σ δ t δ' r e Q q => ?_⟩
  unfold fPopAt at e
  split at e
  · rename_i ds0 es0
    obtain ⟨⟨t1, δ1⟩, e1, e⟩ := Option.bind_eq_some_iff.mp e
    obtain ⟨k, ek, e⟩ := Option.bind_eq_some_iff.mp e
    obtain ⟨p0, xs0, ev0, nz0, hp0, ra0⟩ := own_lst r es0
    refine ⟨_, ev0, .inl ⟨rfl, _, .inl (.inl hp0)⟩, ?_⟩
    refine sa Z H σ δ t1 δ1 r e1 _ fun v Z1 H1 r1 s1 v1 => ?_
    cases tv_int ek v1
    split at e
    · rename_i ds es
      split at e
      · rename_i hk
        obtain ⟨d, ed, e⟩ := Option.bind_eq_some_iff.mp e
        split at e
        · rename_i hl
          cases e
          obtain ⟨p, xs, ev, nz, hp, ra⟩ := own_lst r1 es
          rw [ev] at ev0
          cases ev0
          obtain ⟨y, ey, ry⟩ := ra.get ed
          have hlt : k.toNat < ds.length := (List.getElem?_eq_some_iff.mp ed).1
          have hl2 := ra.length
          obtain ⟨r3, s3⟩ := up_lst r1 es ev nz (ra.eraseIdx k.toNat)
          have hn : (1000000 : Int) < 2 ^ 63 := by decide
          have hs3 := s3.R r1 ry
          refine ⟨_, xs, k, k.toNat, y, rfl, rfl, hp, by omega, by omega, ?_, ey, q _ _ _ r3 (s1.trans s3) hs3⟩
          exact seqIndex_of hk (by omega)
        · cases e
      · cases e
    · cases e
  · cases e
/-- name.insert(i, e) -/
@[simp] def fInsert (i : Nat) (A B : M T) : M T := fun δ => match δ[i]? with
  | some (.ow _) => (A δ).bind fun p => (asI p.1).bind fun k => (B p.2).bind fun p => p.1.st.bind fun d => match p.2[i]? with
    | some (.ow ds) => if 0 ≤ k ∧ k < 2 ^ 63 ∧ ds.length ≤ 1000000 then some (.fz .none, p.2.set i (.ow (ds.take k.toNat ++ [d] ++ ds.drop k.toNat))) else none
    | _ => none
  | _ => none
theorem ev_insert (i : Nat) {x : Str} {pi pa pc : Pos} (ha : Ev X a A) (hb : Ev X b B) (hi : X.N[i]? = some x := by rfl) (hv : Vis X.env.scope x := by first | exact Or.inl rfl | exact Or.inr (Or.inl rfl) | exact Or.inr (Or.inr rfl))
    (hd : (x == ("__debug__" : Str)) = false := by decide) (hcd : (x == ("__classdict__" : Str)) = false := by decide)
    (hbase : attributeBase (.Name x pi) "insert" X.env (eval (.Name x pi) X.env) = eval (.Name x pi) X.env := by rfl)
    (hfew : ((backTo pc (starEach [a, b] X.env)).all (fun x => !x.1) && (backToKw pc (keywordEach [] X.env)).all (fun x => x.1.isSome)
      && decide ([a, b].length + ([] : List Keyword).length + (if ([] : List Keyword).isEmpty then 0 else 1) < 30)) = true := by rfl)
    (hline : (pa.endLine == pc.line) = true := by rfl) (hs : starEach [a, b] X.env = (false, eval a X.env) :: starEach [b] X.env := by rfl) (hs2 : starEach [b] X.env = (false, eval b X.env) :: starEach [] X.env := by rfl) (hplain : (backTo pc (starEach [b] X.env)).any (·.1) = false := by rfl) :
    Ev X (.Call (.Attribute (.Name x pi) "insert" pa) [a, b] [] pc) (fInsert i A B) := by
  obtain ⟨t, qa, sa⟩ := ha
  obtain ⟨t', qb, sb⟩ := hb
  refine ⟨_, pe_bm PySem.F.plainAttrs_list PySem.F.slot_list_insert PySem.F.type_list_insert mt_insert (pe_var hi hv hd hcd) (pa_cons qa (pa_cons qb pa_nil hs2) hs) hbase hfew hline hs hplain, fun Z H σ δ t δ' r e Q q => ?_⟩
  unfold fInsert at e
  split at e
  · rename_i ds0 es0
    obtain ⟨⟨t1, δ1⟩, e1, e⟩ := Option.bind_eq_some_iff.mp e
    obtain ⟨k, ek, e⟩ := Option.bind_eq_some_iff.mp e
    obtain ⟨⟨t2, δ2⟩, e2, e⟩ := Option.bind_eq_some_iff.mp e
    obtain ⟨d, ed, e⟩ := Option.bind_eq_some_iff.mp e
    obtain ⟨p0, xs0, ev0, nz0, hp0, ra0⟩ := own_lst r es0
    refine ⟨_, ev0, .inl ⟨rfl, _, .inl (.inl hp0)⟩, ?_⟩
    refine sa Z H σ δ t1 δ1 r e1 _ fun v Z1 H1 r1 s1 v1 => ?_
    cases tv_int ek v1
    refine sb Z1 H1 σ δ1 t2 δ2 r1 e2 _ fun u Z2 H2 r2 s2 v2 => ?_
    obtain ⟨Z3, r3, s3, hz, rv⟩ := v2.freeze r2 s2 ed
    split at e
    · rename_i ds es
      split at e
      · rename_i hk
        cases e
        obtain ⟨p, xs, ev, nz, hp, ra⟩ := own_lst r3 es
        rw [ev] at ev0
        cases ev0
        obtain ⟨r4, s4⟩ := up_lst r3 es ev nz (((ra.take k.toNat).append (.cons rv .nil)).append (ra.drop k.toNat))
        exact ⟨_, xs, k, u, rfl, rfl, hp, by rw [ra.length]; exact line_lt hk.2.2, hk.1, hk.2.1, q _ _ _ r4 ((s1.trans s3).trans s4) R.non⟩
      · cases e
    · cases e
  · cases e

/-! ### for -/
def forL (G : GF) (B : MS) : List D → Dn → Option Out
  | [], δ => some (.nx δ)
  | d :: ds, δ => (G d δ).bind fun δ1 => (B δ1).bind fun o => match o with
    | .nx δ2 => forL G B ds δ2
    | .ct δ2 => forL G B ds δ2
    | .bk δ2 => some (.nx δ2)
    | .rt t δ2 => some (.rt t δ2)
@[simp] def oFor (I : M (List D)) (G : GF) (B : MS) : MS := fun δ => (I δ).bind fun p => forL G B p.1 p.2
theorem st_for {tg iter : Expr} {body : List Stmt} {I : M (List D)} {Gt : GF} (hp : PassesOwn (model X.prog X.w) X.A X.env X.xe) (hc : X.calm = true) (hI : EvI X tg iter I) (hg : EvH X tg Gt) (hb : Sts X body F)
    (hs : ∀ x, foldedSetIterable iter X.env x = pure x := by intro _; rfl) : St1 X (.For tg iter body [] pos) (oFor I Gt F) := by
  obtain ⟨wi, pi, si⟩ := hI
  obtain ⟨g, pg, sg⟩ := hg
  obtain ⟨tb, pb, sb⟩ := hb
  refine ⟨_, ps_for hp hc pi pg pb hs, fun Z H σ δ o r e Dd post => ?_⟩
  obtain ⟨⟨ds, δ1⟩, e1, e⟩ := Option.bind_eq_some_iff.mp e
  refine si Z H σ δ ds δ1 r e1 _ fun J Z1 H1 r1 s1 w => ?_
  refine ⟨fun i m σ' H' => m = ds.length - i ∧ i ≤ ds.length ∧ ∃ Z' δ', Rep X.K Z' H' σ' δ' ∧ Stp Z1 H1 σ δ1 Z' H' σ' δ' ∧ forL Gt F (ds.drop i) δ' = some o, ⟨ds.length, by omega, by omega, Z1, δ1, r1, .refl, by simpa using e⟩, ?_⟩
  rintro i m σ' H' ⟨rfl, hi, Z', δ', r', s', f'⟩
  have post' := (post.from s1).from s'
  by_cases hlt : i < ds.length
  · refine .inr ⟨w.go Z' H' s'.zsub (s'.zh r1) r'.trk i hlt, ?_⟩
    have hd : ds.drop i = ds[i] :: ds.drop (i + 1) := List.drop_eq_getElem_cons hlt
    rw [hd] at f'
    obtain ⟨δ2, g2, f'⟩ := Option.bind_eq_some_iff.mp f'
    obtain ⟨o2, b2, f'⟩ := Option.bind_eq_some_iff.mp f'
    refine ⟨fun σ2 H2 => ∃ Z2 δ3, (o2 = .nx δ3 ∨ o2 = .ct δ3) ∧ Rep X.K Z2 H2 σ2 δ3 ∧ Stp Z1 H1 σ δ1 Z2 H2 σ2 δ3 , fun σ2 H2 ⟨Z2, δ3, ho, r3, s3⟩ => ?_, fun x H2 y => ?_⟩
    · refine ⟨ds.length - (i + 1), by omega, rfl, hlt, Z2, δ3, r3, s3, ?_⟩
      rcases ho with rfl | rfl
      · exact f'
      · exact f'
    · obtain ⟨Z2, gr, rx⟩ := w.yld Z' H' s'.zsub (s'.zh r1) r'.trk i x H2 ds[i] (List.getElem?_eq_getElem hlt) y
      refine sg Z2 H2 σ' δ' ds[i] δ2 x (gr.rep r') rx g2 _ fun Z3 H3 σ3 r3 s3 => ?_
      have s13 := (s'.trans gr.stp).trans s3
      refine sb Z3 H3 σ3 δ2 o2 r3 b2 _ ?_
      cases o2 with
      | nx δ3 => exact fun Z4 H4 σ4 r4 s4 => ⟨Z4, δ3, .inl rfl, r4, s13.trans s4⟩
      | ct δ3 => exact fun Z4 H4 σ4 r4 s4 => ⟨Z4, δ3, .inr rfl, r4, s13.trans s4⟩
      | bk δ3 =>
        cases f'
        exact fun Z4 H4 σ4 r4 s4 => post' Z4 H4 σ4 r4 ((gr.stp.trans s3).trans s4)
      | rt t δ3 =>
        cases f'
        exact post'.from (gr.stp.trans s3)
  · have hn : i = ds.length := by omega
    subst hn
    rw [List.drop_length] at f'
    cases f'
    exact .inl ⟨w.stop Z' H' s'.zsub (s'.zh r1) r'.trk, post' Z' H' σ' r' .refl⟩
/-- while, by a number of turns at most -/
def whL (c : M Bool) (B : MS) : Nat → Dn → Option Out
  | 0, _ => none
  | n + 1, δ => (c δ).bind fun p => if p.1 = true then (B p.2).bind fun o => match o with
    | .nx δ2 => whL c B n δ2
    | .ct δ2 => whL c B n δ2
    | .bk δ2 => some (.nx δ2)
    | .rt t δ2 => some (.rt t δ2) else some (.nx p.2)
@[simp] def oWhile (μ : Dn → Nat) (c : M Bool) (B : MS) : MS := fun δ => whL c B (μ δ) δ
theorem st_while (μ : Dn → Nat) {body : List Stmt} {c : Expr} (hp : PassesOwn (model X.prog X.w) X.A X.env X.xe) (hc : EvT X c P) (hb : Sts X body F) : St1 X (.While c body [] pos) (oWhile μ P F) := by
  obtain ⟨tc, pc, sc⟩ := hc
  obtain ⟨tb, pb, sb⟩ := hb
  refine ⟨_, ps_while hp pc pb, fun Z H σ δ o r e Dd post => ?_⟩
  refine ⟨fun m σ' H' => ∃ Z' δ', Rep X.K Z' H' σ' δ' ∧ Stp Z H σ δ Z' H' σ' δ' ∧ whL P F m δ' = some o, ⟨μ δ, Z, δ, r, .refl, e⟩, ?_⟩
  rintro m σ' H' ⟨Z', δ', r', s', f'⟩
  have post' := post.from s'
  cases m with
  | zero => cases f'
  | succ m =>
    obtain ⟨⟨k, δ1⟩, e1, f'⟩ := Option.bind_eq_some_iff.mp f'
    refine sc Z' H' σ' δ' k δ1 r' e1 _ fun Z1 H1 r1 s1 => ?_
    cases k with
    | false =>
      cases f'
      exact post' Z1 H1 σ' r1 s1
    | true =>
      obtain ⟨o2, b2, f'⟩ := Option.bind_eq_some_iff.mp (show ((F δ1).bind fun o => match o with
        | .nx δ2 => whL P F m δ2
        | .ct δ2 => whL P F m δ2
        | .bk δ2 => some (.nx δ2)
        | .rt t δ2 => some (.rt t δ2)) = some o from f')
      refine ⟨fun σ2 H2 => ∃ Z2 δ3, (o2 = .nx δ3 ∨ o2 = .ct δ3) ∧ Rep X.K Z2 H2 σ2 δ3 ∧ Stp Z H σ δ Z2 H2 σ2 δ3, fun σ2 H2 ⟨Z2, δ3, ho, r3, s3⟩ => ?_, ?_⟩
      · refine ⟨m, Nat.lt_succ_self m, Z2, δ3, r3, s3, ?_⟩
        rcases ho with rfl | rfl
        · exact f'
        · exact f'
      · refine sb Z1 H1 σ' δ1 o2 r1 b2 _ ?_
        have s01 := s'.trans s1
        cases o2 with
        | nx δ3 => exact fun Z4 H4 σ4 r4 s4 => ⟨Z4, δ3, .inl rfl, r4, s01.trans s4⟩
        | ct δ3 => exact fun Z4 H4 σ4 r4 s4 => ⟨Z4, δ3, .inr rfl, r4, s01.trans s4⟩
        | bk δ3 =>
          cases f'
          exact fun Z4 H4 σ4 r4 s4 => post' Z4 H4 σ4 r4 (s1.trans s4)
        | rt t δ3 =>
          cases f'
          exact post'.from s1
end
end DL
/-! DL7: comprehensions. -/
namespace DL
open PySem PySem.Spec PyProof.Rows L2

/-! ### the weakest readings: they do not depend on where one stands -/
def canE (K : PySem.W.Frag) (F : M T) : TE := fun σ H Q => ∃ Z δ a δ', Rep K Z H σ δ ∧ F δ = some (a, δ') ∧ ∀ v Z' H', Rep K Z' H' σ δ' → Stp Z H σ δ Z' H' σ δ' → TV K H Z' H' σ δ' v a → Q v H'
def canT (K : PySem.W.Frag) (F : M Bool) : TT := fun σ H Q => ∃ Z δ b δ', Rep K Z H σ δ ∧ F δ = some (b, δ') ∧ ∀ Z' H', Rep K Z' H' σ δ' → Stp Z H σ δ Z' H' σ δ' → Q b H'
def canG (K : PySem.W.Frag) (js : List Nat) (G : GF) : TG := fun v σ H Q => ∃ Z δ d δ', Rep K Z H σ δ ∧ R K Z H v d ∧ G d δ = some δ' ∧ ∀ σ', Rep K Z H σ' δ' → Stp Z H σ δ Z H σ' δ' → σ'.length = σ.length → (∀ k, k ∉ js → σ'[k]? = σ[k]?) → Q σ' H
def canI (K : PySem.W.Frag) (F : M (List D)) : TI := fun σ H RR => ∃ Z δ ds δ', Rep K Z H σ δ ∧ F δ = some (ds, δ') ∧ ∀ J Z' H', Rep K Z' H' σ δ' → Stp Z H σ δ Z' H' σ δ' → Wlk K J Z' H' ds → RR J H'
/-- the tests of a comprehension -/
def EvC (X : Cx) (ifs : List Expr) (F : M Bool) : Prop := ∃ t, PTs X ifs t ∧ SemB X.K t F
@[simp] def cYes : M Bool := fun δ => some (true, δ)
section
variable {X : Cx} {e : Expr} {es : List Expr} {A : M T} {P : M Bool} {G : GF} {js : List Nat} {I : M (List D)} {tg : Expr}
theorem Ev.can (h : Ev X e A) : PE X e (canE X.K A) := by
  obtain ⟨t, p, s⟩ := h
  refine ⟨fun pins s' σ H Q I hc => ?_⟩
  obtain ⟨Z, δ, a, δ', r, e1, q⟩ := hc
  exact p.run pins s' σ H Q I (s Z H σ δ a δ' r e1 Q q)
theorem EvT.can (h : EvT X e P) : PT X e (canT X.K P) := by
  obtain ⟨t, p, s⟩ := h
  refine ⟨fun pins s' σ H Q I hc => ?_⟩
  obtain ⟨Z, δ, a, δ', r, e1, q⟩ := hc
  exact p.run pins s' σ H Q I (s Z H σ δ a δ' r e1 Q q)
theorem EvC.can (h : EvC X es P) : PTs X es (canT X.K P) := by
  obtain ⟨t, p, s⟩ := h
  refine ⟨fun pins s' σ H Q I hc => ?_⟩
  obtain ⟨Z, δ, a, δ', r, e1, q⟩ := hc
  exact p.run pins s' σ H Q I (s Z H σ δ a δ' r e1 Q q)
theorem EvG.can (h : EvG X tg js G) : PG X tg (canG X.K js G) := by
  obtain ⟨t, p, s⟩ := h
  refine ⟨fun pins s' σ H v u Q I rv hc => ?_⟩
  obtain ⟨Z, δ, d, δ', r, rd, e1, q⟩ := hc
  exact p.run pins s' σ H v u Q I rv (s Z H σ δ d δ' v r rd e1 Q q)
theorem EvI.can (h : EvI X tg e I) : PI X tg e (canI X.K I) := by
  obtain ⟨t, p, s⟩ := h
  refine ⟨fun pins s' σ H RR I' hc => ?_⟩
  obtain ⟨Z, δ, d, δ', r, e1, q⟩ := hc
  exact p.run pins s' σ H RR I' (s Z H σ δ d δ' r e1 RR q)
theorem ec_nil : EvC X [] cYes := ⟨_, pts_nil, fun Z H σ δ b δ' r e Q q => by cases e; exact q Z H r .refl⟩
theorem ec_one (h : EvT X e P) : EvC X [e] P := let ⟨t, p, s⟩ := h; ⟨t, pts_one p, s⟩
end

/-! ### slots forgotten, and back -/
def wipeD (δ : Dn) : List Nat → Dn
  | [] => δ
  | v :: vs => (wipeD δ vs).set v .un
def rest (δ δw : Dn) : List Nat → Dn
  | [] => δw
  | v :: vs => (rest δ δw vs).set v (δ.getD v .un)
@[simp] theorem wipeD_nil (δ : Dn) : wipeD δ [] = δ := rfl
@[simp] theorem wipeD_cons (δ : Dn) (v : Nat) (vs : List Nat) : wipeD δ (v :: vs) = (wipeD δ vs).set v .un := rfl
@[simp] theorem rest_nil (δ δw : Dn) : rest δ δw [] = δw := rfl
@[simp] theorem rest_cons (δ δw : Dn) (v : Nat) (vs : List Nat) : rest δ δw (v :: vs) = (rest δ δw vs).set v (δ.getD v .un) := rfl
section
variable {K : PySem.W.Frag} {Z Z' Z0 : Zp} {H H' H0 : Hp} {σ σ0 : L2.St} {δ δ0 δw : Dn} {vs : List Nat} {D0 : Addr}
theorem wipeD_len : ∀ vs : List Nat, (wipeD δ vs).length = δ.length
  | [] => rfl
  | v :: vs => by rw [wipeD_cons, List.length_set, wipeD_len vs]
theorem rest_len : ∀ vs : List Nat, (rest δ δw vs).length = δw.length
  | [] => rfl
  | v :: vs => by rw [rest_cons, List.length_set, rest_len vs]
theorem wipeD_get {k : Nat} {s : Sl} : ∀ {vs : List Nat}, (wipeD δ vs)[k]? = some s → s ≠ .un → δ[k]? = some s ∧ k ∉ vs
  | [], h, _ => ⟨h, by simp⟩
  | v :: vs, h, ne => by
    rw [wipeD_cons] at h
    by_cases hv : v = k
    · subst hv
      by_cases hl : v < (wipeD δ vs).length
      · rw [List.getElem?_set_self hl] at h; cases h; exact (ne rfl).elim
      · rw [List.getElem?_eq_none (by simpa using hl)] at h; cases h
    · rw [List.getElem?_set_ne hv] at h
      obtain ⟨h1, h2⟩ := wipeD_get h ne
      exact ⟨h1, by simp only [List.mem_cons, not_or]; exact ⟨fun e => hv e.symm, h2⟩⟩
theorem wipeD_out {k : Nat} : ∀ {vs : List Nat}, k ∉ vs → (wipeD δ vs)[k]? = δ[k]?
  | [], _ => rfl
  | v :: vs, h => by
    have h1 : v ≠ k := fun e => h (by rw [e]; exact List.mem_cons_self)
    have h2 : k ∉ vs := fun m => h (List.mem_cons_of_mem _ m)
    rw [wipeD_cons, List.getElem?_set_ne h1]
    exact wipeD_out h2
theorem rest_out {k : Nat} : ∀ {vs : List Nat}, k ∉ vs → (rest δ δw vs)[k]? = δw[k]?
  | [], _ => rfl
  | v :: vs, h => by
    have h1 : v ≠ k := fun e => h (by rw [e]; exact List.mem_cons_self)
    have h2 : k ∉ vs := fun m => h (List.mem_cons_of_mem _ m)
    rw [rest_cons, List.getElem?_set_ne h1]
    exact rest_out h2
theorem rest_in {k : Nat} {s : Sl} : ∀ {vs : List Nat}, k ∈ vs → (rest δ δw vs)[k]? = some s → s ≠ .un → δ[k]? = some s
  | v :: vs, hm, h, ne => by
    rw [rest_cons] at h
    by_cases hv : v = k
    · subst hv
      by_cases hl : v < (rest δ δw vs).length
      · rw [List.getElem?_set_self hl] at h
        have e : δ.getD v .un = s := Option.some.inj h
        rw [List.getD_eq_getElem?_getD] at e
        cases q : δ[v]? with
        | none => rw [q] at e; exact (ne e.symm).elim
        | some t => rw [q] at e; exact congrArg some e
      · rw [List.getElem?_eq_none (by simpa using hl)] at h; cases h
    · rw [List.getElem?_set_ne hv] at h
      exact rest_in ((List.mem_cons.mp hm).resolve_left fun e => hv e.symm) h ne
theorem rep_wipe (r : Rep K Z H σ δ) (vs : List Nat) : Rep K Z H (wipe σ vs) (wipeD δ vs) where
  len := by rw [wipe_length, wipeD_len, r.len]
  trk := r.trk
  at_ := fun i s e ne => by
    obtain ⟨e1, e2⟩ := wipeD_get e ne
    rw [wipe_out e2]
    exact r.at_ i s e1 ne
  sep := fun i j s t p hij e1 e2 h1 h2 g1 g2 => by
    obtain ⟨f1, m1⟩ := wipeD_get e1 (by rintro rfl; cases h1)
    obtain ⟨f2, m2⟩ := wipeD_get e2 (by rintro rfl; cases h2)
    rw [wipe_out m1] at g1
    rw [wipe_out m2] at g2
    exact r.sep i j s t p hij f1 f2 h1 h2 g1 g2
theorem wr_wipe {a : Addr} (w : Wr (wipe σ vs) (wipeD δ vs) a) : ∃ (i : Nat) (s : Sl), i ∉ vs ∧ δ[i]? = some s ∧ s.own = true ∧ σ[i]? = some (some (V.ref a)) := by
  obtain ⟨i, s, e, h, g⟩ := w
  obtain ⟨f, m⟩ := wipeD_get e (by rintro rfl; cases h)
  rw [wipe_out m] at g
  exact ⟨i, s, m, f, h, g⟩
theorem wr_of_wipe {a : Addr} (w : Wr (wipe σ vs) (wipeD δ vs) a) : Wr σ δ a := let ⟨i, s, _, e, h, g⟩ := wr_wipe w; ⟨i, s, e, h, g⟩
theorem pin_wipe : Pin σ δ (wipe σ vs) (wipeD δ vs) := fun t e h => by
  obtain ⟨e1, m⟩ := wipeD_get e (by rintro rfl; cases h)
  exact ⟨wipe_out m, t, e1, h⟩
theorem stp_wipe (s : Stp Z0 H0 σ0 δ0 Z H σ δ) (vs : List Nat) : Stp Z0 H0 σ0 δ0 Z H (wipe σ vs) (wipeD δ vs) := ⟨s.zsub, s.znew, s.keep, s.there, fun a w => s.own a (wr_of_wipe w), s.pin.trans pin_wipe⟩
/-- behind the block -/
theorem rep_back (r : Rep K Z H σ δ) (r' : Rep K Z' H' (wipe σ vs) δw) (s : Stp Z H (wipe σ vs) (wipeD δ vs) Z' H' (wipe σ vs) δw) :
    Rep K Z' H' σ (rest δ δw vs) ∧ Stp Z H σ δ Z' H' σ (rest δ δw vs) ∧ ∀ a, Wr σ (rest δ δw vs) a → Wr σ δ a ∨ Wr (wipe σ vs) δw a := by
  have hw : ∀ a, Wr σ (rest δ δw vs) a → (∃ (i : Nat) (s : Sl), i ∈ vs ∧ δ[i]? = some s ∧ s.own = true ∧ σ[i]? = some (some (V.ref a))) ∨ (∃ (i : Nat) (s : Sl), i ∉ vs ∧ δw[i]? = some s ∧ s.own = true ∧ σ[i]? = some (some (V.ref a))) := by
    rintro a ⟨i, s, e, h, g⟩
    by_cases hm : i ∈ vs
    · exact .inl ⟨i, s, hm, rest_in hm e (by rintro rfl; cases h), h, g⟩
    · rw [rest_out hm] at e
      exact .inr ⟨i, s, hm, e, h, g⟩
  have hwr : ∀ {a : Addr} {i : Nat} {t : Sl}, i ∉ vs → δw[i]? = some t → t.own = true → σ[i]? = some (some (V.ref a)) → Wr (wipe σ vs) δw a := fun {a i t} hm e h g => ⟨i, t, e, h, by rw [wipe_out hm]; exact g⟩
  -- what a slot of vs owned stands
  have keep : ∀ {a : Addr} {i : Nat} {t : Sl} {o : HO}, i ∈ vs → δ[i]? = some t → t.own = true → σ[i]? = some (some (V.ref a)) → H a = some o → H' a = some o := fun {a i t o} hm e h g ho => s.keep a o ho fun w => by
    obtain ⟨j, u, mj, ej, hj, gj⟩ := wr_wipe w
    exact r.sep i j t u a (fun z => mj (z ▸ hm)) e ej h hj g gj
  have nz : ∀ {a : Addr} {i : Nat} {t : Sl} {o : HO}, i ∈ vs → δ[i]? = some t → t.own = true → σ[i]? = some (some (V.ref a)) → H a = some o → ¬ Z a → ¬ Z' a := fun {a i t o} hm e h g ho n z => by
    rcases s.znew a z with z | z | z
    · exact n z
    · exact sn ho z
    · obtain ⟨j, u, mj, ej, hj, gj⟩ := wr_wipe z
      exact r.sep i j t u a (fun z => mj (z ▸ hm)) e ej h hj g gj
  have zh : ∀ a, Z a → H' a = H a := s.zh (rep_wipe r vs)
  refine ⟨⟨by rw [rest_len, ← r'.len, wipe_length], r'.trk, fun i t e ne => ?_, fun i j t u p hij e1 e2 h1 h2 g1 g2 => ?_⟩, ⟨s.zsub, fun a z => ?_, fun a o e nw => ?_, s.there, fun a w => ?_, fun t e h => ?_⟩, fun a w => ?_⟩
  · by_cases hm : i ∈ vs
    · have e' := rest_in hm e ne
      obtain ⟨v, ev, w⟩ := r.at_ i t e' ne
      refine ⟨v, ev, ?_⟩
      cases t with
      | un => exact True.intro
      | fz d => exact DL.R.mono s.zsub zh w
      | ow ds =>
        obtain ⟨p, xs, rfl, n, hp, ra⟩ := w
        exact ⟨p, xs, rfl, nz hm e' rfl ev hp n, keep hm e' rfl ev hp, ra.mono s.zsub zh⟩
      | od ds =>
        obtain ⟨p, xs, rfl, n, hp, ra⟩ := w
        exact ⟨p, xs, rfl, nz hm e' rfl ev hp n, keep hm e' rfl ev hp, ra.mono s.zsub zh⟩
    · rw [rest_out hm] at e
      obtain ⟨v, ev, w⟩ := r'.at_ i t e ne
      rw [wipe_out hm] at ev
      exact ⟨v, ev, w⟩
  · have cross : ∀ {i j : Nat} {t u : Sl}, i ∈ vs → j ∉ vs → δ[i]? = some t → δw[j]? = some u → t.own = true → u.own = true → σ[i]? = some (some (V.ref p)) → σ[j]? = some (some (V.ref p)) → False := fun {i j t u} mi mj e1 e2 h1 h2 g1 g2 => by
      obtain ⟨o, ho⟩ := r.wsome ⟨i, t, e1, h1, g1⟩
      rcases s.own p (hwr mj e2 h2 g2) with w | w
      · obtain ⟨k, x, mk, ek, hk, gk⟩ := wr_wipe w
        exact r.sep i k t x p (fun z => mk (z ▸ mi)) e1 ek h1 hk g1 gk
      · exact sn ho w
    by_cases mi : i ∈ vs
    · have e1' := rest_in mi e1 (by rintro rfl; cases h1)
      by_cases mj : j ∈ vs
      · exact r.sep i j t u p hij e1' (rest_in mj e2 (by rintro rfl; cases h2)) h1 h2 g1 g2
      · rw [rest_out mj] at e2
        exact cross mi mj e1' e2 h1 h2 g1 g2
    · rw [rest_out mi] at e1
      by_cases mj : j ∈ vs
      · exact cross mj mi (rest_in mj e2 (by rintro rfl; cases h2)) e1 h2 h1 g2 g1
      · rw [rest_out mj] at e2
        exact r'.sep i j t u p hij e1 e2 h1 h2 (by rw [wipe_out mi]; exact g1) (by rw [wipe_out mj]; exact g2)
  · rcases s.znew a z with z | z | z
    · exact .inl z
    · exact .inr (.inl z)
    · exact .inr (.inr (wr_of_wipe z))
  · exact s.keep a o e fun w => nw (wr_of_wipe w)
  · rcases hw a w with ⟨i, t, _, e, h, g⟩ | ⟨i, t, m, e, h, g⟩
    · exact .inl ⟨i, t, e, h, g⟩
    · rcases s.own a (hwr m e h g) with w | w
      · exact .inl (wr_of_wipe w)
      · exact .inr w
  · refine ⟨rfl, ?_⟩
    by_cases hm : 0 ∈ vs
    · exact ⟨t, rest_in hm e (by rintro rfl; cases h), h⟩
    · rw [rest_out hm] at e
      obtain ⟨_, t2, e2, h2⟩ := s.pin t e h
      exact ⟨t2, (wipeD_get e2 (by rintro rfl; cases h2)).1, h2⟩
  · rcases hw a w with ⟨i, t, _, e, h, g⟩ | ⟨i, t, m, e, h, g⟩
    · exact .inl ⟨i, t, e, h, g⟩
    · exact .inr (hwr m e h g)
/-- an object that nobody knows of is changed -/
theorem rep_upd {o : HO} (r : Rep K Z H σ δ) (nz : ¬ Z D0) (nw : ¬ Wr σ δ D0) : Rep K Z (upd H D0 o) σ δ := by
  have hh : ∀ a, Z a → upd H D0 o a = H a := fun a z => upd_ne (fun (e : a = D0) => nz (e ▸ z))
  refine ⟨r.len, fun a z => by rw [hh a z]; exact r.trk a z, fun i s e ne => ?_, r.sep⟩
  obtain ⟨v, ev, w⟩ := r.at_ i s e ne
  refine ⟨v, ev, ?_⟩
  cases s with
  | un => exact True.intro
  | fz d => exact DL.R.mono (fun _ h => h) hh w
  | ow ds =>
    obtain ⟨p, xs, rfl, n, hp, ra⟩ := w
    exact ⟨p, xs, rfl, n, (upd_ne (fun (z : p = D0) => nw ⟨i, _, e, rfl, z ▸ ev⟩)).trans hp, ra.mono (fun _ h => h) hh⟩
  | od ds =>
    obtain ⟨p, xs, rfl, n, hp, ra⟩ := w
    exact ⟨p, xs, rfl, n, (upd_ne (fun (z : p = D0) => nw ⟨i, _, e, rfl, z ▸ ev⟩)).trans hp, ra.mono (fun _ h => h) hh⟩
theorem stp_upd {o : HO} (s : Stp Z0 H0 σ0 δ0 Z H σ δ) (n0 : H0 D0 = none) : Stp Z0 H0 σ0 δ0 Z (upd H D0 o) σ δ :=
  ⟨s.zsub, s.znew, fun a u e n => by rw [upd_ne (ne_of_none e n0)]; exact s.keep a u e n, fun a u e => by
    obtain ⟨x, ex⟩ := s.there a u e
    exact ⟨x, by rw [upd_ne (ne_of_none e n0)]; exact ex⟩, s.own, s.pin⟩
theorem wipe_eq {σ2 : L2.St} (hl : σ2.length = σ.length) (h : ∀ k, k ∉ vs → σ2[k]? = (wipe σ vs)[k]?) : wipe σ2 vs = wipe σ vs := by
  apply List.ext_getElem?
  intro k
  by_cases hm : k ∈ vs
  · have f : ∀ τ : L2.St, τ.length = σ.length → (wipe τ vs)[k]? = if k < σ.length then some none else none := fun τ ht => by
      clear h
      induction vs with
      | nil => cases hm
      | cons v vs ih =>
        show ((wipe τ vs).set v none)[k]? = _
        by_cases hv : v = k
        · subst hv
          by_cases hl : v < σ.length
          · rw [if_pos hl, List.getElem?_set_self (by rw [wipe_length, ht]; exact hl)]
          · rw [if_neg hl, List.getElem?_eq_none (by rw [List.length_set, wipe_length, ht]; omega)]
        · rw [List.getElem?_set_ne hv]
          exact ih ((List.mem_cons.mp hm).resolve_left fun e => hv e.symm)
    rw [f σ2 hl, f σ rfl]
  · rw [wipe_out hm, h k hm]
end

/-! ### [e for target in iter if ..] -/
def lcL (vs : List Nat) (G : GF) (P : M Bool) (E : M T) : List D → List D → Dn → Option (List D × Dn)
  | [], acc, δ => some (acc, δ)
  | d :: ds, acc, δ => (G d δ).bind fun δ1 => (P δ1).bind fun p => if p.1 = true then (E p.2).bind fun q => q.1.st.bind fun y => if acc.length ≤ 1000000 then lcL vs G P E ds (acc ++ [y]) (wipeD q.2 vs) else none else lcL vs G P E ds acc (wipeD p.2 vs)
@[simp] def fLc (vs : List Nat) (I : M (List D)) (G : GF) (P : M Bool) (E : M T) : M T := fun δ => (I δ).bind fun p => (lcL vs G P E p.1 [] (wipeD p.2 vs)).map fun q => (.nw q.1, rest p.2 q.2 vs)
section
variable {X : Cx} {elt tg iter : Expr} {ifs : List Expr} {scope : Scope} {own : List (Str × Nat)} {pos : Pos} {I : M (List D)} {G : GF} {P : M Bool} {E : M T} {js : List Nat}
theorem sem_lc (K : PySem.W.Frag) (vs : List Nat) (hj : ∀ j ∈ js, j ∈ vs) : Sem1 K (tLc (canI K I) (canG K js G) (canT K P) (canE K E) vs) (fLc vs I G P E) := by
  intro Z H σ δ t δ' r e Q q
  obtain ⟨⟨ds, δ1⟩, e1, e⟩ := Option.bind_eq_some_iff.mp e
  obtain ⟨⟨acc, δw⟩, e2, e⟩ := Option.map_eq_some_iff.mp e
  cases e
  refine ⟨Z, δ, ds, δ1, r, e1, fun J Z1 H1 r1 s1 w D0 nD => ?_⟩
  have gD : Grow Z1 H1 Z1 (upd H1 D0 (.lst [])) := Grow.new r1.trk nD
  refine ⟨fun i m H' => m = ds.length - i ∧ i ≤ ds.length ∧ ∃ Z' acc' vs' δ', Rep K Z' H' (wipe σ vs) δ' ∧ Stp Z1 H1 (wipe σ vs) (wipeD δ1 vs) Z' H' (wipe σ vs) δ' ∧ ¬ Z' D0 ∧ ¬ Wr (wipe σ vs) δ' D0 ∧ H' D0 = some (.lst vs') ∧ RA K Z' H' vs' acc' ∧ lcL vs G P E (ds.drop i) acc' δ' = some (acc, δw),
    ⟨ds.length, by omega, by omega, Z1, [], [], wipeD δ1 vs, gD.rep (rep_wipe r1 vs), gD.stp, fun z => by
      obtain ⟨o, e⟩ := r1.trk _ z
      exact sn e nD, fun z => by
      obtain ⟨o, e⟩ := (rep_wipe r1 vs).wsome z
      exact sn e nD, upd_same, .nil, by simpa using e2⟩, ?_⟩
  rintro i m H' ⟨rfl, hi, Z', acc', vs', δ', r', s', nz, nw, hD, ra, f'⟩
  by_cases hlt : i < ds.length
  · refine .inr ⟨w.go Z' H' s'.zsub (s'.zh (rep_wipe r1 vs)) r'.trk i hlt, ?_⟩
    have hd : ds.drop i = ds[i] :: ds.drop (i + 1) := List.drop_eq_getElem_cons hlt
    rw [hd] at f'
    obtain ⟨δ2, g2, f'⟩ := Option.bind_eq_some_iff.mp f'
    obtain ⟨⟨b, δ3⟩, p2, f'⟩ := Option.bind_eq_some_iff.mp f'
    refine ⟨fun H2 => ∃ Z2 acc2 vs2 δ2', Rep K Z2 H2 (wipe σ vs) δ2' ∧ Stp Z1 H1 (wipe σ vs) (wipeD δ1 vs) Z2 H2 (wipe σ vs) δ2' ∧ ¬ Z2 D0 ∧ ¬ Wr (wipe σ vs) δ2' D0 ∧ H2 D0 = some (.lst vs2) ∧ RA K Z2 H2 vs2 acc2 ∧ lcL vs G P E (ds.drop (i + 1)) acc2 δ2' = some (acc, δw), fun H2 h2 => ⟨ds.length - (i + 1), by omega, rfl, hlt, h2⟩, fun x H2 y => ?_⟩
    obtain ⟨Z2, gr, rx⟩ := w.yld Z' H' s'.zsub (s'.zh (rep_wipe r1 vs)) r'.trk i x H2 ds[i] (List.getElem?_eq_getElem hlt) y
    have r2 := gr.rep r'
    have s2 := s'.trans gr.stp
    have nz2 : ¬ Z2 D0 := fun z => by
      rcases gr.znew _ z with z | z
      · exact nz z
      · exact sn hD z
    refine ⟨Z2, δ', ds[i], δ2, r2, rx, g2, fun σ3 r3 s3 l3 k3 => ?_⟩
    have we : wipe σ3 vs = wipe σ vs := wipe_eq (l3.trans (wipe_length σ vs)) fun k hk => k3 k fun hm => hk (hj k hm)
    refine ⟨we, ?_⟩
    have hD2 : H2 D0 = some (.lst vs') := gr.keep _ _ hD
    have nw3 : ¬ Wr σ3 δ2 D0 := fun w => by
      rcases s3.own _ w with w | w
      · exact nw w
      · exact sn hD2 w
    have s23 := s2.trans s3
    refine ⟨Z2, δ2, b, δ3, r3, p2, fun Z4 H4 r4 s4 => ?_⟩
    have hD4 : H4 D0 = some (.lst vs') := s4.keep _ _ hD2 nw3
    have nz4 : ¬ Z4 D0 := fun z => by
      rcases s4.znew _ z with z | z | z
      · exact nz2 z
      · exact sn hD2 z
      · exact nw3 z
    have nw4 : ¬ Wr σ3 δ3 D0 := fun w => by
      rcases s4.own _ w with w | w
      · exact nw3 w
      · exact sn hD2 w
    have s24 := s23.trans s4
    have ra4 : RA K Z4 H4 vs' acc' := (gr.stp.trans s3 |>.trans s4).RA r' ra
    cases b with
    | false =>
      have f' : lcL vs G P E (ds.drop (i + 1)) acc' (wipeD δ3 vs) = some (acc, δw) := f'
      refine ⟨Z4, acc', vs', wipeD δ3 vs, by rw [← we]; exact rep_wipe r4 vs, by rw [← we]; rw [← we] at s24; exact stp_wipe s24 vs, nz4, fun w => nw4 (wr_of_wipe (by rw [we]; exact w)), hD4, ra4, f'⟩
    | true =>
      have f' : ((E δ3).bind fun q => q.1.st.bind fun y => if acc'.length ≤ 1000000 then lcL vs G P E (ds.drop (i + 1)) (acc' ++ [y]) (wipeD q.2 vs) else none) = some (acc, δw) := f'
      obtain ⟨⟨t5, δ5⟩, e5, f'⟩ := Option.bind_eq_some_iff.mp f'
      obtain ⟨dy, ey, f'⟩ := Option.bind_eq_some_iff.mp f'
      refine ⟨Z4, δ3, t5, δ5, r4, e5, fun v Z5 H5 r5 s5 v5 => ?_⟩
      obtain ⟨Z6, r6, s6, hz6, rv⟩ := v5.freeze r5 s5 ey
      have hD5 : H5 D0 = some (.lst vs') := s5.keep _ _ hD4 nw4
      have nz6 : ¬ Z6 D0 := fun z => by
        rcases s6.znew _ z with z | z | z
        · exact nz4 z
        · exact sn hD4 z
        · exact nw4 z
      have nw5 : ¬ Wr σ3 δ5 D0 := fun w => by
        rcases s6.own _ w with w | w
        · exact nw4 w
        · exact sn hD4 w
      have ra6 : RA K Z6 H5 vs' acc' := s6.RA r4 ra4
      have hh : ∀ a, Z6 a → upd H5 D0 (.lst (vs' ++ [v])) a = H5 a := fun a z => upd_ne (fun (e : a = D0) => nz6 (e ▸ z))
      by_cases hl : acc'.length ≤ 1000000
      · rw [if_pos hl] at f'
        refine ⟨vs', hD5, by rw [ra6.length]; exact line_lt hl, Z6, acc' ++ [dy], vs' ++ [v], wipeD δ5 vs, ?_, ?_, nz6, fun w => nw5 (wr_of_wipe (by rw [we]; exact w)), upd_same, (ra6.append (.cons rv .nil)).mono (fun _ h => h) hh, f'⟩
        · rw [← we]
          exact rep_upd (rep_wipe r6 vs) nz6 fun w => nw5 (wr_of_wipe w)
        · have s26 := s24.trans s6
          rw [← we]
          rw [← we] at s26
          exact stp_upd (stp_wipe s26 vs) nD
      · rw [if_neg hl] at f'
        cases f'
  · have hn : i = ds.length := by omega
    subst hn
    rw [List.drop_length] at f'
    cases f'
    refine .inl ⟨w.stop Z' H' s'.zsub (s'.zh (rep_wipe r1 vs)) r'.trk, ?_⟩
    obtain ⟨rb, sb, hw⟩ := rep_back r1 r' s'
    refine q (.ref D0) Z' H' rb (s1.trans sb) ⟨D0, vs', rfl, none_of_there s1.there nD, nz, fun w => ?_, hD, ra⟩
    rcases hw _ w with w | w
    · obtain ⟨o, e⟩ := r1.wsome w
      exact sn e nD
    · exact nw w
theorem ev_lc (hN : X.N.Nodup) (hc : X.calm = true) (ok : BlkOk X.N X.env.scope scope own) (hI : EvI X tg iter I)
    (hg : ∀ (s : Shared) (H : Hp) (C : Addr) (cl : List (Str × Addr)) (fp : List Addr), EvG (X.blk s H scope (compEnvC scope cl C X.env) fp) tg js G)
    (ht : ∀ (s : Shared) (H : Hp) (C : Addr) (cl : List (Str × Addr)) (fp : List Addr), EvC (X.blk s H scope (compEnvC scope cl C X.env) fp) ifs P)
    (he : ∀ (s : Shared) (H : Hp) (C : Addr) (cl : List (Str × Addr)) (fp : List Addr), Ev (X.blk s H scope (compEnvC scope cl C X.env) fp) elt E)
    (hj : ∀ j ∈ js, j ∈ own.map (·.2) := by decide) (hs : ∀ x, foldedSetIterable iter X.env x = pure x := by intro _; rfl) : Ev X (.ListComp elt [⟨tg, iter, ifs, 0⟩] scope pos) (fLc (own.map (·.2)) I G P E) :=
  ⟨_, pe_lc (wi := canI X.K I) (g := canG X.K js G) (tt := canT X.K P) (te := canE X.K E) hc hN hI.can ok (fun s H C cl fp => (hg s H C cl fp).can) (fun s H C cl fp => (ht s H C cl fp).can) (fun s H C cl fp => (he s H C cl fp).can) hs, sem_lc X.K _ hj⟩
/-- y = [..] on one line -/
theorem st_setLc (k : Bool) (i : Nat) {y : Str} {py spos : Pos} (hN : X.N.Nodup) (hc : X.calm = true) (ok : BlkOk X.N X.env.scope scope own) (hI : EvI X tg iter I)
    (hg : ∀ (s : Shared) (H : Hp) (C : Addr) (cl : List (Str × Addr)) (fp : List Addr), EvG (X.blk s H scope (compEnvC scope cl C X.env) fp) tg js G)
    (ht : ∀ (s : Shared) (H : Hp) (C : Addr) (cl : List (Str × Addr)) (fp : List Addr), EvC (X.blk s H scope (compEnvC scope cl C X.env) fp) ifs P)
    (he : ∀ (s : Shared) (H : Hp) (C : Addr) (cl : List (Str × Addr)) (fp : List Addr), Ev (X.blk s H scope (compEnvC scope cl C X.env) fp) elt E)
    (hsw : swapsWith (.ListComp elt [⟨tg, iter, ifs, 0⟩] scope pos) (some (.Name y py)) spos.line X.env = pure true) (hy : X.N[i]? = some y := by rfl) (hyl : X.env.scope.names.lookup y = some .local := by rfl)
    (hj : ∀ j ∈ js, j ∈ own.map (·.2) := by decide) (hs : ∀ x, foldedSetIterable iter X.env x = pure x := by intro _; rfl) (hk0 : k = true → i ≠ 0 := by decide) :
    St1 X (.Assign [.Name y py] (.ListComp elt [⟨tg, iter, ifs, 0⟩] scope pos) spos) (oSet k i (fLc (own.map (·.2)) I G P E)) := by
  refine ⟨_, ps_setLc (wi := canI X.K I) (g := canG X.K js G) (tt := canT X.K P) (te := canE X.K E) hc hN hy hyl hsw hI.can ok (fun s H C cl fp => (hg s H C cl fp).can) (fun s H C cl fp => (ht s H C cl fp).can) (fun s H C cl fp => (he s H C cl fp).can) hs, fun Z H σ δ o r e Dd p => ?_⟩
  obtain ⟨⟨t1, δ1⟩, e1, e⟩ := Option.bind_eq_some_iff.mp e
  obtain ⟨s, es, rfl⟩ := Option.map_eq_some_iff.mp e
  refine sem_lc X.K _ hj Z H σ δ t1 δ1 r e1 _ fun v Z1 H1 r1 s1 v1 => ?_
  obtain ⟨Z2, hz, r2, s2, _⟩ := store1 r1 s1 v1 es i hk0
  exact p Z2 H1 _ r2 s2
end

/-! ### {k: v for target in iter if ..} -/
def dcL (vs : List Nat) (G : GF) (P : M Bool) (A E : M T) : List D → List (Str × D) → Dn → Option (List (Str × D) × Dn)
  | [], acc, δ => some (acc, δ)
  | d :: ds, acc, δ => (G d δ).bind fun δ1 => (P δ1).bind fun p => if p.1 = true then (A p.2).bind fun k => (asS k.1).bind fun s => (E k.2).bind fun q => q.1.st.bind fun y => if acc.length ≤ 1000000 then dcL vs G P A E ds (dput acc s y) (wipeD q.2 vs) else none else dcL vs G P A E ds acc (wipeD p.2 vs)
@[simp] def fDc (vs : List Nat) (I : M (List D)) (G : GF) (P : M Bool) (A E : M T) : M T := fun δ => (I δ).bind fun p => (dcL vs G P A E p.1 [] (wipeD p.2 vs)).map fun q => (.nd q.1, rest p.2 q.2 vs)
theorem tv_str {K : PySem.W.Frag} {H0 H1 : Hp} {Z1 : Zp} {σ : L2.St} {δ : Dn} {t1 : T} {i : Str} {v : V} (e : asS t1 = some i) (h : TV K H0 Z1 H1 σ δ v t1) : v = .str i := by
  cases t1 with
  | fz d =>
    cases d with
    | str k =>
      cases e
      have h : R K Z1 H1 v (.str i) := h
      cases h
      rfl
    | _ => cases e
  | _ => cases e
section
variable {X : Cx} {kx elt tg iter : Expr} {ifs : List Expr} {scope : Scope} {own : List (Str × Nat)} {pos : Pos} {I : M (List D)} {G : GF} {P : M Bool} {A E : M T} {js : List Nat}
theorem sem_dc (K : PySem.W.Frag) (vs : List Nat) (hj : ∀ j ∈ js, j ∈ vs) : Sem1 K (tDc (canI K I) (canG K js G) (canT K P) (canE K A) (canE K E) vs) (fDc vs I G P A E) := by
  intro Z H σ δ t δ' r e Q q
  obtain ⟨⟨ds, δ1⟩, e1, e⟩ := Option.bind_eq_some_iff.mp e
  obtain ⟨⟨acc, δw⟩, e2, e⟩ := Option.map_eq_some_iff.mp e
  cases e
  refine ⟨Z, δ, ds, δ1, r, e1, fun J Z1 H1 r1 s1 w D0 nD => ?_⟩
  have gD : Grow Z1 H1 Z1 (upd H1 D0 (.dK [])) := Grow.new r1.trk nD
  refine ⟨fun i m H' => m = ds.length - i ∧ i ≤ ds.length ∧ ∃ Z' acc' vs' δ', Rep K Z' H' (wipe σ vs) δ' ∧ Stp Z1 H1 (wipe σ vs) (wipeD δ1 vs) Z' H' (wipe σ vs) δ' ∧ ¬ Z' D0 ∧ ¬ Wr (wipe σ vs) δ' D0 ∧ H' D0 = some (.dK vs') ∧ RK K Z' H' vs' acc' ∧ dcL vs G P A E (ds.drop i) acc' δ' = some (acc, δw),
    ⟨ds.length, by omega, by omega, Z1, [], [], wipeD δ1 vs, gD.rep (rep_wipe r1 vs), gD.stp, fun z => by
      obtain ⟨o, e⟩ := r1.trk _ z
      exact sn e nD, fun z => by
      obtain ⟨o, e⟩ := (rep_wipe r1 vs).wsome z
      exact sn e nD, upd_same, .nil, by simpa using e2⟩, ?_⟩
  rintro i m H' ⟨rfl, hi, Z', acc', vs', δ', r', s', nz, nw, hD, ra, f'⟩
  by_cases hlt : i < ds.length
  · refine .inr ⟨w.go Z' H' s'.zsub (s'.zh (rep_wipe r1 vs)) r'.trk i hlt, ?_⟩
    have hd : ds.drop i = ds[i] :: ds.drop (i + 1) := List.drop_eq_getElem_cons hlt
    rw [hd] at f'
    obtain ⟨δ2, g2, f'⟩ := Option.bind_eq_some_iff.mp f'
    obtain ⟨⟨b, δ3⟩, p2, f'⟩ := Option.bind_eq_some_iff.mp f'
    refine ⟨fun H2 => ∃ Z2 acc2 vs2 δ2', Rep K Z2 H2 (wipe σ vs) δ2' ∧ Stp Z1 H1 (wipe σ vs) (wipeD δ1 vs) Z2 H2 (wipe σ vs) δ2' ∧ ¬ Z2 D0 ∧ ¬ Wr (wipe σ vs) δ2' D0 ∧ H2 D0 = some (.dK vs2) ∧ RK K Z2 H2 vs2 acc2 ∧ dcL vs G P A E (ds.drop (i + 1)) acc2 δ2' = some (acc, δw), fun H2 h2 => ⟨ds.length - (i + 1), by omega, rfl, hlt, h2⟩, fun x H2 y => ?_⟩
    obtain ⟨Z2, gr, rx⟩ := w.yld Z' H' s'.zsub (s'.zh (rep_wipe r1 vs)) r'.trk i x H2 ds[i] (List.getElem?_eq_getElem hlt) y
    have r2 := gr.rep r'
    have s2 := s'.trans gr.stp
    have nz2 : ¬ Z2 D0 := fun z => by
      rcases gr.znew _ z with z | z
      · exact nz z
      · exact sn hD z
    refine ⟨Z2, δ', ds[i], δ2, r2, rx, g2, fun σ3 r3 s3 l3 k3 => ?_⟩
    have we : wipe σ3 vs = wipe σ vs := wipe_eq (l3.trans (wipe_length σ vs)) fun k hk => k3 k fun hm => hk (hj k hm)
    refine ⟨we, ?_⟩
    have hD2 : H2 D0 = some (.dK vs') := gr.keep _ _ hD
    have nw3 : ¬ Wr σ3 δ2 D0 := fun w => by
      rcases s3.own _ w with w | w
      · exact nw w
      · exact sn hD2 w
    have s23 := s2.trans s3
    refine ⟨Z2, δ2, b, δ3, r3, p2, fun Z4 H4 r4 s4 => ?_⟩
    have hD4 : H4 D0 = some (.dK vs') := s4.keep _ _ hD2 nw3
    have nz4 : ¬ Z4 D0 := fun z => by
      rcases s4.znew _ z with z | z | z
      · exact nz2 z
      · exact sn hD2 z
      · exact nw3 z
    have nw4 : ¬ Wr σ3 δ3 D0 := fun w => by
      rcases s4.own _ w with w | w
      · exact nw3 w
      · exact sn hD2 w
    have s24 := s23.trans s4
    have ra4 : RK K Z4 H4 vs' acc' := (gr.stp.trans s3 |>.trans s4).RK r' ra
    cases b with
    | false =>
      have f' : dcL vs G P A E (ds.drop (i + 1)) acc' (wipeD δ3 vs) = some (acc, δw) := f'
      refine ⟨Z4, acc', vs', wipeD δ3 vs, by rw [← we]; exact rep_wipe r4 vs, by rw [← we]; rw [← we] at s24; exact stp_wipe s24 vs, nz4, fun w => nw4 (wr_of_wipe (by rw [we]; exact w)), hD4, ra4, f'⟩
    | true =>
      have f' : ((A δ3).bind fun k => (asS k.1).bind fun s => (E k.2).bind fun q => q.1.st.bind fun y => if acc'.length ≤ 1000000 then dcL vs G P A E (ds.drop (i + 1)) (dput acc' s y) (wipeD q.2 vs) else none) = some (acc, δw) := f'
      obtain ⟨⟨tk, δk⟩, ek, f'⟩ := Option.bind_eq_some_iff.mp f'
      obtain ⟨ks, eks, f'⟩ := Option.bind_eq_some_iff.mp f'
      obtain ⟨⟨t5, δ5⟩, e5, f'⟩ := Option.bind_eq_some_iff.mp f'
      obtain ⟨dy, ey, f'⟩ := Option.bind_eq_some_iff.mp f'
      refine ⟨Z4, δ3, tk, δk, r4, ek, fun vk Zk Hk rk sk wk => ?_⟩
      cases tv_str eks wk
      refine ⟨Zk, δk, t5, δ5, rk, e5, fun v Z5 H5 r5 s5 v5 => ?_⟩
      obtain ⟨Z6, r6, s6, hz6, rv⟩ := v5.freeze r5 s5 ey
      have s46 := sk.trans s6
      have hD5 : H5 D0 = some (.dK vs') := s46.keep _ _ hD4 nw4
      have nz6 : ¬ Z6 D0 := fun z => by
        rcases s46.znew _ z with z | z | z
        · exact nz4 z
        · exact sn hD4 z
        · exact nw4 z
      have nw5 : ¬ Wr σ3 δ5 D0 := fun w => by
        rcases s46.own _ w with w | w
        · exact nw4 w
        · exact sn hD4 w
      have ra6 : RK K Z6 H5 vs' acc' := s46.RK r4 ra4
      have hh : ∀ a, Z6 a → upd H5 D0 (.dK (putK vs' (.inr ks) v)) a = H5 a := fun a z => upd_ne (fun (e : a = D0) => nz6 (e ▸ z))
      by_cases hl : acc'.length ≤ 1000000
      · rw [if_pos hl] at f'
        refine ⟨vs', .inr ks, rfl, hD5, by rw [ra6.length]; exact line_lt hl, Z6, dput acc' ks dy, _, wipeD δ5 vs, ?_, ?_, nz6, fun w => nw5 (wr_of_wipe (by rw [we]; exact w)), upd_same, (ra6.put rv).mono (fun _ h => h) hh, f'⟩
        · rw [← we]
          exact rep_upd (rep_wipe r6 vs) nz6 fun w => nw5 (wr_of_wipe w)
        · have s26 := s24.trans s46
          rw [← we]
          rw [← we] at s26
          exact stp_upd (stp_wipe s26 vs) nD
      · rw [if_neg hl] at f'
        cases f'
  · have hn : i = ds.length := by omega
    subst hn
    rw [List.drop_length] at f'
    cases f'
    refine .inl ⟨w.stop Z' H' s'.zsub (s'.zh (rep_wipe r1 vs)) r'.trk, ?_⟩
    obtain ⟨rb, sb, hw⟩ := rep_back r1 r' s'
    refine q (.ref D0) Z' H' rb (s1.trans sb) ⟨D0, vs', rfl, none_of_there s1.there nD, nz, fun w => ?_, hD, ra⟩
    rcases hw _ w with w | w
    · obtain ⟨o, e⟩ := r1.wsome w
      exact sn e nD
    · exact nw w
theorem ev_dc (hN : X.N.Nodup) (hc : X.calm = true) (ok : BlkOk X.N X.env.scope scope own) (hI : EvI X tg iter I)
    (hg : ∀ (s : Shared) (H : Hp) (C : Addr) (cl : List (Str × Addr)) (fp : List Addr), EvG (X.blk s H scope (compEnvC scope cl C X.env) fp) tg js G)
    (ht : ∀ (s : Shared) (H : Hp) (C : Addr) (cl : List (Str × Addr)) (fp : List Addr), EvC (X.blk s H scope (compEnvC scope cl C X.env) fp) ifs P)
    (hk : ∀ (s : Shared) (H : Hp) (C : Addr) (cl : List (Str × Addr)) (fp : List Addr), Ev (X.blk s H scope (compEnvC scope cl C X.env) fp) kx A)
    (he : ∀ (s : Shared) (H : Hp) (C : Addr) (cl : List (Str × Addr)) (fp : List Addr), Ev (X.blk s H scope (compEnvC scope cl C X.env) fp) elt E)
    (hj : ∀ j ∈ js, j ∈ own.map (·.2) := by decide) (hs : ∀ x, foldedSetIterable iter X.env x = pure x := by intro _; rfl) : Ev X (.DictComp kx elt [⟨tg, iter, ifs, 0⟩] scope pos) (fDc (own.map (·.2)) I G P A E) :=
  ⟨_, pe_dc (wi := canI X.K I) (g := canG X.K js G) (tt := canT X.K P) (tk := canE X.K A) (tv := canE X.K E) hc hN hI.can ok (fun s H C cl fp => (hg s H C cl fp).can) (fun s H C cl fp => (ht s H C cl fp).can) (fun s H C cl fp => (hk s H C cl fp).can) (fun s H C cl fp => (he s H C cl fp).can) hs, sem_dc X.K _ hj⟩
/-- y = {..} on one line -/
theorem ps_setDc {i : Nat} {y : Str} {py : Pos} {spos : Pos} {wi : TI} {g : TG} {tt : TT} {tk tv : TE} (hc : X.calm = true) (hN : X.N.Nodup) (hy : X.N[i]? = some y) (hyl : X.env.scope.names.lookup y = some .local)
    (hsw : swapsWith (.DictComp kx elt [⟨tg, iter, ifs, 0⟩] scope pos) (some (.Name y py)) spos.line X.env = pure true) (hi : PI X tg iter wi) (ok : BlkOk X.N X.env.scope scope own)
    (hg : ∀ (s : Shared) (H : Hp) (C : Addr) (cl : List (Str × Addr)) (fp : List Addr), PG (X.blk s H scope (compEnvC scope cl C X.env) fp) tg g) (ht : ∀ (s : Shared) (H : Hp) (C : Addr) (cl : List (Str × Addr)) (fp : List Addr), PTs (X.blk s H scope (compEnvC scope cl C X.env) fp) ifs tt)
    (hk : ∀ (s : Shared) (H : Hp) (C : Addr) (cl : List (Str × Addr)) (fp : List Addr), PE (X.blk s H scope (compEnvC scope cl C X.env) fp) kx tk)
    (he : ∀ (s : Shared) (H : Hp) (C : Addr) (cl : List (Str × Addr)) (fp : List Addr), PE (X.blk s H scope (compEnvC scope cl C X.env) fp) elt tv) (hs : ∀ x, foldedSetIterable iter X.env x = pure x := by intro _; rfl) :
    PS X (.Assign [.Name y py] (.DictComp kx elt [⟨tg, iter, ifs, 0⟩] scope pos) spos) (tAsg (tDc wi g tt tk tv (own.map (·.2))) (gName i)) := by
  refine ⟨fun pins s σ H D I h => ?_⟩
  rw [exec_Assign_Name_used _ _ _ _ hsw]
  refine wpAny_bind (wpAny_standAt (wpAny_bind ?_))
  show wpAny _ X.A (do let _ ← comprehension (.DictComp kx elt [⟨tg, iter, ifs, 0⟩] scope pos) scope X.env (firstIterPos [⟨tg, iter, ifs, 0⟩] pos) newDict false (eval iter X.env) (some (assign (.Name y py) X.env))) _ _ s
  have h : tDc wi g tt tk tv (own.map (·.2)) σ H (fun x H1 => gName i x σ H1 D.nx) := h
  refine wpAny_bind (thn (dc_core (Qf := fun _ s' => SP X pins D .next s') hc hN I hi ok hg ht hk he hs h fun L C s' m H' I' q hn f => ?_) fun _ s' hq => wpAny_pure (wpAny_pure hq))
  show wpAny _ _ (assign (.Name y py) X.env (.ref L)) _ _ _
  refine wpAny_assign_Name (store_ok2 (v := V.ref L) I' hN hy (.inl hyl) rfl (fun s2 I2 ⟨a, sb, ha⟩ => ?_) (.inr hyl))
  obtain ⟨f0, f1, f2, f3, f4, f5⟩ := f
  have haC : C ≠ a := by
    rcases ha with z | z
    · rw [z]; exact f1
    · exact fun e => f4 y a z e.symm
  refine ⟨m, hn.sameBut sb haC, fun h3 sb3 => ?_⟩
  exact ⟨_, H', I2.turned (t' := s2.toks) (fun b o hb e => (sb3.2 b hb).trans e) f0 f1 f3 f4 f5, q⟩
theorem st_setDc (k : Bool) (i : Nat) {y : Str} {py spos : Pos} (hN : X.N.Nodup) (hc : X.calm = true) (ok : BlkOk X.N X.env.scope scope own) (hI : EvI X tg iter I)
    (hg : ∀ (s : Shared) (H : Hp) (C : Addr) (cl : List (Str × Addr)) (fp : List Addr), EvG (X.blk s H scope (compEnvC scope cl C X.env) fp) tg js G)
    (ht : ∀ (s : Shared) (H : Hp) (C : Addr) (cl : List (Str × Addr)) (fp : List Addr), EvC (X.blk s H scope (compEnvC scope cl C X.env) fp) ifs P)
    (hk : ∀ (s : Shared) (H : Hp) (C : Addr) (cl : List (Str × Addr)) (fp : List Addr), Ev (X.blk s H scope (compEnvC scope cl C X.env) fp) kx A)
    (he : ∀ (s : Shared) (H : Hp) (C : Addr) (cl : List (Str × Addr)) (fp : List Addr), Ev (X.blk s H scope (compEnvC scope cl C X.env) fp) elt E)
    (hsw : swapsWith (.DictComp kx elt [⟨tg, iter, ifs, 0⟩] scope pos) (some (.Name y py)) spos.line X.env = pure true) (hy : X.N[i]? = some y := by rfl) (hyl : X.env.scope.names.lookup y = some .local := by rfl)
    (hj : ∀ j ∈ js, j ∈ own.map (·.2) := by decide) (hs : ∀ x, foldedSetIterable iter X.env x = pure x := by intro _; rfl) (hk0 : k = true → i ≠ 0 := by decide) :
    St1 X (.Assign [.Name y py] (.DictComp kx elt [⟨tg, iter, ifs, 0⟩] scope pos) spos) (oSet k i (fDc (own.map (·.2)) I G P A E)) := by
  refine ⟨_, ps_setDc (wi := canI X.K I) (g := canG X.K js G) (tt := canT X.K P) (tk := canE X.K A) (tv := canE X.K E) hc hN hy hyl hsw hI.can ok (fun s H C cl fp => (hg s H C cl fp).can) (fun s H C cl fp => (ht s H C cl fp).can) (fun s H C cl fp => (hk s H C cl fp).can) (fun s H C cl fp => (he s H C cl fp).can) hs, fun Z H σ δ o r e Dd p => ?_⟩
  obtain ⟨⟨t1, δ1⟩, e1, e⟩ := Option.bind_eq_some_iff.mp e
  obtain ⟨s, es, rfl⟩ := Option.map_eq_some_iff.mp e
  refine sem_dc X.K _ hj Z H σ δ t1 δ1 r e1 _ fun v Z1 H1 r1 s1 v1 => ?_
  obtain ⟨Z2, hz, r2, s2, _⟩ := store1 r1 s1 v1 es i hk0
  exact p Z2 H1 _ r2 s2
end
end DL
/-! DL8: two-clause comprehensions, walks over dicts, defs and their calls. -/
namespace DL
open PySem PySem.Spec PyProof.Rows L2

/-! ### a frozen dict is locked, and free again -/
def Chg (o o' : Option HO) : Prop := o' = o ∨ (∃ od ks, o = some (.dK ks) ∧ o' = some (.frz od (.dK ks))) ∨ ∃ od ks, o = some (.frz od (.dK ks)) ∧ o' = some (.dK ks)
theorem Chg.tup {o o' : Option HO} {xs : List V} (c : Chg o o') (h : o = some (.tup xs)) : o' = some (.tup xs) := by
  rcases c with c | ⟨od, ks, c, _⟩ | ⟨od, ks, c, _⟩
  · rw [c, h]
  · rw [h] at c; cases c
  · rw [h] at c; cases c
theorem Chg.lst {o o' : Option HO} {xs : List V} (c : Chg o o') (h : o = some (.lst xs)) : o' = some (.lst xs) := by
  rcases c with c | ⟨od, ks, c, _⟩ | ⟨od, ks, c, _⟩
  · rw [c, h]
  · rw [h] at c; cases c
  · rw [h] at c; cases c
theorem Chg.rdK {H H' : Hp} {a : Addr} {ks : List (Key × V)} (c : Chg (H a) (H' a)) (h : Rd H a (.dK ks)) : Rd H' a (.dK ks) := by
  rcases c with c | ⟨od, ks', c, c'⟩ | ⟨od, ks', c, c'⟩
  · exact rd_mono c h
  · rcases h with h | ⟨o, h⟩
    · rw [h] at c; cases c; exact .inr ⟨od, c'⟩
    · rw [h] at c; cases c
  · rcases h with h | ⟨o, h⟩
    · rw [h] at c; cases c
    · rw [h] at c; cases c; exact .inl c'
theorem Chg.rdL {H H' : Hp} {a : Addr} {xs : List V} (c : Chg (H a) (H' a)) (h : Rd H a (.lst xs)) : Rd H' a (.lst xs) := by
  rcases c with c | ⟨od, ks', c, c'⟩ | ⟨od, ks', c, c'⟩
  · exact rd_mono c h
  · rcases h with h | ⟨o, h⟩
    · rw [h] at c; cases c
    · rw [h] at c; cases c
  · rcases h with h | ⟨o, h⟩
    · rw [h] at c; cases c
    · rw [h] at c; cases c
section
variable {K : PySem.W.Frag} {Z Z' : Zp} {H H' H0 : Hp} {σ : L2.St} {δ : Dn} {a d0 : Addr} {o1 o2 : HO}
mutual
theorem R.chg (hh : ∀ a, Z a → Chg (H a) (H' a)) {v : V} {d : D} : R K Z H v d → R K Z H' v d
  | .non => .non
  | .bl b => .bl b
  | .int i => .int i
  | .str x => .str x
  | .tup z e r => .tup z ((hh _ z).tup e) (RA.chg hh r)
  | .ktup e r => .ktup e (RA.chg hh r)
  | .lst z e r => .lst z ((hh _ z).lst e) (RA.chg hh r)
  | .dic z e r => .dic z ((hh _ z).rdK e) (RK.chg hh r)
  | .scr z e => .scr z ((hh _ z).rdL e)
  | .kscr e => .kscr e
theorem RA.chg (hh : ∀ a, Z a → Chg (H a) (H' a)) {vs : List V} {ds : List D} : RA K Z H vs ds → RA K Z H' vs ds
  | .nil => .nil
  | .cons r t => .cons (R.chg hh r) (RA.chg hh t)
theorem RK.chg (hh : ∀ a, Z a → Chg (H a) (H' a)) {vs : List (Key × V)} {ds : List (Str × D)} : RK K Z H vs ds → RK K Z H' vs ds
  | .nil => .nil
  | .cons r t => .cons (R.chg hh r) (RK.chg hh t)
end
theorem chg_upd (h : H d0 = some o1) (c : Chg (some o1) (some o2)) : ∀ a, Chg (H a) (upd H d0 o2 a) := fun a => by
  by_cases e : a = d0
  · subst e; rw [upd_same, h]; exact c
  · rw [upd_ne e]; exact .inl rfl
theorem rep_chg (r : Rep K Z H σ δ) (zd : Z d0) (h : H d0 = some o1) (c : Chg (some o1) (some o2)) : Rep K Z (upd H d0 o2) σ δ := by
  have cc : ∀ a, Z a → Chg (H a) (upd H d0 o2 a) := fun a _ => chg_upd h c a
  refine ⟨r.len, fun a z => ?_, fun i s e ne => ?_, r.sep⟩
  · by_cases e : a = d0
    · subst e; exact ⟨o2, upd_same⟩
    · rw [upd_ne e]; exact r.trk a z
  · obtain ⟨v, ev, w⟩ := r.at_ i s e ne
    refine ⟨v, ev, ?_⟩
    cases s with
    | un => exact True.intro
    | fz d => exact DL.R.chg cc w
    | ow ds =>
      obtain ⟨p, xs, rfl, n, hp, ra⟩ := w
      exact ⟨p, xs, rfl, n, (upd_ne (fun (z : p = d0) => n (z ▸ zd))).trans hp, ra.chg cc⟩
    | od ds =>
      obtain ⟨p, xs, rfl, n, hp, ra⟩ := w
      exact ⟨p, xs, rfl, n, (upd_ne (fun (z : p = d0) => n (z ▸ zd))).trans hp, ra.chg cc⟩
theorem tv_chg {v : V} {t : T} (q : TV K H0 Z H σ δ v t) (zd : Z d0) (h : H d0 = some o1) (c : Chg (some o1) (some o2)) : TV K H0 Z (upd H d0 o2) σ δ v t := by
  have cc : ∀ a, Z a → Chg (H a) (upd H d0 o2 a) := fun a _ => chg_upd h c a
  cases t with
  | fz d => exact DL.R.chg cc q
  | al i => exact q
  | nw ds =>
    obtain ⟨p, xs, rfl, n0, nz, nw, e, ra⟩ := q
    exact ⟨p, xs, rfl, n0, nz, nw, (upd_ne (fun (z : p = d0) => nz (z ▸ zd))).trans e, ra.chg cc⟩
  | nd ds =>
    obtain ⟨p, xs, rfl, n0, nz, nw, e, ra⟩ := q
    exact ⟨p, xs, rfl, n0, nz, nw, (upd_ne (fun (z : p = d0) => nz (z ▸ zd))).trans e, ra.chg cc⟩
end

section
variable {X : Cx} {rest b1 b2 body : List Stmt} {F B : MS} {e a b c tg iter : Expr} {es : List Expr} {A : M T} {P : M Bool} {pos pos' : Pos} {I : M (List D)} {G : GF}
/-- the heart of a for -/
theorem for_core {K : PySem.W.Frag} {wi : TI} {g : TG} {tb : TS} {Z : Zp} {H : Hp} {σ : L2.St} {δ δ1 : Dn} {ds : List D} {o : Out} {Dd : Ends}
    (si : ∀ RR : It → Hp → Prop, (∀ J Z' H', Rep K Z' H' σ δ1 → Stp Z H σ δ Z' H' σ δ1 → Wlk K J Z' H' ds → RR J H') → wi σ H RR)
    (sg : ∀ Z H σ δ d δ' v, Rep K Z H σ δ → R K Z H v d → G d δ = some δ' → ∀ Q : L2.St → Hp → Prop, (∀ Z' H' σ', Rep K Z' H' σ' δ' → Stp Z H σ δ Z' H' σ' δ' → Q σ' H') → g v σ H Q)
    (sb : SemO K tb F) (e : forL G F ds δ1 = some o) (post : Post K Dd Z H σ δ o) : tFor wi g tb Dd σ H := by
  refine si _ fun J Z1 H1 r1 s1 w => ?_
  refine ⟨fun i m σ' H' => m = ds.length - i ∧ i ≤ ds.length ∧ ∃ Z' δ', Rep K Z' H' σ' δ' ∧ Stp Z1 H1 σ δ1 Z' H' σ' δ' ∧ forL G F (ds.drop i) δ' = some o, ⟨ds.length, by omega, by omega, Z1, δ1, r1, .refl, by simpa using e⟩, ?_⟩
  rintro i m σ' H' ⟨rfl, hi, Z', δ', r', s', f'⟩
  have post' := (post.from s1).from s'
  by_cases hlt : i < ds.length
  · refine .inr ⟨w.go Z' H' s'.zsub (s'.zh r1) r'.trk i hlt, ?_⟩
    have hd : ds.drop i = ds[i] :: ds.drop (i + 1) := List.drop_eq_getElem_cons hlt
    rw [hd] at f'
    obtain ⟨δ2, g2, f'⟩ := Option.bind_eq_some_iff.mp f'
    obtain ⟨o2, b2, f'⟩ := Option.bind_eq_some_iff.mp f'
    refine ⟨fun σ2 H2 => ∃ Z2 δ3, (o2 = .nx δ3 ∨ o2 = .ct δ3) ∧ Rep K Z2 H2 σ2 δ3 ∧ Stp Z1 H1 σ δ1 Z2 H2 σ2 δ3 , fun σ2 H2 ⟨Z2, δ3, ho, r3, s3⟩ => ?_, fun x H2 y => ?_⟩
    · refine ⟨ds.length - (i + 1), by omega, rfl, hlt, Z2, δ3, r3, s3, ?_⟩
      rcases ho with rfl | rfl
      · exact f'
      · exact f'
    · obtain ⟨Z2, gr, rx⟩ := w.yld Z' H' s'.zsub (s'.zh r1) r'.trk i x H2 ds[i] (List.getElem?_eq_getElem hlt) y
      refine sg Z2 H2 σ' δ' ds[i] δ2 x (gr.rep r') rx g2 _ fun Z3 H3 σ3 r3 s3 => ?_
      have s13 := (s'.trans gr.stp).trans s3
      refine sb Z3 H3 σ3 δ2 o2 r3 b2 _ ?_
      cases o2 with
      | nx δ3 => exact fun Z4 H4 σ4 r4 s4 => ⟨Z4, δ3, .inl rfl, r4, s13.trans s4⟩
      | ct δ3 => exact fun Z4 H4 σ4 r4 s4 => ⟨Z4, δ3, .inr rfl, r4, s13.trans s4⟩
      | bk δ3 =>
        cases f'
        exact fun Z4 H4 σ4 r4 s4 => post' Z4 H4 σ4 r4 ((gr.stp.trans s3).trans s4)
      | rt t δ3 =>
        cases f'
        exact post'.from (gr.stp.trans s3)
  · have hn : i = ds.length := by omega
    subst hn
    rw [List.drop_length] at f'
    cases f'
    exact .inl ⟨w.stop Z' H' s'.zsub (s'.zh r1) r'.trk, post' Z' H' σ' r' .refl⟩
theorem ps_or {st : Stmt} {t u : TS} (h1 : PS X st t) (h2 : PS X st u) : PS X st fun D σ H => t D σ H ∨ u D σ H :=
  ⟨fun pins s σ H D I h => h.elim (h1.run pins s σ H D I) (h2.run pins s σ H D I)⟩
/-- the keys of a dict -/
def keysD : D → Option (List D)
  | .dict l => (asDict l).map fun r => r.map fun p => .str p.1
  | _ => none
@[simp] theorem keysD_dict (kvs : List (Str × D)) : keysD (dictD kvs) = some (kvs.map fun p => .str p.1) := by
  unfold keysD dictD
  show (asDict (kvs.map fun p => (.str p.1, p.2))).map _ = _
  rw [asDict_map]
  rfl
theorem RK.keys {K : PySem.W.Frag} {Z : Zp} {H : Hp} : ∀ {ks : List (Key × V)} {kvs : List (Str × D)}, RK K Z H ks kvs → ∀ {i : Nat} {k : Key} {v : V} {d : D}, ks[i]? = some (k, v) → (kvs.map fun p => (PyData.str p.1))[i]? = some d → R K Z H (kV k) d
  | _, _, .nil, _, _, _, _, e, _ => by simp at e
  | _, _, .cons r t, 0, k, v, d, e, e2 => by
    simp at e e2
    obtain ⟨rfl, rfl⟩ := e
    subst e2
    exact .str _
  | _, _, .cons r t, i + 1, k, v, d, e, e2 => RK.keys t (by simpa using e) (by simpa using e2)
theorem wlk_keys {K : PySem.W.Frag} {Z : Zp} {H : Hp} {d0 : Addr} {od : Obj} {ks : List (Key × V)} {kvs : List (Str × D)} (z : Z d0) (h : H d0 = some (.frz od (.dK ks))) (r : RK K Z H ks kvs) : Wlk K (Itk d0 od ks) Z H (kvs.map fun p => .str p.1) where
  go := fun Z2 H2 hz hh t i hi => ⟨(hh _ z).trans h, by rw [r.length]; simpa using hi⟩
  stop := fun Z2 H2 hz hh t => ⟨(hh _ z).trans h, by rw [r.length, List.length_map]; exact Nat.le_refl _⟩
  yld := fun Z2 H2 hz hh t i x H3 d e y => by
    obtain ⟨rfl, k, v, ek, rfl⟩ := y
    exact ⟨Z2, .refl t, ((r.mono hz hh).keys ek e)⟩
@[simp] def oForK (i : Nat) (G : GF) (B : MS) : MS := fun δ => match δ[i]? with
  | some (.fz d) => (keysD d).bind fun ds => forL G B ds δ
  | _ => none
theorem keysD_ok {d : D} {ds : List D} (e : keysD d = some ds) : ∃ kvs, d = dictD kvs ∧ ds = kvs.map fun p => .str p.1 := by
  cases d with
  | dict l =>
    obtain ⟨r, e1, rfl⟩ := Option.map_eq_some_iff.mp e
    exact ⟨r, asDict_ok e1, rfl⟩
  | _ => cases e
theorem st_forK (i : Nat) {x : Str} {px : Pos} (hp : PassesOwn (model X.prog X.w) X.A X.env X.xe) (hc : X.calm = true) (hg : EvH X tg G) (hb : Sts X body F)
    (hi : X.N[i]? = some x := by rfl) (hv : Vis X.env.scope x := by first | exact Or.inl rfl | exact Or.inr (Or.inl rfl) | exact Or.inr (Or.inr rfl)) (hd : (x == ("__debug__" : Str)) = false := by decide) (hcd : (x == ("__classdict__" : Str)) = false := by decide)
    (hs : ∀ y, foldedSetIterable (.Name x px) X.env y = pure y := by intro _; rfl) : St1 X (.For tg (.Name x px) body [] pos) (oForK i G F) := by
  obtain ⟨g, pg, sg⟩ := hg
  obtain ⟨tb, pb, sb⟩ := hb
  have pf := ps_for (pos := pos) hp hc (pi_keys (tg := tg) (pe_var (i := i) (pos := px) hi hv hd hcd)) pg pb hs
  refine ⟨_, ps_or (ps_lock pf) pf, fun Z H σ δ o r e Dd post => ?_⟩
  unfold oForK at e
  split at e
  · rename_i d es
    obtain ⟨ds, ek, e⟩ := Option.bind_eq_some_iff.mp e
    obtain ⟨kvs, rfl, rfl⟩ := keysD_ok ek
    obtain ⟨v, ev, rv⟩ := r.at_ i _ es (fun z => nomatch z)
    have rv : R X.K Z H v (dictD kvs) := rv
    have zz : ∃ d0 ks, v = .ref d0 ∧ Z d0 ∧ Rd H d0 (.dK ks) ∧ RK X.K Z H ks kvs := by
      unfold dictD at rv
      generalize eq : PyData.dict (kvs.map fun p => ((.str p.1 : D), p.2)) = d at rv
      cases rv with
      | dic z e1 r =>
        have e' := PyData.dict.inj eq
        cases dictD_inj e'
        exact ⟨_, _, rfl, z, e1, r⟩
      | scr z e1 => exact (dictD_scr (PyData.dict.inj eq)).elim
      | kscr e1 => exact (dictD_scr (PyData.dict.inj eq)).elim
      | _ => cases eq
    obtain ⟨d0, ks, rfl, z, rd, rk⟩ := zz
    rcases rd with hd0 | ⟨od, hd0⟩
    · -- not locked: it is locked for the loop
      refine .inl ⟨d0, .dK ks, hd0, True.intro, fun od => ?_⟩
      have c1 : Chg (some (.dK ks)) (some (.frz od (.dK ks))) := .inr (.inl ⟨od, ks, rfl, rfl⟩)
      have c2 : Chg (some (.frz od (.dK ks))) (some (.dK ks)) := .inr (.inr ⟨od, ks, rfl, rfl⟩)
      have r1 := rep_chg r z hd0 c1
      have rk1 : RK X.K Z (upd H d0 (.frz od (.dK ks))) ks kvs := rk.chg fun a _ => chg_upd hd0 c1 a
      -- from the locked heap's steps to the free one's
      have back : ∀ {Z' H' σ' δ'}, Stp Z (upd H d0 (.frz od (.dK ks))) σ δ Z' H' σ' δ' → Rep X.K Z' H' σ' δ' → H' d0 = some (.frz od (.dK ks)) ∧ Rep X.K Z' (upd H' d0 (.dK ks)) σ' δ' ∧ Stp Z H σ δ Z' (upd H' d0 (.dK ks)) σ' δ' := fun {Z' H' σ' δ'} s r' => by
        have h1 : H' d0 = some (.frz od (.dK ks)) := (s.zh r1 d0 z).trans upd_same
        refine ⟨h1, rep_chg r' (s.zsub _ z) h1 c2, ⟨s.zsub, fun a za => ?_, fun a o ea nw => ?_, fun a o ea => ?_, fun a w => ?_, s.pin⟩⟩
        · rcases s.znew a za with q | q | q
          · exact .inl q
          · by_cases ha : a = d0
            · subst ha; exact .inl z
            · rw [upd_ne ha] at q; exact .inr (.inl q)
          · exact .inr (.inr q)
        · by_cases ha : a = d0
          · subst ha; rw [upd_same]; rw [hd0] at ea; exact ea
          · rw [upd_ne ha]; exact s.keep a o (by rw [upd_ne ha]; exact ea) nw
        · by_cases ha : a = d0
          · subst ha; exact ⟨_, upd_same⟩
          · obtain ⟨o', e'⟩ := s.there a o (by rw [upd_ne ha]; exact ea)
            exact ⟨o', by rw [upd_ne ha]; exact e'⟩
        · rcases s.own a w with q | q
          · exact .inl q
          · by_cases ha : a = d0
            · subst ha; rw [upd_same] at q; cases q
            · rw [upd_ne ha] at q; exact .inr q
      refine for_core (δ := δ) (δ1 := δ) (Z := Z) (fun RR q => ⟨.ref d0, ev, d0, od, rfl, .inl ⟨ks, upd_same, q _ Z _ r1 .refl (wlk_keys z upd_same rk1)⟩⟩) sg sb e ?_
      cases o with
      | nx δ' => exact fun Z' H' σ' r' s' => let ⟨h1, h2, h3⟩ := back s' r'; ⟨h1, post Z' _ σ' h2 h3⟩
      | bk δ' => exact fun Z' H' σ' r' s' => let ⟨h1, h2, h3⟩ := back s' r'; ⟨h1, post Z' _ σ' h2 h3⟩
      | ct δ' => exact fun Z' H' σ' r' s' => let ⟨h1, h2, h3⟩ := back s' r'; ⟨h1, post Z' _ σ' h2 h3⟩
      | rt t δ' =>
        refine fun v Z' H' σ' r' s' w => ?_
        obtain ⟨h1, h2, h3⟩ := back s' r'
        refine ⟨h1, post v Z' _ σ' h2 h3 ?_⟩
        have w' : TV X.K H Z' H' σ' δ' v t := w.early fun a o ea => by
          by_cases ha : a = d0
          · subst ha; exact ⟨_, upd_same⟩
          · exact ⟨o, by rw [upd_ne ha]; exact ea⟩
        exact tv_chg w' (s'.zsub _ z) h1 c2
    · exact .inr (for_core (δ := δ) (δ1 := δ) (Z := Z) (fun RR q => ⟨.ref d0, ev, d0, od, rfl, .inl ⟨ks, hd0, q _ Z _ r .refl (wlk_keys z hd0 rk)⟩⟩) sg sb e post)
  · cases e

/-! ### defs and their calls -/
/-- a def of kept data -/
def spG (K : PySem.W.Frag) (F : List D → Option T) : Sp := fun vs H Q _ => ∃ Z ds t, Trk Z H ∧ RA K Z H vs ds ∧ F ds = some t ∧ ∀ v Z' H', Grow Z H Z' H' → RT K H Z' H' v t → Q v H'
/-- a def whose first argument is an owned list, which it changes -/
def spW (K : PySem.W.Frag) (F : List D → List D → Option (T × List D)) : Sp := fun vs H Q _ => ∃ Z p xs ws vs' ds t ws', vs = .ref p :: vs' ∧ Trk Z H ∧ ¬ Z p ∧ H p = some (.lst xs) ∧ RA K Z H xs ws ∧ RA K Z H vs' ds ∧ F ws ds = some (t, ws') ∧
  ∀ v Z' H' xs', (∀ a, Z a → Z' a) → (∀ a, Z' a → Z a ∨ H a = none) → (∀ a o, H a = some o → a ≠ p → H' a = some o) → Trk Z' H' → ¬ Z' p → H' p = some (.lst xs') → RA K Z' H' xs' ws' → RT K H Z' H' v t → (∀ q, v = .ref q → t.new = true → q ≠ p) → Q v H'
/-- what is known of a def of the module -/
structure Fn (P : Program) (w : World) (K : PySem.W.Frag) (mg : Str → Option Value) (base : Heap) (k : Nat) (x : Str) (sp : Sp) : Prop where
  ex : ∃ f fd ps, mg x = some (.ref f) ∧ FnOk P w K mg base CX0 k f fd ps sp ∧ PySem.W.keepIn K (.ref f) = true ∧ Binds K fd ps []
theorem ev_call {k k' : Nat} {x : Str} {g : List D → Option T} {As : M (List D)} {p : Pos} (h : Fn X.prog X.w X.K X.mg X.base k x (spG X.K g)) (hr : Room k' X.A) (ha : EvS X (e :: es) As) (hk : k ≤ k' := by first | decide | omega) (hg : Gl X x := by rfl) (hdb : (x == ("__debug__" : Str)) = false := by decide)
    (he : starEach (e :: es) X.env = (false, eval e X.env) :: starEach es X.env := by rfl) (hpl : (backTo pos (starEach es X.env)).any (·.1) = false := by rfl) : Ev X (.Call (.Name x p) (e :: es) [] pos) (fF g As) := by
  obtain ⟨f, fd, ps, hm, ok, kp, hb⟩ := h.ex
  obtain ⟨t, pa, sa⟩ := ha
  refine ⟨_, pe_call ok (hr.mono hk) hg hm kp hb .nil pass0 pa hdb he hpl, fun Z H σ δ t δ' r e Q q => ?_⟩
  obtain ⟨⟨ds, δ1⟩, e1, e⟩ := Option.bind_eq_some_iff.mp e
  obtain ⟨t3, eg, e⟩ := Option.map_eq_some_iff.mp e
  cases e
  refine sa Z H σ δ ds _ r e1 _ fun vs Z1 H1 r1 s1 v1 => ?_
  refine ⟨Z1, ds, t, r1.trk, by rw [List.append_nil]; exact v1, eg, fun v Z2 H2 g2 w2 => ?_⟩
  exact q v Z2 H2 (g2.rep r1) (s1.trans g2.stp) (w2.tv r1 s1.there)
@[simp] def fW (i : Nat) (g : List D → List D → Option (T × List D)) (As : M (List D)) : M T := fun δ => match δ[i]? with
  | some (.ow _) => (As δ).bind fun q => match q.2[i]? with
    | some (.ow ws) => (g ws q.1).map fun r => (r.1, q.2.set i (.ow r.2))
    | _ => none
  | _ => none
theorem wr_same {σ : L2.St} {δ : Dn} {i : Nat} {ws ws' : List D} {a : Addr} (es : δ[i]? = some (.ow ws)) (w : Wr σ (δ.set i (.ow ws')) a) : Wr σ δ a := by
  obtain ⟨j, t, e, h, g⟩ := w
  by_cases hj : i = j
  · subst hj
    exact ⟨i, _, es, rfl, g⟩
  · rw [List.getElem?_set_ne hj] at e
    exact ⟨j, t, e, h, g⟩
/-- behind a call that changed the owned list of slot i -/
theorem call_w {K : PySem.W.Frag} {Z Z' : Zp} {H H' : Hp} {σ : L2.St} {δ : Dn} {i : Nat} {p : Addr} {ws ws' : List D} {xs' : List V} {v : V} {t : T} (r : Rep K Z H σ δ) (es : δ[i]? = some (.ow ws)) (ev : σ[i]? = some (some (.ref p)))
    (hz : ∀ a, Z a → Z' a) (zn : ∀ a, Z' a → Z a ∨ H a = none) (kp : ∀ a o, H a = some o → a ≠ p → H' a = some o) (tk : Trk Z' H') (nz : ¬ Z' p) (hp : H' p = some (.lst xs')) (ra : RA K Z' H' xs' ws') (w : RT K H Z' H' v t) :
    Rep K Z' H' σ (δ.set i (.ow ws')) ∧ Stp Z H σ δ Z' H' σ (δ.set i (.ow ws')) := by
  have il : i < δ.length := (List.getElem?_eq_some_iff.mp es).1
  have hw : Wr σ δ p := ⟨i, _, es, rfl, ev⟩
  have zh : ∀ a, Z a → H' a = H a := fun a z => by
    obtain ⟨o, e⟩ := r.trk a z
    rw [e]
    exact kp a o e fun h => nz (hz p (h ▸ z))
  have back : ∀ {j : Nat} {t : Sl}, (δ.set i (.ow ws'))[j]? = some t → t.own = true → ∃ t', δ[j]? = some t' ∧ t'.own = true := fun {j t} e h => by
    by_cases hj : i = j
    · subst hj; exact ⟨_, es, rfl⟩
    · rw [List.getElem?_set_ne hj] at e; exact ⟨t, e, h⟩
  refine ⟨⟨by rw [List.length_set]; exact r.len, tk, fun j s e ne => ?_, fun j k t u q hjk e1 e2 h1 h2 g1 g2 => ?_⟩, ⟨hz, fun a z => ?_, fun a o e nw => kp a o e fun h => nw (h ▸ hw), fun a o e => ?_, fun a w => ?_, fun t e h => ⟨rfl, back e h⟩⟩⟩
  · by_cases hj : i = j
    · subst hj
      rw [List.getElem?_set_self il] at e
      cases e
      exact ⟨_, ev, p, xs', rfl, nz, hp, ra⟩
    · rw [List.getElem?_set_ne hj] at e
      obtain ⟨v, e2, w⟩ := r.at_ j s e ne
      refine ⟨v, e2, ?_⟩
      have np : ∀ b, s.own = true → v = .ref b → b ≠ p := fun b ht eb z => by
        subst eb z
        exact r.sep i j _ s b hj es e rfl ht ev e2
      have zb : ∀ b o, H b = some o → ¬ Z b → ¬ Z' b := fun b o e n z => by
        rcases zn b z with z | z
        · exact n z
        · exact sn e z
      cases s with
      | un => exact True.intro
      | fz d => exact DL.R.mono hz zh w
      | ow ds =>
        obtain ⟨b, xs, rfl, nb, hb, ra⟩ := w
        exact ⟨b, xs, rfl, zb b _ hb nb, kp b _ hb (np b rfl rfl), ra.mono hz zh⟩
      | od ds =>
        obtain ⟨b, xs, rfl, nb, hb, ra⟩ := w
        exact ⟨b, xs, rfl, zb b _ hb nb, kp b _ hb (np b rfl rfl), ra.mono hz zh⟩
  · obtain ⟨t', f1, f2⟩ := back e1 h1
    obtain ⟨u', f3, f4⟩ := back e2 h2
    exact r.sep j k t' u' q hjk f1 f3 f2 f4 g1 g2
  · rcases zn a z with z | z
    · exact .inl z
    · exact .inr (.inl z)
  · by_cases h : a = p
    · subst h; exact ⟨_, hp⟩
    · exact ⟨o, kp a o e h⟩
  · obtain ⟨j, t, e, h, g⟩ := w
    obtain ⟨t', f1, f2⟩ := back e h
    exact .inl ⟨j, t', f1, f2, g⟩
theorem ev_callW (i : Nat) {k k' : Nat} {x y : Str} {g : List D → List D → Option (T × List D)} {As : M (List D)} {p py : Pos} (h : Fn X.prog X.w X.K X.mg X.base k x (spW X.K g)) (hr : Room k' X.A) (ha : EvS X es As) (hk : k ≤ k' := by first | decide | omega) (hg : Gl X x := by rfl) (hdb : (x == ("__debug__" : Str)) = false := by decide)
    (hi : X.N[i]? = some y := by rfl) (hv : Vis X.env.scope y := by first | exact Or.inl rfl | exact Or.inr (Or.inl rfl) | exact Or.inr (Or.inr rfl)) (hd : (y == ("__debug__" : Str)) = false := by decide) (hcd : (y == ("__classdict__" : Str)) = false := by decide)
    (he : starEach (.Name y py :: es) X.env = (false, eval (.Name y py) X.env) :: starEach es X.env := by rfl) (hpl : (backTo pos (starEach es X.env)).any (·.1) = false := by rfl) : Ev X (.Call (.Name x p) (.Name y py :: es) [] pos) (fW i g As) := by
  obtain ⟨f, fd, ps, hm, ok, kp, hb⟩ := h.ex
  obtain ⟨t, pa, sa⟩ := ha
  refine ⟨_, pe_call ok (hr.mono hk) hg hm kp hb .nil pass0 (pa_cons (pe_var hi hv hd hcd) pa he) hdb he hpl, fun Z H σ δ t δ' r e Q q => ?_⟩
  unfold fW at e
  split at e
  · rename_i ws0 es0
    obtain ⟨⟨ds, δ1⟩, e1, e⟩ := Option.bind_eq_some_iff.mp e
    obtain ⟨p0, xs0, ev0, nz0, hp0, ra0⟩ := own_lst r es0
    refine ⟨_, ev0, sa Z H σ δ ds δ1 r e1 _ fun vs Z1 H1 r1 s1 v1 => ?_⟩
    split at e
    · rename_i ws es
      obtain ⟨⟨t3, ws'⟩, eg, e⟩ := Option.map_eq_some_iff.mp e
      cases e
      obtain ⟨p, xs, ev, nz, hp, ra⟩ := own_lst r1 es
      rw [ev] at ev0
      cases ev0
      refine ⟨Z1, p0, xs, ws, vs, ds, t3, ws', by rw [List.append_nil], r1.trk, nz, hp, ra, v1, eg, fun v Z2 H2 xs' hz zn kp tk nz2 hp2 ra2 w2 ne2 => ?_⟩
      obtain ⟨r2, s2⟩ := call_w r1 es ev hz zn kp tk nz2 hp2 ra2 w2
      exact q v Z2 H2 r2 (s1.trans s2) (by
        have nwr : ∀ b, H1 b = none → ¬ Wr σ (δ1.set i (.ow ws')) b := fun b nb w0 => by
          rcases s2.own b w0 with w | w
          · obtain ⟨o, e⟩ := r1.wsome w
            exact sn e nb
          · obtain ⟨o, e⟩ := r1.wsome (wr_same es w0)
            exact sn e nb
        cases t3 with
        | fz d => exact w2
        | al j => exact w2.elim
        | nw ds =>
          obtain ⟨b, ys, rfl, n0, nz, e, ra⟩ := w2
          exact ⟨b, ys, rfl, none_of_there s1.there n0, nz, nwr b n0, e, ra⟩
        | nd ds =>
          obtain ⟨b, ys, rfl, n0, nz, e, ra⟩ := w2
          exact ⟨b, ys, rfl, none_of_there s1.there n0, nz, nwr b n0, e, ra⟩)
    · cases e
  · cases e
end

/-! ### a def's body -/
def fin (t : T) (δ : Dn) : Option T := match t with
  | .al i => match δ[i]? with
    | some (.ow ds) => some (.nw ds)
    | some (.od kvs) => some (.nd kvs)
    | some (.fz d) => some (.fz d)
    | _ => none
  | t => some t
@[simp] theorem fin_fz (d : D) (δ : Dn) : fin (.fz d) δ = some (.fz d) := rfl
@[simp] theorem fin_nw (d : List D) (δ : Dn) : fin (.nw d) δ = some (.nw d) := rfl
@[simp] theorem fin_nd (d : List (Str × D)) (δ : Dn) : fin (.nd d) δ = some (.nd d) := rfl
/-- what a def of n parameters and m slots computes -/
def fnF (n m : Nat) (B : MS) : List D → Option T := fun ds => if ds.length = n then (B (ds.map .fz ++ List.replicate (m - n) .un)).bind fun o => match o with
  | .rt t δ => fin t δ
  | .nx _ => some (.fz .none)
  | _ => none else none
def fnW (n m : Nat) (B : MS) : List D → List D → Option (T × List D) := fun ws ds => if ds.length + 1 = n then (B (.ow ws :: ds.map .fz ++ List.replicate (m - n) .un)).bind fun o => match o with
  | .rt (.al i) δ => if i = 0 then none else (fin (.al i) δ).bind fun t => match δ[0]? with
    | some (Sl.ow ws') => some (t, ws')
    | _ => none
  | .rt t δ => match δ[0]? with
    | some (Sl.ow ws') => some (t, ws')
    | _ => none
  | .nx δ => match δ[0]? with
    | some (Sl.ow ws') => some (.fz .none, ws')
    | _ => none
  | _ => none else none
section
variable {P : Program} {w : World} {K : PySem.W.Frag} {mg : Str → Option Value} {base : Heap}
theorem RA.get' {Z : Zp} {H : Hp} : ∀ {vs : List V} {ds : List D}, RA K Z H vs ds → ∀ {i : Nat} {v : V}, vs[i]? = some v → ∃ d, ds[i]? = some d ∧ R K Z H v d
  | _, _, .nil, _, _, e => by simp at e
  | _, _, .cons r _, 0, _, e => by simp at e; subst e; exact ⟨_, rfl, r⟩
  | _, _, .cons _ t, i + 1, _, e => by simpa using RA.get' t (by simpa using e)
theorem start_get {N : List Str} {vs : List V} {i : Nat} {v : V} (e : vs[i]? = some v) : (L2.start N vs)[i]? = some (some v) := by
  have hl := (List.getElem?_eq_some_iff.mp e).1
  unfold L2.start
  rw [List.getElem?_append_left (by simpa using hl), List.getElem?_map, e]
  rfl
theorem rep_start {Z : Zp} {H : Hp} {vs : List V} {ds : List D} {N : List Str} {m n : Nat} (t : Trk Z H) (r : RA K Z H vs ds) (hn : ds.length = n) (hm : N.length = m) (hnm : n ≤ m) : Rep K Z H (L2.start N vs) (ds.map .fz ++ List.replicate (m - n) .un) := by
  have hl := r.length
  refine ⟨by simp [L2.start]; omega, t, fun i s e ne => ?_, fun i j s t p hij e1 e2 h1 h2 g1 g2 => ?_⟩
  · by_cases hi : i < ds.length
    · rw [List.getElem?_append_left (by simpa using hi), List.getElem?_map, List.getElem?_eq_getElem hi] at e
      cases e
      obtain ⟨v, ev, rv⟩ := r.get (List.getElem?_eq_getElem hi)
      exact ⟨v, start_get ev, rv⟩
    · rw [List.getElem?_append_right (by simpa using hi)] at e
      obtain ⟨_, e'⟩ := List.getElem?_eq_some_iff.mp e
      rw [List.getElem_replicate] at e'
      exact (ne e'.symm).elim
  · by_cases hi : i < ds.length
    · rw [List.getElem?_append_left (by simpa using hi), List.getElem?_map, List.getElem?_eq_getElem hi] at e1
      cases e1; cases h1
    · rw [List.getElem?_append_right (by simpa using hi)] at e1
      obtain ⟨_, e'⟩ := List.getElem?_eq_some_iff.mp e1
      rw [List.getElem_replicate] at e'
      subst e'; cases h1
theorem wr_start {vs : List V} {ds : List D} {N : List Str} {k : Nat} {a : Addr} : ¬ Wr (L2.start N vs) (ds.map Sl.fz ++ List.replicate k .un) a := by
  rintro ⟨i, s, e, h, _⟩
  by_cases hi : i < ds.length
  · rw [List.getElem?_append_left (by simpa using hi), List.getElem?_map, List.getElem?_eq_getElem hi] at e
    cases e; cases h
  · rw [List.getElem?_append_right (by simpa using hi)] at e
    obtain ⟨_, e'⟩ := List.getElem?_eq_some_iff.mp e
    rw [List.getElem_replicate] at e'
    subst e'; cases h
/-- what is handed back -/
theorem fin_ok {Z : Zp} {H H0 : Hp} {σ : L2.St} {δ : Dn} {v : V} {t t' : T} (r : Rep K Z H σ δ) (w : TV K H0 Z H σ δ v t) (e : fin t δ = some t') (nw : ∀ a, Wr σ δ a → H0 a = none) : RT K H0 Z H v t' := by
  cases t with
  | fz d => cases e; exact w
  | nw ds => cases e; obtain ⟨p, xs, rfl, n0, nz, _, e, ra⟩ := w; exact ⟨p, xs, rfl, n0, nz, e, ra⟩
  | nd ds => cases e; obtain ⟨p, xs, rfl, n0, nz, _, e, ra⟩ := w; exact ⟨p, xs, rfl, n0, nz, e, ra⟩
  | al i =>
    have w : σ[i]? = some (some v) := w
    unfold fin at e
    dsimp only at e
    split at e
    · rename_i ds es
      cases e
      obtain ⟨p, xs, ev, nz, hp, ra⟩ := own_lst r es
      rw [w] at ev
      cases ev
      exact ⟨p, xs, rfl, nw p ⟨i, _, es, rfl, w⟩, nz, hp, ra⟩
    · rename_i ds es
      cases e
      obtain ⟨p, xs, ev, nz, hp, ra⟩ := own_dic r es
      rw [w] at ev
      cases ev
      exact ⟨p, xs, rfl, nw p ⟨i, _, es, rfl, w⟩, nz, hp, ra⟩
    · rename_i d es
      cases e
      obtain ⟨u, eu, ru⟩ := r.at_ i _ es (fun z => nomatch z)
      rw [w] at eu
      cases eu
      exact ru
    · cases e
theorem fnok_mk {x : Str} {st : Stmt} {f : Addr} {fd : FuncData} {N ps : List Str} {k n m : Nat} {B : MS} (F : FunD K x x (defArgs st) (defBody st) (defScope st) [] [] f fd) (S : FnScope N ps (defScope st))
    (hn : ps.length = n) (hN : N.length = m) (hnm : n ≤ m)
    (body : ∀ (cdv : Value) (A : Around) (outer : List Env) (s : Shared) (H : Hp) (E : XK), Room k (A.deeper (envOfC x (defScope st) s.heap.objs.size f cdv)) → Sts (cxOf CX0 P w K mg base N x (defScope st) f cdv A outer s H E).nox (defBody st) B) :
    FnOk P w K mg base CX0 (k + 1) f fd ps (spG K (fnF n m B)) := by
  refine F.ok S (fun vs H Q E h => ?_) fun cdv A outer s H vs Q E hr h => ?_
  · obtain ⟨Z, ds, t, _, ra, e, _⟩ := h
    unfold fnF at e
    split at e
    · rw [ra.length, hn]; assumption
    · cases e
  · obtain ⟨Z, ds, t, tk, ra, e, q⟩ := h
    obtain ⟨tb, pb, sb⟩ := body cdv A outer s H E hr
    refine ⟨tb, pb.nox, ?_⟩
    unfold fnF at e
    split at e
    · rename_i hl
      obtain ⟨o, eo, e⟩ := Option.bind_eq_some_iff.mp e
      refine sb Z H _ _ o (rep_start tk ra hl hN hnm) eo _ ?_
      have gr : ∀ {Z' H' σ' δ'}, Rep K Z' H' σ' δ' → Stp Z H (L2.start N vs) (ds.map Sl.fz ++ List.replicate (m - n) .un) Z' H' σ' δ' → Grow Z H Z' H' := fun {Z' H' σ' δ'} r' s' =>
        ⟨s'.zsub, fun a z => by
          rcases s'.znew a z with z | z | z
          · exact .inl z
          · exact .inr z
          · exact (wr_start z).elim, fun a o e => s'.keep a o e wr_start, r'.trk⟩
      cases o with
      | nx δ' =>
        cases e
        exact fun Z' H' σ' r' s' => q .non Z' H' (gr r' s') R.non
      | rt t1 δ' =>
        refine fun v Z' H' σ' r' s' w => q v Z' H' (gr r' s') (fin_ok r' w e fun a wr => ?_)
        rcases s'.own a wr with z | z
        · exact (wr_start z).elim
        · exact z
      | bk δ' => cases e
      | ct δ' => cases e
    · cases e
theorem fn_mk {x : Str} {st : Stmt} {f : Addr} {fd : FuncData} {N ps : List Str} {k n m : Nat} {B : MS} (hm : mg x = some (.ref f)) (F : FunD K x x (defArgs st) (defBody st) (defScope st) [] [] f fd) (S : FnScope N ps (defScope st))
    (hb : ∀ (kV doc pm : Value) (an : Option Addr) (cdv ct : Value) (us : List Value), us.length = ps.length → bindArgs (PySem.W.fnOf x x (defArgs st) (defBody st) (defScope st) .none kV doc pm an cdv ct) ⟨us, []⟩ = pure (ps.zip us))
    (hn : ps.length = n) (hN : N.length = m) (hnm : n ≤ m)
    (body : ∀ (cdv : Value) (A : Around) (outer : List Env) (s : Shared) (H : Hp) (E : XK), Room k (A.deeper (envOfC x (defScope st) s.heap.objs.size f cdv)) → Sts (cxOf CX0 P w K mg base N x (defScope st) f cdv A outer s H E).nox (defBody st) B) :
    Fn P w K mg base (k + 1) x (spG K (fnF n m B)) := ⟨f, fd, ps, hm, fnok_mk F S hn hN hnm body, F.kp, F.bindsN hb⟩
theorem rep_startW {Z : Zp} {H : Hp} {p : Addr} {xs vs : List V} {ws ds : List D} {N : List Str} {m n : Nat} (t : Trk Z H) (nz : ¬ Z p) (hp : H p = some (.lst xs)) (rw' : RA K Z H xs ws) (r : RA K Z H vs ds) (hn : ds.length + 1 = n) (hm : N.length = m) (hnm : n ≤ m) :
    Rep K Z H (L2.start N (.ref p :: vs)) (.ow ws :: ds.map .fz ++ List.replicate (m - n) .un) ∧ ∀ a, Wr (L2.start N (.ref p :: vs)) (.ow ws :: ds.map .fz ++ List.replicate (m - n) .un) a → a = p := by
  have hl := r.length
  have own : ∀ (i : Nat) (s : Sl), (Sl.ow ws :: ds.map Sl.fz ++ List.replicate (m - n) Sl.un)[i]? = some s → s.own = true → i = 0 := fun i s e h => by
    cases i with
    | zero => rfl
    | succ i =>
      have e : (ds.map Sl.fz ++ List.replicate (m - n) Sl.un)[i]? = some s := by simpa using e
      by_cases hi : i < ds.length
      · rw [List.getElem?_append_left (by simpa using hi), List.getElem?_map, List.getElem?_eq_getElem hi] at e
        cases e; cases h
      · rw [List.getElem?_append_right (by simpa using hi)] at e
        obtain ⟨_, e'⟩ := List.getElem?_eq_some_iff.mp e
        rw [List.getElem_replicate] at e'
        subst e'; cases h
  refine ⟨⟨by simp [L2.start]; omega, t, fun i s e ne => ?_, fun i j s t q hij e1 e2 h1 h2 g1 g2 => ?_⟩, fun a w => ?_⟩
  · cases i with
    | zero =>
      have e : some (Sl.ow ws) = some s := by simpa using e
      cases e
      exact ⟨_, start_get (i := 0) rfl, p, xs, rfl, nz, hp, rw'⟩
    | succ i =>
      have e : (ds.map Sl.fz ++ List.replicate (m - n) Sl.un)[i]? = some s := by simpa using e
      by_cases hi : i < ds.length
      · rw [List.getElem?_append_left (by simpa using hi), List.getElem?_map, List.getElem?_eq_getElem hi] at e
        cases e
        obtain ⟨v, ev, rv⟩ := r.get (List.getElem?_eq_getElem hi)
        exact ⟨v, start_get (i := i + 1) (by simpa using ev), rv⟩
      · rw [List.getElem?_append_right (by simpa using hi)] at e
        obtain ⟨_, e'⟩ := List.getElem?_eq_some_iff.mp e
        rw [List.getElem_replicate] at e'
        exact (ne e'.symm).elim
  · exact hij ((own i s e1 h1).trans (own j t e2 h2).symm)
  · obtain ⟨i, s, e, h, g⟩ := w
    cases own i s e h
    have : (L2.start N (.ref p :: vs))[0]? = some (some (.ref p)) := start_get (i := 0) rfl
    rw [this] at g
    cases g
    rfl
theorem fn_mkW {x : Str} {st : Stmt} {f : Addr} {fd : FuncData} {N ps : List Str} {k n m : Nat} {B : MS} (hm : mg x = some (.ref f)) (F : FunD K x x (defArgs st) (defBody st) (defScope st) [] [] f fd) (S : FnScope N ps (defScope st))
    (hb : ∀ (kV doc pm : Value) (an : Option Addr) (cdv ct : Value) (us : List Value), us.length = ps.length → bindArgs (PySem.W.fnOf x x (defArgs st) (defBody st) (defScope st) .none kV doc pm an cdv ct) ⟨us, []⟩ = pure (ps.zip us))
    (hn : ps.length = n) (hN : N.length = m) (hnm : n ≤ m)
    (body : ∀ (cdv : Value) (A : Around) (outer : List Env) (s : Shared) (H : Hp) (E : XK), Room k (A.deeper (envOfC x (defScope st) s.heap.objs.size f cdv)) → Sts (cxOf CX0 P w K mg base N x (defScope st) f cdv A outer s H E).nox (defBody st) B) :
    Fn P w K mg base (k + 1) x (spW K (fnW n m B)) := by
  refine ⟨f, fd, ps, hm, ?_, F.kp, F.bindsN hb⟩
  refine F.ok S (fun vs H Q E h => ?_) fun cdv A outer s H vs Q E hr h => ?_
  · obtain ⟨Z, p, xs, ws, vs', ds, t, ws', rfl, _, _, _, _, ra, e, _⟩ := h
    unfold fnW at e
    split at e
    · rw [List.length_cons, ra.length, hn]; assumption
    · cases e
  · obtain ⟨Z, p, xs, ws, vs', ds, t, ws', rfl, tk, nz, hp, rw', ra, e, q⟩ := h
    obtain ⟨tb, pb, sb⟩ := body cdv A outer s H E hr
    refine ⟨tb, pb.nox, ?_⟩
    unfold fnW at e
    split at e
    · rename_i hl
      obtain ⟨o, eo, e⟩ := Option.bind_eq_some_iff.mp e
      obtain ⟨r0, w0⟩ := rep_startW tk nz hp rw' ra hl hN hnm
      refine sb Z H _ _ o r0 eo _ ?_
      -- the end
      have key : ∀ {Z' H' σ' δ'} (v : V) (t0 : T) (ws2 : List D), Rep K Z' H' σ' δ' → Stp Z H (L2.start N (.ref p :: vs')) (.ow ws :: ds.map Sl.fz ++ List.replicate (m - n) .un) Z' H' σ' δ' → TV K H Z' H' σ' δ' v t0 → (∀ i, t0 = .al i → i ≠ 0) → fin t0 δ' = some t → δ'[0]? = some (.ow ws2) → ws2 = ws' → Q v H' := by
        intro Z' H' σ' δ' v t0 ws2 r' s' w ne0 ef e0 ew
        subst ew
        obtain ⟨p2, xs2, ev2, nz2, hp2, ra2⟩ := own_lst r' e0
        have e00 := (s'.pin _ e0 rfl).1
        rw [ev2, start_get (i := 0) rfl] at e00
        cases e00
        have nw : ∀ a, Wr σ' δ' a → a = p ∨ H a = none := fun a wa => by
          rcases s'.own a wa with z | z
          · exact .inl (w0 a z)
          · exact .inr z
        refine q v Z' H' xs2 s'.zsub (fun a z => ?_) (fun a o e ne => s'.keep a o e fun z => ne (w0 a z)) r'.trk nz2 hp2 ra2 ?_ ?_
        · rcases s'.znew a z with z | z | z
          · exact .inl z
          · exact .inr z
          · cases w0 a z
            exact (nz2 ‹_›).elim
        · cases t0 with
          | fz d => cases ef; exact w
          | nw ds => cases ef; obtain ⟨b, ys, rfl, n0, nz, _, e, ra⟩ := w; exact ⟨b, ys, rfl, n0, nz, e, ra⟩
          | nd ds => cases ef; obtain ⟨b, ys, rfl, n0, nz, _, e, ra⟩ := w; exact ⟨b, ys, rfl, n0, nz, e, ra⟩
          | al i =>
            have w : σ'[i]? = some (some v) := w
            have hi0 := ne0 i rfl
            unfold fin at ef
            dsimp only at ef
            have fresh : ∀ b (s : Sl), δ'[i]? = some s → s.own = true → σ'[i]? = some (some (V.ref b)) → H b = none := fun b s e h g => by
              rcases nw b ⟨i, s, e, h, g⟩ with z | z
              · subst z
                exact (r'.sep i 0 s _ b hi0 e e0 h rfl g ev2).elim
              · exact z
            split at ef
            · rename_i ds es
              cases ef
              obtain ⟨b, ys, ev, nz, hb, ra⟩ := own_lst r' es
              rw [w] at ev
              cases ev
              exact ⟨b, ys, rfl, fresh b _ es rfl w, nz, hb, ra⟩
            · rename_i ds es
              cases ef
              obtain ⟨b, ys, ev, nz, hb, ra⟩ := own_dic r' es
              rw [w] at ev
              cases ev
              exact ⟨b, ys, rfl, fresh b _ es rfl w, nz, hb, ra⟩
            · rename_i d es
              cases ef
              obtain ⟨u, eu, ru⟩ := r'.at_ i _ es (fun z => nomatch z)
              rw [w] at eu
              cases eu
              exact ru
            · cases ef
        · intro b eb hn e
          subst eb e
          have fr : H b = none → False := fun h => sn hp h
          cases t0 with
          | fz d => cases ef; cases hn
          | nw ds => obtain ⟨c, ys, ec, n0, _⟩ := w; cases ec; exact fr n0
          | nd ds => obtain ⟨c, ys, ec, n0, _⟩ := w; cases ec; exact fr n0
          | al i =>
            have w : σ'[i]? = some (some (V.ref b)) := w
            have hi0 := ne0 i rfl
            unfold fin at ef
            dsimp only at ef
            split at ef
            · rename_i ds es
              exact r'.sep i 0 _ _ b hi0 es e0 rfl rfl w ev2
            · rename_i ds es
              exact r'.sep i 0 _ _ b hi0 es e0 rfl rfl w ev2
            · cases ef; cases hn
            · cases ef
      cases o with
      | nx δ' =>
        dsimp only at e
        split at e
        · cases e
          exact fun Z' H' σ' r' s' => key .non (.fz .none) _ r' s' R.non (fun _ h => nomatch h) rfl (by assumption) rfl
        · cases e
      | rt t1 δ' =>
        cases t1 with
        | al i =>
          dsimp only at e
          split at e
          · cases e
          · rename_i hi
            obtain ⟨t2, e1, e⟩ := Option.bind_eq_some_iff.mp e
            split at e
            · cases e
              exact fun v Z' H' σ' r' s' w => key v _ _ r' s' w (fun j h => by cases h; exact hi) e1 (by assumption) rfl
            · cases e
        | fz d =>
          dsimp only at e
          split at e
          · cases e
            exact fun v Z' H' σ' r' s' w => key v _ _ r' s' w (fun _ h => nomatch h) rfl (by assumption) rfl
          · cases e
        | nw d =>
          dsimp only at e
          split at e
          · cases e
            exact fun v Z' H' σ' r' s' w => key v _ _ r' s' w (fun _ h => nomatch h) rfl (by assumption) rfl
          · cases e
        | nd d =>
          dsimp only at e
          split at e
          · cases e
            exact fun v Z' H' σ' r' s' w => key v _ _ r' s' w (fun _ h => nomatch h) rfl (by assumption) rfl
          · cases e
      | bk δ' => cases e
      | ct δ' => cases e
    · cases e
end
end DL
/-! DL9: comprehensions of two clauses. -/
namespace DL
open PySem PySem.Spec PyProof.Rows L2
section
variable {X : Cx} {elt tg iter tg1 iter1 : Expr} {ifs ifs1 : List Expr} {scope : Scope} {own : List (Str × Nat)} {pos : Pos} {I I1 : M (List D)} {G G1 : GF} {P P1 : M Bool} {E : M T} {js js1 : List Nat}
/-- the inner loop -/
theorem lc_loop {K : PySem.W.Frag} {vs : List Nat} (hj : ∀ j ∈ js, j ∈ vs) {Z0 Z1 : Zp} {H0 H1 : Hp} {σ0 σ : L2.St} {δ0 δ1 δw : Dn} {D0 : Addr} {vs0 : List V} {acc0 acc ds : List D} {J : It} {Qd : Hp → Prop}
    (s1 : Stp Z0 H0 σ0 δ0 Z1 H1 (wipe σ vs) (wipeD δ1 vs)) (n0 : H0 D0 = none) (r1 : Rep K Z1 H1 σ δ1) (nz0 : ¬ Z1 D0) (nw0 : ¬ Wr σ δ1 D0) (hD0 : H1 D0 = some (.lst vs0)) (ra0 : RA K Z1 H1 vs0 acc0) (w : Wlk K J Z1 H1 ds)
    (e2 : lcL vs G P E ds acc0 (wipeD δ1 vs) = some (acc, δw))
    (q : ∀ Z' H' vs', Rep K Z' H' (wipe σ vs) δw → Stp Z0 H0 σ0 δ0 Z' H' (wipe σ vs) δw → ¬ Z' D0 → ¬ Wr (wipe σ vs) δw D0 → H' D0 = some (.lst vs') → RA K Z' H' vs' acc → (∀ a, Z1 a → Z' a) → (∀ a, Z1 a → H' a = H1 a) → Qd H') :
    ∃ W1 : Nat → Nat → Hp → Prop, (∃ m, W1 0 m H1) ∧ ∀ j k H, W1 j k H →
      (J.stop j H ∧ Qd H) ∨ (J.go j H ∧ ∃ Nx1 : Hp → Prop, (∀ H', Nx1 H' → ∃ k', k' < k ∧ W1 (j + 1) k' H') ∧ ∀ x H', J.yld j H x H' → canG K js G x (wipe σ vs) H' fun σ3 H5 => wipe σ3 vs = wipe σ vs ∧ canT K P σ3 H5 fun b H6 =>
        if b = true then canE K E σ3 H6 fun y H7 => ∃ acc, H7 D0 = some (.lst acc) ∧ acc.length < sizeLine ∧ Nx1 (upd H7 D0 (.lst (acc ++ [y]))) else Nx1 H6) := by
  refine ⟨fun i m H' => m = ds.length - i ∧ i ≤ ds.length ∧ ∃ Z' acc' vs' δ', Rep K Z' H' (wipe σ vs) δ' ∧ Stp Z0 H0 σ0 δ0 Z' H' (wipe σ vs) δ' ∧ ¬ Z' D0 ∧ ¬ Wr (wipe σ vs) δ' D0 ∧ H' D0 = some (.lst vs') ∧ RA K Z' H' vs' acc' ∧ (∀ a, Z1 a → Z' a) ∧ (∀ a, Z1 a → H' a = H1 a) ∧ lcL vs G P E (ds.drop i) acc' δ' = some (acc, δw),
    ⟨ds.length, by omega, by omega, Z1, acc0, vs0, wipeD δ1 vs, rep_wipe r1 vs, s1, nz0, fun z => nw0 (wr_of_wipe z), hD0, ra0, fun _ h => h, fun _ _ => rfl, by simpa using e2⟩, ?_⟩
  rintro i m H' ⟨rfl, hi, Z', acc', vs', δ', r', s', nz, nw, hD, ra, hz, hh, f'⟩
  by_cases hlt : i < ds.length
  · refine .inr ⟨w.go Z' H' hz hh r'.trk i hlt, ?_⟩
    have hd : ds.drop i = ds[i] :: ds.drop (i + 1) := List.drop_eq_getElem_cons hlt
    rw [hd] at f'
    obtain ⟨δ2, g2, f'⟩ := Option.bind_eq_some_iff.mp f'
    obtain ⟨⟨b, δ3⟩, p2, f'⟩ := Option.bind_eq_some_iff.mp f'
    refine ⟨fun H2 => ∃ Z2 acc2 vs2 δ2', Rep K Z2 H2 (wipe σ vs) δ2' ∧ Stp Z0 H0 σ0 δ0 Z2 H2 (wipe σ vs) δ2' ∧ ¬ Z2 D0 ∧ ¬ Wr (wipe σ vs) δ2' D0 ∧ H2 D0 = some (.lst vs2) ∧ RA K Z2 H2 vs2 acc2 ∧ (∀ a, Z1 a → Z2 a) ∧ (∀ a, Z1 a → H2 a = H1 a) ∧ lcL vs G P E (ds.drop (i + 1)) acc2 δ2' = some (acc, δw), fun H2 h2 => ⟨ds.length - (i + 1), by omega, rfl, hlt, h2⟩, fun x H2 y => ?_⟩
    obtain ⟨Z2, gr, rx⟩ := w.yld Z' H' hz hh r'.trk i x H2 ds[i] (List.getElem?_eq_getElem hlt) y
    have r2 := gr.rep r'
    have s2 := s'.trans gr.stp
    have nz2 : ¬ Z2 D0 := fun z => by
      rcases gr.znew _ z with z | z
      · exact nz z
      · exact sn hD z
    have hz2 : ∀ a, Z1 a → Z2 a := fun a z => gr.zsub a (hz a z)
    have hh2 : ∀ a, Z1 a → H2 a = H1 a := fun a z => (gr.zh r'.trk a (hz a z)).trans (hh a z)
    refine ⟨Z2, δ', ds[i], δ2, r2, rx, g2, fun σ3 r3 s3 l3 k3 => ?_⟩
    have we : wipe σ3 vs = wipe σ vs := wipe_eq (l3.trans (wipe_length σ vs)) fun k hk => k3 k fun hm => hk (hj k hm)
    refine ⟨we, ?_⟩
    have hD2 : H2 D0 = some (.lst vs') := gr.keep _ _ hD
    have nw3 : ¬ Wr σ3 δ2 D0 := fun w => by
      rcases s3.own _ w with w | w
      · exact nw w
      · exact sn hD2 w
    have s23 := s2.trans s3
    refine ⟨Z2, δ2, b, δ3, r3, p2, fun Z4 H4 r4 s4 => ?_⟩
    have hD4 : H4 D0 = some (.lst vs') := s4.keep _ _ hD2 nw3
    have nz4 : ¬ Z4 D0 := fun z => by
      rcases s4.znew _ z with z | z | z
      · exact nz2 z
      · exact sn hD2 z
      · exact nw3 z
    have nw4 : ¬ Wr σ3 δ3 D0 := fun w => by
      rcases s4.own _ w with w | w
      · exact nw3 w
      · exact sn hD2 w
    have s24 := s23.trans s4
    have ra4 : RA K Z4 H4 vs' acc' := (gr.stp.trans s3 |>.trans s4).RA r' ra
    have hz4 : ∀ a, Z1 a → Z4 a := fun a z => s4.zsub a (hz2 a z)
    have hh4 : ∀ a, Z1 a → H4 a = H1 a := fun a z => (s4.zh r3 a (hz2 a z)).trans (hh2 a z)
    cases b with
    | false =>
      have f' : lcL vs G P E (ds.drop (i + 1)) acc' (wipeD δ3 vs) = some (acc, δw) := f'
      refine ⟨Z4, acc', vs', wipeD δ3 vs, by rw [← we]; exact rep_wipe r4 vs, by rw [← we]; exact stp_wipe s24 vs, nz4, fun w => nw4 (wr_of_wipe (by rw [we]; exact w)), hD4, ra4, hz4, hh4, f'⟩
    | true =>
      have f' : ((E δ3).bind fun q => q.1.st.bind fun y => if acc'.length ≤ 1000000 then lcL vs G P E (ds.drop (i + 1)) (acc' ++ [y]) (wipeD q.2 vs) else none) = some (acc, δw) := f'
      obtain ⟨⟨t5, δ5⟩, e5, f'⟩ := Option.bind_eq_some_iff.mp f'
      obtain ⟨dy, ey, f'⟩ := Option.bind_eq_some_iff.mp f'
      refine ⟨Z4, δ3, t5, δ5, r4, e5, fun v Z5 H5 r5 s5 v5 => ?_⟩
      obtain ⟨Z6, r6, s6, hz6, rv⟩ := v5.freeze r5 s5 ey
      have hD5 : H5 D0 = some (.lst vs') := s5.keep _ _ hD4 nw4
      have nz6 : ¬ Z6 D0 := fun z => by
        rcases s6.znew _ z with z | z | z
        · exact nz4 z
        · exact sn hD4 z
        · exact nw4 z
      have nw5 : ¬ Wr σ3 δ5 D0 := fun w => by
        rcases s6.own _ w with w | w
        · exact nw4 w
        · exact sn hD4 w
      have ra6 : RA K Z6 H5 vs' acc' := s6.RA r4 ra4
      have hu : ∀ a, Z6 a → upd H5 D0 (.lst (vs' ++ [v])) a = H5 a := fun a z => upd_ne (fun (e : a = D0) => nz6 (e ▸ z))
      have hz7 : ∀ a, Z1 a → Z6 a := fun a z => s6.zsub a (hz4 a z)
      have hh7 : ∀ a, Z1 a → upd H5 D0 (.lst (vs' ++ [v])) a = H1 a := fun a z => (hu a (hz7 a z)).trans ((s6.zh r4 a (hz4 a z)).trans (hh4 a z))
      by_cases hl : acc'.length ≤ 1000000
      · rw [if_pos hl] at f'
        refine ⟨vs', hD5, by rw [ra6.length]; exact line_lt hl, Z6, acc' ++ [dy], vs' ++ [v], wipeD δ5 vs, ?_, ?_, nz6, fun w => nw5 (wr_of_wipe (by rw [we]; exact w)), upd_same, (ra6.append (.cons rv .nil)).mono (fun _ h => h) hu, hz7, hh7, f'⟩
        · rw [← we]
          exact rep_upd (rep_wipe r6 vs) nz6 fun w => nw5 (wr_of_wipe w)
        · have s26 := s24.trans s6
          rw [← we]
          exact stp_upd (stp_wipe s26 vs) n0
      · rw [if_neg hl] at f'
        cases f'
  · have hn : i = ds.length := by omega
    subst hn
    rw [List.drop_length] at f'
    cases f'
    exact .inl ⟨w.stop Z' H' hz hh r'.trk, q Z' H' vs' r' s' nz nw hD ra hz hh⟩
def lc2L (vs vs1 : List Nat) (G : GF) (P : M Bool) (I1 : M (List D)) (G1 : GF) (P1 : M Bool) (E : M T) : List D → List D → Dn → Option (List D × Dn)
  | [], acc, δ => some (acc, δ)
  | d :: ds, acc, δ => (G d δ).bind fun δ1 => (P δ1).bind fun p => if p.1 = true then (I1 p.2).bind fun i => (lcL vs1 G1 P1 E i.1 acc (wipeD i.2 vs1)).bind fun q => lc2L vs vs1 G P I1 G1 P1 E ds q.1 (wipeD q.2 vs) else lc2L vs vs1 G P I1 G1 P1 E ds acc (wipeD p.2 vs)
@[simp] def fLc2 (vs vs1 : List Nat) (I : M (List D)) (G : GF) (P : M Bool) (I1 : M (List D)) (G1 : GF) (P1 : M Bool) (E : M T) : M T := fun δ => (I δ).bind fun p => (lc2L vs vs1 G P I1 G1 P1 E p.1 [] (wipeD p.2 vs)).map fun q => (.nw q.1, rest p.2 q.2 vs)
theorem sem_lc2 (K : PySem.W.Frag) (vs vs1 : List Nat) (hj : ∀ j ∈ js, j ∈ vs) (hj1 : ∀ j ∈ js1, j ∈ vs1) (hv : ∀ j ∈ vs1, j ∈ vs) : Sem1 K (tLc2 (canI K I) (canG K js G) (canT K P) (canI K I1) (canG K js1 G1) (canT K P1) (canE K E) vs vs1) (fLc2 vs vs1 I G P I1 G1 P1 E) := by
  intro Z H σ δ t δ' r e Q q
  obtain ⟨⟨ds, δ1⟩, e1, e⟩ := Option.bind_eq_some_iff.mp e
  obtain ⟨⟨acc, δw⟩, e2, e⟩ := Option.map_eq_some_iff.mp e
  cases e
  refine ⟨Z, δ, ds, δ1, r, e1, fun J Z1 H1 r1 s1 w D0 nD => ?_⟩
  have gD : Grow Z1 H1 Z1 (upd H1 D0 (.lst [])) := Grow.new r1.trk nD
  refine ⟨fun i m H' => m = ds.length - i ∧ i ≤ ds.length ∧ ∃ Z' acc' vs' δ', Rep K Z' H' (wipe σ vs) δ' ∧ Stp Z1 H1 (wipe σ vs) (wipeD δ1 vs) Z' H' (wipe σ vs) δ' ∧ ¬ Z' D0 ∧ ¬ Wr (wipe σ vs) δ' D0 ∧ H' D0 = some (.lst vs') ∧ RA K Z' H' vs' acc' ∧ lc2L vs vs1 G P I1 G1 P1 E (ds.drop i) acc' δ' = some (acc, δw),
    ⟨ds.length, by omega, by omega, Z1, [], [], wipeD δ1 vs, gD.rep (rep_wipe r1 vs), gD.stp, fun z => by
      obtain ⟨o, e⟩ := r1.trk _ z
      exact sn e nD, fun z => by
      obtain ⟨o, e⟩ := (rep_wipe r1 vs).wsome z
      exact sn e nD, upd_same, .nil, by simpa using e2⟩, ?_⟩
  rintro i m H' ⟨rfl, hi, Z', acc', vs', δ', r', s', nz, nw, hD, ra, f'⟩
  by_cases hlt : i < ds.length
  · refine .inr ⟨w.go Z' H' s'.zsub (s'.zh (rep_wipe r1 vs)) r'.trk i hlt, ?_⟩
    have hd : ds.drop i = ds[i] :: ds.drop (i + 1) := List.drop_eq_getElem_cons hlt
    rw [hd] at f'
    obtain ⟨δ2, g2, f'⟩ := Option.bind_eq_some_iff.mp f'
    obtain ⟨⟨b, δ3⟩, p2, f'⟩ := Option.bind_eq_some_iff.mp f'
    refine ⟨fun H2 => ∃ Z2 acc2 vs2 δ2', Rep K Z2 H2 (wipe σ vs) δ2' ∧ Stp Z1 H1 (wipe σ vs) (wipeD δ1 vs) Z2 H2 (wipe σ vs) δ2' ∧ ¬ Z2 D0 ∧ ¬ Wr (wipe σ vs) δ2' D0 ∧ H2 D0 = some (.lst vs2) ∧ RA K Z2 H2 vs2 acc2 ∧ lc2L vs vs1 G P I1 G1 P1 E (ds.drop (i + 1)) acc2 δ2' = some (acc, δw), fun H2 h2 => ⟨ds.length - (i + 1), by omega, rfl, hlt, h2⟩, fun x H2 y => ?_⟩
    obtain ⟨Z2, gr, rx⟩ := w.yld Z' H' s'.zsub (s'.zh (rep_wipe r1 vs)) r'.trk i x H2 ds[i] (List.getElem?_eq_getElem hlt) y
    have r2 := gr.rep r'
    have s2 := s'.trans gr.stp
    have nz2 : ¬ Z2 D0 := fun z => by
      rcases gr.znew _ z with z | z
      · exact nz z
      · exact sn hD z
    refine ⟨Z2, δ', ds[i], δ2, r2, rx, g2, fun σ3 r3 s3 l3 k3 => ?_⟩
    have we : wipe σ3 vs = wipe σ vs := wipe_eq (l3.trans (wipe_length σ vs)) fun k hk => k3 k fun hm => hk (hj k hm)
    refine ⟨we, ?_⟩
    have hD2 : H2 D0 = some (.lst vs') := gr.keep _ _ hD
    have nw3 : ¬ Wr σ3 δ2 D0 := fun w => by
      rcases s3.own _ w with w | w
      · exact nw w
      · exact sn hD2 w
    have s23 := s2.trans s3
    refine ⟨Z2, δ2, b, δ3, r3, p2, fun Z4 H4 r4 s4 => ?_⟩
    have hD4 : H4 D0 = some (.lst vs') := s4.keep _ _ hD2 nw3
    have nz4 : ¬ Z4 D0 := fun z => by
      rcases s4.znew _ z with z | z | z
      · exact nz2 z
      · exact sn hD2 z
      · exact nw3 z
    have nw4 : ¬ Wr σ3 δ3 D0 := fun w => by
      rcases s4.own _ w with w | w
      · exact nw3 w
      · exact sn hD2 w
    have s24 := s23.trans s4
    have ra4 : RA K Z4 H4 vs' acc' := (gr.stp.trans s3 |>.trans s4).RA r' ra
    cases b with
    | false =>
      have f' : lc2L vs vs1 G P I1 G1 P1 E (ds.drop (i + 1)) acc' (wipeD δ3 vs) = some (acc, δw) := f'
      refine ⟨Z4, acc', vs', wipeD δ3 vs, by rw [← we]; exact rep_wipe r4 vs, by rw [← we]; rw [← we] at s24; exact stp_wipe s24 vs, nz4, fun w => nw4 (wr_of_wipe (by rw [we]; exact w)), hD4, ra4, f'⟩
    | true =>
      have f' : ((I1 δ3).bind fun i1 => (lcL vs1 G1 P1 E i1.1 acc' (wipeD i1.2 vs1)).bind fun q => lc2L vs vs1 G P I1 G1 P1 E (ds.drop (i + 1)) q.1 (wipeD q.2 vs)) = some (acc, δw) := f'
      obtain ⟨⟨ds1, δ5⟩, e5, f'⟩ := Option.bind_eq_some_iff.mp f'
      obtain ⟨⟨acc6, δ6⟩, e6, f'⟩ := Option.bind_eq_some_iff.mp f'
      refine ⟨Z4, δ3, ds1, δ5, r4, e5, fun J5 Z5 H5 r5 s5 w5 => ?_⟩
      have hD5 : H5 D0 = some (.lst vs') := s5.keep _ _ hD4 nw4
      have nz5 : ¬ Z5 D0 := fun z => by
        rcases s5.znew _ z with z | z | z
        · exact nz4 z
        · exact sn hD4 z
        · exact nw4 z
      have nw5 : ¬ Wr σ3 δ5 D0 := fun w => by
        rcases s5.own _ w with w | w
        · exact nw4 w
        · exact sn hD4 w
      have s25 := s24.trans s5
      have ra5 : RA K Z5 H5 vs' acc' := s5.RA r4 ra4
      have ww : wipe (wipe σ3 vs1) vs = wipe σ vs := by
        rw [← we]
        refine wipe_eq (wipe_length σ3 vs1) fun k hk => ?_
        rw [wipe_out hk, wipe_out fun hm => hk (hv k hm)]
      refine lc_loop (σ := σ3) (δ1 := δ5) hj1 (stp_wipe s25 vs1) nD r5 nz5 nw5 hD5 ra5 w5 e6 fun Z7 H7 vs7 r7 s7 nz7 nw7 hD7 ra7 _ _ => ?_
      refine ⟨Z7, acc6, vs7, wipeD δ6 vs, by rw [← ww]; exact rep_wipe r7 vs, ?_, nz7, fun w => nw7 (wr_of_wipe (by rw [ww]; exact w)), hD7, ra7, f'⟩
      have := stp_wipe s7 vs
      rw [ww] at this
      exact this
  · have hn : i = ds.length := by omega
    subst hn
    rw [List.drop_length] at f'
    cases f'
    refine .inl ⟨w.stop Z' H' s'.zsub (s'.zh (rep_wipe r1 vs)) r'.trk, ?_⟩
    obtain ⟨rb, sb, hw⟩ := rep_back r1 r' s'
    refine q (.ref D0) Z' H' rb (s1.trans sb) ⟨D0, vs', rfl, none_of_there s1.there nD, nz, fun w => ?_, hD, ra⟩
    rcases hw _ w with w | w
    · obtain ⟨o, e⟩ := r1.wsome w
      exact sn e nD
    · exact nw w
theorem ev_lc2 (vs1 : List Nat) (hN : X.N.Nodup) (hc : X.calm = true) (ok : BlkOk X.N X.env.scope scope own) (hI : EvI X tg iter I)
    (hg : ∀ (s : Shared) (H : Hp) (C : Addr) (cl : List (Str × Addr)) (fp : List Addr), EvG (X.blk s H scope (compEnvC scope cl C X.env) fp) tg js G)
    (ht : ∀ (s : Shared) (H : Hp) (C : Addr) (cl : List (Str × Addr)) (fp : List Addr), EvC (X.blk s H scope (compEnvC scope cl C X.env) fp) ifs P)
    (hI1 : ∀ (s : Shared) (H : Hp) (C : Addr) (cl : List (Str × Addr)) (fp : List Addr), EvI (X.blk s H scope (compEnvC scope cl C X.env) fp) tg1 iter1 I1)
    (hg1 : ∀ (s : Shared) (H : Hp) (C : Addr) (cl : List (Str × Addr)) (fp : List Addr), EvG (X.blk s H scope (compEnvC scope cl C X.env) fp) tg1 js1 G1)
    (ht1 : ∀ (s : Shared) (H : Hp) (C : Addr) (cl : List (Str × Addr)) (fp : List Addr), EvC (X.blk s H scope (compEnvC scope cl C X.env) fp) ifs1 P1)
    (he : ∀ (s : Shared) (H : Hp) (C : Addr) (cl : List (Str × Addr)) (fp : List Addr), Ev (X.blk s H scope (compEnvC scope cl C X.env) fp) elt E)
    (hj : ∀ j ∈ js, j ∈ own.map (·.2) := by decide) (hj1 : ∀ j ∈ js1, j ∈ vs1 := by decide) (hv : ∀ j ∈ vs1, j ∈ own.map (·.2) := by decide) (hs : ∀ x, foldedSetIterable iter X.env x = pure x := by intro _; rfl) (hs1 : ∀ env x, foldedSetIterable iter1 env x = pure x := by intro _ _; rfl) :
    Ev X (.ListComp elt [⟨tg, iter, ifs, 0⟩, ⟨tg1, iter1, ifs1, 0⟩] scope pos) (fLc2 (own.map (·.2)) vs1 I G P I1 G1 P1 E) :=
  ⟨_, pe_lc2 (wi := canI X.K I) (g := canG X.K js G) (tt := canT X.K P) (wi1 := canI X.K I1) (g1 := canG X.K js1 G1) (tt1 := canT X.K P1) (te := canE X.K E) hc hN hI.can ok hv (fun s H C cl fp => (hg s H C cl fp).can) (fun s H C cl fp => (ht s H C cl fp).can) (fun s H C cl fp => (hI1 s H C cl fp).can) (fun s H C cl fp => (hg1 s H C cl fp).can) (fun s H C cl fp => (ht1 s H C cl fp).can) (fun s H C cl fp => (he s H C cl fp).can) hs hs1, sem_lc2 X.K _ _ hj hj1 hv⟩
theorem st_setLc2 (k : Bool) (i : Nat) (vs1 : List Nat) {y : Str} {py spos : Pos} (hN : X.N.Nodup) (hc : X.calm = true) (ok : BlkOk X.N X.env.scope scope own) (hI : EvI X tg iter I)
    (hg : ∀ (s : Shared) (H : Hp) (C : Addr) (cl : List (Str × Addr)) (fp : List Addr), EvG (X.blk s H scope (compEnvC scope cl C X.env) fp) tg js G)
    (ht : ∀ (s : Shared) (H : Hp) (C : Addr) (cl : List (Str × Addr)) (fp : List Addr), EvC (X.blk s H scope (compEnvC scope cl C X.env) fp) ifs P)
    (hI1 : ∀ (s : Shared) (H : Hp) (C : Addr) (cl : List (Str × Addr)) (fp : List Addr), EvI (X.blk s H scope (compEnvC scope cl C X.env) fp) tg1 iter1 I1)
    (hg1 : ∀ (s : Shared) (H : Hp) (C : Addr) (cl : List (Str × Addr)) (fp : List Addr), EvG (X.blk s H scope (compEnvC scope cl C X.env) fp) tg1 js1 G1)
    (ht1 : ∀ (s : Shared) (H : Hp) (C : Addr) (cl : List (Str × Addr)) (fp : List Addr), EvC (X.blk s H scope (compEnvC scope cl C X.env) fp) ifs1 P1)
    (he : ∀ (s : Shared) (H : Hp) (C : Addr) (cl : List (Str × Addr)) (fp : List Addr), Ev (X.blk s H scope (compEnvC scope cl C X.env) fp) elt E)
    (hsw : swapsWith (.ListComp elt [⟨tg, iter, ifs, 0⟩, ⟨tg1, iter1, ifs1, 0⟩] scope pos) (some (.Name y py)) spos.line X.env = pure true) (hy : X.N[i]? = some y := by rfl) (hyl : X.env.scope.names.lookup y = some .local := by rfl)
    (hj : ∀ j ∈ js, j ∈ own.map (·.2) := by decide) (hj1 : ∀ j ∈ js1, j ∈ vs1 := by decide) (hv : ∀ j ∈ vs1, j ∈ own.map (·.2) := by decide) (hs : ∀ x, foldedSetIterable iter X.env x = pure x := by intro _; rfl) (hs1 : ∀ env x, foldedSetIterable iter1 env x = pure x := by intro _ _; rfl) (hk0 : k = true → i ≠ 0 := by decide) :
    St1 X (.Assign [.Name y py] (.ListComp elt [⟨tg, iter, ifs, 0⟩, ⟨tg1, iter1, ifs1, 0⟩] scope pos) spos) (oSet k i (fLc2 (own.map (·.2)) vs1 I G P I1 G1 P1 E)) := by
  refine ⟨_, ps_setLc2 (wi := canI X.K I) (g := canG X.K js G) (tt := canT X.K P) (wi1 := canI X.K I1) (g1 := canG X.K js1 G1) (tt1 := canT X.K P1) (te := canE X.K E) hc hN hy hyl hsw hI.can ok hv (fun s H C cl fp => (hg s H C cl fp).can) (fun s H C cl fp => (ht s H C cl fp).can) (fun s H C cl fp => (hI1 s H C cl fp).can) (fun s H C cl fp => (hg1 s H C cl fp).can) (fun s H C cl fp => (ht1 s H C cl fp).can) (fun s H C cl fp => (he s H C cl fp).can) hs hs1, fun Z H σ δ o r e Dd p => ?_⟩
  obtain ⟨⟨t1, δ1⟩, e1, e⟩ := Option.bind_eq_some_iff.mp e
  obtain ⟨s, es, rfl⟩ := Option.map_eq_some_iff.mp e
  refine sem_lc2 X.K _ _ hj hj1 hv Z H σ δ t1 δ1 r e1 _ fun v Z1 H1 r1 s1 v1 => ?_
  obtain ⟨Z2, hz, r2, s2, _⟩ := store1 r1 s1 v1 es i hk0
  exact p Z2 H1 _ r2 s2
end
end DL
/-! DLA: chained comparisons, tuples compared, signs, the empty dict, texts' min and max. -/
namespace DL
open PySem PySem.Spec PyProof.Rows L2
section
variable {X : Cx} {K : PySem.W.Frag} {Z Z' : Zp} {H H' H0 : Hp} {σ : L2.St} {δ : Dn} {x y : V} {e a b c : Expr} {pos p : Pos} {A B C : M T}
/-! ### a op b op' c -/
@[simp] def fChain (g g' : D → D → Option T) (A B C : M T) : M T := fun δ => (A δ).bind fun p => (B p.2).bind fun q => (p.1.rd q.2).bind fun x => (q.1.rd q.2).bind fun y => (g x y).bind fun t => (asB t).bind fun k =>
  if k = true then (C q.2).bind fun r => (q.1.rd r.2).bind fun y2 => (r.1.rd r.2).bind fun z => (g' y2 z).map fun t => (t, r.2) else some (.fz (.bool false), q.2)
theorem tv_bool {K : PySem.W.Frag} {v : V} {t : T} {k : Bool} (e : asB t = some k) (h : TV K H0 Z H σ δ v t) : v = .bl k := by
  cases t with
  | fz d =>
    cases d <;> try cases e
    cases h
    rfl
  | _ => cases e
theorem sem_chain {r r' : R2} {g g' : D → D → Option T} {ta tb tc : TE} (sa : Sem1 X.K ta A) (sb : Sem1 X.K tb B) (sc : Sem1 X.K tc C)
    (hg : ∀ Z H x y dx dy a, Trk Z H → Pk X.K Z H x dx → Pk X.K Z H y dy → g dx dy = some a → ∀ Q : VK, (∀ v Z' H', Grow Z H Z' H' → RT X.K H Z' H' v a → Q v H') → r x y H Q)
    (hg' : ∀ Z H x y dx dy a, Trk Z H → Pk X.K Z H x dx → Pk X.K Z H y dy → g' dx dy = some a → ∀ Q : VK, (∀ v Z' H', Grow Z H Z' H' → RT X.K H Z' H' v a → Q v H') → r' x y H Q) :
    Sem1 X.K (tChain r r' ta tb tc) (fChain g g' A B C) := by
  intro Z H σ δ t δ' rp e Q q
  obtain ⟨⟨t1, δ1⟩, e1, e⟩ := Option.bind_eq_some_iff.mp e
  obtain ⟨⟨t2, δ2⟩, e2, e⟩ := Option.bind_eq_some_iff.mp e
  obtain ⟨dx, ex, e⟩ := Option.bind_eq_some_iff.mp e
  obtain ⟨dy, ey, e⟩ := Option.bind_eq_some_iff.mp e
  obtain ⟨t3, eg, e⟩ := Option.bind_eq_some_iff.mp e
  obtain ⟨k, ek, e⟩ := Option.bind_eq_some_iff.mp e
  refine sa Z H σ δ t1 δ1 rp e1 _ fun v1 Z1 H1 r1 s1 w1 => sb Z1 H1 σ δ1 t2 δ2 r1 e2 _ fun v2 Z2 H2 r2 s2 w2 => ?_
  have w1' := w1.stp r1 s2
  refine hg Z2 H2 v1 v2 dx dy t3 r2.trk (w1'.pk r2 ex) (w2.pk r2 ey) eg _ fun v3 Z3 H3 g3 w3 => ?_
  have r3 := g3.rep r2
  have s3 := s1.trans (s2.trans g3.stp)
  have hv : v3 = .bl k := tv_bool ek (w3.tv r2 fun a o e => ⟨o, e⟩)
  refine ⟨k, hv, ?_⟩
  cases k with
  | false =>
    rw [if_neg Bool.false_ne_true] at e ⊢
    cases e
    exact q _ Z3 H3 r3 s3 (.bl _)
  | true =>
    rw [if_pos rfl] at e ⊢
    obtain ⟨⟨t4, δ4⟩, e4, e⟩ := Option.bind_eq_some_iff.mp e
    obtain ⟨dy2, ey2, e⟩ := Option.bind_eq_some_iff.mp e
    obtain ⟨dz, ez, e⟩ := Option.bind_eq_some_iff.mp e
    obtain ⟨t5, eg', e⟩ := Option.map_eq_some_iff.mp e
    cases e
    refine sc Z3 H3 σ δ2 t4 δ4 r3 e4 _ fun v4 Z4 H4 r4 s4 w4 => ?_
    have w2' := (w2.stp r2 g3.stp).stp r3 s4
    exact hg' Z4 H4 v2 v4 dy2 dz _ r4.trk (w2'.pk r4 ey2) (w4.pk r4 ez) eg' _ fun v5 Z5 H5 g5 w5 =>
      q v5 Z5 H5 (g5.rep r4) (s3.trans (s4.trans g5.stp)) (w5.tv r4 (s3.trans s4).there)
theorem ev_chain {op op' : CmpOp} {g g' : D → D → Option T} (ho : Op2 X (compareOp op) g) (ho' : Op2 X (compareOp op') g') (ha : Ev X a A) (hb : Ev X b B) (hc : Ev X c C)
    (hm : lastMarks [op, op'] [b, c] = false := by with_unfolding_all rfl) : Ev X (.Compare a [op, op'] [b, c] pos) (fChain g g' A B C) := by
  obtain ⟨r, ho, hg⟩ := ho
  obtain ⟨r', ho', hg'⟩ := ho'
  obtain ⟨ta, pa, sa⟩ := ha
  obtain ⟨tb, pb, sb⟩ := hb
  obtain ⟨tc, pc, sc⟩ := hc
  exact ⟨_, pe_chain ho ho' pa pb pc hm, sem_chain sa sb sc hg hg'⟩
theorem et_chain {op op' : CmpOp} {g g' : D → D → Option T} (ho : Op2 X (compareOp op) g) (ho' : Op2 X (compareOp op') g') (ha : Ev X a A) (hb : Ev X b B) (hc : Ev X c C)
    (hm : lastMarks [op, op'] [b, c] = false := by with_unfolding_all rfl) : EvT X (.Compare a [op, op'] [b, c] pos) (tTst (fChain g g' A B C)) := by
  obtain ⟨r, ho, hg⟩ := ho
  obtain ⟨r', ho', hg'⟩ := ho'
  obtain ⟨ta, pa, sa⟩ := ha
  obtain ⟨tb, pb, sb⟩ := hb
  obtain ⟨tc, pc, sc⟩ := hc
  exact ⟨_, pt_chain ho ho' pa pb pc hm, sem_tst (sem_chain sa sb sc hg hg')⟩

/-! ### {} -/
@[simp] def fDnew : M T := fun δ => some (.nd [], δ)
theorem ev_dnew : Ev X (.Dict [] [] pos) fDnew := by
  refine ⟨_, pe_dnewK, fun Z H σ δ t δ' r e Q q => ?_⟩
  cases e
  intro d0 n0
  have g : Grow Z H Z (upd H d0 (.dK [])) := Grow.new r.trk n0
  exact q _ Z _ (g.rep r) g.stp ⟨d0, [], rfl, n0, fun z => by
    obtain ⟨o, e⟩ := r.trk _ z
    exact sn e n0, fun w => by
    obtain ⟨o, e⟩ := r.wsome w
    exact sn e n0, upd_same, .nil⟩

/-! ### sign in text -/
theorem op_inSg : Op2 X (compareOp .In) (fun x y => match x, y with | .str s, .str t => (match s.cps.toList with | [c] => some (.fz (.bool (decide (c ∈ t.cps.toList)))) | _ => none) | _, _ => none) := by
  refine ⟨_, op_in_sign, fun Z H x y dx dy a t px py e Q q => ?_⟩
  dsimp only at e
  split at e
  · rename_i s t'
    split at e
    · rename_i c hc
      cases e
      cases px.str
      cases py.str
      have hs : s = ⟨#[c]⟩ := by
        obtain ⟨cs⟩ := s
        congr 1
        exact Array.toList_inj.mp hc
      exact ⟨c, _, by rw [hs], rfl, q _ Z H (.refl t) (.bl _)⟩
    · cases e
  · cases e
def rInT (K : PySem.W.Frag) : R2 := fun x y H Q => ∃ d ds, Dp K H x d ∧ Dp K H y (.tuple ds) ∧ SeqAt.shaped d = true ∧ SeqAt.shaped (.tuple ds) = true ∧ Q (.bl (ds.any fun z => PyData.eqv z d)) H
theorem op_inT (hu : X.A.units + 65 < cLine) : OpR X (compareOp .In) (rInT X.K) := fun pins s σ H x y v u Q I rx ry ⟨d, ds, hd, he, sd, se, q⟩ => by
  obtain ⟨as, r1⟩ := Dp.reads I d x v hd rx
  obtain ⟨bs, r2⟩ := Dp.reads I (.tuple ds) y u he ry
  exact SeqAt.in_tuple_reads r2 r1 (SeqAt.canLay_of_shaped se) (SeqAt.canLay_of_shaped sd) (room_in_shaped sd hu) ⟨.bl _, H, I, rfl, q⟩
def gInT : D → D → Option T
  | x, .tuple ds => if SeqAt.shaped x && SeqAt.shaped (.tuple ds) then some (.fz (.bool (ds.any fun z => PyData.eqv z x))) else none
  | _, _ => none
theorem op2_inT (hu : X.A.units + 65 < cLine) : Op2 X (compareOp .In) gInT := by
  refine ⟨_, op_inT hu, fun Z H x y dx dy a t px py e Q q => ?_⟩
  unfold gInT at e
  split at e
  · split at e
    · rename_i h
      cases e
      rw [Bool.and_eq_true] at h
      exact ⟨dx, _, px.dp h.1, py.dp h.2, h.1, h.2, q _ Z H (.refl t) (.bl _)⟩
    · cases e
  · cases e
def gInA : D → D → Option T
  | .str s, .str t => (match s.cps.toList with | [c] => some (.fz (.bool (decide (c ∈ t.cps.toList)))) | _ => none)
  | x, .tuple ds => gInT x (.tuple ds)
  | x, y => gIn x y
theorem op2_inA (hu : X.A.units + 65 < cLine) : Op2 X (compareOp .In) gInA := by
  refine Op2.or op_inSg (Op2.or (op2_inT hu) (op2_in hu) (g := fun x y => match x, y with | x, .tuple ds => gInT x (.tuple ds) | x, y => gIn x y) fun x y a e => ?_) fun x y a e => ?_
  · split at e
    · exact .inl e
    · exact .inr e
  · unfold gInA at e
    split at e
    · exact .inl e
    · exact .inr e
    · refine .inr ?_
      split
      · rename_i h1 _ _ _ _
        first | exact (h1 _ rfl).elim | simp_all
      · exact e

/-! ### < of tuples, lists of alike data -/
def rLtD (K : PySem.W.Frag) : R2 := fun x y H Q => ∃ d e, Dp K H x d ∧ Dp K H y e ∧ PySem.W.alike d e = true ∧ d ≠ .none ∧ d.depth ≤ 60 ∧ Q (.bl (PySem.W.dataLt d e)) H
theorem op_ltD (hu : X.A.units + 64 < cLine) : OpR X (compareOp .Lt) (rLtD X.K) := by
  intro pins s σ H x y v u Q I rx ry h
  obtain ⟨d, e, hd, he, al, ne, dd, q⟩ := h
  obtain ⟨as, r1⟩ := Dp.reads I d x v hd rx
  obtain ⟨bs, r2⟩ := Dp.reads I e y u he ry
  have h1 : min d.depth e.depth ≤ d.depth := Nat.min_le_left _ _
  exact PySem.W.rcLt_alike d e X.A s v u as bs r1 r2 al ne (by omega) _ _ _ _ ⟨.bl _, H, I, rfl, q⟩
theorem Pk.dp' {d : D} (h : Pk K Z H x d) (c : d.canLay0 = true) : Dp K H x d := by
  rcases h with h | ⟨p, xs, ds, rfl, rfl, e, r⟩ | ⟨p, xs, ds, _, rfl, _⟩
  · exact dp_of h c
  · exact .lst (.inl (.inl e)) (dpa_of r (by simpa [PyData.canLay0] using c))
  · simp [dictD, PyData.canLay0] at c
def gLtT (x y : D) : Option T := match x, y with
  | .tuple a, .tuple b => if PySem.W.alike (.tuple a) (.tuple b) && decide (PyData.depth (.tuple a) ≤ 60) && PyData.canLay0 (.tuple a) && PyData.canLay0 (.tuple b) then some (.fz (.bool (PySem.W.dataLt (.tuple a) (.tuple b)))) else none
  | _, _ => none
theorem op2_ltT (hu : X.A.units + 64 < cLine) : Op2 X (compareOp .Lt) gLtT := by
  refine ⟨_, op_ltD hu, fun Z H x y dx dy a t px py e Q q => ?_⟩
  unfold gLtT at e
  split at e
  · split at e
    · rename_i h
      cases e
      rw [Bool.and_eq_true, Bool.and_eq_true, Bool.and_eq_true] at h
      exact ⟨_, _, px.dp' h.1.2, py.dp' h.2, h.1.1.1, (fun e => nomatch e), of_decide_eq_true h.1.1.2, q _ Z H (.refl t) (.bl _)⟩
    · cases e
  · cases e
def gLtA (x y : D) : Option T := match x, y with
  | .tuple a, .tuple b => gLtT (.tuple a) (.tuple b)
  | x, y => gLt x y
theorem op2_ltA (hu : X.A.units + 64 < cLine) : Op2 X (compareOp .Lt) gLtA := by
  refine Op2.or (op2_ltT hu) op2_lt fun x y a e => ?_
  unfold gLtA at e
  split at e
  · exact .inl e
  · exact .inr e
end

/-! ### min, max of two texts -/
section
variable {prog : Program} {w : World} {A : Around} {E : Value → Shared → Prop} {s : Shared}
theorem items_two {a b : Value} {i : Nat} {v : Value} (h : (#[a, b] : Array Value)[i]? = some v) : (i = 0 ∧ v = a) ∨ (i = 1 ∧ v = b) := by
  match i, h with
  | 0, h => exact .inl ⟨rfl, by simpa using h.symm⟩
  | 1, h => exact .inr ⟨rfl, by simpa using h.symm⟩
  | n + 2, h => simp at h
theorem call_two {nm : String} {op : CmpOp} {bt : Nat → Nat → Bool} {a b : Value} {Q : Value → Shared → Prop} (hh : A.handled = none)
    (hcall : ∀ {Q : Value → Shared → Prop}, wpAny (model prog w) A.in1 (pyIter (.ref s.heap.objs.size)) (fun it s₂ => ∃ I fp wr n P St bt, it = .ref I ∧ Walks prog w A.in1 I fp wr n P St ∧ St 0 s₂.heap ∧ (∀ b ∈ fp, b < s₂.heap.objs.size) ∧ 0 < n ∧ CmpOf prog w A.in1 op P bt ∧
      ∀ v h' tk, P (argBest bt (n - 1)) v → (∀ b o, b ∉ wr → s₂.heap.get? b = some o → h'.get? b = some o) → Q v { s₂ with heap := h', toks := tk }) E
      { s with heap := s.heap.push { cls := .type "tuple", data := .seq #[a, b] } } → wpAny (model prog w) A (call (.builtin nm) [a, b]) Q E s)
    (hcmp : CmpOf prog w A.in1 op (fun i v => (#[a, b] : Array Value)[i]? = some v) bt)
    (h : ∀ h' tk, (∀ c o, s.heap.get? c = some o → h'.get? c = some o) → Q (if bt 1 0 then b else a) { s with heap := h', toks := tk }) :
    wpAny (model prog w) A (call (.builtin nm) [a, b]) Q E s := by
  have hT : (s.heap.push { cls := .type "tuple", data := .seq #[a, b] }).IsTuple s.heap.objs.size #[a, b] := ⟨_, Heap.get?_push_size _ rfl, rfl, 0, rfl⟩
  refine hcall (wpAny_pyIter_tuple hT ?_)
  have hsz : (s.heap.push { cls := .type "tuple", data := .seq #[a, b] }).objs.size = s.heap.objs.size + 1 := Heap.size_push ..
  refine ⟨_, [_, s.heap.objs.size], [_], _, _, _, bt, rfl, Walks.tuple (A := A.in1) hh _ s.heap.objs.size (by rw [hsz]; exact Nat.ne_of_lt (Nat.lt_succ_self _)) #[a, b],
    ⟨⟨_, Heap.get?_push_size _ rfl, rfl, rfl⟩, hT.push _⟩, fun c hc => ?_, by simp, hcmp, fun v h' tk hP hk => ?_⟩
  · show c < ((s.heap.push _).push _).objs.size
    rw [Heap.size_push, hsz]
    rcases List.mem_cons.mp hc with rfl | hc
    · rw [hsz]; exact Nat.lt_succ_self _
    · rcases List.mem_cons.mp hc with rfl | hc
      · exact Nat.lt_succ_of_lt (Nat.lt_succ_self _)
      · cases hc
  · have hold : ∀ c o, s.heap.get? c = some o → h'.get? c = some o := fun c o e => by
      refine hk c o (fun hm => ?_) (Heap.get?_push_of_some _ (Heap.get?_push_of_some _ e))
      rcases List.mem_cons.mp hm with e1 | hm
      · have := Heap.lt_size e; rw [e1, hsz] at this; exact Nat.lt_irrefl _ (Nat.lt_of_succ_lt this)
      · cases hm
    have hv : v = if bt 1 0 then b else a := by
      have hP' : (#[a, b] : Array Value)[argBest bt 1]? = some v := hP
      by_cases hba : bt 1 0 = true
      · have e : argBest bt 1 = 1 := by simp [argBest, hba]
        rw [e] at hP'
        rw [if_pos hba]
        simpa using hP'.symm
      · have e : argBest bt 1 = 0 := by simp [argBest, hba]
        rw [e] at hP'
        rw [if_neg hba]
        simpa using hP'.symm
    rw [hv]; exact h h' tk hold
end
section
variable {X : Cx}
theorem call_maxS (hc : X.calm = true) : CallR X (.builtin "max") (fun xs H Q => ∃ i j : Str, xs = [.str i, .str j] ∧ Q (.str (if i.cps.toList < j.cps.toList then j else i)) H) := by
  intro pins s σ H xs us Q I r h
  obtain ⟨i, j, rfl, q⟩ := h
  obtain ⟨u, w', rfl, ⟨t, rfl⟩, ⟨t', rfl⟩⟩ := vals2 r
  refine call_two (op := .Gt) (bt := fun n m => decide ((if m = 0 then i else j).cps.toList < (if n = 0 then i else j).cps.toList)) (I.ok.hd hc) (fun h => call_max_two h) (fun n m vi vj s Q E hi hj q => ?_) fun h' tk k => ⟨_, H, I.kept k, ?_, q⟩
  · rcases items_two hi with ⟨rfl, rfl⟩ | ⟨rfl, rfl⟩ <;> rcases items_two hj with ⟨rfl, rfl⟩ | ⟨rfl, rfl⟩ <;> exact P.gt_str q
  · by_cases hj : i.cps.toList < j.cps.toList
    · simp only [Nat.one_ne_zero, if_true, if_false, hj, decide_true]; exact ⟨_, rfl⟩
    · simp only [Nat.one_ne_zero, if_true, if_false, hj, decide_false, Bool.false_eq_true]; exact ⟨_, rfl⟩
theorem call_minS (hc : X.calm = true) : CallR X (.builtin "min") (fun xs H Q => ∃ i j : Str, xs = [.str i, .str j] ∧ Q (.str (if j.cps.toList < i.cps.toList then j else i)) H) := by
  intro pins s σ H xs us Q I r h
  obtain ⟨i, j, rfl, q⟩ := h
  obtain ⟨u, w', rfl, ⟨t, rfl⟩, ⟨t', rfl⟩⟩ := vals2 r
  refine call_two (op := .Lt) (bt := fun n m => decide ((if n = 0 then i else j).cps.toList < (if m = 0 then i else j).cps.toList)) (I.ok.hd hc) (fun h => call_min_two h) (fun n m vi vj s Q E hi hj q => ?_) fun h' tk k => ⟨_, H, I.kept k, ?_, q⟩
  · rcases items_two hi with ⟨rfl, rfl⟩ | ⟨rfl, rfl⟩ <;> rcases items_two hj with ⟨rfl, rfl⟩ | ⟨rfl, rfl⟩ <;> exact PyProof.Rows.lt_str q
  · by_cases hj : j.cps.toList < i.cps.toList
    · simp only [Nat.one_ne_zero, if_true, if_false, hj, decide_true]; exact ⟨_, rfl⟩
    · simp only [Nat.one_ne_zero, if_true, if_false, hj, decide_false, Bool.false_eq_true]; exact ⟨_, rfl⟩
def gMaxA : List D → Option T
  | [.int i, .int j] => some (.fz (.int (if j > i then j else i)))
  | [.str i, .str j] => some (.fz (.str (if i.cps.toList < j.cps.toList then j else i)))
  | _ => none
def gMinA : List D → Option T
  | [.int i, .int j] => some (.fz (.int (if j < i then j else i)))
  | [.str i, .str j] => some (.fz (.str (if j.cps.toList < i.cps.toList then j else i)))
  | _ => none
@[simp] theorem gMaxA_int (i j : Int) : gMaxA [.int i, .int j] = some (.fz (.int (if j > i then j else i))) := rfl
@[simp] theorem gMinA_int (i j : Int) : gMinA [.int i, .int j] = some (.fz (.int (if j < i then j else i))) := rfl
theorem call_or {f : Value} {r r' : List V → Hp → VK → Prop} (h : CallR X f r) (h' : CallR X f r') : CallR X f fun xs H Q => r xs H Q ∨ r' xs H Q :=
  fun pins s σ H xs us Q I rv q => q.elim (h pins s σ H xs us Q I rv) (h' pins s σ H xs us Q I rv)
theorem c_maxA (hc : X.calm = true) : Call1 X (.builtin "max") gMaxA := by
  refine ⟨_, call_or (call_max2 hc) (call_maxS hc), fun Z H xs ds a t px e Q q => ?_⟩
  unfold gMaxA at e
  split at e
  · cases e
    cases px with | cons h r => cases r with | cons h2 r => cases r; cases h.int; cases h2.int; exact .inl ⟨_, _, rfl, q _ Z H (.refl t) (.int _)⟩
  · cases e
    cases px with | cons h r => cases r with | cons h2 r => cases r; cases h.str; cases h2.str; exact .inr ⟨_, _, rfl, q _ Z H (.refl t) (.str _)⟩
  · cases e
theorem c_minA (hc : X.calm = true) : Call1 X (.builtin "min") gMinA := by
  refine ⟨_, call_or (call_min2 hc) (call_minS hc), fun Z H xs ds a t px e Q q => ?_⟩
  unfold gMinA at e
  split at e
  · cases e
    cases px with | cons h r => cases r with | cons h2 r => cases r; cases h.int; cases h2.int; exact .inl ⟨_, _, rfl, q _ Z H (.refl t) (.int _)⟩
  · cases e
    cases px with | cons h r => cases r with | cons h2 r => cases r; cases h.str; cases h2.str; exact .inr ⟨_, _, rfl, q _ Z H (.refl t) (.str _)⟩
  · cases e
end
end DL
/-! DLB: tuple * int. -/
namespace DL
open PySem PySem.Spec PyProof.Rows L2
theorem tuple_mul1 (l : Addr) (items : Array Value) (n : Nat) (dd : Option Addr) (sl : Array (Option Value)) (u : Tok) :
    Meets (Builtin.«tuple.__mul__» ⟨[.ref l, .int 1 u], []⟩) (fun _ R s => s.heap.get? l = some { cls := .type "tuple", dict := dd, data := .seq items n, slots := sl } ∧ R (.ok (.ret (Value.ref l))) s) :=
  .of_wp fun prog w A R s h => by
    obtain ⟨hp, g, d, tk, os⟩ := s
    obtain ⟨hl, h⟩ := h
    have f1 := AutoSeq1.idx_int
    wp_walk using wpAny_loadPart' hl
    repeat (first
      | (refine wpAny_ite_true (by simp) ?_; wp_walk using wpAny_loadPart' hl)
      | (refine wpAny_ite_false (by simp) ?_; wp_walk using wpAny_loadPart' hl))
    exact ⟨_, rfl, h⟩
theorem tuple_mul0 (l : Addr) (items : Array Value) (n : Nat) (dd : Option Addr) (sl : Array (Option Value)) (u : Tok) (hne : items.isEmpty = false) :
    Meets (Builtin.«tuple.__mul__» ⟨[.ref l, .int 0 u], []⟩) (fun _ R s => s.heap.get? l = some { cls := .type "tuple", dict := dd, data := .seq items n, slots := sl } ∧
      R (.ok (.ret (Value.ref s.heap.objs.size))) { s with heap := s.heap.push { cls := Value.type "tuple", data := Data.seq #[] }, toks := s.toks }) :=
  .of_wp fun prog w A R s h => by
    obtain ⟨hp, g, d, tk, os⟩ := s
    obtain ⟨hl, h⟩ := h
    have f1 := AutoSeq1.idx_int
    wp_walk using wpAny_loadPart' hl
    repeat (first
      | (refine wpAny_ite_true (by simp [hne]) ?_; wp_walk using wpAny_loadPart' hl)
      | (refine wpAny_ite_false (by simp [hne]) ?_; wp_walk using wpAny_loadPart' hl))
    exact ⟨_, rfl, h⟩
section
variable {X : Cx}
def rRep01 (K : PySem.W.Frag) : R2 := fun x y H Q => ∃ l k xs, x = .ref l ∧ y = .int k ∧ SqT K H l xs ∧ xs ≠ [] ∧ ((k = 1 ∧ Q (.ref l) H) ∨ (k = 0 ∧ ∀ p, H p = none → Q (.ref p) (upd H p (.tup []))))
theorem op_rep01 : OpR X (binaryOp .Mult) (rRep01 X.K) := by
  intro pins s σ H x y v u Q I rx ry h
  obtain ⟨l, k, xs, rfl, rfl, hT, hne, hk⟩ := h
  cases rx
  obtain ⟨t, rfl⟩ := ry
  obtain ⟨its, r, ⟨⟨cls, dd, data, sl⟩, ho, hc, n, hd⟩, hs⟩ := I.tuple hT
  simp only at hc hd
  subst hc hd
  have hle : its.length = xs.length := r.length.symm
  have hn : its ≠ [] := fun e => hne (by
    rw [e] at hle
    exact List.eq_nil_of_length_eq_zero hle.symm)
  have hi : its.toArray.isEmpty = false := by
    cases its with
    | nil => exact absurd rfl hn
    | cons a b => rfl
  rcases hk with ⟨rfl, q⟩ | ⟨rfl, q⟩
  · exact wpAny_binaryOp_repeat_ref (T := "tuple") (U := "int") (by decide) ⟨_, ho, rfl⟩ (fun s' => typeIs_int s' 1 t) noFill_tuple_mul F.fills_int_mul F.slot_int_rmul repeat_tuple F.slot_int_index.lookup
      (call_meets F.slot_int_rmul (typeIs_int s 1 t) F.entry_int_rmul (F.args_int_rmul_2 _ _) (int_rmul_tuple 1 t l its.toArray n dd sl)
        ⟨ho, rfl, ⟨_, ho, rfl⟩, call_meets F.slot_tuple_mul ⟨_, ho, rfl⟩ F.entry_tuple_mul (F.args_tuple_mul_2 _ _) (tuple_mul1 l its.toArray n dd sl t) ⟨ho, .ref l, H, I, rfl, q⟩⟩)
  · refine wpAny_binaryOp_repeat_ref (T := "tuple") (U := "int") (by decide) ⟨_, ho, rfl⟩ (fun s' => typeIs_int s' 0 t) noFill_tuple_mul F.fills_int_mul F.slot_int_rmul repeat_tuple F.slot_int_index.lookup
      (call_meets F.slot_int_rmul (typeIs_int s 0 t) F.entry_int_rmul (F.args_int_rmul_2 _ _) (int_rmul_tuple 0 t l its.toArray n dd sl)
        ⟨ho, rfl, ⟨_, ho, rfl⟩, call_meets F.slot_tuple_mul ⟨_, ho, rfl⟩ F.entry_tuple_mul (F.args_tuple_mul_2 _ _) (tuple_mul0 l its.toArray n dd sl t hi) ⟨ho, ?_⟩⟩)
    refine ⟨.ref s.heap.objs.size, _, I.laid (t' := s.toks) (o := .tup []) (fun b ob q => Heap.get?_push_of_some _ q) (Nat.le_refl _) ?_, rfl, q _ (I.hok.fresh (Nat.le_refl _))⟩
    exact ⟨Nat.zero_le _, [], .nil, ⟨_, Heap.get?_push_size _ rfl, rfl, _, rfl⟩⟩
theorem RA.rep {K : PySem.W.Frag} {Z : Zp} {H : Hp} {vs : List V} {ds : List D} (r : RA K Z H vs ds) : ∀ n : Nat, RA K Z H (List.replicate n vs).flatten (List.replicate n ds).flatten
  | 0 => .nil
  | n + 1 => by
    rw [List.replicate_succ, List.replicate_succ, List.flatten_cons, List.flatten_cons]
    exact r.append (RA.rep r n)
def gMulT (x y : D) : Option T := match x, y with
  | .tuple ds, .int k => if !ds.isEmpty && decide (0 ≤ k) && decide (k ≤ 1000) && decide (ds.length ≤ 1000) then some (.fz (.tuple (List.replicate k.toNat ds).flatten)) else none
  | _, _ => none
theorem op2_mulT : Op2 X (binaryOp .Mult) gMulT := by
  refine ⟨_, op_rep01.or op_repT, fun Z H x y dx dy a t px py e Q q => ?_⟩
  unfold gMulT at e
  split at e
  · split at e
    · rename_i ds k h
      cases e
      rw [Bool.and_eq_true, Bool.and_eq_true, Bool.and_eq_true] at h
      obtain ⟨⟨⟨h1, h2⟩, h3⟩, h4⟩ := h
      have h2 := of_decide_eq_true h2
      have h3 := of_decide_eq_true h3
      have h4 := of_decide_eq_true h4
      have px' := px.r (fun _ e => nomatch e) (fun _ e => nomatch e)
      obtain ⟨p, xs, rfl, hT, ra⟩ := px.tuple
      cases py.int
      have ne : xs ≠ [] := fun e => by
        subst e
        cases ra
        cases h1
      by_cases k1 : k = 1
      · subst k1
        refine .inl ⟨p, 1, xs, rfl, rfl, hT, ne, .inl ⟨rfl, q _ Z H (.refl t) ?_⟩⟩
        have : (List.replicate (1 : Int).toNat ds).flatten = ds := by simp
        rw [this]
        exact px'
      · by_cases k0 : k = 0
        · subst k0
          refine .inl ⟨p, 0, xs, rfl, rfl, hT, ne, .inr ⟨rfl, fun b nb => ?_⟩⟩
          obtain ⟨g, w⟩ := new_tup t nb (RA.nil (K := X.K))
          exact q _ _ _ g w
        · refine .inr ⟨p, k, xs, rfl, rfl, hT, ne, by omega, by omega, by rw [ra.length]; exact h4, fun b nb => ?_⟩
          obtain ⟨g, w⟩ := new_tup t nb (ra.rep k.toNat)
          exact q _ _ _ g w
    · cases e
  · cases e
def gMulA (x y : D) : Option T := match x, y with
  | .tuple ds, y => gMulT (.tuple ds) y
  | x, y => gMulI x y
theorem op2_mulA : Op2 X (binaryOp .Mult) gMulA := by
  refine Op2.or op2_mulT op2_mulI fun x y a e => ?_
  unfold gMulA at e
  split at e
  · exact .inl e
  · exact .inr e
theorem gMulA_int {i j : Int} (h : CMulW i j) : gMulA (.int i) (.int j) = some (.fz (.int (i * j))) := if_pos h
theorem gMulA_tup {ds : List D} {k : Int} (h1 : ds.isEmpty = false) (h2 : 0 ≤ k) (h3 : k ≤ 1000) (h4 : ds.length ≤ 1000) : gMulA (.tuple ds) (.int k) = some (.fz (.tuple (List.replicate k.toNat ds).flatten)) :=
  if_pos (by simp [h1, h2, h3, h4])
end
end DL
/-! DLC: sorted. -/
namespace DL
open PySem PySem.Spec PyProof.Rows L2
abbrev leD : D → D → Bool := PySem.W.dataLe false (id : D → D)
def srtD (ds : List D) : List D := ds.mergeSort leD
theorem each_of_paired {ok : V → D → Prop} : ∀ {xs : List V} {its : List Value} {ds : List D}, Vals xs its → Paired ok xs ds → PySem.W.EachIs (fun v d => ∃ x, RelV x v ∧ ok x d) its ds
  | _, _, _, .nil, .nil => .nil
  | _, _, _, .cons r v, .cons h t => .cons ⟨_, r, h⟩ (each_of_paired v t)
theorem paired_of_each {ok : V → D → Prop} : ∀ {its : List Value} {ds : List D}, PySem.W.EachIs (fun v d => ∃ x, RelV x v ∧ ok x d) its ds → ∃ xs, Vals xs its ∧ Paired ok xs ds
  | _, _, .nil => ⟨[], .nil, .nil⟩
  | _, _, .cons ⟨x, r, h⟩ t => by
    obtain ⟨xs, h1, h2⟩ := paired_of_each t
    exact ⟨x :: xs, .cons r h1, .cons h h2⟩
theorem reads_each {h : Heap} : ∀ {its : List Value} {ds : List D} {as : List Addr}, ReadsAll h its ds as → PySem.W.EachIs (fun v d => ∃ as, Reads h v (id d) as) its ds
  | _, _, _, .nil => .nil
  | _, _, _, .cons r t => .cons ⟨_, r⟩ (reads_each t)
def rSortedD (K : PySem.W.Frag) : List V → Hp → VK → Prop := fun vs H Q => ∃ (a : Addr) (xs : List V) (ds : List D) (ok : V → D → Prop), vs = [.ref a] ∧ SqL K H a xs ∧ DpAll K H xs ds ∧ Paired ok xs ds ∧ PySem.W.AllAlike ds ∧ PySem.W.Sortable ds ∧ ds.length ≤ 1000000 ∧ (∀ d ∈ ds, d.depth ≤ 60) ∧
  ∀ xs' p, Paired ok xs' (srtD ds) → H p = none → Q (.ref p) (upd H p (.lst xs'))
section
variable {X : Cx}
theorem cr_sortedD (hu : X.A.units + 64 < cLine) : CallR X (.builtin "sorted") (rSortedD X.K) := by
  intro pins s σ H vs us Q I r h
  obtain ⟨a, xs, ds, ok, rfl, hs, hd, hp, hal, hk, hz, hdep, q⟩ := h
  obtain ⟨its, rv, hl, _⟩ := I.list hs
  rw [Vals.ref1 r]
  obtain ⟨as, rd⟩ := Dp.readsAll I ds xs its hd rv
  have mi : ds.map (id : D → D) = ds := List.map_id ds
  refine PySem.W.sorted_data (enc := id) hl.isList (each_of_paired rv hp) (reads_each rd) (by rw [mi]; exact hal) (by rw [mi]; exact hk) (line_of hz) (fun b hb => by
    have := hdep b hb
    show X.A.units + 2 + PyData.depth b < cLine
    omega) fun out ho eo => ?_
  obtain ⟨xs', v', p'⟩ := paired_of_each eo
  obtain ⟨ep, he'⟩ := PyProof.Rows.sortedAll_at s.heap its out.toArray
  have hlen : xs'.length ≤ sizeLine := by
    rw [Paired.length v', ho]
    exact line_of hz
  exact ⟨.ref _, upd H (s.heap.objs.size + 1) (.lst xs'), I.laid (t' := s.toks) (fun _ _ => PyProof.Rows.sortedAll_old) (Nat.le_succ _) ⟨hlen, out, ep, v', he'⟩, rfl, q xs' _ p' (I.hok.fresh (Nat.le_succ _))⟩
theorem paired_RA {K : PySem.W.Frag} {Z : Zp} {H : Hp} : ∀ {xs : List V} {ds : List D}, RA K Z H xs ds → Paired (R K Z H) xs ds
  | _, _, .nil => .nil
  | _, _, .cons h t => .cons h (paired_RA t)
theorem RA_paired {K : PySem.W.Frag} {Z : Zp} {H : Hp} : ∀ {xs : List V} {ds : List D}, Paired (R K Z H) xs ds → RA K Z H xs ds
  | _, _, .nil => .nil
  | _, _, .cons h t => .cons h (RA_paired t)
def isTup1 : D → Bool
  | .tuple (_ :: _) => true
  | _ => false
def noTup : D → Bool
  | .none => false
  | .tuple _ => false
  | _ => true
def sortB (ds : List D) : Bool := ds.all (fun d => ds.all fun e => PySem.W.alike d e) && (ds.all isTup1 || ds.all noTup) && decide (ds.length ≤ 1000000) && ds.all (fun d => decide (d.depth ≤ 60)) && ds.all PyData.canLay0
theorem sortB_ok {ds : List D} (h : sortB ds = true) : PySem.W.AllAlike ds ∧ PySem.W.Sortable ds ∧ ds.length ≤ 1000000 ∧ (∀ d ∈ ds, d.depth ≤ 60) ∧ ∀ d ∈ ds, d.canLay0 = true := by
  unfold sortB at h
  simp only [Bool.and_eq_true, Bool.or_eq_true, List.all_eq_true, decide_eq_true_eq] at h
  obtain ⟨⟨⟨⟨h1, h2⟩, h3⟩, h4⟩, h5⟩ := h
  refine ⟨h1, ?_, h3, h4, h5⟩
  rcases h2 with h2 | h2
  · refine .inl fun d hd => ?_
    have := h2 d hd
    unfold isTup1 at this
    split at this
    · exact ⟨_, _, rfl⟩
    · cases this
  · refine .inr fun d hd => ?_
    have := h2 d hd
    cases d <;> simp_all [noTup]
theorem canLayAll_of {ds : List D} (h : ∀ d ∈ ds, d.canLay0 = true) : PyData.canLayAll0 ds = true := by
  induction ds with
  | nil => simp [PyData.canLayAll0]
  | cons d ds ih => simp only [PyData.canLayAll0, Bool.and_eq_true]; exact ⟨h d (List.mem_cons_self ..), ih fun e he => h e (List.mem_cons_of_mem _ he)⟩
def gSorted : List D → Option T
  | [.list ds] => if sortB ds then some (.nw (srtD ds)) else none
  | _ => none
theorem gSorted_lst {ds : List D} (h : sortB ds = true) : gSorted [.list ds] = some (.nw (srtD ds)) := if_pos h
theorem c_sorted (hu : X.A.units + 64 < cLine) : Call1 X (.builtin "sorted") gSorted := by
  refine ⟨_, cr_sortedD hu, fun Z H xs ds a t px e Q q => ?_⟩
  unfold gSorted at e
  split at e
  · split at e
    · rename_i hb
      cases e
      obtain ⟨h1, h2, h3, h4, h5⟩ := sortB_ok hb
      cases px with
      | cons h r =>
        cases r
        obtain ⟨p, xs, rfl, hl, ra⟩ := h.list
        refine ⟨p, xs, _, R X.K Z H, rfl, .inl (.inl hl), dpa_of ra (canLayAll_of h5), paired_RA ra, h1, h2, h3, h4, fun xs' b pr nb => ?_⟩
        obtain ⟨g, w⟩ := new_lst t nb (RA_paired pr)
        exact q _ _ _ g w
    · cases e
  · cases e
end
end DL
/-! DLD: sorted(d.items()). -/
namespace DL
open PySem PySem.Spec PyProof.Rows L2
mutual
theorem reads_lt {h : Heap} : ∀ {v : Value} {d : D} {as : List Addr}, Reads h v d as → ∀ a ∈ as, a < h.objs.size
  | _, _, _, .none, a, z => by cases z
  | _, _, _, .bool _, a, z => by cases z
  | _, _, _, .int _ _, a, z => by cases z
  | _, _, _, .str _ _, a, z => by cases z
  | _, _, _, .list h1 _ _ h4, a, z => by
    rcases List.mem_cons.mp z with e | z
    · rw [e]; exact Heap.lt_size h1
    · exact readsAll_lt h4 a z
  | _, _, _, .tuple _ _ _ h4, a, z => readsAll_lt h4 a z
  | _, _, _, .dict h1 _ _ h4 h5, a, z => by
    rcases List.mem_append.mp z with z | z
    · rcases List.mem_cons.mp z with e | z
      · rw [e]; exact Heap.lt_size h1
      · exact readsAll_lt h4 a z
    · exact readsAll_lt h5 a z
theorem readsAll_lt {h : Heap} : ∀ {vs : List Value} {ds : List D} {as : List Addr}, ReadsAll h vs ds as → ∀ a ∈ as, a < h.objs.size
  | _, _, _, .nil, a, z => by cases z
  | _, _, _, .cons r t, a, z => by
    rcases List.mem_append.mp z with z | z
    · exact reads_lt r a z
    · exact readsAll_lt t a z
end
/-- many tuples are laid at once -/
def layT (H : Hp) (ps : List (Addr × List V)) : Hp := fun a => match ps.find? (fun p => decide (p.1 = a)) with
  | some p => some (.tup p.2)
  | none => H a
theorem layT_off {H : Hp} {ps : List (Addr × List V)} {a : Addr} (h : ∀ p ∈ ps, p.1 ≠ a) : layT H ps a = H a := by
  unfold layT
  rw [List.find?_eq_none.mpr fun p hp => by simpa using h p hp]
theorem layT_at {H : Hp} {ps : List (Addr × List V)} {a : Addr} {xs : List V} (h : (a, xs) ∈ ps) (nd : (ps.map (·.1)).Nodup) : layT H ps a = some (.tup xs) := by
  unfold layT
  have : ps.find? (fun p => decide (p.1 = a)) = some (a, xs) := by
    induction ps with
    | nil => cases h
    | cons p r ih =>
      rw [List.map_cons, List.nodup_cons] at nd
      rcases List.mem_cons.mp h with e | h
      · subst e
        simp
      · have ne : p.1 ≠ a := fun e => nd.1 (e ▸ List.mem_map.mpr ⟨_, h, rfl⟩)
        rw [List.find?_cons_of_neg (by simpa using ne)]
        exact ih h nd.2
  rw [this]
theorem layT_cases {H : Hp} {ps : List (Addr × List V)} (a : Addr) : layT H ps a = H a ∨ ∃ p ∈ ps, p.1 = a ∧ layT H ps a = some (.tup p.2) := by
  unfold layT
  cases e : ps.find? (fun p => decide (p.1 = a)) with
  | none => exact .inl rfl
  | some p => exact .inr ⟨p, List.mem_of_find?_eq_some e, by simpa using List.find?_some e, rfl⟩
section
variable {X : Cx} {pins : List (Addr × Obj)} {σ : L2.St} {H : Hp} {s : Shared}
theorem lay_many (I : Inv X pins σ H s) {h' : Heap} {tk : Nat} {ps : List (Addr × List V)} (new : ∀ p ∈ ps, H p.1 = none) (hk : ∀ b o, s.heap.get? b = some o → h'.get? b = some o)
    (hps : ∀ p ∈ ps, ObjOk X.prog X.w (layT H ps) h' p.1 (.tup p.2)) (low : ∀ p ∈ ps, s.heap.objs.size ≤ p.1) : Inv X pins σ (layT H ps) { s with heap := h', toks := tk } := by
  have old : ∀ b u, H b = some u → layT H ps b = some u := fun b u e => by
    rcases layT_cases (H := H) (ps := ps) b with z | ⟨p, hp, rfl, _⟩
    · rw [z, e]
    · rw [new p hp] at e; cases e
  refine I.call' (ch := []) rfl ⟨fun b o z _ _ _ => hk b o z, fun b o z _ _ _ => ⟨o.slots, hk b o z⟩, fun b o z nb _ => ?_, fun b o z _ => ⟨o, hk b o z⟩, fun b xs z => old b _ z, fun b o u z => old b _ z, fun b ps' z => ⟨#[], by rw [old b _ z]; simp⟩⟩ (fun b u z => ?_) I.bare fun b z => by simp at z
  · rcases layT_cases (H := H) (ps := ps) b with e | ⟨p, hp, rfl, _⟩
    · rw [e]; exact nb
    · exact absurd (Heap.lt_size z) (Nat.not_lt.mpr (low p hp))
  · rcases layT_cases (H := H) (ps := ps) b with e | ⟨p, hp, rfl, e⟩
    · rw [e] at z
      exact (I.hok b u z).stay (fun d v _ y => hk d v y) (fun d y => old d _ y) fun d xs y => old d _ y
    · rw [e] at z
      cases z
      exact hps p hp
def rSortItems (K : PySem.W.Frag) : V → Hp → VK → Prop := fun x H Q => ∃ (d : Addr) (kvs : List (Key × V)) (prs : List D) (ok : Key × V → D → Prop), x = .ref d ∧ Rd H d (.dK kvs) ∧ Paired ok kvs prs ∧
  Paired (fun (q : Key × V) e => ∃ s dv, q.1 = Sum.inr s ∧ e = .tuple [.str s, dv] ∧ Dp K H q.2 dv) kvs prs ∧ PySem.W.AllAlike prs ∧ PySem.W.Sortable prs ∧ prs.length ≤ 1000000 ∧ (∀ e ∈ prs, e.depth ≤ 60) ∧
  ∀ (H' : Hp) (p : Addr) (ts : List Addr), (∀ b o, H b = some o → H' b = some o) → H p = none → (∀ t ∈ ts, H t = none) → p ∉ ts → H' p = some (.lst (ts.map V.ref)) → Paired (fun (t : Addr) e => ∃ q, ok q e ∧ H' t = some (.tup [kV q.1, q.2])) ts (srtD prs) → Q (.ref p) H'
def tSortItems (K : PySem.W.Frag) (te : TE) : TE := fun σ H Q => te σ H fun x H1 => rSortItems K x H1 Q
theorem paired_idx {α β : Type} {F : α → β → Prop} : ∀ {xs : List α} {ys : List β}, Paired F xs ys → ∀ {i : Nat} {y : β}, ys[i]? = some y → ∃ x, xs[i]? = some x ∧ F x y
  | _, _, .nil, i, y, h => by simp at h
  | _, _, .cons r t, 0, y, h => by simp at h; subst h; exact ⟨_, rfl, r⟩
  | _, _, .cons r t, i + 1, y, h => by simpa using paired_idx t (by simpa using h)
theorem paired_of_idx {α β : Type} {F : α → β → Prop} : ∀ {xs : List α} {ys : List β}, xs.length = ys.length → (∀ (i : Nat) (x : α) (y : β), xs[i]? = some x → ys[i]? = some y → F x y) → Paired F xs ys
  | [], [], _, _ => .nil
  | x :: xs, y :: ys, hl, h => .cons (h 0 x y rfl rfl) (paired_of_idx (by simpa using hl) fun i a b e f => h (i + 1) a b (by simpa using e) (by simpa using f))
theorem paired_each {α β : Type} {F : α → β → Prop} : ∀ {xs : List α} {ys : List β}, Paired F xs ys → PySem.W.EachIs F xs ys
  | _, _, .nil => .nil
  | _, _, .cons r t => .cons r (paired_each t)
theorem each_paired {α β : Type} {F : α → β → Prop} : ∀ {xs : List α} {ys : List β}, PySem.W.EachIs F xs ys → Paired F xs ys
  | _, _, .nil => .nil
  | _, _, .cons r t => .cons r (each_paired t)
theorem Dp.up {K : PySem.W.Frag} {H H' : Hp} (h : ∀ b o, H b = some o → H' b = some o) {v : V} {d : D} (x : Dp K H v d) : Dp K H' v d := by
  have rd : ∀ a u, Rd H a u → Rd H' a u := fun a u q => q.elim (fun q => .inl (h _ _ q)) fun ⟨o, q⟩ => .inr ⟨o, h _ _ q⟩
  refine Dp.rec (motive_1 := fun v d _ => Dp K H' v d) (motive_2 := fun vs ds _ => DpAll K H' vs ds) .non .bl .int .str (fun {a xs ds} s _ ih => .lst ?_ ih) (fun {a xs ds} s _ ih => .tup ?_ ih) .nil (fun _ _ a b => .cons a b) x
  · exact s.elim (fun q => .inl (rd _ _ q)) .inr
  · exact s.elim (fun q => .inl (rd _ _ q)) .inr
theorem refs_of {F : Addr → D → Prop} : ∀ {us : List Value} {ds : List D}, PySem.W.EachIs (fun u e => ∃ t, u = Value.ref t ∧ F t e) us ds → ∃ ts, us = ts.map Value.ref ∧ Paired F ts ds
  | _, _, .nil => ⟨[], rfl, .nil⟩
  | _, _, .cons ⟨t, e, f⟩ r => by
    obtain ⟨ts, e1, p⟩ := refs_of r
    exact ⟨t :: ts, by rw [e, e1]; rfl, .cons f p⟩
variable {e : Expr} {te : TE} {p apos cpos pos : Pos}
theorem sort_items {A : Around} {d : Addr} {kvs : List (Key × V)} {prs : List D} {ok : Key × V → D → Prop} {Q : Value → Shared → Prop} {E : Value → Shared → Prop} (hA : A = X.A) (hc : X.calm = true) (hu : X.A.units + 64 < cLine) (I : Inv X pins σ H s) (hd : Rd H d (.dK kvs))
    (hok : Paired ok kvs prs) (hdp : Paired (fun (q : Key × V) e => ∃ s dv, q.1 = Sum.inr s ∧ e = .tuple [.str s, dv] ∧ Dp X.K H q.2 dv) kvs prs) (hal : PySem.W.AllAlike prs) (hsb : PySem.W.Sortable prs) (hz : prs.length ≤ 1000000) (hdep : ∀ e ∈ prs, e.depth ≤ 60)
    (q : ∀ (H' : Hp) (p : Addr) (ts : List Addr) (s' : Shared), Inv X pins σ H' s' → (∀ b o, H b = some o → H' b = some o) → H p = none → (∀ t ∈ ts, H t = none) → p ∉ ts → H' p = some (.lst (ts.map V.ref)) → Paired (fun (t : Addr) e => ∃ q, ok q e ∧ H' t = some (.tup [kV q.1, q.2])) ts (srtD prs) → Q (.ref p) s') :
    wpAny (model X.prog X.w) A (call (.builtin "sorted") [.ref s.heap.objs.size]) Q E { s with heap := s.heap.push { cls := .type "dict_items", data := .fields #[.ref d] } } := by
  subst hA
  obtain ⟨zl, hs0, vs, kv, hdo⟩ := dk_rd I.hok hd
  obtain ⟨ep, hat⟩ := hdo.dictAt
  have lk : kvs.length = vs.length := Paired.length kv
  have lp : kvs.length = prs.length := Paired.length hok
  refine Calls.call_function_entry kind_sorted plain_sorted entry_sorted (args_sorted1 _) ?_
  unfold Builtin.«sorted»
  refine wpAny_bind (m := checkCount "sorted" 1 1 _) (wpAny_pure ?_)
  refine wpAny_bind (PySem.W.kdx_collect (knd := mixKind X.prog X.w) (kvs := vs) (ep := ep) (A := X.A.in1) (I.ok.hd hc) ⟨_, Heap.get?_push_size _ rfl, rfl, rfl⟩ (hat.push _) (by omega) fun h' tk as hk hl hG => ?_)
  dsimp only at hk
  have hsz : (s.heap.push { cls := .type "dict_items", data := .fields #[.ref d] }).objs.size = s.heap.objs.size + 1 := Heap.size_push ..
  -- the tuples are laid
  have nd : as.Nodup := List.Pairwise.imp (fun {a b} (h : a < b) => Nat.ne_of_lt h) hG.rise
  have hgt : ∀ a ∈ as, s.heap.objs.size < a := fun a ha => by
    have h1 := hG.above a ha
    have h2 : s.heap.objs.size + 1 < a := hsz ▸ h1
    omega
  let ps : List (Addr × List V) := as.zip (kvs.map fun q => [kV q.1, q.2])
  have psm : ∀ p ∈ ps, ∃ (j : Nat) (q : Key × V), as[j]? = some p.1 ∧ kvs[j]? = some q ∧ p.2 = [kV q.1, q.2] := fun p hp => by
    obtain ⟨j, hj⟩ := List.mem_iff_getElem?.mp hp
    obtain ⟨e1, e2⟩ := List.getElem?_zip_eq_some.mp hj
    rw [List.getElem?_map] at e2
    obtain ⟨q, e3, e4⟩ := Option.map_eq_some_iff.mp e2
    exact ⟨j, q, e1, e3, e4.symm⟩
  have ps1 : ps.map (·.1) = as := by
    show List.map Prod.fst (as.zip (kvs.map fun q => [kV q.1, q.2])) = as
    rw [List.map_fst_zip]
    rw [List.length_map]; omega
  have new : ∀ p ∈ ps, H p.1 = none := fun p hp => by
    obtain ⟨j, q, e1, _⟩ := psm p hp
    exact I.hok.fresh (Nat.le_of_lt (hgt _ (List.mem_of_getElem? e1)))
  have hk' : ∀ b o, s.heap.get? b = some o → h'.get? b = some o := fun b o z => hk b o (Heap.get?_push_of_some _ z)
  have I2 : Inv X pins σ (layT H ps) { s with heap := h', toks := tk } := by
    refine lay_many I new hk' (fun p hp => ?_) fun p hp => ?_
    · obtain ⟨j, q, e1, e2, e3⟩ := psm p hp
      obtain ⟨key, k, x, f1, f2, f3⟩ := hG.pairs j p.1 e1
      obtain ⟨g0, g1, g2, g3⟩ := LiI.paired_get kv e2
      rw [f1] at g1
      cases g1
      have rk : RelV (kV q.1) key := by rw [g2]; exact relV_key (show keyIs k key = true from f2)
      rw [e3]
      exact ⟨by show 2 ≤ sizeLine; decide, [key, x], .cons rk (.cons g3 .nil), ⟨_, f3, rfl, _, rfl⟩⟩
    · obtain ⟨j, q, e1, _⟩ := psm p hp
      exact Nat.le_of_lt (hgt _ (List.mem_of_getElem? e1))
  have up : ∀ b o, H b = some o → layT H ps b = some o := fun b o e => by
    rcases layT_cases (H := H) (ps := ps) b with z | ⟨p, hp, rfl, _⟩
    · rw [z, e]
    · rw [new p hp] at e; cases e
  -- what stands at each place
  have at_ : Paired (fun (a : Addr) e => (∃ q, ok q e ∧ layT H ps a = some (.tup [kV q.1, q.2])) ∧ Dp X.K (layT H ps) (.ref a) e ∧ a ∈ as) as prs := by
    refine paired_of_idx (by omega) fun i a e e1 e2 => ?_
    obtain ⟨q, e3, oq⟩ := paired_idx hok e2
    obtain ⟨q', e3', s0, dv, eq1, eq2, dq⟩ := paired_idx hdp e2
    rw [e3] at e3'
    cases e3'
    have hmem : (a, [kV q.1, q.2]) ∈ ps := List.mem_iff_getElem?.mpr ⟨i, List.getElem?_zip_eq_some.mpr ⟨e1, by rw [List.getElem?_map, e3]; rfl⟩⟩
    have hat' := layT_at (H := H) hmem (by rw [ps1]; exact nd)
    refine ⟨⟨q, oq, hat'⟩, ?_, List.mem_of_getElem? e1⟩
    rw [eq2]
    refine .tup (.inl (.inl hat')) ?_
    rw [eq1]
    exact .cons (.str s0) (.cons (Dp.up up dq) .nil)
  refine wpAny_bind (wpAny_newList ?_ (by rw [List.length_map]; omega))
  have mi : prs.map (id : D → D) = prs := List.map_id prs
  have hD : (h'.push { cls := .type "list", data := .seq (as.map Value.ref).toArray }).get? h'.objs.size = some { cls := .type "list", data := .seq (as.map Value.ref).toArray } := Heap.get?_push_size _ rfl
  have ea : PySem.W.EachIs (fun (u : Value) (e : D) => ∃ t, u = Value.ref t ∧ (∃ q, ok q e ∧ layT H ps t = some (.tup [kV q.1, q.2])) ∧ t ∈ as) (as.map Value.ref) prs := by
    refine paired_each (paired_of_idx (by rw [List.length_map]; omega) fun i u e e1 e2 => ?_)
    rw [List.getElem?_map] at e1
    obtain ⟨a, e3, rfl⟩ := Option.map_eq_some_iff.mp e1
    obtain ⟨a', e4, h1, h2, h3⟩ := paired_idx at_ e2
    rw [e3] at e4
    cases e4
    exact ⟨a, rfl, h1, h3⟩
  have er : PySem.W.EachIs (fun (u : Value) (e : D) => ∃ bs, Reads (h'.push { cls := .type "list", data := .seq (as.map Value.ref).toArray }) u (id e) bs ∧ h'.objs.size ∉ bs) (as.map Value.ref) prs := by
    refine paired_each (paired_of_idx (by rw [List.length_map]; omega) fun i u e e1 e2 => ?_)
    rw [List.getElem?_map] at e1
    obtain ⟨a, e3, rfl⟩ := Option.map_eq_some_iff.mp e1
    obtain ⟨a', e4, h1, h2, h3⟩ := paired_idx at_ e2
    rw [e3] at e4
    cases e4
    obtain ⟨bs, rd⟩ := Dp.reads I2 e (.ref a) (.ref a) h2 rfl
    exact ⟨bs, PyProof.Rows.Reads.keeps (fun _ _ z => Heap.get?_push_of_some _ z) rd, fun z => Nat.lt_irrefl _ (reads_lt rd _ z)⟩
  have hsort := PySem.W.list_sort_data (prog := X.prog) (w := X.w) (A := X.A.in1) (E := E) (s := { s with heap := h'.push { cls := .type "list", data := .seq (as.map Value.ref).toArray }, toks := tk }) (a := h'.objs.size) (n := 0) (enc := (id : D → D))
    (Q := fun _ s' => Q (.ref h'.objs.size) s') hD ea er (by rw [mi]; exact hal) (by rw [mi]; exact hsb) (line_of hz) (fun b hb => by
      have h1 := hdep b hb
      have h2 : X.A.in1.units ≤ X.A.units + 1 := by first | exact Nat.le_refl _ | exact Nat.le_succ _
      show X.A.in1.units + 1 + PyData.depth b < cLine
      omega) fun out ho eo => ?_
  · refine wpAny_bind (wpAny_holding (wpAny_mono hsort (fun _ s' x => ?_) fun _ _ e => e))
    exact wpAny_pure ⟨_, rfl, x⟩
  · obtain ⟨ts, rfl, pt⟩ := refs_of eo
    obtain ⟨ee, he⟩ := PyProof.Rows.sortedHeap_at (vs := as.map Value.ref) (out := (ts.map Value.ref).toArray) hD
    have hold : ∀ b o, h'.get? b = some o → (PyProof.Rows.sortedHeap (h'.push { cls := .type "list", data := .seq (as.map Value.ref).toArray }) h'.objs.size (as.map Value.ref) (ts.map Value.ref).toArray).get? b = some o := fun b o z => by
      have z1 := Heap.lt_size z
      rw [PyProof.Rows.sortedHeap_old (Nat.ne_of_lt z1) (Nat.lt_of_lt_of_eq (Nat.lt_succ_of_lt z1) (Heap.size_push ..).symm)]
      exact Heap.get?_push_of_some _ z
    have hpn : H h'.objs.size = none := by
      cases hq : H h'.objs.size with
      | none => rfl
      | some o =>
        exact I2.hok.fresh (Nat.le_refl _) ▸ up _ _ hq |>.symm ▸ rfl
    have lts : ts.length = prs.length := by
      rw [List.length_map] at ho
      exact ho
    have hp2 : layT H ps h'.objs.size = none := I2.hok.fresh (Nat.le_refl _)
    have tin : ∀ t ∈ ts, t ∈ as := fun t ht => by
      obtain ⟨i, hi⟩ := List.mem_iff_getElem?.mp ht
      obtain ⟨y, _, _, f⟩ := LiI.paired_get pt hi
      exact f
    refine q (upd (layT H ps) h'.objs.size (.lst (ts.map V.ref))) h'.objs.size ts _ (I2.laid (t' := tk) hold (Nat.le_refl _) ?_) (fun b o z => ?_) hpn (fun t ht => ?_) (fun ht => ?_) upd_same ?_
    · exact ⟨by rw [List.length_map, lts]; exact line_of hz, ts.map Value.ref, ee, LiI.vals_refs ts, he⟩
    · rw [upd_ne fun z' => by rw [z'] at z; rw [hpn] at z; cases z]
      exact up b o z
    · exact I.hok.fresh (Nat.le_of_lt (hgt _ (tin t ht)))
    · exact Nat.lt_irrefl _ (hG.there (tin _ ht))
    · refine paired_of_idx (by rw [lts]; exact (List.length_mergeSort prs).symm) fun i t e e1 e2 => ?_
      obtain ⟨t', e3, ⟨q, oq, hq⟩, f⟩ := paired_idx pt e2
      rw [e1] at e3
      cases e3
      refine ⟨q, oq, ?_⟩
      rw [upd_ne fun (z : t = h'.objs.size) => Nat.lt_irrefl h'.objs.size (hG.there (z ▸ tin t (List.mem_of_getElem? e1)))]
      exact hq
/-- sorted(e.items()) -/
theorem pe_sortItems (hc : X.calm = true) (hu : X.A.units + 64 < cLine) (he : PE X e te) (hg : Gl X "sorted") (hm : X.mg "sorted" = none) (hv : bootBuiltins "sorted" = some (.builtin "sorted")) (hab : attributeBase e "items" X.env (eval e X.env) = eval e X.env := by rfl) (hln : (apos.endLine == cpos.line) = true := by rfl)
    (hs : starEach [.Call (.Attribute e "items" apos) [] [] cpos] X.env = (false, eval (.Call (.Attribute e "items" apos) [] [] cpos) X.env) :: starEach [] X.env := by rfl) : PE X (.Call (.Name "sorted" p) [.Call (.Attribute e "items" apos) [] [] cpos] [] pos) (tSortItems X.K te) := ⟨fun pins s σ H Q I hq => by
  refine wpAny_Call_Name_kw (ld_blt I hg hm hv (PyProof.Rows.callWith_builtin1 ?_ hs rfl))
  rw [hs] <;> refine Calls.spliced_cons (wpAny_Call_method (T := "dict") (id := "dict.items") hab rfl hln F.plainAttrs_dict F.slot_dict_items F.type_dict_items (thn (he.run pins s σ H _ I hq) fun u s1 h1 => ?_))
  obtain ⟨x, H1, I1, rx, d, kvs, prs, ok, ex, hd, h1, h2, h3, h4, h5, h6, q⟩ := h1
  subst ex
  have eu : u = Value.ref d := rx
  subst eu
  obtain ⟨zl, hs0, vs, kv, hdo⟩ := dk_rd I1.hok hd
  refine ⟨hdo.typeIs, hdo.mapOf.noDict, method_meetsIn F.slot_dict_items F.entry_dict_items rfl (PySem.evalArgs_none ⟨rfl, hdo.typeIs, F.args_dict_items_1 _, _, meets_dict_items (mixKind X.prog X.w) d hs0, ⟨vs, hdo⟩, Calls.spliced_nil ?_⟩)⟩
  exact sort_items rfl hc hu I1 hd h1 h2 h3 h4 h5 h6 fun H' p ts s' I' k1 k2 k3 k4 k5 k6 => ⟨.ref p, H', I', rfl, q H' p ts k1 k2 k3 k4 k5 k6⟩⟩
end
def pairsD (kvs : List (Str × D)) : List D := kvs.map fun p => .tuple [.str p.1, p.2]
def itemsD : D → Option (List D)
  | .dict l => (asDict l).bind fun r => if sortB (pairsD r) then some (srtD (pairsD r)) else none
  | _ => none
theorem itemsD_dict {kvs : List (Str × D)} (h : sortB (pairsD kvs) = true) : itemsD (dictD kvs) = some (srtD (pairsD kvs)) := by
  unfold itemsD dictD
  show (asDict (kvs.map fun p => (.str p.1, p.2))).bind _ = _
  rw [asDict_map]
  exact if_pos h
@[simp] def fItems (A : M T) : M T := fun δ => (A δ).bind fun p => (p.1.rd p.2).bind fun d => (itemsD d).map fun ds => (.nw ds, p.2)
theorem rk_pairs {K : PySem.W.Frag} {Z : Zp} {H : Hp} : ∀ {ks : List (Key × V)} {kvs : List (Str × D)}, RK K Z H ks kvs → (∀ d ∈ pairsD kvs, d.canLay0 = true) →
    Paired (fun (q : Key × V) e => ∃ s dv, q.1 = Sum.inr s ∧ e = .tuple [.str s, dv] ∧ R K Z H q.2 dv) ks (pairsD kvs) ∧ Paired (fun (q : Key × V) e => ∃ s dv, q.1 = Sum.inr s ∧ e = .tuple [.str s, dv] ∧ Dp K H q.2 dv) ks (pairsD kvs)
  | _, _, .nil, _ => ⟨.nil, .nil⟩
  | _, _, .cons r t, h => by
    obtain ⟨h1, h2⟩ := rk_pairs t fun d hd => h d (List.mem_cons_of_mem _ hd)
    have h0 := h _ (List.mem_cons_self ..)
    simp only [PyData.canLay0, PyData.canLayAll0, Bool.and_true, Bool.and_eq_true] at h0
    exact ⟨.cons ⟨_, _, rfl, rfl, r⟩ h1, .cons ⟨_, _, rfl, rfl, dp_of r h0.2⟩ h2⟩
section
variable {X : Cx} {e : Expr} {A : M T} {p apos cpos pos : Pos}
theorem sem_sortItems {K : PySem.W.Frag} {te : TE} (sa : Sem1 K te A) : Sem1 K (tSortItems K te) (fItems A) := by
  intro Z H σ δ t δ' r e Q q
  obtain ⟨⟨t1, δ1⟩, e1, e⟩ := Option.bind_eq_some_iff.mp e
  obtain ⟨d, ed, e⟩ := Option.bind_eq_some_iff.mp e
  obtain ⟨ds, ei, e⟩ := Option.map_eq_some_iff.mp e
  cases e
  refine sa Z H σ δ t1 δ1 r e1 _ fun v Z1 H1 r1 s1 w1 => ?_
  have px := w1.pk r1 ed
  unfold itemsD at ei
  split at ei
  · obtain ⟨kvs, ek, ei⟩ := Option.bind_eq_some_iff.mp ei
    rw [asDict_ok ek] at px
    split at ei
    · rename_i hb
      cases ei
      obtain ⟨b1, b2, b3, b4, b5⟩ := sortB_ok hb
      obtain ⟨a, ks, rfl, hd, rk⟩ := px.dict
      obtain ⟨p1, p2⟩ := rk_pairs rk b5
      refine ⟨a, ks, _, _, rfl, hd, p1, p2, b1, b2, b3, b4, fun H' p ts k1 k2 k3 k4 k5 k6 => ?_⟩
      have tr : Trk (fun a => Z1 a ∨ a ∈ ts) H' := fun b z => z.elim (fun z => by
        obtain ⟨o, e⟩ := r1.trk b z
        exact ⟨o, k1 b o e⟩) fun z => by
        obtain ⟨j, hj⟩ := List.mem_iff_getElem?.mp z
        obtain ⟨y, _, q, _, f⟩ := LiI.paired_get k6 hj
        exact ⟨_, f⟩
      have g : Grow Z1 H1 (fun a => Z1 a ∨ a ∈ ts) H' := ⟨fun _ z => .inl z, fun b z => z.elim .inl fun z => .inr (k3 b z), k1, tr⟩
      refine q _ _ H' (g.rep r1) (s1.trans g.stp) ⟨p, ts.map V.ref, rfl, none_of_there s1.there k2, fun z => z.elim (fun z => by
        obtain ⟨o, e⟩ := r1.trk p z
        exact sn e k2) k4, fun w => by
        obtain ⟨o, e⟩ := r1.wsome w
        exact sn e k2, k5, RA_paired ?_⟩
      refine paired_of_idx (by rw [List.length_map]; exact Paired.length k6) fun i x y e1 e2 => ?_
      rw [List.getElem?_map] at e1
      obtain ⟨t, e3, rfl⟩ := Option.map_eq_some_iff.mp e1
      obtain ⟨t', e4, q, ⟨s, dv, q1, q2, q3⟩, f⟩ := paired_idx k6 e2
      rw [e3] at e4
      cases e4
      subst q2
      refine R.tup (.inr (List.mem_of_getElem? e3)) f ?_
      rw [q1]
      exact .cons (.str s) (.cons (g.R r1.trk q3) .nil)
    · cases ei
  · cases ei
theorem ev_sortItems (hc : X.calm = true) (hu : X.A.units + 64 < cLine) (ha : Ev X e A) (hm : X.mg "sorted" = none) (hv : bootBuiltins "sorted" = some (.builtin "sorted")) (hg : Gl X "sorted" := by rfl) (hab : attributeBase e "items" X.env (eval e X.env) = eval e X.env := by rfl) (hln : (apos.endLine == cpos.line) = true := by rfl)
    (hs : starEach [.Call (.Attribute e "items" apos) [] [] cpos] X.env = (false, eval (.Call (.Attribute e "items" apos) [] [] cpos) X.env) :: starEach [] X.env := by rfl) : Ev X (.Call (.Name "sorted" p) [.Call (.Attribute e "items" apos) [] [] cpos] [] pos) (fItems A) := by
  obtain ⟨t, pa, sa⟩ := ha
  exact ⟨_, pe_sortItems hc hu pa hg hm hv hab hln hs, sem_sortItems sa⟩
end
end DL
/-! DLE: an owned object becomes frozen; dicts of pairs; a module's tuple. -/
namespace DL
open PySem PySem.Spec PyProof.Rows L2
section
variable {K : PySem.W.Frag} {Z Z' : Zp} {H H' H0 : Hp} {σ : L2.St} {δ : Dn} {i : Nat}
/-- an owned slot becomes frozen -/
theorem rep_frz {s : Sl} {d : D} {p : Addr} (r : Rep K Z H σ δ) (es : δ[i]? = some s) (ho : s.own = true) (ev : σ[i]? = some (some (.ref p))) (hp : ∃ o, H p = some o) (rd : R K (fun a => Z a ∨ a = p) H (.ref p) d) :
    Rep K (fun a => Z a ∨ a = p) H σ (δ.set i (.fz d)) ∧ Stp Z H σ δ (fun a => Z a ∨ a = p) H σ (δ.set i (.fz d)) := by
  have il : i < δ.length := (List.getElem?_eq_some_iff.mp es).1
  have hw : Wr σ δ p := ⟨i, _, es, ho, ev⟩
  have back : ∀ {j : Nat} {t : Sl}, (δ.set i (.fz d))[j]? = some t → t.own = true → j ≠ i ∧ δ[j]? = some t := fun {j t} e h => by
    by_cases hj : i = j
    · subst hj
      rw [List.getElem?_set_self il] at e
      cases e
      cases h
    · rw [List.getElem?_set_ne hj] at e; exact ⟨fun z => hj z.symm, e⟩
  refine ⟨⟨by rw [List.length_set]; exact r.len, fun a z => z.elim (r.trk a) fun z => z ▸ hp, fun j t e ne => ?_, fun j k t u q hjk e1 e2 h1 h2 g1 g2 => ?_⟩, ⟨fun a z => .inl z, fun a z => z.elim .inl fun z => .inr (.inr (z ▸ hw)), fun a o e _ => e, fun a o e => ⟨o, e⟩, fun a w => ?_, fun t e h => ?_⟩⟩
  · by_cases hj : i = j
    · subst hj
      rw [List.getElem?_set_self il] at e
      cases e
      exact ⟨_, ev, rd⟩
    · rw [List.getElem?_set_ne hj] at e
      obtain ⟨v, e2, w⟩ := r.at_ j t e ne
      refine ⟨v, e2, ?_⟩
      have np : t.own = true → ∀ b, v = .ref b → b ≠ p := fun ht b eb z => by
        subst eb z
        exact r.sep i j _ t b hj es e ho ht ev e2
      cases t with
      | un => exact True.intro
      | fz d => exact DL.R.mono (fun _ h => .inl h) (fun _ _ => rfl) w
      | ow ds =>
        obtain ⟨b, xs, rfl, nb, hb, ra⟩ := w
        exact ⟨b, xs, rfl, fun z => z.elim nb (np rfl b rfl), hb, ra.mono (fun _ h => .inl h) fun _ _ => rfl⟩
      | od ds =>
        obtain ⟨b, xs, rfl, nb, hb, ra⟩ := w
        exact ⟨b, xs, rfl, fun z => z.elim nb (np rfl b rfl), hb, ra.mono (fun _ h => .inl h) fun _ _ => rfl⟩
  · exact r.sep j k t u q hjk (back e1 h1).2 (back e2 h2).2 h1 h2 g1 g2
  · obtain ⟨j, t, e, h, g⟩ := w
    exact .inl ⟨j, t, (back e h).2, h, g⟩
  · exact ⟨rfl, t, (back e h).2, h⟩
@[simp] def fFrz (i : Nat) : M T := fun δ => match δ[i]? with
  | some (.fz d) => some (.fz d, δ)
  | some (.ow ds) => some (.fz (.list ds), δ.set i (.fz (.list ds)))
  | some (.od kvs) => some (.fz (dictD kvs), δ.set i (.fz (dictD kvs)))
  | _ => none
end
section
variable {X : Cx} {e : Expr} {A : M T} {p pos : Pos}
theorem ev_frz (i : Nat) {x : Str} (hi : X.N[i]? = some x := by rfl) (hv : Vis X.env.scope x := by first | exact Or.inl rfl | exact Or.inr (Or.inl rfl) | exact Or.inr (Or.inr rfl)) (hd : (x == ("__debug__" : Str)) = false := by decide) (hcd : (x == ("__classdict__" : Str)) = false := by decide) : Ev X (.Name x pos) (fFrz i) := by
  refine ⟨_, pe_var hi hv hd hcd, fun Z H σ δ t δ' r e Q q => ?_⟩
  unfold fFrz at e
  split at e
  · rename_i d es
    cases e
    obtain ⟨v, ev, w⟩ := r.at_ i _ es (fun z => nomatch z)
    exact ⟨v, ev, q v Z H r .refl w⟩
  · rename_i ds es
    cases e
    obtain ⟨p, xs, ev, nz, hp, ra⟩ := own_lst r es
    have rd : R X.K (fun a => Z a ∨ a = p) H (.ref p) (.list ds) := .lst (.inr rfl) hp (ra.mono (fun _ h => .inl h) fun _ _ => rfl)
    obtain ⟨r1, s1⟩ := rep_frz r es rfl ev ⟨_, hp⟩ rd
    exact ⟨_, ev, q _ _ H r1 s1 rd⟩
  · rename_i ds es
    cases e
    obtain ⟨p, xs, ev, nz, hp, ra⟩ := own_dic r es
    have rd : R X.K (fun a => Z a ∨ a = p) H (.ref p) (dictD ds) := .dic (.inr rfl) (.inl hp) (ra.mono (fun _ h => .inl h) fun _ _ => rfl)
    obtain ⟨r1, s1⟩ := rep_frz r es rfl ev ⟨_, hp⟩ rd
    exact ⟨_, ev, q _ _ H r1 s1 rd⟩
  · cases e

/-! ### dict([..]) -/
def pairOf : D → Option (Str × D)
  | .tuple [.str s, d] => some (s, d)
  | _ => none
def pairsOf : List D → Option (List (Str × D))
  | [] => some []
  | d :: ds => (pairOf d).bind fun p => (pairsOf ds).map fun ps => p :: ps
def mergeD : List (Str × D) → List (Str × D) → List (Str × D)
  | acc, [] => acc
  | acc, p :: ps => mergeD (dput acc p.1 p.2) ps
def gDictP : List D → Option T
  | [.list ds] => (pairsOf ds).map fun ps => .nd (mergeD [] ps)
  | _ => none
theorem RK.merge {K : PySem.W.Frag} {Z : Zp} {H : Hp} : ∀ {ls : List (Key × V)} {ps : List (Str × D)}, RK K Z H ls ps → ∀ {ks : List (Key × V)} {kvs : List (Str × D)}, RK K Z H ks kvs → RK K Z H (mergeK ks ls) (mergeD kvs ps)
  | _, _, .nil, _, _, r => r
  | _, _, .cons h t, _, _, r => RK.merge t (r.put h)
theorem RA_pairs {K : PySem.W.Frag} {Z : Zp} {H : Hp} : ∀ {ds : List D} {xs : List V} {ps : List (Str × D)}, RA K Z H xs ds → pairsOf ds = some ps → ∃ (as : List Addr) (kvs : List (Key × V)), xs = as.map V.ref ∧ Paired (fun p (kv : Key × V) => SqT K H p [kV kv.1, kv.2]) as kvs ∧ RK K Z H kvs ps
  | [], _, _, .nil, e => by cases e; exact ⟨[], [], rfl, .nil, .nil⟩
  | d :: ds, _, _, .cons h t, e => by
    obtain ⟨p, e1, e⟩ := Option.bind_eq_some_iff.mp e
    obtain ⟨ps, e2, e⟩ := Option.map_eq_some_iff.mp e
    subst e
    obtain ⟨as, kvs, rfl, pr, rk⟩ := RA_pairs t e2
    unfold pairOf at e1
    split at e1
    · cases e1
      obtain ⟨a, xs, rfl, hT, ra⟩ := R.tuple h
      cases ra with
      | cons h1 t1 =>
        cases t1 with
        | cons h2 t2 =>
          cases t2
          cases h1
          exact ⟨a :: as, (Sum.inr _, _) :: kvs, rfl, .cons hT pr, .cons h2 rk⟩
    · cases e1
theorem c_dictP (hc : X.calm = true) : Call1 X (.type "dict") gDictP := by
  refine ⟨_, call_dictP hc, fun Z H xs ds a t px e Q q => ?_⟩
  unfold gDictP at e
  split at e
  · obtain ⟨ps, e1, rfl⟩ := Option.map_eq_some_iff.mp e
    cases px with
    | cons h r =>
      cases r
      obtain ⟨p, xs, rfl, hl, ra⟩ := h.list
      obtain ⟨as, kvs, rfl, pr, rk⟩ := RA_pairs ra e1
      refine ⟨p, as, kvs, rfl, .inl (.inl hl), pr, fun b nb => ?_⟩
      have g : Grow Z H Z (upd H b (.dK (mergeK [] kvs))) := Grow.new t nb
      exact q _ _ _ g ⟨b, _, rfl, nb, fun z => by
        obtain ⟨o, e⟩ := t b z
        exact sn e nb, upd_same, g.RK t (rk.merge .nil)⟩
  · cases e
/-! ### a module's constants -/
theorem ev_gint {x : Str} {i : Int} (h : ∃ t, X.mg x = some (.int i t)) (hg : Gl X x := by rfl) (hd : (x == ("__debug__" : Str)) = false := by decide) : Ev X (.Name x pos) (fC (.int i)) := by
  obtain ⟨t, h⟩ := h
  exact ev_glob (v := .int i) h ⟨t, rfl⟩ (fun _ _ => .int i) hg hd
theorem ev_gstr {x z : Str} (h : ∃ t, X.mg x = some (.str z t)) (hg : Gl X x := by rfl) (hd : (x == ("__debug__" : Str)) = false := by decide) : Ev X (.Name x pos) (fC (.str z)) := by
  obtain ⟨t, h⟩ := h
  exact ev_glob (v := .str z) h ⟨t, rfl⟩ (fun _ _ => .str z) hg hd
/-- a module's tuple -/
def Gt (X : Cx) (x : Str) (ds : List D) : Prop := ∃ a vs, X.mg x = some (.ref a) ∧ (∀ H, SqT X.K H a vs) ∧ ∀ Z H, RA X.K Z H vs ds
theorem ev_gtup {x : Str} {ds : List D} (h : Gt X x ds) (hg : Gl X x := by rfl) (hd : (x == ("__debug__" : Str)) = false := by decide) : Ev X (.Name x pos) (fC (.tuple ds)) := by
  obtain ⟨a, vs, h, hs, ra⟩ := h
  exact ev_glob (v := .ref a) h rfl (fun Z H => R.ktup (hs) (ra Z H)) hg hd
end
end DL
/-! DLF: a body that is never come to (the ground of a recursion by fuel). -/
namespace DL
open PySem PySem.Spec PyProof.Rows L2
section
variable {X : Cx}
theorem ss_some : ∀ l : List Stmt, ∃ F, Sts X l F
  | [] => ⟨_, ss_nil⟩
  | st :: l => let ⟨_, h⟩ := ss_some l; ⟨_, ss_cons st_never h⟩
theorem ss_none (st : Stmt) (l : List Stmt) : Sts X (st :: l) oNever := by
  obtain ⟨F, h⟩ := ss_some (X := X) l
  have e : oSeq oNever F = oNever := rfl
  rw [← e]
  exact ss_cons st_never h
end
end DL
namespace DL
open PySem PySem.Spec PyProof.Rows L2
def muI (i : Nat) : Dn → Nat := fun δ => match δ[i]? with
  | some (.fz (.int j)) => j.natAbs + 1
  | _ => 0
def muL (i : Nat) : Dn → Nat := fun δ => match δ[i]? with
  | some (.ow ds) => ds.length + 1
  | _ => 0
def L_divisor_1 : MS :=
  (oPar false false 0 1 (fVar 1) (f2 gMod (fVar 0) (fVar 1)))
def B_divisor : MS :=
  (oSeq (oWhile (muI 1) (tTst (f2 gNe (fVar 1) (fC (PyData.int 0)))) L_divisor_1)
  (oRet (fVar 0)))
def F_divisor := fnF 2 2 B_divisor
def B_fraction : MS :=
  (oSeq (oSet false 2 (f2 gMulA (fF F_divisor (sCons (fB gAbs (pCons (fVar 0) pNil)) (sCons (fB gAbs (pCons (fVar 1) pNil)) sNil))) (fIf (tTst (f2 gGt (fVar 1) (fC (PyData.int 0)))) (fC (PyData.int 1)) (f1 gNeg (fC (PyData.int 1))))))
  (oRet (fTup (sCons (f2 gDiv (fVar 0) (fVar 2)) (sCons (f2 gDiv (fVar 1) (fVar 2)) sNil)))))
def F_fraction := fnF 2 3 B_fraction
def B_plus : MS :=
  (oRet (fF F_fraction (sCons (f2 gAdd (f2 gMulA (f2 gIx (fVar 0) (fC (PyData.int 0))) (f2 gIx (fVar 1) (fC (PyData.int 1)))) (f2 gMulA (f2 gIx (fVar 1) (fC (PyData.int 0))) (f2 gIx (fVar 0) (fC (PyData.int 1))))) (sCons (f2 gMulA (f2 gIx (fVar 0) (fC (PyData.int 1))) (f2 gIx (fVar 1) (fC (PyData.int 1)))) sNil))))
def F_plus := fnF 2 2 B_plus
def B_minus : MS :=
  (oRet (fF F_fraction (sCons (f2 gSub (f2 gMulA (f2 gIx (fVar 0) (fC (PyData.int 0))) (f2 gIx (fVar 1) (fC (PyData.int 1)))) (f2 gMulA (f2 gIx (fVar 1) (fC (PyData.int 0))) (f2 gIx (fVar 0) (fC (PyData.int 1))))) (sCons (f2 gMulA (f2 gIx (fVar 0) (fC (PyData.int 1))) (f2 gIx (fVar 1) (fC (PyData.int 1)))) sNil))))
def F_minus := fnF 2 2 B_minus
def B_times : MS :=
  (oRet (fF F_fraction (sCons (f2 gMulA (f2 gIx (fVar 0) (fC (PyData.int 0))) (f2 gIx (fVar 1) (fC (PyData.int 0)))) (sCons (f2 gMulA (f2 gIx (fVar 0) (fC (PyData.int 1))) (f2 gIx (fVar 1) (fC (PyData.int 1)))) sNil))))
def F_times := fnF 2 2 B_times
def B_shared : MS :=
  (oRet (fF F_fraction (sCons (f2 gMulA (f2 gIx (fVar 0) (fC (PyData.int 0))) (f2 gIx (fVar 1) (fC (PyData.int 1)))) (sCons (f2 gMulA (f2 gIx (fVar 0) (fC (PyData.int 1))) (f2 gIx (fVar 1) (fC (PyData.int 0)))) sNil))))
def F_shared := fnF 2 2 B_shared
def B_is_less : MS :=
  (oRet (f2 gLtA (f2 gMulA (f2 gIx (fVar 0) (fC (PyData.int 0))) (f2 gIx (fVar 1) (fC (PyData.int 1)))) (f2 gMulA (f2 gIx (fVar 1) (fC (PyData.int 0))) (f2 gIx (fVar 0) (fC (PyData.int 1))))))
def F_is_less := fnF 2 2 B_is_less
def B_is_whole : MS :=
  (oRet (fAnd (f1 (gIsi "int") (fVar 0)) (fAnd (fNot (f1 (gIsi "bool") (fVar 0))) (fChain gLe gLe (fVar 1) (fVar 0) (fVar 2)))))
def F_is_whole := fnF 3 3 B_is_whole
def B_is_name : MS :=
  (oRet (fAnd (f1 (gIsi "str") (fVar 0)) (fAnd (fChain gLe gLe (fC (PyData.int 1)) (fB gLen (pCons (fVar 0) pNil)) (fC (PyData.int 8))) (fB gAll (pCons (fLc [1] (wStr (fVar 0)) (gN 1) cYes (f2 gInA (fVar 1) (fC (PyData.str "abcdefghijklmnopqrstuvwxyz")))) pNil)))))
def F_is_name := fnF 1 2 B_is_name
def B_is_wish : MS :=
  (oRet (fF F_is_whole (sCons (fVar 0) (sCons (f1 gNeg (fC (PyData.int 1000000))) (sCons (fC (PyData.int 1000000)) sNil)))))
def F_is_wish := fnF 1 1 B_is_wish
def B_is_drag : MS :=
  (oRet (fF F_is_whole (sCons (fVar 0) (sCons (fC (PyData.int 0)) (sCons (fC (PyData.int 1000000)) sNil)))))
def F_is_drag := fnF 1 1 B_is_drag
def B_are_rising : MS :=
  (oRet (fB gAll (pCons (fLc [1] (wR1 (f2 gSub (fB gLen (pCons (fVar 0) pNil)) (fC (PyData.int 1)))) (gN 1) cYes (f2 gLtA (f2 gIx (fVar 0) (fVar 1)) (f2 gIx (fVar 0) (f2 gAdd (fVar 1) (fC (PyData.int 1)))))) pNil)))
def F_are_rising := fnF 1 2 B_are_rising
def B_is_shaft : MS :=
  (oSeq (oIf (tOr (tNot (tTst (f1 (gIsi "tuple") (fVar 0)))) (tOr (tTst (f2 gNe (fB gLen (pCons (fVar 0) pNil)) (fC (PyData.int 3)))) (tNot (tTst (fF F_is_name (sCons (f2 gIx (fVar 0) (fC (PyData.int 0))) sNil)))))) (oRet (fC (PyData.bool false))) oNil)
  (oRet (fAnd (fF F_is_wish (sCons (f2 gIx (fVar 0) (fC (PyData.int 1))) sNil)) (fF F_is_whole (sCons (f2 gIx (fVar 0) (fC (PyData.int 2))) (sCons (fC (PyData.int 1)) (sCons (fC (PyData.int 9)) sNil)))))))
def F_is_shaft := fnF 1 1 B_is_shaft
def B_is_clutch : MS :=
  (oSeq (oIf (tOr (tNot (tTst (f1 (gIsi "tuple") (fVar 1)))) (tOr (tTst (f2 gNe (fB gLen (pCons (fVar 1) pNil)) (fC (PyData.int 3)))) (tNot (tTst (fB gAll (pCons (fLc [2] (wSq (fSl (fVar 1) oNone (oSome (fC (PyData.int 2))))) (gN 2) cYes (f1 (gIsi "str") (fVar 2))) pNil)))))) (oRet (fC (PyData.bool false))) oNil)
  (oRet (fAnd (f2 gInA (f2 gIx (fVar 1) (fC (PyData.int 0))) (fVar 0)) (fAnd (f2 gInA (f2 gIx (fVar 1) (fC (PyData.int 1))) (fVar 0)) (fAnd (f2 gLtA (f2 gIx (fVar 1) (fC (PyData.int 0))) (f2 gIx (fVar 1) (fC (PyData.int 1)))) (fF F_is_drag (sCons (f2 gIx (fVar 1) (fC (PyData.int 2))) sNil)))))))
def F_is_clutch := fnF 2 3 B_is_clutch
def L_side_of_1 : MS :=
  (oIf (tTst (f2 gNe (f2 gInA (fVar 4) (fVar 2)) (f2 gInA (fVar 5) (fVar 2)))) (oExp (fAppend 2 (fIf (tTst (f2 gInA (fVar 4) (fVar 2))) (fVar 5) (fVar 4)))) oNil)
def L_side_of_2 : MS :=
  (oFor (wSq (fVar 0)) (gT 3 (gsCons (gN 4) (gsCons (gN 5) (gsCons (gN 6) gsNil)))) L_side_of_1)
def B_side_of : MS :=
  (oSeq (oSet true 2 (fLst (sCons (fVar 1) sNil)))
  (oSeq (oFor (wSq (fVar 0)) (gN 3) L_side_of_2)
  (oRet (fVar 2))))
def F_side_of := fnF 2 7 B_side_of
def L_make_ring_1 : MS :=
  (oIf (tTst (f2 gInA (fVar 3) (fF F_side_of (sCons (f2 gAdd (fSl (fVar 0) oNone (oSome (fVar 1))) (fSl (fVar 0) (oSome (f2 gAdd (fVar 1) (fC (PyData.int 1)))) oNone)) (sCons (fVar 2) sNil))))) (oRet (fC (PyData.bool true))) oNil)
def B_make_ring : MS :=
  (oSeq (oFor (wEn (fVar 0)) (gT 2 (gsCons (gN 1) (gsCons (gT 3 (gsCons (gN 2) (gsCons (gN 3) (gsCons (gN 4) gsNil)))) gsNil))) L_make_ring_1)
  (oRet (fC (PyData.bool false))))
def F_make_ring := fnF 1 5 B_make_ring
def B_is_train : MS :=
  (oSeq (oIf (tOr (tNot (tTst (f1 (gIsi "tuple") (fVar 0)))) (tOr (tTst (f2 gNe (fB gLen (pCons (fVar 0) pNil)) (fC (PyData.int 2)))) (tNot (tTst (fB gAll (pCons (fLc [4] (wSq (fVar 0)) (gN 4) cYes (f1 (gIsi "tuple") (fVar 4))) pNil)))))) (oRet (fC (PyData.bool false))) oNil)
  (oSeq (oAsg (fVar 0) (gT 2 (gsCons (gN 1) (gsCons (gN 2) gsNil))))
  (oSeq (oIf (tOr (tNot (tTst (fChain gLe gLe (fC (PyData.int 1)) (fB gLen (pCons (fVar 1) pNil)) (fC (PyData.int 6))))) (tNot (tTst (fB gAll (pCons (fLc [5] (wSq (fVar 1)) (gN 5) cYes (fF F_is_shaft (sCons (fVar 5) sNil))) pNil))))) (oRet (fC (PyData.bool false))) oNil)
  (oSeq (oSet false 3 (fLc [5] (wSq (fVar 1)) (gN 5) cYes (f2 gIx (fVar 5) (fC (PyData.int 0)))))
  (oSeq (oIf (tOr (tNot (tTst (fF F_are_rising (sCons (fVar 3) sNil)))) (tOr (tTst (f2 gGt (fB gLen (pCons (fVar 2) pNil)) (fC (PyData.int 5)))) (tNot (tTst (fB gAll (pCons (fLc [5] (wSq (fVar 2)) (gN 5) cYes (fF F_is_clutch (sCons (fVar 3) (sCons (fVar 5) sNil)))) pNil)))))) (oRet (fC (PyData.bool false))) oNil)
  (oRet (fAnd (fF F_are_rising (sCons (fLc [5] (wSq (fVar 2)) (gN 5) cYes (fSl (fVar 5) oNone (oSome (fC (PyData.int 2))))) sNil)) (fNot (fF F_make_ring (sCons (fVar 2) sNil))))))))))
def F_is_train := fnF 1 6 B_is_train
def B_need_train : MS :=
  (oIf (tNot (tTst (fF F_is_train (sCons (fVar 0) sNil)))) oNever oNil)
def F_need_train := fnF 1 1 B_need_train
def L_all_states_1 : MS :=
  (oSet false 1 (fLc2 [3, 4] [4] (wSq (fVar 1)) (gN 3) cYes (wSq (fTup (sCons (fC (PyData.int 0)) (sCons (fC (PyData.int 1)) (sCons (f1 gNeg (fC (PyData.int 1))) sNil))))) (gN 4) cYes (f2 gAdd (fVar 3) (fTup (sCons (fVar 4) sNil)))))
def B_all_states : MS :=
  (oSeq (oSet false 1 (fLst (sCons (fTup sNil) sNil)))
  (oSeq (oFor (wSq (fVar 0)) (gN 2) L_all_states_1)
  (oRet (fVar 1))))
def F_all_states := fnF 1 5 B_all_states
def L_drawn_to_1 : MS :=
  (oAsg (fTup (sCons (f2 gSub (f2 gIx (fVar 2) (fVar 3)) (f2 gMulA (fVar 6) (fVar 5))) (sCons (f2 gAdd (f2 gIx (fVar 2) (fVar 4)) (f2 gMulA (fVar 6) (fVar 5))) sNil))) (gT 2 (gsCons (gPut 2 (fVar 3)) (gsCons (gPut 2 (fVar 4)) gsNil))))
def B_drawn_to : MS :=
  (oSeq (oSet true 2 (fDc [3] (wSq (f2 gIx (fVar 0) (fC (PyData.int 0)))) (gN 3) cYes (f2 gIx (fVar 3) (fC (PyData.int 0))) (fC (PyData.int 0))))
  (oSeq (oFor (wZ2 (sCons (f2 gIx (fVar 0) (fC (PyData.int 1))) (sCons (fVar 1) sNil))) (gT 2 (gsCons (gT 3 (gsCons (gN 3) (gsCons (gN 4) (gsCons (gN 5) gsNil)))) (gsCons (gN 6) gsNil))) L_drawn_to_1)
  (oRet (fVar 2))))
def F_drawn_to := fnF 2 7 B_drawn_to
def L_run_1 : MS :=
  (oSeq (oSet false 8 (f2 gAdd (fVar 8) (f2 gIx (fVar 3) (fVar 10))))
  (oSet false 9 (fF F_plus (sCons (fVar 9) (sCons (fF F_plus (sCons (fF F_times (sCons (fTup (sCons (f2 gIx (fVar 3) (fVar 10)) (sCons (fC (PyData.int 1)) sNil))) (sCons (f2 gIx (fVar 2) (fVar 10)) sNil))) (sCons (fTup (sCons (f2 gIx (fVar 4) (fVar 10)) (sCons (fC (PyData.int 1)) sNil))) sNil))) sNil)))))
def L_run_2 : MS :=
  (oSeq (oPar false false 8 9 (fC (PyData.int 0)) (fC (PyData.tuple [(PyData.int 0), (PyData.int 1)])))
  (oSeq (oFor (wSq (fF F_side_of (sCons (fVar 5) (sCons (fVar 7) sNil)))) (gN 10) L_run_1)
  (oAsg (fF F_times (sCons (fF F_fraction (sCons (fC (PyData.int 1)) (sCons (fVar 8) sNil))) (sCons (fVar 9) sNil))) (gPut 6 (fVar 7)))))
def L_run_3 : MS :=
  (oSeq (oSet false 14 (fF F_times (sCons (fTup (sCons (f2 gIx (fVar 3) (fVar 7)) (sCons (fC (PyData.int 1)) sNil))) (sCons (fF F_minus (sCons (f2 gIx (fVar 2) (fVar 7)) (sCons (f2 gIx (fVar 6) (fVar 7)) sNil))) sNil))))
  (oSet false 9 (fF F_plus (sCons (fVar 9) (sCons (fF F_plus (sCons (fVar 14) (sCons (fTup (sCons (f2 gIx (fVar 4) (fVar 7)) (sCons (fC (PyData.int 1)) sNil))) sNil))) sNil)))))
def L_run_4 : MS :=
  (oIf (tTst (f2 gNe (fVar 13) (fC (PyData.int 0)))) (oExp (fAppend 11 (fTup (sCons (f2 gMulA (fVar 13) (f2 gIx (fVar 12) (fC (PyData.int 2)))) (sCons (fC (PyData.int 1)) sNil))))) (oSeq (oSet false 9 (fC (PyData.tuple [(PyData.int 0), (PyData.int 1)])))
  (oSeq (oFor (wSq (fF F_side_of (sCons (fB gTupOf (pCons (fLc [15] (wSq (fVar 5)) (gN 15) (tTst (f2 gNe (fVar 15) (fVar 12))) (fVar 15)) pNil)) (sCons (f2 gIx (fVar 12) (fC (PyData.int 0))) sNil)))) (gN 7) L_run_3)
  (oExp (fAppend 11 (fVar 9))))))
def B_run : MS :=
  (oSeq (oPar false false 3 4 (fDc [15] (wSq (f2 gIx (fVar 0) (fC (PyData.int 0)))) (gN 15) cYes (f2 gIx (fVar 15) (fC (PyData.int 0))) (f2 gIx (fVar 15) (fC (PyData.int 2)))) (fF F_drawn_to (sCons (fVar 0) (sCons (fVar 1) sNil))))
  (oSeq (oSet false 5 (fB gTupOf (pCons (fLc [12, 13] (wZ2 (sCons (f2 gIx (fVar 0) (fC (PyData.int 1))) (sCons (fVar 1) sNil))) (gT 2 (gsCons (gN 12) (gsCons (gN 13) gsNil))) (tTst (f2 gEq (fVar 13) (fC (PyData.int 0)))) (fVar 12)) pNil)))
  (oSeq (oSet true 6 fDnew)
  (oSeq (oForK 3 (gN 7) L_run_2)
  (oSeq (oSet true 11 (fLst sNil))
  (oSeq (oFor (wZ2 (sCons (f2 gIx (fVar 0) (fC (PyData.int 1))) (sCons (fVar 1) sNil))) (gT 2 (gsCons (gN 12) (gsCons (gN 13) gsNil))) L_run_4)
  (oRet (fTup (sCons (fFrz 6) (sCons (fFrz 11) sNil))))))))))
def F_run := fnF 3 16 B_run
def L_slack_rows_1 : MS :=
  (oIf (tTst (f2 gEq (fVar 8) (fC (PyData.int 0)))) (oExp (fExtend 4 (fLst (sCons (fF F_minus (sCons (fTup (sCons (fVar 7) (sCons (fC (PyData.int 1)) sNil))) (sCons (fVar 9) sNil))) (sCons (fF F_plus (sCons (fTup (sCons (fVar 7) (sCons (fC (PyData.int 1)) sNil))) (sCons (fVar 9) sNil))) sNil))))) (oExp (fAppend 4 (fF F_times (sCons (fTup (sCons (fVar 8) (sCons (fC (PyData.int 1)) sNil))) (sCons (fF F_minus (sCons (f2 gIx (fVar 2) (fVar 5)) (sCons (f2 gIx (fVar 2) (fVar 6)) sNil))) sNil))))))
def B_slack_rows : MS :=
  (oSeq (oSet true 4 (fLst sNil))
  (oSeq (oFor (wZ3 (sCons (f2 gIx (fVar 0) (fC (PyData.int 1))) (sCons (fVar 1) (sCons (fVar 3) sNil)))) (gT 3 (gsCons (gT 3 (gsCons (gN 5) (gsCons (gN 6) (gsCons (gN 7) gsNil)))) (gsCons (gN 8) (gsCons (gN 9) gsNil)))) L_slack_rows_1)
  (oRet (fVar 4))))
def F_slack_rows := fnF 4 10 B_slack_rows
def B_wishes_of : MS :=
  (oRet (fDc [1] (wSq (f2 gIx (fVar 0) (fC (PyData.int 0)))) (gN 1) cYes (f2 gIx (fVar 1) (fC (PyData.int 0))) (fTup (sCons (f2 gIx (fVar 1) (fC (PyData.int 1))) (sCons (fC (PyData.int 1)) sNil)))))
def F_wishes_of := fnF 1 2 B_wishes_of
def L_turning_1 : MS :=
  (oSeq (oAsg (fF F_run (sCons (fVar 0) (sCons (fVar 2) (sCons (fVar 1) sNil)))) (gT 2 (gsCons (gN 3) (gsCons (gN 4) gsNil))))
  (oIf (tNot (tTst (fB gAny (pCons (fLc [5] (wSq (fF F_slack_rows (sCons (fVar 0) (sCons (fVar 2) (sCons (fVar 3) (sCons (fVar 4) sNil)))))) (gN 5) cYes (fF F_is_less (sCons (fVar 5) (sCons (fC (PyData.tuple [(PyData.int 0), (PyData.int 1)])) sNil)))) pNil)))) (oRet (fTup (sCons (fVar 3) (sCons (fVar 4) sNil)))) oNil))
def B_turning : MS :=
  (oSeq (oFor (wSq (fF F_all_states (sCons (f2 gIx (fVar 0) (fC (PyData.int 1))) sNil))) (gN 2) L_turning_1)
  (oRet (fC PyData.none)))
def F_turning := fnF 2 6 B_turning
def B_speeds_of : MS :=
  (oRet (f2 gIx (fF F_turning (sCons (fVar 0) (sCons (fF F_wishes_of (sCons (fVar 0) sNil)) sNil))) (fC (PyData.int 0))))
def F_speeds_of := fnF 1 1 B_speeds_of
def B_slips_of : MS :=
  (oSeq (oSet false 1 (fF F_speeds_of (sCons (fVar 0) sNil)))
  (oRet (fLc [2] (wSq (f2 gIx (fVar 0) (fC (PyData.int 1)))) (gN 2) (tTst (f2 gNe (f2 gIx (fVar 1) (f2 gIx (fVar 2) (fC (PyData.int 0)))) (f2 gIx (fVar 1) (f2 gIx (fVar 2) (fC (PyData.int 1)))))) (fSl (fVar 2) oNone (oSome (fC (PyData.int 2)))))))
def F_slips_of := fnF 1 3 B_slips_of
def B_slips : MS :=
  (oSeq (oExp (fF F_need_train (sCons (fVar 0) sNil)))
  (oRet (fF F_slips_of (sCons (fVar 0) sNil))))
def F_slips := fnF 1 1 B_slips
def L_times_as_one_1 : MS :=
  (oSeq (oSet false 5 (fIf (tTst (f2 gGe (f2 gIx (fVar 4) (fC (PyData.int 0))) (fC (PyData.int 0)))) (fVar 4) (fF F_times (sCons (fTup (sCons (f1 gNeg (fC (PyData.int 1))) (sCons (fC (PyData.int 1)) sNil))) (sCons (fVar 4) sNil)))))
  (oIf (tTst (f2 gEq (f2 gIx (fVar 3) (fC (PyData.int 2))) (fC (PyData.int 0)))) (oIf (tTst (f2 gNe (fVar 5) (fC (PyData.tuple [(PyData.int 0), (PyData.int 1)])))) (oRet (fC PyData.none)) oNil) (oIf (tTst (fF F_is_less (sCons (fVar 1) (sCons (fF F_shared (sCons (fVar 5) (sCons (fTup (sCons (f2 gIx (fVar 3) (fC (PyData.int 2))) (sCons (fC (PyData.int 1)) sNil))) sNil))) sNil)))) (oSet false 1 (fF F_shared (sCons (fVar 5) (sCons (fTup (sCons (f2 gIx (fVar 3) (fC (PyData.int 2))) (sCons (fC (PyData.int 1)) sNil))) sNil)))) oNil)))
def B_times_as_one : MS :=
  (oSeq (oExp (fF F_need_train (sCons (fVar 0) sNil)))
  (oSeq (oSet false 1 (fC (PyData.tuple [(PyData.int 0), (PyData.int 1)])))
  (oSeq (oSet false 2 (f2 gIx (fF F_run (sCons (fVar 0) (sCons (f2 gMulA (fTup (sCons (fC (PyData.int 0)) sNil)) (fB gLen (pCons (f2 gIx (fVar 0) (fC (PyData.int 1))) pNil))) (sCons (fF F_wishes_of (sCons (fVar 0) sNil)) sNil)))) (fC (PyData.int 1))))
  (oSeq (oFor (wZ2 (sCons (f2 gIx (fVar 0) (fC (PyData.int 1))) (sCons (fVar 2) sNil))) (gT 2 (gsCons (gN 3) (gsCons (gN 4) gsNil))) L_times_as_one_1)
  (oRet (fVar 1))))))
def F_times_as_one := fnF 1 6 B_times_as_one
def B__law_well : MS :=
  (oSeq (oSet false 2 (fC (PyData.int 0)))
  (oSeq (oIf (tTst (f2 gLtA (fVar 1) (fB gLen (pCons (fVar 0) pNil)))) (oSet false 2 (f2 gIx (fVar 0) (fVar 1))) oNil)
  (oSeq (oSet false 3 (fLst (sCons (fC (PyData.int 2147483647)) (sCons (fC (PyData.int 2147483629)) (sCons (fC (PyData.int 2147483587)) (sCons (fC (PyData.int 2147483579)) (sCons (fC (PyData.int 2147483563)) (sCons (fC (PyData.int 2147483549)) (sCons (fC (PyData.int 2147483543)) (sCons (fC (PyData.int 2147483497)) sNil))))))))))
  (oSeq (oSet false 4 (f2 gMod (f2 gMulA (f2 gAdd (f2 gMod (fVar 2) (fC (PyData.int 2147483489))) (fC (PyData.int 1))) (f2 gAdd (fC (PyData.int 48271)) (f2 gMulA (fC (PyData.int 2)) (fVar 1)))) (fC (PyData.int 2147483489))))
  (oSeq (oSet false 4 (f2 gAdd (f2 gAdd (f2 gMod (f2 gMulA (fVar 4) (fVar 4)) (fC (PyData.int 2147483477))) (fVar 1)) (fC (PyData.int 1))))
  (oSeq (oIf (tTst (f2 gGe (fVar 2) (f2 gPow (fC (PyData.int 10)) (fC (PyData.int 18))))) (oRet (fLst (sCons (fVar 2) (sCons (fVar 4) (sCons (f2 gIx (fVar 3) (f2 gMod (fVar 1) (fC (PyData.int 8)))) sNil))))) oNil)
  (oRet (fLst (sCons (fC (PyData.int 0)) (sCons (fVar 4) (sCons (f2 gIx (fVar 3) (f2 gMod (fVar 1) (fC (PyData.int 8)))) sNil)))))))))))
def F__law_well := fnF 2 5 B__law_well
def B__law_take : MS :=
  (oSeq (oIf (tTst (f2 gGt (f2 gIx (fVar 0) (fC (PyData.int 0))) (fC (PyData.int 0)))) (oSeq (oSet false 2 (f2 gMod (f2 gIx (fVar 0) (fC (PyData.int 0))) (fVar 1)))
  (oSeq (oAsg (f2 gDiv (f2 gIx (fVar 0) (fC (PyData.int 0))) (fVar 1)) (gPut 0 (fC (PyData.int 0))))
  (oRet (fVar 2)))) oNil)
  (oSeq (oAsg (f2 gAdd (f2 gMod (f2 gMulA (f2 gIx (fVar 0) (fC (PyData.int 1))) (fC (PyData.int 48271))) (f2 gIx (fVar 0) (fC (PyData.int 2)))) (fC (PyData.int 1))) (gPut 0 (fC (PyData.int 1))))
  (oRet (f2 gMod (f2 gDiv (f2 gMod (f2 gMulA (f2 gIx (fVar 0) (fC (PyData.int 1))) (f2 gIx (fVar 0) (fC (PyData.int 1)))) (fC (PyData.int 2147483423))) (fC (PyData.int 7))) (fVar 1)))))
def F__law_take := fnW 2 3 B__law_take
def L__law_frac_1 : MS :=
  (oPar false false 2 3 (fVar 3) (f2 gMod (fVar 2) (fVar 3)))
def B__law_frac : MS :=
  (oSeq (oPar false false 2 3 (fB gAbs (pCons (fVar 0) pNil)) (fB gAbs (pCons (fVar 1) pNil)))
  (oSeq (oWhile (muI 3) (tTst (f2 gGt (fVar 3) (fC (PyData.int 0)))) L__law_frac_1)
  (oSeq (oSet false 2 (fIf (tTst (f2 gGt (fVar 1) (fC (PyData.int 0)))) (fVar 2) (f1 gNeg (fVar 2))))
  (oRet (fTup (sCons (f2 gDiv (fVar 0) (fVar 2)) (sCons (f2 gDiv (fVar 1) (fVar 2)) sNil)))))))
def F__law_frac := fnF 2 4 B__law_frac
def B__law_plus : MS :=
  (oRet (fF F__law_frac (sCons (f2 gAdd (f2 gMulA (f2 gIx (fVar 0) (fC (PyData.int 0))) (f2 gIx (fVar 1) (fC (PyData.int 1)))) (f2 gMulA (f2 gIx (fVar 1) (fC (PyData.int 0))) (f2 gIx (fVar 0) (fC (PyData.int 1))))) (sCons (f2 gMulA (f2 gIx (fVar 0) (fC (PyData.int 1))) (f2 gIx (fVar 1) (fC (PyData.int 1)))) sNil))))
def F__law_plus := fnF 2 2 B__law_plus
def B__law_minus : MS :=
  (oRet (fF F__law_frac (sCons (f2 gSub (f2 gMulA (f2 gIx (fVar 0) (fC (PyData.int 0))) (f2 gIx (fVar 1) (fC (PyData.int 1)))) (f2 gMulA (f2 gIx (fVar 1) (fC (PyData.int 0))) (f2 gIx (fVar 0) (fC (PyData.int 1))))) (sCons (f2 gMulA (f2 gIx (fVar 0) (fC (PyData.int 1))) (f2 gIx (fVar 1) (fC (PyData.int 1)))) sNil))))
def F__law_minus := fnF 2 2 B__law_minus
def B__law_times : MS :=
  (oRet (fF F__law_frac (sCons (f2 gMulA (f2 gIx (fVar 0) (fC (PyData.int 0))) (f2 gIx (fVar 1) (fC (PyData.int 0)))) (sCons (f2 gMulA (f2 gIx (fVar 0) (fC (PyData.int 1))) (f2 gIx (fVar 1) (fC (PyData.int 1)))) sNil))))
def F__law_times := fnF 2 2 B__law_times
def B__law_less : MS :=
  (oRet (f2 gLtA (f2 gMulA (f2 gIx (fVar 0) (fC (PyData.int 0))) (f2 gIx (fVar 1) (fC (PyData.int 1)))) (f2 gMulA (f2 gIx (fVar 1) (fC (PyData.int 0))) (f2 gIx (fVar 0) (fC (PyData.int 1))))))
def F__law_less := fnF 2 2 B__law_less
def L__law_is_frac_1 : MS :=
  (oIf (tOr (tNot (tTst (f1 (gIsi "int") (fVar 1)))) (tTst (f1 (gIsi "bool") (fVar 1)))) (oRet (fC (PyData.bool false))) oNil)
def B__law_is_frac : MS :=
  (oSeq (oIf (tOr (tNot (tTst (f1 (gIsi "tuple") (fVar 0)))) (tTst (f2 gNe (fB gLen (pCons (fVar 0) pNil)) (fC (PyData.int 2))))) (oRet (fC (PyData.bool false))) oNil)
  (oSeq (oFor (wSq (fVar 0)) (gN 1) L__law_is_frac_1)
  (oRet (fAnd (f2 gGt (f2 gIx (fVar 0) (fC (PyData.int 1))) (fC (PyData.int 0))) (f2 gEq (fF F__law_frac (sCons (f2 gIx (fVar 0) (fC (PyData.int 0))) (sCons (f2 gIx (fVar 0) (fC (PyData.int 1))) sNil))) (fVar 0))))))
def F__law_is_frac := fnF 1 2 B__law_is_frac
def L__law_train_1 : MS :=
  (oExp (fAppend 4 (fTup (sCons (fVar 5) (sCons (f2 gSub (fW 0 F__law_take (sCons (f2 gAdd (f2 gMulA (fC (PyData.int 2)) (fVar 3)) (fC (PyData.int 1))) sNil)) (fVar 3)) (sCons (f2 gAdd (fC (PyData.int 1)) (fW 0 F__law_take (sCons (f2 gIx (fLst (sCons (fC (PyData.int 1)) (sCons (fC (PyData.int 3)) (sCons (fC (PyData.int 9)) sNil)))) (fW 0 F__law_take (sCons (fC (PyData.int 3)) sNil))) sNil))) sNil))))))
def L__law_train_2 : MS :=
  (oSeq (oSet false 5 (fPopAt 6 (fW 0 F__law_take (sCons (fB gLen (pCons (fVar 6) pNil)) sNil))))
  (oSeq (oIf (tAnd (tTst (f2 gNe (fVar 7) (fLst sNil))) (tTst (f2 gGt (fW 0 F__law_take (sCons (fC (PyData.int 8)) sNil)) (fC (PyData.int 0))))) (oSeq (oSet false 10 (f2 gIx (fVar 7) (fW 0 F__law_take (sCons (fB gLen (pCons (fVar 7) pNil)) sNil))))
  (oExp (fAppend 8 (fTup (sCons (fB gMinA (pCons (fVar 5) (pCons (fVar 10) pNil))) (sCons (fB gMaxA (pCons (fVar 5) (pCons (fVar 10) pNil))) (sCons (fW 0 F__law_take (sCons (fVar 9) sNil)) sNil))))))) oNil)
  (oExp (fAppend 7 (fVar 5)))))
def B__law_train : MS :=
  (oSeq (oSet false 2 (fSl (fLst (sCons (fC (PyData.str "al")) (sCons (fC (PyData.str "bo")) (sCons (fC (PyData.str "cy")) (sCons (fC (PyData.str "di")) (sCons (fC (PyData.str "ed")) (sCons (fC (PyData.str "fay")) sNil))))))) oNone (oSome (f2 gAdd (fC (PyData.int 1)) (fW 0 F__law_take (sCons (fVar 1) sNil))))))
  (oSeq (oSet false 3 (f2 gIx (fLst (sCons (fC (PyData.int 4)) (sCons (fC (PyData.int 12)) (sCons (fC (PyData.int 100)) (sCons (f2 gPow (fC (PyData.int 10)) (fC (PyData.int 6))) sNil))))) (fW 0 F__law_take (sCons (fC (PyData.int 4)) sNil))))
  (oSeq (oSet true 4 (fLst sNil))
  (oSeq (oFor (wSq (fVar 2)) (gN 5) L__law_train_1)
  (oSeq (oPar3 true true true 6 7 8 (fB gLstOf (pCons (fVar 2) pNil)) (fLst sNil) (fLst sNil))
  (oSeq (oSet false 9 (f2 gIx (fLst (sCons (fC (PyData.int 3)) (sCons (fC (PyData.int 12)) (sCons (fC (PyData.int 101)) sNil)))) (fW 0 F__law_take (sCons (fC (PyData.int 3)) sNil))))
  (oSeq (oWhile (muL 6) (tTst (f2 gNe (fVar 6) (fLst sNil))) L__law_train_2)
  (oRet (fTup (sCons (fB gTupOf (pCons (fVar 4) pNil)) (sCons (fB gTupOf (pCons (fB gSorted (pCons (fVar 8) pNil)) pNil)) sNil)))))))))))
def F__law_train := fnW 2 11 B__law_train
def B__law_names : MS :=
  (oRet (fLc [1] (wSq (f2 gIx (fVar 0) (fC (PyData.int 0)))) (gN 1) cYes (f2 gIx (fVar 1) (fC (PyData.int 0)))))
def F__law_names := fnF 1 2 B__law_names
def B__law_wishes : MS :=
  (oRet (fB gDictP (pCons (fLc [1] (wSq (f2 gIx (fVar 0) (fC (PyData.int 0)))) (gN 1) cYes (fTup (sCons (f2 gIx (fVar 1) (fC (PyData.int 0))) (sCons (fTup (sCons (f2 gIx (fVar 1) (fC (PyData.int 1))) (sCons (fC (PyData.int 1)) sNil))) sNil)))) pNil)))
def F__law_wishes := fnF 1 2 B__law_wishes
def L__law_side_1 : MS :=
  (oSeq (oIf (tAnd (tTst (f2 gInA (f2 gIx (fVar 4) (fC (PyData.int 0))) (fVar 2))) (tTst (f2 gNotIn (f2 gIx (fVar 4) (fC (PyData.int 1))) (fVar 2)))) (oExp (fAppend 2 (f2 gIx (fVar 4) (fC (PyData.int 1))))) oNil)
  (oIf (tAnd (tTst (f2 gInA (f2 gIx (fVar 4) (fC (PyData.int 1))) (fVar 2))) (tTst (f2 gNotIn (f2 gIx (fVar 4) (fC (PyData.int 0))) (fVar 2)))) (oExp (fAppend 2 (f2 gIx (fVar 4) (fC (PyData.int 0))))) oNil))
def L__law_side_2 : MS :=
  (oFor (wSq (fVar 0)) (gN 4) L__law_side_1)
def B__law_side : MS :=
  (oSeq (oSet true 2 (fLst (sCons (fVar 1) sNil)))
  (oSeq (oFor (wSq (fVar 0)) (gN 3) L__law_side_2)
  (oRet (fVar 2))))
def F__law_side := fnF 2 5 B__law_side
def L__law_due_carries_1 : MS :=
  (oSeq (oSet false 7 (f2 gIx (fLc [8] (wSq (f2 gIx (fVar 0) (fC (PyData.int 0)))) (gN 8) (tTst (f2 gEq (f2 gIx (fVar 8) (fC (PyData.int 0))) (fVar 6))) (f2 gIx (fVar 8) (fC (PyData.int 2)))) (fC (PyData.int 0))))
  (oSet false 5 (fF F__law_plus (sCons (fVar 5) (sCons (fF F__law_times (sCons (fTup (sCons (fVar 7) (sCons (fC (PyData.int 1)) sNil))) (sCons (fF F__law_minus (sCons (f2 gIx (fVar 2) (fVar 6)) (sCons (f2 gIx (fVar 1) (fVar 6)) sNil))) sNil))) sNil)))))
def L__law_due_carries_2 : MS :=
  (oSeq (oSet false 5 (fTup (sCons (fC (PyData.int 0)) (sCons (fC (PyData.int 1)) sNil))))
  (oSeq (oFor (wSq (fF F__law_side (sCons (fLc [8] (wSq (f2 gIx (fVar 0) (fC (PyData.int 1)))) (gN 8) (tTst (f2 gNe (fVar 8) (fVar 4))) (fVar 8)) (sCons (f2 gIx (fVar 4) (fC (PyData.int 0))) sNil)))) (gN 6) L__law_due_carries_1)
  (oExp (fAppend 3 (fTup (sCons (f2 gIx (fVar 4) (fC (PyData.int 0))) (sCons (f2 gIx (fVar 4) (fC (PyData.int 1))) (sCons (fVar 5) sNil))))))))
def B__law_due_carries : MS :=
  (oSeq (oSet true 3 (fLst sNil))
  (oSeq (oFor (wSq (f2 gIx (fVar 0) (fC (PyData.int 1)))) (gN 4) L__law_due_carries_2)
  (oRet (fVar 3))))
def F__law_due_carries := fnF 3 9 B__law_due_carries
def B__law_dragged : MS :=
  (oSeq (oSet false 3 (fB gTupOf (pCons (fLc [5, 6, 7] (wSq (f2 gIx (fVar 0) (fC (PyData.int 0)))) (gT 3 (gsCons (gN 5) (gsCons (gN 6) (gsCons (gN 7) gsNil)))) cYes (fTup (sCons (fVar 5) (sCons (f2 gMulA (fVar 2) (fVar 6)) (sCons (fVar 7) sNil))))) pNil)))
  (oSeq (oSet false 4 (fTup (sCons (fVar 3) (sCons (fB gTupOf (pCons (fLc [8, 9, 10] (wSq (f2 gIx (fVar 0) (fC (PyData.int 1)))) (gT 3 (gsCons (gN 8) (gsCons (gN 9) (gsCons (gN 10) gsNil)))) cYes (fTup (sCons (fVar 8) (sCons (fVar 9) (sCons (f2 gMulA (fVar 1) (fVar 10)) sNil))))) pNil)) sNil))))
  (oRet (fIf (tTst (fF F_is_train (sCons (fVar 4) sNil))) (fVar 4) (fC PyData.none)))))
def F__law_dragged := fnF 3 11 B__law_dragged
def L__law_best_1 : MS :=
  (oSeq (oSet false 4 (fLc [5] (wSq (f2 gIx (fVar 0) (fC (PyData.int 0)))) (gN 5) (tTst (f2 gInA (f2 gIx (fVar 5) (fC (PyData.int 0))) (fF F__law_side (sCons (f2 gIx (fVar 0) (fC (PyData.int 1))) (sCons (fVar 3) sNil))))) (fVar 5)))
  (oAsg (fF F__law_frac (sCons (fB gSum (pCons (fLc [5] (wSq (fVar 4)) (gN 5) cYes (f2 gMulA (f2 gIx (fVar 5) (fC (PyData.int 1))) (f2 gIx (fVar 5) (fC (PyData.int 2))))) pNil)) (sCons (fB gSum (pCons (fLc [5] (wSq (fVar 4)) (gN 5) cYes (f2 gIx (fVar 5) (fC (PyData.int 2)))) pNil)) sNil))) (gPut 2 (fVar 3))))
def L__law_best_2 : MS :=
  (oSeq (oSet false 9 (fTup (sCons (fB gAbs (pCons (f2 gIx (f2 gIx (fVar 8) (fC (PyData.int 2))) (fC (PyData.int 0))) pNil)) (sCons (f2 gIx (f2 gIx (fVar 8) (fC (PyData.int 2))) (fC (PyData.int 1))) sNil))))
  (oSeq (oIf (tAnd (tTst (f2 gEq (fVar 7) (fC (PyData.int 0)))) (tTst (f2 gGt (f2 gIx (fVar 9) (fC (PyData.int 0))) (fC (PyData.int 0))))) (oRet (fC PyData.none)) oNil)
  (oIf (tTst (f2 gGt (fVar 7) (fC (PyData.int 0)))) (oSeq (oSet false 10 (fF F__law_frac (sCons (f2 gIx (fVar 9) (fC (PyData.int 0))) (sCons (f2 gMulA (f2 gIx (fVar 9) (fC (PyData.int 1))) (fVar 7)) sNil))))
  (oSet false 1 (fIf (tTst (fF F__law_less (sCons (fVar 1) (sCons (fVar 10) sNil)))) (fVar 10) (fVar 1)))) oNil)))
def B__law_best : MS :=
  (oSeq (oPar false true 1 2 (fTup (sCons (fC (PyData.int 0)) (sCons (fC (PyData.int 1)) sNil))) fDnew)
  (oSeq (oFor (wSq (fF F__law_names (sCons (fVar 0) sNil))) (gN 3) L__law_best_1)
  (oSeq (oFor (wZ2 (sCons (f2 gIx (fVar 0) (fC (PyData.int 1))) (sCons (fF F__law_due_carries (sCons (fVar 0) (sCons (fFrz 2) (sCons (fF F__law_wishes (sCons (fVar 0) sNil)) sNil)))) sNil))) (gT 2 (gsCons (gT 3 (gsCons (gN 5) (gsCons (gN 6) (gsCons (gN 7) gsNil)))) (gsCons (gN 8) gsNil))) L__law_best_2)
  (oRet (fVar 1)))))
def F__law_best := fnF 1 11 B__law_best
end DL
namespace DL
open PySem PySem.Spec PyProof.Rows L2
@[simp] theorem shaped_int (i : Int) : SeqAt.shaped (.int i) = true := by simp [SeqAt.shaped, PyData.canLay0, PyData.depth]
@[simp] theorem gNe_int (i j : Int) : gNe (.int i) (.int j) = some (.fz (.bool (!decide (i = j)))) := by
  simp [gNe, PyData.eqv]
  by_cases h : i = j <;> simp [h]
@[simp] theorem gEq_int (i j : Int) : gEq (.int i) (.int j) = some (.fz (.bool (decide (i = j)))) := by
  simp [gEq, PyData.eqv]
  by_cases h : i = j <;> simp [h]
def frD (q : Rat) : D := .tuple [.int q.num, .int q.den]
theorem divisor_loop : ∀ (n b a : Nat), b < n → whL (tTst (f2 gNe (fVar 1) (fC (PyData.int 0)))) L_divisor_1 n [.fz (.int a), .fz (.int b)] = some (.nx [.fz (.int (Nat.gcd a b)), .fz (.int 0)])
  | 0, b, a, h => by omega
  | n + 1, b, a, h => by
    by_cases hb : b = 0
    · subst hb
      simp [whL]
    · have h0 : (0 : Int) < b := by omega
      have hm : (a : Int) % b = ((a % b : Nat) : Int) := rfl
      have hlt : a % b < b := Nat.mod_lt _ (by omega)
      have := divisor_loop n (a % b) b (by omega)
      simp [whL, L_divisor_1, hb, gMod_int h0]
      simp [L_divisor_1] at this
      rw [this, Nat.gcd_comm a b, Nat.gcd_rec b a, Nat.gcd_comm]
theorem F_divisor_eq (a b : Nat) : F_divisor [.int a, .int b] = some (.fz (.int (Nat.gcd a b))) := by
  have := divisor_loop (b + 1) b a (by omega)
  simp [F_divisor, fnF, B_divisor, muI, this, -tTst]
/-- bits -/
def ht (q : Rat) (k : Nat) : Prop := q.num.natAbs < 2 ^ k ∧ q.den < 2 ^ k
theorem gcd_lt {a b k : Nat} (hb : 0 < b) (h : b < 2 ^ k) : Nat.gcd a b < 2 ^ k := Nat.lt_of_le_of_lt (Nat.gcd_le_right a hb) h
theorem abs_eq (i : Int) : (if i < 0 then -i else i) = ((i.natAbs : Nat) : Int) := by split <;> omega
theorem F_fraction_pos {i j : Int} (hj : 0 < j) {k : Nat} (hk : j.natAbs < 2 ^ k) (h9 : k ≤ 9000) : F_fraction [.int i, .int j] = some (.fz (.tuple [.int (i / (Nat.gcd i.natAbs j.natAbs : Nat)), .int (j / (Nat.gcd i.natAbs j.natAbs : Nat))])) := by
  have h0 : 0 < k := by
    rcases Nat.eq_zero_or_pos k with h | h
    · subst h; omega
    · exact h
  have hjn : 0 < j.natAbs := by omega
  have hg : 0 < Nat.gcd i.natAbs j.natAbs := Nat.gcd_pos_of_pos_right _ hjn
  have hgl := gcd_lt (a := i.natAbs) hjn hk
  have hd : ∀ x, gDiv (.int x) (.int ((Nat.gcd i.natAbs j.natAbs : Nat) : Int)) = some (.fz (.int (x / (Nat.gcd i.natAbs j.natAbs : Nat)))) := fun x => gDiv_int (wide_div (by omega) (b := k) (by simpa using hgl) h0 h9)
  have hm : gMulA (.int ((Nat.gcd i.natAbs j.natAbs : Nat) : Int)) (.int 1) = some (.fz (.int ((Nat.gcd i.natAbs j.natAbs : Nat) : Int))) := by
    rw [gMulA_int (wide_mul (a := k) (b := 1) (by simpa using hgl) (by decide) h0 (by decide) (by omega)), Int.mul_one]
  simp only [F_fraction, fnF, B_fraction]
  simp [F_divisor_eq, abs_eq, hj, hm, hd]

theorem ht_norm {i : Int} {n k : Nat} (hn : n ≠ 0) (h1 : i.natAbs < 2 ^ k) (h2 : n < 2 ^ k) : ht (Rat.normalize i n hn) k := by
  rw [Rat.normalize_eq hn]
  refine ⟨?_, Nat.lt_of_le_of_lt (Nat.div_le_self _ _) h2⟩
  refine Nat.lt_of_le_of_lt ?_ h1
  show (i / ((i.natAbs.gcd n : Nat) : Int)).natAbs ≤ i.natAbs
  have hdv : ((i.natAbs.gcd n : Nat) : Int) ∣ i := Int.ofNat_dvd_left.mpr (Nat.gcd_dvd_left _ _)
  rw [Int.natAbs_ediv_of_dvd hdv]
  exact Nat.div_le_self _ _
theorem F_fraction_norm {i : Int} {n : Nat} (hn : n ≠ 0) {k : Nat} (hk : n < 2 ^ k) (h9 : k ≤ 9000) : F_fraction [.int i, .int n] = some (.fz (frD (Rat.normalize i n hn))) := by
  rw [F_fraction_pos (by omega) (k := k) (by simpa using hk) h9, Rat.normalize_eq hn]
  simp [frD]
theorem pow_mul {a b : Nat} {i j : Int} (h1 : i.natAbs < 2 ^ a) (h2 : j.natAbs < 2 ^ b) : (i * j).natAbs < 2 ^ (a + b) := wide_lt h1 h2
theorem pow_add1 {a : Nat} {i j : Int} (h1 : i.natAbs < 2 ^ a) (h2 : j.natAbs < 2 ^ a) : (i + j).natAbs < 2 ^ (a + 1) := by
  have := Int.natAbs_add_le i j
  rw [Nat.pow_succ]
  omega
theorem pow_sub1 {a : Nat} {i j : Int} (h1 : i.natAbs < 2 ^ a) (h2 : j.natAbs < 2 ^ a) : (i - j).natAbs < 2 ^ (a + 1) := by
  have : (i - j).natAbs ≤ i.natAbs + j.natAbs := by omega
  rw [Nat.pow_succ]
  omega
theorem pow_up {a b n : Nat} (h : n < 2 ^ a) (hab : a ≤ b) : n < 2 ^ b := Nat.lt_of_lt_of_le h (Nat.pow_le_pow_right (by decide) hab)
theorem ht.up {q : Rat} {a b : Nat} (h : ht q a) (hab : a ≤ b) : ht q b := ⟨pow_up h.1 hab, pow_up h.2 hab⟩
theorem ht.pos {q : Rat} {a : Nat} (h : ht q a) : 0 < a := by
  rcases Nat.eq_zero_or_pos a with e | e
  · subst e
    have := h.2
    have := q.den_pos
    omega
  · exact e
variable {p q : Rat} {a b : Nat}
theorem den_abs (q : Rat) : ((q.den : Nat) : Int).natAbs = q.den := rfl
theorem mul_nd (hp : ht p a) (hq : ht q b) (h : a + b ≤ 8000) : CMulW p.num q.den := wide_mul hp.1 (by rw [den_abs]; exact hq.2) hp.pos hq.pos (by omega)
theorem mul_nn (hp : ht p a) (hq : ht q b) (h : a + b ≤ 8000) : CMulW p.num q.num := wide_mul hp.1 hq.1 hp.pos hq.pos (by omega)
theorem mul_dd (hp : ht p a) (hq : ht q b) (h : a + b ≤ 8000) : CMulW p.den q.den := wide_mul (by rw [den_abs]; exact hp.2) (by rw [den_abs]; exact hq.2) hp.pos hq.pos (by omega)
theorem dd_lt (hp : ht p a) (hq : ht q b) : p.den * q.den < 2 ^ (a + b) := by
  rw [Nat.pow_add]
  exact Nat.mul_lt_mul'' hp.2 hq.2
theorem nd_lt (hp : ht p a) (hq : ht q b) : (p.num * q.den).natAbs < 2 ^ (a + b) := pow_mul hp.1 (by rw [den_abs]; exact hq.2)
theorem nd_lt' (hp : ht p a) (hq : ht q b) : (q.num * p.den).natAbs < 2 ^ (a + b) := by
  rw [Nat.add_comm]
  exact pow_mul hq.1 (by rw [den_abs]; exact hp.2)
theorem ht_add (hp : ht p a) (hq : ht q b) : ht (p + q) (a + b + 1) := by
  rw [Rat.add_def]
  exact ht_norm _ (pow_add1 (nd_lt hp hq) (nd_lt' hp hq)) (pow_up (dd_lt hp hq) (by omega))
theorem ht_sub (hp : ht p a) (hq : ht q b) : ht (p - q) (a + b + 1) := by
  rw [Rat.sub_def]
  exact ht_norm _ (pow_sub1 (nd_lt hp hq) (nd_lt' hp hq)) (pow_up (dd_lt hp hq) (by omega))
theorem ht_mul (hp : ht p a) (hq : ht q b) : ht (p * q) (a + b) := by
  rw [Rat.mul_def]
  exact ht_norm _ (pow_mul hp.1 hq.1) (dd_lt hp hq)
@[simp] theorem atI2_0 (x y : D) : atI [x, y] 0 = some x := rfl
@[simp] theorem atI2_1 (x y : D) : atI [x, y] 1 = some y := rfl
@[simp] theorem atI3_0 (x y z : D) : atI [x, y, z] 0 = some x := rfl
@[simp] theorem atI3_1 (x y z : D) : atI [x, y, z] 1 = some y := rfl
@[simp] theorem atI3_2 (x y z : D) : atI [x, y, z] 2 = some z := rfl
theorem F_plus_eq (hp : ht p a) (hq : ht q b) (h : a + b ≤ 8000) : F_plus [frD p, frD q] = some (.fz (frD (p + q))) := by
  have h1 : gMulA (.int p.num) (.int q.den) = some (.fz (.int (p.num * q.den))) := gMulA_int (mul_nd hp hq h)
  have h2 : gMulA (.int q.num) (.int p.den) = some (.fz (.int (q.num * p.den))) := gMulA_int (mul_nd hq hp (by omega))
  have h3 : gMulA (.int p.den) (.int q.den) = some (.fz (.int ((p.den * q.den : Nat) : Int))) := by
    rw [gMulA_int (mul_dd hp hq h), Int.natCast_mul]
  rw [Int.natCast_mul] at h3
  have h4 := F_fraction_norm (i := p.num * q.den + q.num * p.den) (n := p.den * q.den) (Nat.mul_ne_zero p.den_nz q.den_nz) (k := a + b) (dd_lt hp hq) (by omega)
  rw [Int.natCast_mul] at h4
  rw [Rat.add_def]
  simp only [F_plus, fnF, B_plus]
  unfold frD at h4 ⊢
  simp [h1, h2, h3, h4]
theorem F_minus_eq (hp : ht p a) (hq : ht q b) (h : a + b ≤ 8000) : F_minus [frD p, frD q] = some (.fz (frD (p - q))) := by
  have h1 : gMulA (.int p.num) (.int q.den) = some (.fz (.int (p.num * q.den))) := gMulA_int (mul_nd hp hq h)
  have h2 : gMulA (.int q.num) (.int p.den) = some (.fz (.int (q.num * p.den))) := gMulA_int (mul_nd hq hp (by omega))
  have h3 : gMulA (.int p.den) (.int q.den) = some (.fz (.int ((p.den * q.den : Nat) : Int))) := by
    rw [gMulA_int (mul_dd hp hq h), Int.natCast_mul]
  rw [Int.natCast_mul] at h3
  have h4 := F_fraction_norm (i := p.num * q.den - q.num * p.den) (n := p.den * q.den) (Nat.mul_ne_zero p.den_nz q.den_nz) (k := a + b) (dd_lt hp hq) (by omega)
  rw [Int.natCast_mul] at h4
  rw [Rat.sub_def]
  simp only [F_minus, fnF, B_minus]
  unfold frD at h4 ⊢
  simp [h1, h2, h3, h4]
theorem F_times_eq (hp : ht p a) (hq : ht q b) (h : a + b ≤ 8000) : F_times [frD p, frD q] = some (.fz (frD (p * q))) := by
  have h1 : gMulA (.int p.num) (.int q.num) = some (.fz (.int (p.num * q.num))) := gMulA_int (mul_nn hp hq h)
  have h3 : gMulA (.int p.den) (.int q.den) = some (.fz (.int ((p.den * q.den : Nat) : Int))) := by
    rw [gMulA_int (mul_dd hp hq h), Int.natCast_mul]
  rw [Int.natCast_mul] at h3
  have h4 := F_fraction_norm (i := p.num * q.num) (n := p.den * q.den) (Nat.mul_ne_zero p.den_nz q.den_nz) (k := a + b) (dd_lt hp hq) (by omega)
  rw [Int.natCast_mul] at h4
  rw [Rat.mul_def]
  simp only [F_times, fnF, B_times]
  unfold frD at h4 ⊢
  simp [h1, h3, h4]
theorem F_is_less_eq (hp : ht p a) (hq : ht q b) (h : a + b ≤ 8000) : F_is_less [frD p, frD q] = some (.fz (.bool (decide (p < q)))) := by
  have h1 : gMulA (.int p.num) (.int q.den) = some (.fz (.int (p.num * q.den))) := gMulA_int (mul_nd hp hq h)
  have h2 : gMulA (.int q.num) (.int p.den) = some (.fz (.int (q.num * p.den))) := gMulA_int (mul_nd hq hp (by omega))
  simp only [F_is_less, fnF, B_is_less]
  simp [frD, h1, h2, gLtA, Rat.lt_iff]
end DL
namespace DL
open PySem PySem.Spec PyProof.Rows L2
/-! ### names, trains as typed data -/
structure Nm where
  s : Str
  ok : PyData.strOk s = true
  is : F_is_name [.str s] = some (.fz (.bool true))
theorem Nm.ext' {a b : Nm} (h : a.s = b.s) : a = b := by
  cases a; cases b; cases h; rfl
instance : DecidableEq Nm := fun a b => if h : a.s = b.s then .isTrue (Nm.ext' h) else .isFalse fun e => h (by rw [e])
abbrev Sh := Nm × Int × Int
abbrev Cl := Nm × Nm × Int
structure Tr where
  sh : List Sh
  cl : List Cl
def nD (n : Nm) : D := .str n.s
def shD (x : Sh) : D := .tuple [nD x.1, .int x.2.1, .int x.2.2]
def clD (c : Cl) : D := .tuple [nD c.1, nD c.2.1, .int c.2.2]
def clsD (cl : List Cl) : D := .tuple (cl.map clD)
def trD (t : Tr) : D := .tuple [.tuple (t.sh.map shD), clsD t.cl]
def nmsD (l : List Nm) : D := .list (l.map nD)
def iD (i : Int) : D := .int i

@[simp] theorem lay_int (i : Int) : (PyData.int i).canLay0 = true := by simp [PyData.canLay0]
@[simp] theorem lay_nm (n : Nm) : (nD n).canLay0 = true := by simp [nD, PyData.canLay0, n.ok]
@[simp] theorem dep_int (i : Int) : (PyData.int i).depth = 0 := by simp [PyData.depth]
@[simp] theorem dep_nm (n : Nm) : (nD n).depth = 0 := by simp [nD, PyData.depth]
@[simp] theorem dep_str (n : Str) : (PyData.str n).depth = 0 := by simp [PyData.depth]
theorem layAll_map {α : Type} (f : α → D) (h : ∀ a, (f a).canLay0 = true) : ∀ l : List α, PyData.canLayAll0 (l.map f) = true
  | [] => by simp [PyData.canLayAll0]
  | a :: l => by simp [PyData.canLayAll0, h a, layAll_map f h l]
theorem depAll_map {α : Type} (f : α → D) (k : Nat) (h : ∀ a, (f a).depth ≤ k) : ∀ l : List α, PyData.depthAll (l.map f) ≤ k
  | [] => by simp [PyData.depthAll]
  | a :: l => by
    have := depAll_map f k h l
    have := h a
    simp only [List.map_cons, PyData.depthAll]
    omega
theorem shaped_of {d : D} (h1 : d.canLay0 = true) (h2 : d.depth ≤ 64) : SeqAt.shaped d = true := by
  show (d.canLay0 && decide (d.depth ≤ 64)) = true
  simp [h1, h2]
@[simp] theorem sh_nm (n : Nm) : SeqAt.shaped (nD n) = true := shaped_of (by simp) (by simp)
@[simp] theorem sh_none : SeqAt.shaped .none = true := shaped_of (by simp [PyData.canLay0]) (by simp [PyData.depth])
@[simp] theorem sh_bool (b : Bool) : SeqAt.shaped (.bool b) = true := shaped_of (by simp [PyData.canLay0]) (by simp [PyData.depth])
@[simp] theorem sh_nms (l : List Nm) : SeqAt.shaped (.list (l.map nD)) = true := shaped_of (by simp only [PyData.canLay0]; exact layAll_map _ lay_nm l) (by
  have := depAll_map nD 0 (by simp) l
  simp only [PyData.depth]; omega)
@[simp] theorem lay_cl (c : Cl) : (clD c).canLay0 = true := by simp [clD, PyData.canLay0, PyData.canLayAll0]
@[simp] theorem dep_cl (c : Cl) : (clD c).depth = 1 := by simp [clD, PyData.depth, PyData.depthAll]
@[simp] theorem sh_cl (c : Cl) : SeqAt.shaped (clD c) = true := shaped_of (by simp) (by simp)
@[simp] theorem lay_sh (c : Sh) : (shD c).canLay0 = true := by simp [shD, PyData.canLay0, PyData.canLayAll0]
@[simp] theorem dep_sh (c : Sh) : (shD c).depth = 1 := by simp [shD, PyData.depth, PyData.depthAll]
@[simp] theorem lay_fr (q : Rat) : (frD q).canLay0 = true := by simp [frD, PyData.canLay0, PyData.canLayAll0]
@[simp] theorem dep_fr (q : Rat) : (frD q).depth = 1 := by simp [frD, PyData.depth, PyData.depthAll]
@[simp] theorem sh_fr (q : Rat) : SeqAt.shaped (frD q) = true := shaped_of (by simp) (by simp)
theorem nm_beq (a b : Nm) : (a.s == b.s) = decide (a = b) := by
  by_cases h : a = b
  · subst h; simp
  · have : a.s ≠ b.s := fun e => h (Nm.ext' e)
    simp [h, this]
@[simp] theorem eqv_int (i j : Int) : PyData.eqv (.int i) (.int j) = decide (i = j) := by
  simp only [PyData.eqv]
  by_cases h : i = j <;> simp [h]
@[simp] theorem eqv_nm (a b : Nm) : PyData.eqv (nD a) (nD b) = decide (a = b) := by simp [nD, PyData.eqv, nm_beq]
@[simp] theorem eqv_cl (a b : Cl) : PyData.eqv (clD a) (clD b) = decide (a = b) := by
  obtain ⟨a1, a2, a3⟩ := a
  obtain ⟨b1, b2, b3⟩ := b
  simp [clD, PyData.eqv, PyData.eqvAll, -eqv_nm, nD, nm_beq]
  by_cases h1 : a1 = b1 <;> by_cases h2 : a2 = b2 <;> by_cases h3 : a3 = b3 <;> simp [h1, h2, h3]
@[simp] theorem eqv_fr (p q : Rat) : PyData.eqv (frD p) (frD q) = decide (p = q) := by
  simp [frD, PyData.eqv, PyData.eqvAll]
  by_cases h : p = q
  · subst h; simp
  · have : ¬ (p.num = q.num ∧ p.den = q.den) := fun ⟨h1, h2⟩ => h (Rat.ext h1 h2)
    simp only [h, decide_false, Bool.and_eq_false_iff]
    by_cases h1 : p.num = q.num
    · right
      exact beq_eq_false_iff_ne.mpr fun h2 => this ⟨h1, by omega⟩
    · left; exact beq_eq_false_iff_ne.mpr h1
@[simp] theorem gNe_fr (p q : Rat) : gNe (frD p) (frD q) = some (.fz (.bool (!decide (p = q)))) := by simp [gNe]
@[simp] theorem gEq_fr (p q : Rat) : gEq (frD p) (frD q) = some (.fz (.bool (decide (p = q)))) := by simp [gEq]
@[simp] theorem gNe_cl (p q : Cl) : gNe (clD p) (clD q) = some (.fz (.bool (!decide (p = q)))) := by simp [gNe]
@[simp] theorem gNe_bool (p q : Bool) : gNe (.bool p) (.bool q) = some (.fz (.bool (!(p == q)))) := by cases p <;> cases q <;> simp [gNe, PyData.eqv]
@[simp] theorem gEq_bool (p q : Bool) : gEq (.bool p) (.bool q) = some (.fz (.bool (p == q))) := by cases p <;> cases q <;> simp [gEq, PyData.eqv]
@[simp] theorem gInA_nm (a : Nm) (l : List Nm) : gInA (nD a) (.list (l.map nD)) = some (.fz (.bool (decide (a ∈ l)))) := by
  have h : gInA (nD a) (.list (l.map nD)) = gIn (nD a) (.list (l.map nD)) := rfl
  rw [h]
  simp only [gIn, sh_nm, sh_nms, Bool.and_self, if_true]
  congr 3
  rw [List.any_map]
  by_cases hm : a ∈ l
  · simp [hm]
  · simp [hm]; intro x hx; rintro rfl; exact hm hx
@[simp] theorem gNotIn_nm (a : Nm) (l : List Nm) : gNotIn (nD a) (.list (l.map nD)) = some (.fz (.bool (!decide (a ∈ l)))) := by
  simp only [gNotIn, sh_nm, sh_nms, Bool.and_self, if_true]
  congr 4
  rw [List.any_map]
  by_cases hm : a ∈ l
  · simp [hm]
  · simp [hm]; intro x hx; rintro rfl; exact hm hx
/-! ### loops by steps -/
def fStep (G : GF) (B : MS) (d : D) (δ : Dn) : Option Out := (G d δ).bind B
theorem forL_cons {G : GF} {B : MS} {d : D} {ds : List D} {δ : Dn} : forL G B (d :: ds) δ = (fStep G B d δ).bind fun o => match o with
    | .nx δ1 => forL G B ds δ1
    | .ct δ1 => forL G B ds δ1
    | .bk δ1 => some (.nx δ1)
    | .rt t δ1 => some (.rt t δ1) := by
  unfold fStep
  rw [Option.bind_assoc]
  rfl
/-- a loop that goes on to its end -/
theorem forL_fold {α β : Type} {G : GF} {B : MS} {enc : α → D} {xs : List α} (Q : β → Dn → Prop) (step : β → α → β) : ∀ {b : β} {δ : Dn}, Q b δ →
    (∀ b δ x, x ∈ xs → Q b δ → ∃ δ', (fStep G B (enc x) δ = some (.nx δ') ∨ fStep G B (enc x) δ = some (.ct δ')) ∧ Q (step b x) δ') → ∃ δ', forL G B (xs.map enc) δ = some (.nx δ') ∧ Q (xs.foldl step b) δ' := by
  induction xs with
  | nil => intro b δ q _; exact ⟨δ, rfl, q⟩
  | cons x xs ih =>
    intro b δ q h
    obtain ⟨δ1, h1, q1⟩ := h b δ x (List.mem_cons_self ..) q
    obtain ⟨δ2, h2, q2⟩ := ih q1 fun b δ y hy => h b δ y (List.mem_cons_of_mem _ hy)
    refine ⟨δ2, ?_, q2⟩
    rw [List.map_cons, forL_cons]
    rcases h1 with h1 | h1 <;> rw [h1] <;> exact h2
/-- a loop that may hand back -/
theorem forL_find {α : Type} {G : GF} {B : MS} {enc : α → D} {xs : List α} (Q : Dn → Prop) (c : α → Option D) : ∀ {δ : Dn}, Q δ →
    (∀ δ x, x ∈ xs → Q δ → ∃ δ', Q δ' ∧ match c x with
      | none => (fStep G B (enc x) δ = some (.nx δ') ∨ fStep G B (enc x) δ = some (.ct δ'))
      | some d => fStep G B (enc x) δ = some (.rt (.fz d) δ')) →
    ∃ δ', Q δ' ∧ match xs.findSome? c with
      | none => forL G B (xs.map enc) δ = some (.nx δ')
      | some d => forL G B (xs.map enc) δ = some (.rt (.fz d) δ') := by
  induction xs with
  | nil => intro δ q _; exact ⟨δ, q, rfl⟩
  | cons x xs ih =>
    intro δ q h
    obtain ⟨δ1, q1, h1⟩ := h δ x (List.mem_cons_self ..) q
    rw [List.findSome?_cons, List.map_cons, forL_cons]
    cases hc : c x with
    | some d =>
      rw [hc] at h1
      refine ⟨δ1, q1, ?_⟩
      dsimp only
      rw [h1]
      rfl
    | none =>
      rw [hc] at h1
      obtain ⟨δ2, q2, h2⟩ := ih q1 fun δ y hy => h δ y (List.mem_cons_of_mem _ hy)
      refine ⟨δ2, q2, ?_⟩
      have e : (fStep G B (enc x) δ).bind (fun o => match o with
          | .nx δ1 => forL G B (xs.map enc) δ1
          | .ct δ1 => forL G B (xs.map enc) δ1
          | .bk δ1 => some (.nx δ1)
          | .rt t δ1 => some (.rt t δ1)) = forL G B (xs.map enc) δ1 := by
        rcases h1 with h1 | h1 <;> rw [h1] <;> rfl
      dsimp only
      rw [e]
      exact h2
/-- a comprehension's step -/
def lStep (vs : List Nat) (G : GF) (P : M Bool) (E : M T) (d : D) (δ : Dn) : Option (Option D × Dn) := (G d δ).bind fun δ1 => (P δ1).bind fun p => if p.1 = true then (E p.2).bind fun q => q.1.st.bind fun y => some (some y, wipeD q.2 vs) else some (none, wipeD p.2 vs)
theorem lcL_cons {vs : List Nat} {G : GF} {P : M Bool} {E : M T} {d : D} {ds acc : List D} {δ : Dn} (hl : acc.length ≤ 1000000) : lcL vs G P E (d :: ds) acc δ = (lStep vs G P E d δ).bind fun p => match p.1 with
    | some y => lcL vs G P E ds (acc ++ [y]) p.2
    | none => lcL vs G P E ds acc p.2 := by
  unfold lStep
  rw [Option.bind_assoc]
  show (G d δ).bind _ = _
  congr 1
  funext δ1
  rw [Option.bind_assoc]
  congr 1
  funext p
  by_cases hp : p.1 = true
  · simp only [hp, if_true]
    rw [Option.bind_assoc]
    congr 1
    funext q
    rw [Option.bind_assoc]
    congr 1
    funext y
    simp [hl]
  · simp [hp]
theorem lcL_enc {α : Type} {vs : List Nat} {G : GF} {P : M Bool} {E : M T} {enc : α → D} (c : α → Bool) (f : α → D) {δ : Dn} : ∀ {xs : List α} {acc : List D}, acc.length + xs.length ≤ 1000000 →
    (∀ x, x ∈ xs → lStep vs G P E (enc x) δ = some (if c x then some (f x) else none, δ)) → lcL vs G P E (xs.map enc) acc δ = some (acc ++ (xs.filter c).map f, δ)
  | [], acc, _, _ => by simp [lcL]
  | x :: xs, acc, hl, h => by
    rw [List.map_cons, lcL_cons (by simp at hl; omega), h x (List.mem_cons_self ..)]
    cases hc : c x with
    | true =>
      have := lcL_enc c f (vs := vs) (G := G) (P := P) (E := E) (enc := enc) (δ := δ) (xs := xs) (acc := acc ++ [f x]) (by simp at hl ⊢; omega) fun y hy => h y (List.mem_cons_of_mem _ hy)
      simp [hc, this]
    | false =>
      have := lcL_enc c f (vs := vs) (G := G) (P := P) (E := E) (enc := enc) (δ := δ) (xs := xs) (acc := acc) (by simp at hl ⊢; omega) fun y hy => h y (List.mem_cons_of_mem _ hy)
      simp [hc, this]
theorem lcL_all {α : Type} {vs : List Nat} {G : GF} {P : M Bool} {E : M T} {enc : α → D} (f : α → D) {δ : Dn} {xs : List α} (hl : xs.length ≤ 1000000)
    (h : ∀ x, x ∈ xs → lStep vs G P E (enc x) δ = some (some (f x), δ)) : lcL vs G P E (xs.map enc) [] δ = some (xs.map f, δ) := by
  have := lcL_enc (fun _ => true) f (vs := vs) (G := G) (P := P) (E := E) (enc := enc) (δ := δ) (xs := xs) (acc := []) (by simpa using hl) fun x hx => by simpa using h x hx
  rw [this]
  congr 2
  rw [List.nil_append, List.filter_eq_self.mpr fun _ _ => rfl]
end DL
namespace DL
open PySem PySem.Spec PyProof.Rows L2
@[simp] theorem fin_al (i : Nat) (δ : Dn) : fin (.al i) δ = match δ[i]? with
    | some (.ow ds) => some (.nw ds)
    | some (.od kvs) => some (.nd kvs)
    | some (.fz d) => some (.fz d)
    | _ => none := rfl
/-! ### side_of -/
def sideStep (f : List Nm) (c : Cl) : List Nm := if decide (c.1 ∈ f) = decide (c.2.1 ∈ f) then f else f ++ [if c.1 ∈ f then c.2.1 else c.1]
def sideOf (cl : List Cl) (b : Nm) : List Nm := cl.foldl (fun f _ => cl.foldl sideStep f) [b]
def endsOf (cl : List Cl) : List Nm := cl.flatMap fun c => [c.1, c.2.1]
theorem endsOf_len (cl : List Cl) : (endsOf cl).length = 2 * cl.length := by
  induction cl with
  | nil => rfl
  | cons c cl ih => simp [endsOf] at ih ⊢; omega
def Grown (S : List Nm) (f : List Nm) : Prop := f.Nodup ∧ f ⊆ S
theorem Grown.len {S f : List Nm} (h : Grown S f) : f.length ≤ S.length := h.1.length_le_of_subset h.2
theorem grown_step {S f : List Nm} {c : Cl} (h : Grown S f) (h1 : c.1 ∈ S) (h2 : c.2.1 ∈ S) : Grown S (sideStep f c) := by
  unfold sideStep
  split
  · exact h
  · rename_i hne
    by_cases hc : c.1 ∈ f
    · have hn : c.2.1 ∉ f := fun z => hne (by simp [hc, z])
      rw [if_pos hc]
      refine ⟨List.nodup_append.mpr ⟨h.1, by simp, fun a ha b hb e => hn (by simp at hb; rw [← hb, ← e]; exact ha)⟩, fun x hx => ?_⟩
      rcases List.mem_append.mp hx with hx | hx
      · exact h.2 hx
      · simp at hx; rw [hx]; exact h2
    · rw [if_neg hc]
      refine ⟨List.nodup_append.mpr ⟨h.1, by simp, fun a ha b hb e => hc (by simp at hb; rw [← hb, ← e]; exact ha)⟩, fun x hx => ?_⟩
      rcases List.mem_append.mp hx with hx | hx
      · exact h.2 hx
      · simp at hx; rw [hx]; exact h1
theorem grown_fold {S f : List Nm} {l : List Cl} (h : Grown S f) (hs : ∀ c ∈ l, c.1 ∈ S ∧ c.2.1 ∈ S) : Grown S (l.foldl sideStep f) := by
  induction l generalizing f with
  | nil => exact h
  | cons c l ih => exact ih (grown_step h (hs c (List.mem_cons_self ..)).1 (hs c (List.mem_cons_self ..)).2) fun d hd => hs d (List.mem_cons_of_mem _ hd)
theorem ends_mem {cl : List Cl} {c : Cl} (h : c ∈ cl) : c.1 ∈ endsOf cl ∧ c.2.1 ∈ endsOf cl := by
  unfold endsOf
  exact ⟨List.mem_flatMap.mpr ⟨c, h, by simp⟩, List.mem_flatMap.mpr ⟨c, h, by simp⟩⟩
theorem grown_side (cl : List Cl) (b : Nm) : Grown (b :: endsOf cl) (sideOf cl b) := by
  unfold sideOf
  have : ∀ (l : List Cl) (f : List Nm), Grown (b :: endsOf cl) f → Grown (b :: endsOf cl) (l.foldl (fun f _ => cl.foldl sideStep f) f) := by
    intro l
    induction l with
    | nil => intro f h; exact h
    | cons c l ih => exact fun f h => ih _ (grown_fold h fun d hd => ⟨List.mem_cons_of_mem _ (ends_mem hd).1, List.mem_cons_of_mem _ (ends_mem hd).2⟩)
  exact this cl [b] ⟨by simp, by simp⟩
theorem F_side_eq {cl : List Cl} (b : Nm) (hl : cl.length ≤ 1000) : F_side_of [clsD cl, nD b] = some (.nw ((sideOf cl b).map nD)) := by
  let Q : List Nm → Dn → Prop := fun f δ => Grown (b :: endsOf cl) f ∧ ∃ j3 j4 j5 j6, δ = [.fz (clsD cl), .fz (nD b), .ow (f.map nD), j3, j4, j5, j6]
  have inner : ∀ f δ, Q f δ → ∃ δ', forL (gT 3 (gsCons (gN 4) (gsCons (gN 5) (gsCons (gN 6) gsNil)))) L_side_of_1 (cl.map clD) δ = some (.nx δ') ∧ Q (cl.foldl sideStep f) δ' := by
    intro f δ q
    refine forL_fold Q sideStep q fun f δ c hc q => ?_
    obtain ⟨g, j3, j4, j5, j6, rfl⟩ := q
    have hf : f.length ≤ 1000000 := by
      have := g.len
      have e := endsOf_len cl
      simp only [List.length_cons] at this
      omega
    have g' := grown_step (c := c) g (List.mem_cons_of_mem _ (ends_mem hc).1) (List.mem_cons_of_mem _ (ends_mem hc).2)
    refine ⟨[.fz (clsD cl), .fz (nD b), .ow ((sideStep f c).map nD), j3, .fz (nD c.1), .fz (nD c.2.1), .fz (.int c.2.2)], .inl ?_, g', _, _, _, _, rfl⟩
    by_cases h1 : c.1 ∈ f <;> by_cases h2 : c.2.1 ∈ f <;> simp [fStep, L_side_of_1, clD, sideStep, h1, h2, hf]
  have outer : ∃ δ', forL (gN 3) L_side_of_2 (cl.map clD) [.fz (clsD cl), .fz (nD b), .ow [nD b], .un, .un, .un, .un] = some (.nx δ') ∧ Q (sideOf cl b) δ' := by
    refine forL_fold Q (fun f _ => cl.foldl sideStep f) ⟨⟨by simp, by simp⟩, _, _, _, _, rfl⟩ fun f δ c hc q => ?_
    obtain ⟨g, j3, j4, j5, j6, rfl⟩ := q
    obtain ⟨δ', h1, h2⟩ := inner f [.fz (clsD cl), .fz (nD b), .ow (f.map nD), .fz (clD c), j4, j5, j6] ⟨g, _, _, _, _, rfl⟩
    refine ⟨δ', .inl ?_, h2⟩
    simpa [fStep, L_side_of_2, clsD] using h1
  obtain ⟨δ', h1, g, j3, j4, j5, j6, rfl⟩ := outer
  simp only [F_side_of, fnF, B_side_of]
  simp [clsD] at h1 ⊢
  simp [h1]
end DL
namespace DL
open PySem PySem.Spec PyProof.Rows L2
theorem enum_map {α : Type} (enc : α → D) : ∀ (xs : List α) (n : Nat), enumF n (xs.map enc) = (xs.zipIdx n).map fun p => .tuple [.int p.2, enc p.1]
  | [], n => rfl
  | x :: xs, n => by
    simp only [List.map_cons, List.zipIdx_cons, enumF, enum_map enc xs (n + 1)]
theorem cut_take {α : Type} (xs : List α) (k : Nat) : cutG xs none (some (k : Int)) = xs.take k := by
  unfold cutG
  rw [HT.sIx_none, HT.sIx_nat, List.drop_zero, Nat.sub_zero]
  by_cases h : k ≤ xs.length
  · rw [Nat.min_eq_left h]
  · rw [Nat.min_eq_right (by omega), List.take_of_length_le (by omega), List.take_of_length_le (by omega)]
theorem cut_drop {α : Type} (xs : List α) (k : Nat) : cutG xs (some (k : Int)) none = xs.drop k := by
  unfold cutG
  rw [HT.sIx_none, HT.sIx_nat]
  by_cases h : k ≤ xs.length
  · rw [Nat.min_eq_left h, List.take_of_length_le (by simp)]
  · rw [Nat.min_eq_right (by omega), List.drop_eq_nil_of_le (by omega : xs.length ≤ k)]
    simp
@[simp] theorem cut_take2 (xs : List D) : cutG xs none (some 2) = xs.take 2 := cut_take xs 2
@[simp] theorem cut_takek (xs : List D) (k : Nat) : cutG xs none (some (k : Int)) = xs.take k := cut_take xs k
@[simp] theorem cut_dropk (xs : List D) (k : Nat) : cutG xs (some ((k : Int) + 1)) none = xs.drop (k + 1) := cut_drop xs (k + 1)
@[simp] theorem isi_tt (ds : List D) : gIsi "tuple" (.tuple ds) = some (.fz (.bool true)) := rfl
@[simp] theorem isi_ii (i : Int) : gIsi "int" (.int i) = some (.fz (.bool true)) := rfl
@[simp] theorem isi_bi (i : Int) : gIsi "bool" (.int i) = some (.fz (.bool false)) := rfl
@[simp] theorem isi_ss (i : Str) : gIsi "str" (.str i) = some (.fz (.bool true)) := rfl
@[simp] theorem isi_sn (i : Nm) : gIsi "str" (nD i) = some (.fz (.bool true)) := rfl
@[simp] theorem isi_bb (i : Bool) : gIsi "bool" (.bool i) = some (.fz (.bool true)) := rfl
@[simp] theorem isi_ib (i : Bool) : gIsi "int" (.bool i) = some (.fz (.bool true)) := rfl
@[simp] theorem isi_ll (i : List D) : gIsi "list" (.list i) = some (.fz (.bool true)) := rfl
@[simp] theorem gLtA_int (i j : Int) : gLtA (.int i) (.int j) = some (.fz (.bool (decide (i < j)))) := rfl
def nLt (a b : Nm) : Bool := decide (a.s.cps.toList < b.s.cps.toList)
@[simp] theorem gLtA_nm (i j : Nm) : gLtA (nD i) (nD j) = some (.fz (.bool (nLt i j))) := rfl
@[simp] theorem gAdd_tup {a b : List D} (h : a.length + b.length ≤ 1000000) : gAdd (.tuple a) (.tuple b) = some (.fz (.tuple (a ++ b))) := if_pos h
@[simp] theorem gAdd_lst {a b : List D} (h : a.length + b.length ≤ 1000000) : gAdd (.list a) (.list b) = some (.nw (a ++ b)) := if_pos h
/-! ### make_ring -/
def ringAt (cl : List Cl) (p : Cl × Nat) : Bool := decide (p.1.2.1 ∈ sideOf (cl.take p.2 ++ cl.drop (p.2 + 1)) p.1.1)
def makeRing (cl : List Cl) : Bool := cl.zipIdx.any (ringAt cl)
theorem findSome_any {α : Type} (p : α → Bool) (d : D) (xs : List α) : xs.findSome? (fun x => if p x then some d else none) = if xs.any p then some d else none := by
  induction xs with
  | nil => rfl
  | cons x xs ih =>
    rw [List.findSome?_cons, List.any_cons]
    by_cases h : p x = true
    · simp [h]
    · simp [h, ih]
theorem F_make_ring_eq {cl : List Cl} (hl : cl.length ≤ 500) : F_make_ring [clsD cl] = some (.fz (.bool (makeRing cl))) := by
  let Q : Dn → Prop := fun δ => ∃ j1 j2 j3 j4, δ = [.fz (clsD cl), j1, j2, j3, j4]
  have key := forL_find (G := (gT 2 (gsCons (gN 1) (gsCons (gT 3 (gsCons (gN 2) (gsCons (gN 3) (gsCons (gN 4) gsNil)))) gsNil)))) (B := L_make_ring_1) (enc := fun p : Cl × Nat => .tuple [.int p.2, clD p.1]) (xs := cl.zipIdx) Q (fun p => if ringAt cl p then some (.bool true) else none) (δ := [.fz (clsD cl), .un, .un, .un, .un]) ⟨_, _, _, _, rfl⟩ (by
    rintro δ ⟨c, k⟩ hx ⟨j1, j2, j3, j4, rfl⟩
    have hk : k < cl.length := by
      have := List.mem_zipIdx hx
      omega
    have e : PyData.tuple (cl.take k |>.map clD) = clsD (cl.take k) := rfl
    have hs := F_side_eq (cl := cl.take k ++ cl.drop (k + 1)) c.1 (by simp; omega)
    have hlen : (cl.take k).length + (cl.drop (k + 1)).length ≤ 1000000 := by simp; omega
    have ha : gAdd (.tuple ((cl.map clD).take k)) (.tuple ((cl.map clD).drop (k + 1))) = some (.fz (clsD (cl.take k ++ cl.drop (k + 1)))) := by
      rw [gAdd_tup (by simpa using hlen)]
      simp [clsD, List.map_take, List.map_drop]
    refine ⟨[.fz (clsD cl), .fz (.int k), .fz (nD c.1), .fz (nD c.2.1), .fz (.int c.2.2)], ⟨_, _, _, _, rfl⟩, ?_⟩
    simp only [clsD] at ha hs
    by_cases hr : c.2.1 ∈ sideOf (cl.take k ++ cl.drop (k + 1)) c.1
    · simp [ringAt, hr, fStep, L_make_ring_1, clD, clsD, ha, -gAdd_tup]
      simp only [List.map_append, List.map_take, List.map_drop] at hs
      simp [hs, hr]
    · simp [ringAt, hr, fStep, L_make_ring_1, clD, clsD, ha, -gAdd_tup]
      simp only [List.map_append, List.map_take, List.map_drop] at hs
      simp [hs, hr])
  obtain ⟨δ', ⟨j1, j2, j3, j4, rfl⟩, h⟩ := key
  rw [findSome_any] at h
  simp only [F_make_ring, fnF, B_make_ring]
  simp [clsD, enum_map] at h ⊢
  unfold makeRing
  by_cases hr : (cl.zipIdx.any (ringAt cl)) = true
  · rw [if_pos hr] at h
    simp [h, hr]
  · rw [if_neg hr] at h
    simp [h, hr]
end DL
namespace DL
open PySem PySem.Spec PyProof.Rows L2
@[simp] theorem bools_fun {α : Type} (g : α → Bool) (xs : List α) : boolsD (xs.map fun x => PyData.bool (g x)) = some (xs.map g) := by
  have := bools_map (xs.map g)
  rwa [List.map_map] at this
theorem atI_nat {α : Type} (xs : List α) (k : Nat) : atI xs (k : Int) = xs[k]? := by
  unfold atI ixN
  by_cases h : k < xs.length
  · simp [h]
  · simp [h]
theorem atI_map {α : Type} {enc : α → D} {xs : List α} {k : Nat} {x : α} (h : xs[k]? = some x) : atI (xs.map enc) (k : Int) = some (enc x) := by
  rw [atI_nat, List.getElem?_map, h]
  rfl
theorem rng0 (n : Nat) : rngD 0 n = (List.range n).map fun k : Nat => PyData.int k := by
  unfold rngD
  simp
def risingB {α : Type} (lt : α → α → Bool) (l : List α) : Bool := (List.range (l.length - 1)).all fun k => match l[k]?, l[k + 1]? with
  | some a, some b => lt a b
  | _, _ => true
theorem F_rising_eq {α : Type} {enc : α → D} {lt : α → α → Bool} {l : List α} (hl : l.length ≤ 1000000) (h : ∀ a ∈ l, ∀ b ∈ l, gLtA (enc a) (enc b) = some (.fz (.bool (lt a b)))) : F_are_rising [.list (l.map enc)] = some (.fz (.bool (risingB lt l))) := by
  have key := lcL_all (vs := [1]) (G := gN 1) (P := cYes) (E := f2 gLtA (f2 gIx (fVar 0) (fVar 1)) (f2 gIx (fVar 0) (f2 gAdd (fVar 1) (fC (PyData.int 1))))) (enc := fun k : Nat => PyData.int k) (xs := List.range (l.length - 1))
    (fun k => .bool (match l[k]?, l[k + 1]? with | some a, some b => lt a b | _, _ => true)) (δ := [.fz (.list (l.map enc)), .un]) (by simp; omega) (fun k hk => by
      have hk := List.mem_range.mp hk
      have e1 : l[k]? = some l[k] := List.getElem?_eq_getElem (by omega)
      have e2 : l[k + 1]? = some l[k + 1] := List.getElem?_eq_getElem (by omega)
      have a1 := atI_map (enc := enc) e1
      have a2 : atI (l.map enc) ((k : Int) + 1) = some (enc l[k + 1]) := atI_map (enc := enc) e2
      have a3 := h l[k] (List.getElem_mem _) l[k + 1] (List.getElem_mem _)
      simp [lStep, a1, a2, a3, e1, e2])
  have h1 : -(2 ^ 62) ≤ (l.length : Int) - 1 ∧ (l.length : Int) - 1 < 2 ^ 62 := by omega
  simp only [F_are_rising, fnF, B_are_rising]
  have h2 : -4611686018427387904 ≤ (l.length : Int) - 1 ∧ (l.length : Int) - 1 < 4611686018427387904 := by omega
  simp [h2, rng0, key, risingB]
/-! ### shafts, clutches -/
def wishOk (i : Int) : Bool := decide (-1000000 ≤ i) && decide (i ≤ 1000000)
def shaftOk (x : Sh) : Bool := wishOk x.2.1 && (decide (1 ≤ x.2.2) && decide (x.2.2 ≤ 9))
theorem F_whole_eq (i lo hi : Int) : F_is_whole [.int i, .int lo, .int hi] = some (.fz (.bool (decide (lo ≤ i) && decide (i ≤ hi)))) := by
  simp only [F_is_whole, fnF, B_is_whole]
  by_cases h : lo ≤ i <;> simp [h]
theorem F_wish_eq (i : Int) : F_is_wish [.int i] = some (.fz (.bool (wishOk i))) := by
  have := F_whole_eq i (-1000000) 1000000
  simp only [F_is_wish, fnF, B_is_wish]
  simp [this, wishOk]
theorem F_drag_eq (i : Int) : F_is_drag [.int i] = some (.fz (.bool (decide (0 ≤ i) && decide (i ≤ 1000000)))) := by
  have := F_whole_eq i 0 1000000
  simp only [F_is_drag, fnF, B_is_drag]
  simp [this]
theorem F_shaft_eq (x : Sh) : F_is_shaft [shD x] = some (.fz (.bool (shaftOk x))) := by
  have h1 := x.1.is
  have h2 := F_wish_eq x.2.1
  have h3 := F_whole_eq x.2.2 1 9
  have h1 : F_is_name [nD x.1] = some (.fz (.bool true)) := h1
  simp only [F_is_shaft, fnF, B_is_shaft]
  cases hw : wishOk x.2.1 <;> simp [shD, h1, h2, h3, shaftOk, hw]
def clutchOk (ns : List Nm) (c : Cl) : Bool := decide (c.1 ∈ ns) && (decide (c.2.1 ∈ ns) && (nLt c.1 c.2.1 && (decide (0 ≤ c.2.2) && decide (c.2.2 ≤ 1000000))))
theorem F_clutch_eq (ns : List Nm) (c : Cl) : F_is_clutch [nmsD ns, clD c] = some (.fz (.bool (clutchOk ns c))) := by
  have h4 := F_drag_eq c.2.2
  simp only [F_is_clutch, fnF, B_is_clutch]
  by_cases h1 : c.1 ∈ ns <;> by_cases h2 : c.2.1 ∈ ns <;> cases h3 : nLt c.1 c.2.1 <;> simp [clD, nmsD, clutchOk, lcL, boolsD, h1, h2, h3, h4]
end DL
namespace DL
open PySem PySem.Spec PyProof.Rows L2
def prLt (p q : Nm × Nm) : Bool := if p.1 = q.1 then (if p.2 = q.2 then false else nLt p.2 q.2) else nLt p.1 q.1
def prD (p : Nm × Nm) : D := .tuple [nD p.1, nD p.2]
theorem gLtA_pr (p q : Nm × Nm) : gLtA (prD p) (prD q) = some (.fz (.bool (prLt p q))) := by
  have e : gLtA (prD p) (prD q) = gLtT (.tuple [nD p.1, nD p.2]) (.tuple [nD q.1, nD q.2]) := rfl
  rw [e]
  have hal : ∀ a b : Nm, PySem.W.alike (nD a) (nD b) = true := fun a b => by simp [nD, PySem.W.alike]
  have h := PySem.W.dataLt_pair (hal p.1 q.1) (hal p.2 q.2)
  unfold gLtT
  dsimp only
  rw [if_pos (by simp [PySem.W.alike, PySem.W.alikeAll, hal, PyData.depth, PyData.depthAll, PyData.canLay0, PyData.canLayAll0]), h]
  simp only [eqv_nm, decide_eq_true_eq]
  have hd : ∀ a b : Nm, PySem.W.dataLt (nD a) (nD b) = nLt a b := fun a b => PySem.W.dataLt_str a.s b.s
  rw [hd, hd]
  rfl
def nmsOf (t : Tr) : List Nm := t.sh.map (·.1)
def prsOf (t : Tr) : List (Nm × Nm) := t.cl.map fun c => (c.1, c.2.1)
def isTr (t : Tr) : Bool := ((decide (1 ≤ t.sh.length) && decide (t.sh.length ≤ 6)) && t.sh.all shaftOk) && (risingB nLt (nmsOf t) && (decide (t.cl.length ≤ 5) && t.cl.all (clutchOk (nmsOf t)))) && (risingB prLt (prsOf t) && !makeRing t.cl)
theorem F_is_train_eq {t : Tr} (h1 : t.sh.length ≤ 500) (h2 : t.cl.length ≤ 500) : F_is_train [trD t] = some (.fz (.bool (isTr t))) := by
  have k1 := lcL_all (vs := [5]) (G := gN 5) (P := cYes) (E := fF F_is_shaft (sCons (fVar 5) sNil)) (enc := shD) (xs := t.sh) (fun x => .bool (shaftOk x)) (δ := [.fz (trD t), .fz (.tuple (t.sh.map shD)), .fz (clsD t.cl), .un, .un, .un]) (by omega) (fun x hx => by simp [lStep, F_shaft_eq])
  have k2 := lcL_all (vs := [5]) (G := gN 5) (P := cYes) (E := f2 gIx (fVar 5) (fC (PyData.int 0))) (enc := shD) (xs := t.sh) (fun x => nD x.1) (δ := [.fz (trD t), .fz (.tuple (t.sh.map shD)), .fz (clsD t.cl), .un, .un, .un]) (by omega) (fun x hx => by simp [lStep, shD])
  have k3 := lcL_all (vs := [5]) (G := gN 5) (P := cYes) (E := fF F_is_clutch (sCons (fVar 3) (sCons (fVar 5) sNil))) (enc := clD) (xs := t.cl) (fun x => .bool (clutchOk (nmsOf t) x)) (δ := [.fz (trD t), .fz (.tuple (t.sh.map shD)), .fz (clsD t.cl), .fz (nmsD (nmsOf t)), .un, .un]) (by omega) (fun x hx => by simp [lStep, F_clutch_eq])
  have k4 := lcL_all (vs := [5]) (G := gN 5) (P := cYes) (E := fSl (fVar 5) oNone (oSome (fC (PyData.int 2)))) (enc := clD) (xs := t.cl) (fun x => prD (x.1, x.2.1)) (δ := [.fz (trD t), .fz (.tuple (t.sh.map shD)), .fz (clsD t.cl), .fz (nmsD (nmsOf t)), .un, .un]) (by omega) (fun x hx => by simp [lStep, clD, prD])
  have r1 := F_rising_eq (enc := nD) (lt := nLt) (l := nmsOf t) (by simp [nmsOf]; omega) (fun a _ b _ => gLtA_nm a b)
  have r2 := F_rising_eq (enc := prD) (lt := prLt) (l := prsOf t) (by simp [prsOf]; omega) (fun a _ b _ => gLtA_pr a b)
  have r3 := F_make_ring_eq (cl := t.cl) h2
  have e0 : lcL [4] (gN 4) cYes (f1 (gIsi "tuple") (fVar 4)) [.tuple (t.sh.map shD), clsD t.cl] [] [.fz (trD t), .un, .un, .un, .un, .un] = some ([.bool true, .bool true], [.fz (trD t), .un, .un, .un, .un, .un]) := by simp [lcL, clsD]
  have m1 : List.map nD (List.map (fun x : Sh => x.1) t.sh) = t.sh.map fun x => nD x.1 := by rw [List.map_map]; rfl
  have m2 : List.map prD (List.map (fun c : Cl => (c.1, c.2.1)) t.cl) = t.cl.map fun c => prD (c.1, c.2.1) := by rw [List.map_map]; rfl
  unfold nmsOf at r1
  rw [m1] at r1
  unfold prsOf at r2
  rw [m2] at r2
  simp only [nmsD, nmsOf] at k3 k4
  rw [m1] at k3 k4
  simp only [clsD] at e0 k1 k2 k3 k4 r3
  simp only [trD, clsD] at e0 k1 k2 k3 k4 ⊢
  simp only [F_is_train, fnF, B_is_train]
  have ll : ∀ {α : Type} (l : List α), ((l.length : Nat) : Int) = l.length := fun _ => rfl
  have eb : boolsD [PyData.bool true, PyData.bool true] = some [true, true] := rfl
  by_cases c1 : 1 ≤ t.sh.length
  · have c1' : (1 : Int) ≤ t.sh.length := by omega
    by_cases c2 : t.sh.length ≤ 6
    · have c2' : (t.sh.length : Int) ≤ 6 := by omega
      cases c3 : t.sh.all shaftOk with
      | true =>
        cases c4 : risingB nLt (t.sh.map fun x => x.1) with
        | true =>
          by_cases c5 : t.cl.length ≤ 5
          · have c5' : ¬ (5 : Int) < t.cl.length := by omega
            cases c6 : t.cl.all (clutchOk (t.sh.map fun x => x.1)) with
            | true => cases c7 : risingB prLt (t.cl.map fun c => (c.1, c.2.1)) <;> simp [e0, eb, k1, k2, k3, k4, r1, r2, r3, isTr, nmsOf, prsOf, c1, c1', c2, c2', c3, c4, c5, c5', c6, c7]
            | false => simp [e0, eb, k1, k2, k3, k4, r1, r2, r3, isTr, nmsOf, prsOf, c1, c1', c2, c2', c3, c4, c5, c5', c6]
          · have c5' : (5 : Int) < t.cl.length := by omega
            simp [e0, eb, k1, k2, k3, k4, r1, r2, r3, isTr, nmsOf, prsOf, c1, c1', c2, c2', c3, c4, c5, c5']
        | false => simp [e0, eb, k1, k2, k3, k4, r1, r2, r3, isTr, nmsOf, prsOf, c1, c1', c2, c2', c3, c4]
      | false => simp [e0, eb, k1, k2, k3, k4, r1, r2, r3, isTr, nmsOf, prsOf, c1, c1', c2, c2', c3]
    · have c2' : ¬ (t.sh.length : Int) ≤ 6 := by omega
      simp [e0, eb, k1, k2, k3, k4, r1, r2, r3, isTr, nmsOf, prsOf, c1, c1', c2, c2']
  · have c1' : ¬ (1 : Int) ≤ t.sh.length := by omega
    simp [e0, eb, k1, k2, k3, k4, r1, r2, r3, isTr, nmsOf, prsOf, c1, c1']
end DL
namespace DL
open PySem PySem.Spec PyProof.Rows L2
/-! ### dicts by names -/
def fnD {β : Type} (enc : β → D) (ns : List Nm) (f : Nm → β) : List (Str × D) := ns.map fun n => (n.s, enc (f n))
def upF {β : Type} (f : Nm → β) (n : Nm) (b : β) : Nm → β := fun m => if m = n then b else f m
section
variable {β : Type} {enc : β → D} {ns : List Nm} {f g : Nm → β} {n : Nm} {b : β}
theorem s_eq {a b : Nm} : (a.s = b.s) = (a = b) := by
  apply propext
  exact ⟨Nm.ext', fun h => by rw [h]⟩
theorem dget_fn (h : n ∈ ns) : dget (fnD enc ns f) n.s = some (enc (f n)) := by
  unfold dget fnD
  induction ns with
  | nil => cases h
  | cons m ns ih =>
    rw [List.map_cons]
    by_cases e : m = n
    · subst e; simp
    · rw [List.find?_cons_of_neg (by simpa [s_eq] using e)]
      exact ih ((List.mem_cons.mp h).resolve_left fun z => e z.symm)
theorem fn_congr (h : ∀ m ∈ ns, f m = g m) : fnD enc ns f = fnD enc ns g := List.map_congr_left fun m hm => by rw [h m hm]
theorem any_fn : ((fnD enc ns f).any fun p => decide (p.1 = n.s)) = decide (n ∈ ns) := by
  unfold fnD
  rw [List.any_map]
  by_cases h : n ∈ ns
  · simp only [h, decide_true, List.any_eq_true]
    exact ⟨n, h, by simp⟩
  · simp only [h, decide_false, List.any_eq_false]
    intro m hm
    simp only [Function.comp, decide_eq_true_eq, s_eq]
    rintro rfl
    exact h hm
theorem dput_in (h : n ∈ ns) : dput (fnD enc ns f) n.s (enc b) = fnD enc ns (upF f n b) := by
  unfold dput
  rw [any_fn]
  simp only [h, decide_true, if_true]
  unfold fnD
  rw [List.map_map]
  refine List.map_congr_left fun m hm => ?_
  simp only [Function.comp, upF, s_eq]
  by_cases e : m = n
  · subst e; simp
  · simp [e]
theorem dput_new (h : n ∉ ns) : dput (fnD enc ns f) n.s (enc b) = fnD enc (ns ++ [n]) (upF f n b) := by
  unfold dput
  rw [any_fn]
  simp only [h, decide_false, Bool.false_eq_true, if_false]
  unfold fnD
  rw [List.map_append]
  congr 1
  · refine List.map_congr_left fun m hm => ?_
    have : m ≠ n := fun e => h (e ▸ hm)
    simp [upF, this]
  · simp [upF]
@[simp] theorem fn_len : (fnD enc ns f).length = ns.length := by simp [fnD]
end
/-- a dict comprehension over what has names -/
def dStep (vs : List Nat) (G : GF) (P : M Bool) (A E : M T) (d : D) (δ : Dn) : Option ((Str × D) × Dn) := (G d δ).bind fun δ1 => (P δ1).bind fun p => if p.1 = true then (A p.2).bind fun k => (asS k.1).bind fun s => (E k.2).bind fun q => q.1.st.bind fun y => some ((s, y), wipeD q.2 vs) else none
theorem dcL_fn {α β : Type} {vs : List Nat} {G : GF} {P : M Bool} {A E : M T} {enc : α → D} {ev : β → D} (nm : α → Nm) (v : α → β) {δ : Dn} : ∀ {xs : List α} {ns : List Nm} {f : Nm → β}, ns.length + xs.length ≤ 1000000 → (ns ++ xs.map nm).Nodup →
    (∀ x, x ∈ xs → dStep vs G P A E (enc x) δ = some (((nm x).s, ev (v x)), δ)) → ∃ g : Nm → β, dcL vs G P A E (xs.map enc) (fnD ev ns f) δ = some (fnD ev (ns ++ xs.map nm) g, δ) ∧ (∀ m ∈ ns, g m = f m) ∧ ∀ x ∈ xs, g (nm x) = v x
  | [], ns, f, _, _, _ => ⟨f, by simp [dcL], fun _ _ => rfl, by simp⟩
  | x :: xs, ns, f, hl, hn, h => by
    have hx := h x (List.mem_cons_self ..)
    have hnew : nm x ∉ ns := fun z => by
      rw [List.nodup_append] at hn
      exact hn.2.2 _ z _ (List.mem_map.mpr ⟨x, List.mem_cons_self .., rfl⟩) rfl
    have hn2 : ((ns ++ [nm x]) ++ xs.map nm).Nodup := by simpa using hn
    obtain ⟨g, h1, h2, h3⟩ := dcL_fn nm v (vs := vs) (G := G) (P := P) (A := A) (E := E) (enc := enc) (ev := ev) (δ := δ) (xs := xs) (ns := ns ++ [nm x]) (f := upF f (nm x) (v x)) (by simp at hl ⊢; omega) hn2 fun y hy => h y (List.mem_cons_of_mem _ hy)
    refine ⟨g, ?h1, fun m hm => ?h2, fun y hy => ?h3⟩
    · have hl' : (fnD ev ns f).length ≤ 1000000 := by simp at hl ⊢; omega
      unfold dStep at hx
      obtain ⟨δ1, e1, hx⟩ := Option.bind_eq_some_iff.mp hx
      obtain ⟨p, e2, hx⟩ := Option.bind_eq_some_iff.mp hx
      by_cases hp : p.1 = true
      · rw [if_pos hp] at hx
        obtain ⟨k, e3, hx⟩ := Option.bind_eq_some_iff.mp hx
        obtain ⟨s, e4, hx⟩ := Option.bind_eq_some_iff.mp hx
        obtain ⟨q, e5, hx⟩ := Option.bind_eq_some_iff.mp hx
        obtain ⟨y, e6, hx⟩ := Option.bind_eq_some_iff.mp hx
        cases hx
        show (G (enc x) _).bind _ = _
        rw [e1]
        show (P _).bind _ = _
        rw [e2]
        show (if p.1 = true then _ else _) = _
        rw [if_pos hp, e3]
        show (asS k.1).bind _ = _
        rw [e4]
        show (E k.2).bind _ = _
        rw [e5]
        show q.1.st.bind _ = _
        rw [e6]
        show (if _ then _ else _) = _
        rw [if_pos hl', dput_new hnew, h1]
        simp
      · rw [if_neg hp] at hx
        cases hx
    · rw [h2 m (List.mem_append_left _ hm)]
      have : m ≠ nm x := fun e => hnew (e ▸ hm)
      simp [upF, this]
    · rcases List.mem_cons.mp hy with rfl | hy
      · rw [h2 _ (List.mem_append_right _ (List.mem_singleton.mpr rfl))]
        simp [upF]
      · exact h3 y hy
def stOf (t : Tr) (n : Nm) : Int := ((t.sh.find? fun x => decide (x.1 = n)).map (·.2.2)).getD 0
def wiOf (t : Tr) (n : Nm) : Int := ((t.sh.find? fun x => decide (x.1 = n)).map (·.2.1)).getD 0
theorem find_sh {t : Tr} (hn : (nmsOf t).Nodup) {x : Sh} (h : x ∈ t.sh) : t.sh.find? (fun y => decide (y.1 = x.1)) = some x := by
  unfold nmsOf at hn
  generalize t.sh = l at *
  induction l with
  | nil => cases h
  | cons y l ih =>
    rw [List.map_cons, List.nodup_cons] at hn
    rcases List.mem_cons.mp h with rfl | h
    · simp
    · have : y.1 ≠ x.1 := fun e => hn.1 (e ▸ List.mem_map.mpr ⟨x, h, rfl⟩)
      rw [List.find?_cons_of_neg (by simpa using this)]
      exact ih hn.2 h
theorem stOf_mem {t : Tr} (hn : (nmsOf t).Nodup) {x : Sh} (h : x ∈ t.sh) : stOf t x.1 = x.2.2 := by simp [stOf, find_sh hn h]
theorem wiOf_mem {t : Tr} (hn : (nmsOf t).Nodup) {x : Sh} (h : x ∈ t.sh) : wiOf t x.1 = x.2.1 := by simp [wiOf, find_sh hn h]
theorem fn_of_sh {β : Type} {ev : β → D} {t : Tr} {g f : Nm → β} (h : ∀ x ∈ t.sh, g x.1 = f x.1) : fnD ev (nmsOf t) g = fnD ev (nmsOf t) f := fn_congr fun m hm => by
  obtain ⟨x, hx, rfl⟩ := List.mem_map.mp hm
  exact h x hx
theorem frD_int (i : Int) : PyData.tuple [.int i, .int 1] = frD (i : Rat) := by simp [frD, Rat.num_intCast, Rat.den_intCast]
theorem F_wishes_eq {t : Tr} (hn : (nmsOf t).Nodup) (hl : t.sh.length ≤ 1000) : F_wishes_of [trD t] = some (.nd (fnD frD (nmsOf t) fun n => (wiOf t n : Rat))) := by
  obtain ⟨g, h1, _, h3⟩ := dcL_fn (vs := [1]) (G := gN 1) (P := cYes) (A := f2 gIx (fVar 1) (fC (PyData.int 0))) (E := fTup (sCons (f2 gIx (fVar 1) (fC (PyData.int 1))) (sCons (fC (PyData.int 1)) sNil))) (enc := shD) (ev := frD) (fun x : Sh => x.1) (fun x : Sh => (x.2.1 : Rat)) (δ := [.fz (trD t), .un])
    (xs := t.sh) (ns := []) (f := fun _ => 0) (by simp; omega) (by simpa [nmsOf] using hn) (fun x hx => by simp [dStep, shD, nD, frD_int])
  have e : fnD frD ([] : List Nm) (fun _ => (0 : Rat)) = [] := rfl
  rw [e] at h1
  have h2 := fn_of_sh (ev := frD) (t := t) (g := g) (f := fun n => (wiOf t n : Rat)) fun x hx => by rw [h3 x hx, wiOf_mem hn hx]
  rw [← h2]
  simp only [F_wishes_of, fnF, B_wishes_of]
  simp only [trD] at h1 ⊢
  simp [h1]
  rfl
end DL
namespace DL
open PySem PySem.Spec PyProof.Rows L2
def l2Step (vs vs1 : List Nat) (G : GF) (P : M Bool) (I1 : M (List D)) (G1 : GF) (P1 : M Bool) (E : M T) (d : D) (acc : List D) (δ : Dn) : Option (List D × Dn) := (G d δ).bind fun δ1 => (P δ1).bind fun p => if p.1 = true then (I1 p.2).bind fun i => (lcL vs1 G1 P1 E i.1 acc (wipeD i.2 vs1)).map fun q => (q.1, wipeD q.2 vs) else some (acc, wipeD p.2 vs)
theorem lc2L_enc {α : Type} {vs vs1 : List Nat} {G : GF} {P : M Bool} {I1 : M (List D)} {G1 : GF} {P1 : M Bool} {E : M T} {enc : α → D} (f : α → List D) {δ : Dn} : ∀ {xs : List α} {acc : List D}, acc.length + (xs.flatMap f).length ≤ 1000000 →
    (∀ x, x ∈ xs → ∀ acc : List D, acc.length + (f x).length ≤ 1000000 → l2Step vs vs1 G P I1 G1 P1 E (enc x) acc δ = some (acc ++ f x, δ)) → lc2L vs vs1 G P I1 G1 P1 E (xs.map enc) acc δ = some (acc ++ xs.flatMap f, δ)
  | [], acc, _, _ => by simp [lc2L]
  | x :: xs, acc, hl, h => by
    have hx := h x (List.mem_cons_self ..) acc (by simp at hl; omega)
    have ih := lc2L_enc f (vs := vs) (vs1 := vs1) (G := G) (P := P) (I1 := I1) (G1 := G1) (P1 := P1) (E := E) (enc := enc) (δ := δ) (xs := xs) (acc := acc ++ f x) (by simp at hl ⊢; omega) fun y hy => h y (List.mem_cons_of_mem _ hy)
    rw [List.flatMap_cons, ← List.append_assoc, ← ih]
    unfold l2Step at hx
    obtain ⟨δ1, e1, hx⟩ := Option.bind_eq_some_iff.mp hx
    obtain ⟨p, e2, hx⟩ := Option.bind_eq_some_iff.mp hx
    show (G (enc x) _).bind _ = _
    rw [e1]
    show (P _).bind _ = _
    rw [e2]
    by_cases hp : p.1 = true
    · rw [if_pos hp] at hx
      obtain ⟨i, e3, hx⟩ := Option.bind_eq_some_iff.mp hx
      obtain ⟨q, e4, hx⟩ := Option.map_eq_some_iff.mp hx
      show (if p.1 = true then _ else _) = _
      rw [if_pos hp, e3]
      show (lcL vs1 G1 P1 E i.1 acc (wipeD i.2 vs1)).bind _ = _
      rw [e4]
      have e5 : q.1 = acc ++ f x := congrArg Prod.fst hx
      have e6 : wipeD q.2 vs = δ := congrArg Prod.snd hx
      show lc2L vs vs1 G P I1 G1 P1 E (xs.map enc) q.1 (wipeD q.2 vs) = _
      rw [e5, e6]
    · rw [if_neg hp] at hx
      show (if p.1 = true then _ else _) = _
      rw [if_neg hp]
      have e := Option.some.inj hx
      have ea : acc = acc ++ f x := congrArg Prod.fst e
      have ed : wipeD p.2 vs = δ := congrArg Prod.snd e
      rw [ed, ← ea]
/-! ### all_states -/
def stD (s : List Int) : D := .tuple (s.map .int)
def allNext (found : List (List Int)) : List (List Int) := found.flatMap fun row => [0, 1, -1].map fun way => row ++ [way]
def allSt (cl : List Cl) : List (List Int) := cl.foldl (fun found _ => allNext found) [[]]
theorem allNext_len (f : List (List Int)) : (allNext f).length = 3 * f.length := by
  unfold allNext
  induction f with
  | nil => rfl
  | cons a f ih => simp at ih ⊢; omega
theorem allSt_aux {α : Type} (l : List α) : ∀ f : List (List Int), (l.foldl (fun found _ => allNext found) f).length = 3 ^ l.length * f.length := by
  induction l with
  | nil => intro f; simp
  | cons a l ih =>
    intro f
    rw [List.foldl_cons, ih, allNext_len, List.length_cons, Nat.pow_succ, Nat.mul_assoc]
theorem F_all_states_eq {cl : List Cl} (hl : cl.length ≤ 10) : F_all_states [clsD cl] = some (.fz (.list ((allSt cl).map stD))) := by
  have step : ∀ (k : Nat) (found : List (List Int)) (j2 : Sl), found.length = 3 ^ k → k < 10 → (∀ s ∈ found, s.length = k) → lc2L [3, 4] [4] (gN 3) cYes (wSq (fTup (sCons (fC (PyData.int 0)) (sCons (fC (PyData.int 1)) (sCons (f1 gNeg (fC (PyData.int 1))) sNil))))) (gN 4) cYes (f2 gAdd (fVar 3) (fTup (sCons (fVar 4) sNil))) (found.map stD) [] [.fz (clsD cl), .fz (.list (found.map stD)), j2, .un, .un] = some ((allNext found).map stD, [.fz (clsD cl), .fz (.list (found.map stD)), j2, .un, .un]) := by
    intro k found j2 hf hk hs
    have h3 : 3 ^ k ≤ 3 ^ 10 := Nat.pow_le_pow_right (by decide) (by omega)
    have h4 : (3 : Nat) ^ 10 = 59049 := by decide
    have := lc2L_enc (vs := [3, 4]) (vs1 := [4]) (G := gN 3) (P := cYes) (I1 := wSq (fTup (sCons (fC (PyData.int 0)) (sCons (fC (PyData.int 1)) (sCons (f1 gNeg (fC (PyData.int 1))) sNil))))) (G1 := gN 4) (P1 := cYes) (E := f2 gAdd (fVar 3) (fTup (sCons (fVar 4) sNil))) (enc := stD)
      (fun row => ([0, 1, -1].map fun way => row ++ [way]).map stD) (δ := [.fz (clsD cl), .fz (.list (found.map stD)), j2, .un, .un]) (xs := found) (acc := []) (by
        have e : (found.flatMap fun row => ([0, 1, -1].map fun way : Int => row ++ [way]).map stD).length = 3 * found.length := by
          clear hf hs
          induction found with
          | nil => rfl
          | cons a f ih => simp at ih ⊢; omega
        rw [e, hf]
        simp
        omega) (fun row hr acc ha => by
        have hlen : row.length = k := hs row hr
        have hg : ∀ i : Int, gAdd (stD row) (.tuple [.int i]) = some (.fz (stD (row ++ [i]))) := fun i => by
          unfold stD
          rw [gAdd_tup (by simp; omega)]
          simp
        have l1 : acc.length ≤ 1000000 := by simp at ha; omega
        have l2 : acc.length + 1 ≤ 1000000 := by simp at ha; omega
        have l3 : acc.length + 1 + 1 ≤ 1000000 := by simp at ha; omega
        simp [l2Step, lcL, hg, l1, l2, l3])
    rw [this]
    congr 2
    simp [allNext, List.map_flatMap]
  have loop : ∀ (l : List Cl) (k : Nat) (found : List (List Int)) (j2 : Sl), k + l.length ≤ 10 → found.length = 3 ^ k → (∀ s ∈ found, s.length = k) → ∃ j, forL (gN 2) L_all_states_1 (l.map clD) [.fz (clsD cl), .fz (.list (found.map stD)), j2, .un, .un] = some (.nx [.fz (clsD cl), .fz (.list ((l.foldl (fun found _ => allNext found) found).map stD)), j, .un, .un]) := by
    intro l
    induction l with
    | nil => exact fun k found j2 _ _ _ => ⟨j2, rfl⟩
    | cons c l ih =>
      intro k found j2 hk hf hs
      obtain ⟨j, hj⟩ := ih (k + 1) (allNext found) (.fz (clD c)) (by simp at hk; omega) (by rw [allNext_len, hf, Nat.pow_succ, Nat.mul_comm]) (fun s hs' => by
        obtain ⟨r, hr, h⟩ := List.mem_flatMap.mp hs'
        obtain ⟨w, _, rfl⟩ := List.mem_map.mp h
        simp [hs r hr])
      refine ⟨j, ?_⟩
      rw [List.map_cons, forL_cons]
      have h := step k found (.fz (clD c)) hf (by simp at hk; omega) hs
      simp [fStep, L_all_states_1, h]
      exact hj
  obtain ⟨j, hj⟩ := loop cl 0 [[]] .un (by omega) rfl (by simp)
  simp only [F_all_states, fnF, B_all_states]
  simp only [clsD] at hj ⊢
  have e : stD [] = .tuple [] := rfl
  simp [e] at hj
  simp [hj]
  rfl
end DL
namespace DL
open PySem PySem.Spec PyProof.Rows L2
structure TrOk (t : Tr) : Prop where
  nd : (nmsOf t).Nodup
  ends : ∀ c ∈ t.cl, c.1 ∈ nmsOf t ∧ c.2.1 ∈ nmsOf t
  l1 : t.sh.length ≤ 6
  l2 : t.cl.length ≤ 5
  st : ∀ x ∈ t.sh, 1 ≤ x.2.2 ∧ x.2.2 ≤ 9
  wi : ∀ x ∈ t.sh, -1000000 ≤ x.2.1 ∧ x.2.1 ≤ 1000000
  dr : ∀ c ∈ t.cl, 0 ≤ c.2.2 ∧ c.2.2 ≤ 1000000000000
def StOk (σ : List Int) : Prop := ∀ w ∈ σ, w = 0 ∨ w = 1 ∨ w = -1
theorem zip2_map {α β : Type} (f : α → D) (g : β → D) : ∀ (xs : List α) (ys : List β), zip2 (xs.map f) (ys.map g) = (xs.zip ys).map fun p => .tuple [f p.1, g p.2]
  | [], _ => by simp [zip2]
  | _ :: _, [] => by simp [zip2]
  | x :: xs, y :: ys => by
    have := zip2_map f g xs ys
    simp [zip2] at this ⊢
    exact this
theorem zip3_map {α β γ : Type} (f : α → D) (g : β → D) (h : γ → D) : ∀ (xs : List α) (ys : List β) (zs : List γ), zip3 (xs.map f) (ys.map g) (zs.map h) = (xs.zip (ys.zip zs)).map fun p => .tuple [f p.1, g p.2.1, h p.2.2]
  | [], _, _ => by simp [zip3]
  | _ :: _, [], _ => by simp [zip3]
  | _ :: _, _ :: _, [] => by simp [zip3]
  | x :: xs, y :: ys, z :: zs => by
    have := zip3_map f g h xs ys zs
    simp [zip3] at this ⊢
    exact this
def drawStep (f : Nm → Int) (p : Cl × Int) : Nm → Int := upF (upF f p.1.1 (f p.1.1 - p.2 * p.1.2.2)) p.1.2.1 (f p.1.2.1 + p.2 * p.1.2.2)
def cameOf (t : Tr) (σ : List Int) : Nm → Int := (t.cl.zip σ).foldl drawStep fun _ => 0
theorem way_mul {w d : Int} (h : w = 0 ∨ w = 1 ∨ w = -1) (hd : 0 ≤ d ∧ d ≤ 1000000000000) : gMulA (.int w) (.int d) = some (.fz (.int (w * d))) := by
  refine gMulA_int (wide_mul (a := 2) (b := 50) ?_ ?_ (by decide) (by decide) (by decide))
  · rcases h with rfl | rfl | rfl <;> decide
  · omega
theorem F_drawn_eq {t : Tr} {σ : List Int} (ok : TrOk t) (hs : StOk σ) : F_drawn_to [trD t, stD σ] = some (.nd (fnD PyData.int (nmsOf t) (cameOf t σ))) := by
  obtain ⟨g, h1, _, h3⟩ := dcL_fn (vs := [3]) (G := gN 3) (P := cYes) (A := f2 gIx (fVar 3) (fC (PyData.int 0))) (E := fC (PyData.int 0)) (enc := shD) (ev := PyData.int) (fun x : Sh => x.1) (fun x : Sh => 0) (δ := [.fz (trD t), .fz (stD σ), .un, .un, .un, .un, .un])
    (xs := t.sh) (ns := []) (f := fun _ => 0) (by have := ok.l1; simp; omega) (by simpa [nmsOf] using ok.nd) (fun x hx => by simp [dStep, shD, nD])
  have e : fnD PyData.int ([] : List Nm) (fun _ => (0 : Int)) = [] := rfl
  rw [e] at h1
  have h2 := fn_of_sh (ev := PyData.int) (t := t) (g := g) (f := fun n => 0) fun x hx => h3 x hx
  let Q : (Nm → Int) → Dn → Prop := fun f δ => ∃ j3 j4 j5 j6, δ = [.fz (trD t), .fz (stD σ), .od (fnD PyData.int (nmsOf t) f), j3, j4, j5, j6]
  have key := forL_fold (G := (gT 2 (gsCons (gT 3 (gsCons (gN 3) (gsCons (gN 4) (gsCons (gN 5) gsNil)))) (gsCons (gN 6) gsNil)))) (B := L_drawn_to_1) (enc := fun p : Cl × Int => .tuple [clD p.1, .int p.2]) (xs := t.cl.zip σ) Q drawStep (b := fun _ => 0)
    (δ := [.fz (trD t), .fz (stD σ), .od (fnD PyData.int (nmsOf t) fun _ => 0), .un, .un, .un, .un]) ⟨_, _, _, _, rfl⟩ (by
    rintro f δ ⟨c, w⟩ hx ⟨j3, j4, j5, j6, rfl⟩
    have hc := (List.of_mem_zip hx).1
    have hw := (List.of_mem_zip hx).2
    have hm := way_mul (hs w hw) (ok.dr c hc)
    have d1 := dget_fn (enc := PyData.int) (f := f) (ok.ends c hc).1
    have d2 := dget_fn (enc := PyData.int) (f := f) (ok.ends c hc).2
    have p1 := dput_in (enc := PyData.int) (f := f) (b := f c.1 - w * c.2.2) (ok.ends c hc).1
    have p2 := dput_in (enc := PyData.int) (f := upF f c.1 (f c.1 - w * c.2.2)) (b := f c.2.1 + w * c.2.2) (ok.ends c hc).2
    have hl : (nmsOf t).length ≤ 1000000 := by have := ok.l1; simp [nmsOf]; omega
    refine ⟨[.fz (trD t), .fz (stD σ), .od (fnD PyData.int (nmsOf t) (drawStep f (c, w))), .fz (nD c.1), .fz (nD c.2.1), .fz (.int c.2.2), .fz (.int w)], .inl ?_, _, _, _, _, rfl⟩
    simp [fStep, L_drawn_to_1, clD, nD, hm, d1, d2, putAt, hl, p1, p2, drawStep])
  obtain ⟨δ', k1, j3, j4, j5, j6, rfl⟩ := key
  simp only [List.nil_append] at h1
  have hns : t.sh.map (fun x : Sh => x.1) = nmsOf t := rfl
  rw [hns, h2] at h1
  simp only [F_drawn_to, fnF, B_drawn_to]
  simp only [trD, clsD, stD] at h1 k1 ⊢
  simp [h1, zip2_map, k1]
  rfl
end DL
namespace DL
open PySem PySem.Spec PyProof.Rows L2
theorem forL_foldN {α β : Type} {G : GF} {B : MS} {enc : α → D} {xs : List α} (N : Nat) (Q : Nat → β → Dn → Prop) (step : β → α → β) : ∀ {k : Nat} {b : β} {δ : Dn}, k + xs.length ≤ N → Q k b δ →
    (∀ k b δ x, x ∈ xs → k < N → Q k b δ → ∃ δ', (fStep G B (enc x) δ = some (.nx δ') ∨ fStep G B (enc x) δ = some (.ct δ')) ∧ Q (k + 1) (step b x) δ') → ∃ δ', forL G B (xs.map enc) δ = some (.nx δ') ∧ Q (k + xs.length) (xs.foldl step b) δ' := by
  induction xs with
  | nil => intro k b δ _ q _; exact ⟨δ, rfl, q⟩
  | cons x xs ih =>
    intro k b δ hk q h
    rw [List.length_cons] at hk
    obtain ⟨δ1, h1, q1⟩ := h k b δ x (List.mem_cons_self ..) (by omega) q
    obtain ⟨δ2, h2, q2⟩ := ih (by omega) q1 fun k b δ y hy => h k b δ y (List.mem_cons_of_mem _ hy)
    refine ⟨δ2, ?_, by rw [List.length_cons, show k + (xs.length + 1) = k + 1 + xs.length by omega]; exact q2⟩
    rw [List.map_cons, forL_cons]
    rcases h1 with h1 | h1 <;> rw [h1] <;> exact h2
@[simp] theorem upF_self {β : Type} (f : Nm → β) (n : Nm) : upF f n (f n) = f := by
  funext m
  unfold upF
  split
  · rename_i h; rw [h]
  · rfl
def heldOf (t : Tr) (σ : List Int) : List Cl := ((t.cl.zip σ).filter fun p => decide (p.2 = 0)).map (·.1)
def wholeOf (t : Tr) (l : List Nm) : Int := l.foldl (fun a n => a + stOf t n) 0
def item (t : Tr) (w : Nm → Rat) (came : Nm → Int) (n : Nm) : Rat := (stOf t n : Rat) * w n + (came n : Rat)
def totOf (t : Tr) (w : Nm → Rat) (came : Nm → Int) (l : List Nm) : Rat := l.foldl (fun a n => a + item t w came n) 0
def turnOf (t : Tr) (σ : List Int) (w : Nm → Rat) (n : Nm) : Rat := (1 / (wholeOf t (sideOf (heldOf t σ) n) : Rat)) * totOf t w (cameOf t σ) (sideOf (heldOf t σ) n)
def notC (c d : Cl) : Bool := !decide (d = c)
def carOf (t : Tr) (σ : List Int) (w : Nm → Rat) (p : Cl × Int) : Rat := if p.2 = 0 then totOf t (fun n => w n - turnOf t σ w n) (cameOf t σ) (sideOf ((heldOf t σ).filter (notC p.1)) p.1.1) else ((p.2 * p.1.2.2 : Int) : Rat)
theorem side_sub {cl : List Cl} {ns : List Nm} {b : Nm} (h : ∀ c ∈ cl, c.1 ∈ ns ∧ c.2.1 ∈ ns) (hb : b ∈ ns) : ∀ n ∈ sideOf cl b, n ∈ ns := fun n hn => by
  have := (grown_side cl b).2 hn
  rcases List.mem_cons.mp this with rfl | h2
  · exact hb
  · obtain ⟨c, hc, h3⟩ := List.mem_flatMap.mp h2
    simp at h3
    rcases h3 with rfl | rfl
    · exact (h c hc).1
    · exact (h c hc).2
theorem side_len {cl : List Cl} {ns : List Nm} {b : Nm} (h : ∀ c ∈ cl, c.1 ∈ ns ∧ c.2.1 ∈ ns) (hb : b ∈ ns) : (sideOf cl b).length ≤ ns.length := (grown_side cl b).1.length_le_of_subset (side_sub h hb)
theorem held_sub {t : Tr} {σ : List Int} {c : Cl} (h : c ∈ heldOf t σ) : c ∈ t.cl := by
  obtain ⟨p, hp, rfl⟩ := List.mem_map.mp h
  exact (List.of_mem_zip (List.mem_filter.mp hp).1).1
theorem held_len {t : Tr} {σ : List Int} : (heldOf t σ).length ≤ t.cl.length := by
  unfold heldOf
  rw [List.length_map]
  refine Nat.le_trans (List.length_filter_le ..) ?_
  rw [List.length_zip]
  exact Nat.min_le_left ..
theorem ht_int {i : Int} {k : Nat} (hk : 0 < k) (h : i.natAbs < 2 ^ k) : ht (i : Rat) k := by
  refine ⟨by rw [Rat.num_intCast]; exact h, ?_⟩
  rw [Rat.den_intCast]
  exact Nat.one_lt_two_pow (by omega)
theorem st_bd {t : Tr} (ok : TrOk t) {n : Nm} (h : n ∈ nmsOf t) : 1 ≤ stOf t n ∧ stOf t n ≤ 9 := by
  obtain ⟨x, hx, rfl⟩ := List.mem_map.mp h
  rw [stOf_mem ok.nd hx]
  exact ok.st x hx
theorem came_bd {t : Tr} (ok : TrOk t) {σ : List Int} (hs : StOk σ) (n : Nm) : (cameOf t σ n).natAbs ≤ 10000000000000 := by
  have aux : ∀ (l : List (Cl × Int)) (f : Nm → Int) (B : Nat), (∀ p ∈ l, (0 ≤ p.1.2.2 ∧ p.1.2.2 ≤ 1000000000000) ∧ (p.2 = 0 ∨ p.2 = 1 ∨ p.2 = -1)) → (∀ m, (f m).natAbs ≤ B) → ∀ m, (l.foldl drawStep f m).natAbs ≤ B + l.length * 2000000000000 := by
    intro l
    induction l with
    | nil => intro f B _ h m; simpa using h m
    | cons p l ih =>
      intro f B hp h m
      have h1 := hp p (List.mem_cons_self ..)
      have := ih (drawStep f p) (B + 2000000000000) (fun q hq => hp q (List.mem_cons_of_mem _ hq)) (fun m => by
        have e1 := h m
        have e2 := h p.1.1
        have e3 := h p.1.2.1
        have e4 : (p.2 * p.1.2.2).natAbs ≤ 1000000000000 := by
          rcases h1.2 with e | e | e <;> rw [e] <;> omega
        unfold drawStep upF
        generalize p.2 * p.1.2.2 = z at *
        split
        · omega
        · split <;> omega) m
      rw [List.foldl_cons, List.length_cons]
      omega
  have := aux (t.cl.zip σ) (fun _ => 0) 0 (fun p hp => ⟨ok.dr _ (List.of_mem_zip hp).1, hs _ (List.of_mem_zip hp).2⟩) (by simp) n
  have hl : (t.cl.zip σ).length ≤ 5 := by
    rw [List.length_zip]
    exact Nat.le_trans (Nat.min_le_left ..) ok.l2
  unfold cameOf
  omega
theorem came_ht {t : Tr} (ok : TrOk t) {σ : List Int} (hs : StOk σ) (n : Nm) : ht ((cameOf t σ n : Int) : Rat) 44 := ht_int (by decide) (by have := came_bd ok hs n; omega)
theorem st_ht {t : Tr} (ok : TrOk t) {n : Nm} (h : n ∈ nmsOf t) : ht ((stOf t n : Int) : Rat) 4 := ht_int (by decide) (by have := st_bd ok h; omega)
theorem item_ht {t : Tr} (ok : TrOk t) {σ : List Int} (hs : StOk σ) {w : Nm → Rat} {k : Nat} {n : Nm} (h : n ∈ nmsOf t) (hw : ht (w n) k) : ht (item t w (cameOf t σ) n) (k + 49) := by
  have := ht_add (ht_mul (st_ht ok h) hw) (came_ht ok hs n)
  exact this.up (by omega)
theorem ht_zero : ht 0 1 := ⟨by decide, by decide⟩
theorem tot_ht {t : Tr} (ok : TrOk t) {σ : List Int} (hs : StOk σ) {w : Nm → Rat} {k : Nat} {l : List Nm} (h : ∀ n ∈ l, n ∈ nmsOf t) (hw : ∀ n ∈ nmsOf t, ht (w n) k) : ht (totOf t w (cameOf t σ) l) (1 + l.length * (k + 50)) := by
  have aux : ∀ (l : List Nm) (a : Rat) (b : Nat), (∀ n ∈ l, n ∈ nmsOf t) → ht a b → ht (l.foldl (fun a n => a + item t w (cameOf t σ) n) a) (b + l.length * (k + 50)) := by
    intro l
    induction l with
    | nil => intro a b _ h; simpa using h
    | cons n l ih =>
      intro a b hl ha
      have h1 := ih _ _ (fun m hm => hl m (List.mem_cons_of_mem _ hm)) (ht_add ha (item_ht ok hs (hl n (List.mem_cons_self ..)) (hw n (hl n (List.mem_cons_self ..)))))
      rw [List.foldl_cons, List.length_cons]
      refine h1.up ?_
      rw [Nat.succ_mul]
      omega
  exact aux l 0 1 h ht_zero
end DL
namespace DL
open PySem PySem.Spec PyProof.Rows L2
theorem frD_lit (i : Int) : frD (i : Rat) = PyData.tuple [.int i, .int 1] := (frD_int i).symm
theorem frD_zero : frD 0 = PyData.tuple [.int 0, .int 1] := by simp [frD]
set_option exponentiation.threshold 10000 in
theorem F_fraction_one {n : Int} (h : 0 < n) (h2 : n < 2 ^ 100) : F_fraction [.int 1, .int n] = some (.fz (frD (1 / (n : Rat)))) := by
  obtain ⟨m, rfl⟩ : ∃ m : Nat, n = m := ⟨n.toNat, by omega⟩
  have hm : m ≠ 0 := by omega
  have h2' : m < 2 ^ 100 := by omega
  rw [F_fraction_norm hm (k := 100) h2' (by decide), Rat.normalize_eq_mkRat, Rat.mkRat_eq_div]
  rfl
theorem whole_bd {t : Tr} (ok : TrOk t) {l : List Nm} (h : ∀ n ∈ l, n ∈ nmsOf t) : (l.length : Int) ≤ wholeOf t l ∧ wholeOf t l ≤ 9 * l.length := by
  have aux : ∀ (l : List Nm) (a : Int), (∀ n ∈ l, n ∈ nmsOf t) → a + l.length ≤ l.foldl (fun a n => a + stOf t n) a ∧ l.foldl (fun a n => a + stOf t n) a ≤ a + 9 * l.length := by
    intro l
    induction l with
    | nil => intro a _; simp
    | cons n l ih =>
      intro a hl
      have h1 := ih (a + stOf t n) fun m hm => hl m (List.mem_cons_of_mem _ hm)
      have h2 := st_bd ok (hl n (List.mem_cons_self ..))
      rw [List.foldl_cons, List.length_cons]
      omega
  have := aux l 0 h
  unfold wholeOf
  omega
section
variable {t : Tr} {σ : List Int} {w : Nm → Rat} {kw : Nat}
/-- the sum over a side, as the loops add it -/
theorem run_sum (ok : TrOk t) (hs : StOk σ) (hk : kw ≤ 30) (hw : ∀ n ∈ nmsOf t, ht (w n) kw) {l : List Nm} (hl : l.length ≤ 6) (hm : ∀ n ∈ l, n ∈ nmsOf t) (h5 : D) (s6 j7 j10 s11 j12 j13 j14 j15 : Sl) :
    ∃ j, forL (gN 10) L_run_1 (l.map nD) [.fz (trD t), .fz (stD σ), .fz (dictD (fnD frD (nmsOf t) w)), .fz (dictD (fnD PyData.int (nmsOf t) (stOf t))), .fz (dictD (fnD PyData.int (nmsOf t) (cameOf t σ))), .fz h5, s6, j7, .fz (.int 0), .fz (frD 0), j10, s11, j12, j13, j14, j15] =
      some (.nx [.fz (trD t), .fz (stD σ), .fz (dictD (fnD frD (nmsOf t) w)), .fz (dictD (fnD PyData.int (nmsOf t) (stOf t))), .fz (dictD (fnD PyData.int (nmsOf t) (cameOf t σ))), .fz h5, s6, j7, .fz (.int (wholeOf t l)), .fz (frD (totOf t w (cameOf t σ) l)), j, s11, j12, j13, j14, j15]) := by
  let Q : Nat → Int × Rat → Dn → Prop := fun k b δ => ht b.2 (1 + k * 81) ∧ ∃ j, δ = [.fz (trD t), .fz (stD σ), .fz (dictD (fnD frD (nmsOf t) w)), .fz (dictD (fnD PyData.int (nmsOf t) (stOf t))), .fz (dictD (fnD PyData.int (nmsOf t) (cameOf t σ))), .fz h5, s6, j7, .fz (.int b.1), .fz (frD b.2), j, s11, j12, j13, j14, j15]
  have key := forL_foldN (G := gN 10) (B := L_run_1) (enc := nD) (xs := l) 6 Q (fun b n => (b.1 + stOf t n, b.2 + item t w (cameOf t σ) n)) (k := 0) (b := (0, 0)) (by omega) ⟨ht_zero, j10, rfl⟩ (by
    rintro k ⟨a, q⟩ δ n hn hk6 ⟨hq, j, rfl⟩
    have hq : ht q (1 + k * 81) := hq
    have hn' := hm n hn
    have d1 := dget_fn (enc := PyData.int) (f := stOf t) hn'
    have d2 := dget_fn (enc := frD) (f := w) hn'
    have d3 := dget_fn (enc := PyData.int) (f := cameOf t σ) hn'
    have hwn := (hw n hn').up hk
    have t1 := F_times_eq (st_ht ok hn') hwn (by decide)
    have t2 := F_plus_eq (ht_mul (st_ht ok hn') hwn) (came_ht ok hs n) (by decide)
    have h4 : ht (item t w (cameOf t σ) n) 79 := (ht_add (ht_mul (st_ht ok hn') hwn) (came_ht ok hs n)).up (by decide)
    have t3 := F_plus_eq hq h4 (by omega)
    rw [frD_lit] at t1 t2
    refine ⟨[.fz (trD t), .fz (stD σ), .fz (dictD (fnD frD (nmsOf t) w)), .fz (dictD (fnD PyData.int (nmsOf t) (stOf t))), .fz (dictD (fnD PyData.int (nmsOf t) (cameOf t σ))), .fz h5, s6, j7, .fz (.int (a + stOf t n)), .fz (frD (q + item t w (cameOf t σ) n)), .fz (nD n), s11, j12, j13, j14, j15], .inl ?_, (ht_add hq h4).up (by omega), _, rfl⟩
    have e : gIx (dictD (fnD PyData.int (nmsOf t) (stOf t))) (nD n) = some (.fz (.int (stOf t n))) := by rw [nD, gIx_dict, d1]; rfl
    have e2 : gIx (dictD (fnD frD (nmsOf t) w)) (nD n) = some (.fz (frD (w n))) := by rw [nD, gIx_dict, d2]; rfl
    have e3 : gIx (dictD (fnD PyData.int (nmsOf t) (cameOf t σ))) (nD n) = some (.fz (.int (cameOf t σ n))) := by rw [nD, gIx_dict, d3]; rfl
    have t3' : F_plus [frD q, frD (((stOf t n : Int) : Rat) * w n + ((cameOf t σ n : Int) : Rat))] = _ := t3
    simp [fStep, L_run_1, e, e2, e3, t1, t2, t3'])
  obtain ⟨δ', h1, _, j, rfl⟩ := key
  refine ⟨j, ?_⟩
  rw [h1]
  have aux : ∀ (l : List Nm) (a : Int) (q : Rat), l.foldl (fun (b : Int × Rat) n => (b.1 + stOf t n, b.2 + item t w (cameOf t σ) n)) (a, q) = (l.foldl (fun a n => a + stOf t n) a, l.foldl (fun a n => a + item t w (cameOf t σ) n) q) := by
    intro l
    induction l with
    | nil => intro a q; rfl
    | cons n l ih => intro a q; rw [List.foldl_cons, List.foldl_cons, List.foldl_cons, ih]
  rw [aux]
  rfl
end
end DL
namespace DL
open PySem PySem.Spec PyProof.Rows L2
section
variable {t : Tr} {σ : List Int} {w : Nm → Rat} {kw : Nat}
theorem side_pos (cl : List Cl) (b : Nm) : 1 ≤ (sideOf cl b).length := by
  unfold sideOf
  have aux : ∀ (l : List Cl) (f : List Nm), f.length ≤ (l.foldl sideStep f).length := by
    intro l
    induction l with
    | nil => intro f; exact Nat.le_refl _
    | cons c l ih =>
      intro f
      refine Nat.le_trans ?_ (ih _)
      unfold sideStep
      split
      · exact Nat.le_refl _
      · simp
  have aux2 : ∀ (l : List Cl) (f : List Nm), f.length ≤ (l.foldl (fun f _ => cl.foldl sideStep f) f).length := by
    intro l
    induction l with
    | nil => intro f; exact Nat.le_refl _
    | cons c l ih => exact fun f => Nat.le_trans (aux cl f) (ih _)
  exact aux2 cl [b]
theorem held_ends (ok : TrOk t) : ∀ c ∈ heldOf t σ, c.1 ∈ nmsOf t ∧ c.2.1 ∈ nmsOf t := fun c hc => ok.ends c (held_sub hc)
theorem nms_len (ok : TrOk t) : (nmsOf t).length ≤ 6 := by
  unfold nmsOf
  rw [List.length_map]
  exact ok.l1
theorem side6 (ok : TrOk t) {cl : List Cl} (h : ∀ c ∈ cl, c.1 ∈ nmsOf t ∧ c.2.1 ∈ nmsOf t) {n : Nm} (hn : n ∈ nmsOf t) : (sideOf cl n).length ≤ 6 := Nat.le_trans (side_len h hn) (nms_len ok)
theorem whole_side (ok : TrOk t) {cl : List Cl} (h : ∀ c ∈ cl, c.1 ∈ nmsOf t ∧ c.2.1 ∈ nmsOf t) {n : Nm} (hn : n ∈ nmsOf t) : 0 < wholeOf t (sideOf cl n) ∧ wholeOf t (sideOf cl n) ≤ 54 := by
  have h1 := whole_bd ok (side_sub h hn)
  have h2 := side6 ok h hn
  have h3 := side_pos cl n
  omega
theorem inv_ht {n : Int} (h : 0 < n) (h2 : n ≤ 54) : ht (1 / (n : Rat)) 6 := by
  obtain ⟨m, rfl⟩ : ∃ m : Nat, n = m := ⟨n.toNat, by omega⟩
  have hm : m ≠ 0 := by omega
  have e : (1 : Rat) / ((m : Int) : Rat) = Rat.normalize 1 m hm := by
    rw [Rat.normalize_eq_mkRat, Rat.mkRat_eq_div]
    rfl
  rw [e]
  exact ht_norm hm (by decide) (by omega)
theorem tot_ht6 (ok : TrOk t) (hs : StOk σ) (hk : kw ≤ 30) (hw : ∀ n ∈ nmsOf t, ht (w n) kw) {l : List Nm} (hl : l.length ≤ 6) (hm : ∀ n ∈ l, n ∈ nmsOf t) : ht (totOf t w (cameOf t σ) l) 481 := by
  refine (tot_ht ok hs hm hw).up ?_
  have := Nat.mul_le_mul hl (show kw + 50 ≤ 80 by omega)
  omega
theorem turn_ht (ok : TrOk t) (hs : StOk σ) (hk : kw ≤ 30) (hw : ∀ n ∈ nmsOf t, ht (w n) kw) {n : Nm} (hn : n ∈ nmsOf t) : ht (turnOf t σ w n) 487 := by
  have h1 := whole_side ok (held_ends (σ := σ) ok) hn
  exact (ht_mul (inv_ht h1.1 h1.2) (tot_ht6 ok hs hk hw (side6 ok (held_ends ok) hn) (side_sub (held_ends ok) hn))).up (by decide)
theorem run_names (ok : TrOk t) (hs : StOk σ) (hk : kw ≤ 30) (hw : ∀ n ∈ nmsOf t, ht (w n) kw) (s11 j12 j13 j14 j15 : Sl) : ∀ (l pre : List Nm) (j7 j8 j9 j10 : Sl), pre ++ l = nmsOf t →
    ∃ j7' j8' j9' j10', forL (gN 7) L_run_2 (l.map nD) [.fz (trD t), .fz (stD σ), .fz (dictD (fnD frD (nmsOf t) w)), .fz (dictD (fnD PyData.int (nmsOf t) (stOf t))), .fz (dictD (fnD PyData.int (nmsOf t) (cameOf t σ))), .fz (clsD (heldOf t σ)), .od (fnD frD pre (turnOf t σ w)), j7, j8, j9, j10, s11, j12, j13, j14, j15] =
      some (.nx [.fz (trD t), .fz (stD σ), .fz (dictD (fnD frD (nmsOf t) w)), .fz (dictD (fnD PyData.int (nmsOf t) (stOf t))), .fz (dictD (fnD PyData.int (nmsOf t) (cameOf t σ))), .fz (clsD (heldOf t σ)), .od (fnD frD (nmsOf t) (turnOf t σ w)), j7', j8', j9', j10', s11, j12, j13, j14, j15])
  | [], pre, j7, j8, j9, j10, h => by
    rw [List.append_nil] at h
    subst h
    exact ⟨j7, j8, j9, j10, rfl⟩
  | n :: l, pre, j7, j8, j9, j10, h => by
    have hn : n ∈ nmsOf t := by rw [← h]; simp
    have hnp : n ∉ pre := fun z => by
      have := ok.nd
      rw [← h, List.nodup_append] at this
      exact this.2.2 n z n (List.mem_cons_self ..) rfl
    have hlen := side6 ok (held_ends (σ := σ) ok) hn
    have hsub := side_sub (held_ends (σ := σ) ok) hn
    obtain ⟨j, hsum⟩ := run_sum ok hs hk hw hlen hsub (clsD (heldOf t σ)) (.od (fnD frD pre (turnOf t σ w))) (.fz (nD n)) j10 s11 j12 j13 j14 j15
    have hside := F_side_eq (cl := heldOf t σ) n (by have := held_len (t := t) (σ := σ); have := ok.l2; omega)
    have hwp := whole_side ok (held_ends (σ := σ) ok) hn
    have f1 := F_fraction_one hwp.1 (by omega)
    have f2 := F_times_eq (inv_ht hwp.1 hwp.2) (tot_ht6 ok hs hk hw hlen hsub) (by decide)
    have hput := dput_new (enc := frD) (f := turnOf t σ w) (b := turnOf t σ w n) hnp
    rw [upF_self] at hput
    have hpl : (fnD frD pre (turnOf t σ w)).length ≤ 1000000 := by
      have := nms_len ok
      rw [← h] at this
      simp at this ⊢
      omega
    obtain ⟨a7, a8, a9, a10, ih⟩ := run_names ok hs hk hw s11 j12 j13 j14 j15 l (pre ++ [n]) (.fz (nD n)) (.fz (.int (wholeOf t (sideOf (heldOf t σ) n)))) (.fz (frD (totOf t w (cameOf t σ) (sideOf (heldOf t σ) n)))) j (by rw [List.append_assoc]; exact h)
    refine ⟨a7, a8, a9, a10, ?_⟩
    rw [List.map_cons, forL_cons, ← ih]
    rw [frD_zero] at hsum
    have hput' : dput (fnD frD pre (turnOf t σ w)) n.s (frD (1 / (wholeOf t (sideOf (heldOf t σ) n) : Rat) * totOf t w (cameOf t σ) (sideOf (heldOf t σ) n))) = _ := hput
    have hst : fStep (gN 7) L_run_2 (nD n) [.fz (trD t), .fz (stD σ), .fz (dictD (fnD frD (nmsOf t) w)), .fz (dictD (fnD PyData.int (nmsOf t) (stOf t))), .fz (dictD (fnD PyData.int (nmsOf t) (cameOf t σ))), .fz (clsD (heldOf t σ)), .od (fnD frD pre (turnOf t σ w)), j7, j8, j9, j10, s11, j12, j13, j14, j15] = some (.nx [.fz (trD t), .fz (stD σ), .fz (dictD (fnD frD (nmsOf t) w)), .fz (dictD (fnD PyData.int (nmsOf t) (stOf t))), .fz (dictD (fnD PyData.int (nmsOf t) (cameOf t σ))), .fz (clsD (heldOf t σ)), .od (fnD frD (pre ++ [n]) (turnOf t σ w)), .fz (nD n), .fz (.int (wholeOf t (sideOf (heldOf t σ) n))), .fz (frD (totOf t w (cameOf t σ) (sideOf (heldOf t σ) n))), j, s11, j12, j13, j14, j15]) := by
      simp [fStep, L_run_2, hside, hsum, f1, f2]
      rw [← hput']
      have hpl2 : pre.length ≤ 1000000 := by simpa using hpl
      simp [putAt, nD, hpl2]
    rw [hst]
    rfl
end
end DL
namespace DL
open PySem PySem.Spec PyProof.Rows L2
section
variable {t : Tr} {σ : List Int} {w : Nm → Rat} {kw : Nat}
abbrev pullW (t : Tr) (σ : List Int) (w : Nm → Rat) : Nm → Rat := fun n => w n - turnOf t σ w n
theorem pull_ht (ok : TrOk t) (hs : StOk σ) (hk : kw ≤ 30) (hw : ∀ n ∈ nmsOf t, ht (w n) kw) {n : Nm} (hn : n ∈ nmsOf t) : ht (pullW t σ w n) 518 := (ht_sub (hw n hn) (turn_ht ok hs hk hw hn)).up (by omega)
theorem car_tot_ht (ok : TrOk t) (hs : StOk σ) (hk : kw ≤ 30) (hw : ∀ n ∈ nmsOf t, ht (w n) kw) {l : List Nm} (hl : l.length ≤ 6) (hm : ∀ n ∈ l, n ∈ nmsOf t) : ht (totOf t (pullW t σ w) (cameOf t σ) l) 3409 := by
  refine (tot_ht ok hs hm fun n hn => pull_ht ok hs hk hw hn).up ?_
  omega
theorem run_pull (ok : TrOk t) (hs : StOk σ) (hk : kw ≤ 30) (hw : ∀ n ∈ nmsOf t, ht (w n) kw) {l : List Nm} (hl : l.length ≤ 6) (hm : ∀ n ∈ l, n ∈ nmsOf t) (h5 : D) (j7 j8 j10 s11 j12 j13 j14 j15 : Sl) :
    ∃ j j', forL (gN 7) L_run_3 (l.map nD) [.fz (trD t), .fz (stD σ), .fz (dictD (fnD frD (nmsOf t) w)), .fz (dictD (fnD PyData.int (nmsOf t) (stOf t))), .fz (dictD (fnD PyData.int (nmsOf t) (cameOf t σ))), .fz h5, .od (fnD frD (nmsOf t) (turnOf t σ w)), j7, j8, .fz (frD 0), j10, s11, j12, j13, j14, j15] =
      some (.nx [.fz (trD t), .fz (stD σ), .fz (dictD (fnD frD (nmsOf t) w)), .fz (dictD (fnD PyData.int (nmsOf t) (stOf t))), .fz (dictD (fnD PyData.int (nmsOf t) (cameOf t σ))), .fz h5, .od (fnD frD (nmsOf t) (turnOf t σ w)), j, j8, .fz (frD (totOf t (pullW t σ w) (cameOf t σ) l)), j10, s11, j12, j13, j', j15]) := by
  let Q : Nat → Rat → Dn → Prop := fun k b δ => ht b (1 + k * 568) ∧ ∃ j j', δ = [.fz (trD t), .fz (stD σ), .fz (dictD (fnD frD (nmsOf t) w)), .fz (dictD (fnD PyData.int (nmsOf t) (stOf t))), .fz (dictD (fnD PyData.int (nmsOf t) (cameOf t σ))), .fz h5, .od (fnD frD (nmsOf t) (turnOf t σ w)), j, j8, .fz (frD b), j10, s11, j12, j13, j', j15]
  have key := forL_foldN (G := gN 7) (B := L_run_3) (enc := nD) (xs := l) 6 Q (fun b n => b + item t (pullW t σ w) (cameOf t σ) n) (k := 0) (b := 0) (by omega) ⟨ht_zero, j7, j14, rfl⟩ (by
    rintro k q δ n hn hk6 ⟨hq, j, j', rfl⟩
    have hn' := hm n hn
    have d1 := dget_fn (enc := PyData.int) (f := stOf t) hn'
    have d2 := dget_fn (enc := frD) (f := w) hn'
    have d3 := dget_fn (enc := PyData.int) (f := cameOf t σ) hn'
    have d4 := dget_fn (enc := frD) (f := turnOf t σ w) hn'
    have hwn := hw n hn'
    have hx := turn_ht ok hs hk hw hn'
    have hp := pull_ht ok hs hk hw hn'
    have t0 := F_minus_eq hwn hx (by omega)
    have t1 := F_times_eq (st_ht ok hn') hp (by decide)
    have t2 := F_plus_eq (ht_mul (st_ht ok hn') hp) (came_ht ok hs n) (by decide)
    have h4 : ht (item t (pullW t σ w) (cameOf t σ) n) 567 := (ht_add (ht_mul (st_ht ok hn') hp) (came_ht ok hs n)).up (by decide)
    have t3 := F_plus_eq hq h4 (by omega)
    rw [frD_lit] at t1 t2
    refine ⟨[.fz (trD t), .fz (stD σ), .fz (dictD (fnD frD (nmsOf t) w)), .fz (dictD (fnD PyData.int (nmsOf t) (stOf t))), .fz (dictD (fnD PyData.int (nmsOf t) (cameOf t σ))), .fz h5, .od (fnD frD (nmsOf t) (turnOf t σ w)), .fz (nD n), j8, .fz (frD (q + item t (pullW t σ w) (cameOf t σ) n)), j10, s11, j12, j13, .fz (frD ((stOf t n : Rat) * pullW t σ w n)), j15], .inl ?_, (ht_add hq h4).up (by omega), _, _, rfl⟩
    have e : gIx (dictD (fnD PyData.int (nmsOf t) (stOf t))) (nD n) = some (.fz (.int (stOf t n))) := by rw [nD, gIx_dict, d1]; rfl
    have e2 : gIx (dictD (fnD frD (nmsOf t) w)) (nD n) = some (.fz (frD (w n))) := by rw [nD, gIx_dict, d2]; rfl
    have e3 : gIx (dictD (fnD PyData.int (nmsOf t) (cameOf t σ))) (nD n) = some (.fz (.int (cameOf t σ n))) := by rw [nD, gIx_dict, d3]; rfl
    have e4 : gIx (dictD (fnD frD (nmsOf t) (turnOf t σ w))) (nD n) = some (.fz (frD (turnOf t σ w n))) := by rw [nD, gIx_dict, d4]; rfl
    have t3' : F_plus [frD q, frD (((stOf t n : Int) : Rat) * pullW t σ w n + ((cameOf t σ n : Int) : Rat))] = _ := t3
    have t1' : F_times [PyData.tuple [PyData.int (stOf t n), PyData.int 1], frD (w n - turnOf t σ w n)] = _ := t1
    simp [fStep, L_run_3, e, e2, e3, e4, t0, t1', t2, t3'])
  obtain ⟨δ', h1, _, j, j', rfl⟩ := key
  exact ⟨j, j', h1⟩
theorem run_car (ok : TrOk t) (hs : StOk σ) (hk : kw ≤ 30) (hw : ∀ n ∈ nmsOf t, ht (w n) kw) (j7 j8 j9 j10 j12 j13 j14 j15 : Sl) :
    ∃ j7' j9' j12' j13' j14', forL (gT 2 (gsCons (gN 12) (gsCons (gN 13) gsNil))) L_run_4 ((t.cl.zip σ).map fun p => PyData.tuple [clD p.1, .int p.2]) [.fz (trD t), .fz (stD σ), .fz (dictD (fnD frD (nmsOf t) w)), .fz (dictD (fnD PyData.int (nmsOf t) (stOf t))), .fz (dictD (fnD PyData.int (nmsOf t) (cameOf t σ))), .fz (clsD (heldOf t σ)), .od (fnD frD (nmsOf t) (turnOf t σ w)), j7, j8, j9, j10, .ow [], j12, j13, j14, .un] =
      some (.nx [.fz (trD t), .fz (stD σ), .fz (dictD (fnD frD (nmsOf t) w)), .fz (dictD (fnD PyData.int (nmsOf t) (stOf t))), .fz (dictD (fnD PyData.int (nmsOf t) (cameOf t σ))), .fz (clsD (heldOf t σ)), .od (fnD frD (nmsOf t) (turnOf t σ w)), j7', j8, j9', j10, .ow ((t.cl.zip σ).map fun p => frD (carOf t σ w p)), j12', j13', j14', .un]) := by
  let Q : Nat → List Rat → Dn → Prop := fun k b δ => b.length = k ∧ ∃ j7 j9 j12 j13 j14, δ = [.fz (trD t), .fz (stD σ), .fz (dictD (fnD frD (nmsOf t) w)), .fz (dictD (fnD PyData.int (nmsOf t) (stOf t))), .fz (dictD (fnD PyData.int (nmsOf t) (cameOf t σ))), .fz (clsD (heldOf t σ)), .od (fnD frD (nmsOf t) (turnOf t σ w)), j7, j8, j9, j10, .ow (b.map frD), j12, j13, j14, .un]
  have hz : (t.cl.zip σ).length ≤ 5 := by
    rw [List.length_zip]
    exact Nat.le_trans (Nat.min_le_left ..) ok.l2
  have key := forL_foldN (G := gT 2 (gsCons (gN 12) (gsCons (gN 13) gsNil))) (B := L_run_4) (enc := fun p : Cl × Int => PyData.tuple [clD p.1, .int p.2]) (xs := t.cl.zip σ) 5 Q (fun b p => b ++ [carOf t σ w p]) (k := 0) (b := []) (by omega) ⟨rfl, j7, j9, j12, j13, j14, rfl⟩ (by
    rintro k b δ ⟨c, y⟩ hp hk5 ⟨hb, a7, a9, a12, a13, a14, rfl⟩
    have hc := (List.of_mem_zip hp).1
    have hy := (List.of_mem_zip hp).2
    have hbl : b.length ≤ 1000000 := by omega
    by_cases h0 : y = 0
    · subst h0
      have hends : ∀ d ∈ (heldOf t σ).filter (notC c), d.1 ∈ nmsOf t ∧ d.2.1 ∈ nmsOf t := fun d hd => held_ends ok d (List.mem_filter.mp hd).1
      have hlen : ((heldOf t σ).filter (notC c)).length ≤ 1000 := by
        have h1 := List.length_filter_le (notC c) (heldOf t σ)
        have h2 := held_len (t := t) (σ := σ)
        have h3 := ok.l2
        omega
      have hside := F_side_eq (cl := (heldOf t σ).filter (notC c)) c.1 hlen
      have s6 := side6 ok hends (ok.ends c hc).1
      have ss := side_sub hends (ok.ends c hc).1
      have hlc := lcL_enc (vs := [15]) (G := gN 15) (P := tTst (f2 gNe (fVar 15) (fVar 12))) (E := fVar 15) (enc := clD) (notC c) clD (δ := [.fz (trD t), .fz (stD σ), .fz (dictD (fnD frD (nmsOf t) w)), .fz (dictD (fnD PyData.int (nmsOf t) (stOf t))), .fz (dictD (fnD PyData.int (nmsOf t) (cameOf t σ))), .fz (clsD (heldOf t σ)), .od (fnD frD (nmsOf t) (turnOf t σ w)), a7, j8, .fz (frD 0), j10, .ow (b.map frD), .fz (clD c), .fz (.int 0), a14, .un]) (xs := heldOf t σ) (acc := []) (by
        have h2 := held_len (t := t) (σ := σ)
        have h3 := ok.l2
        simp
        omega) (fun d hd => by by_cases e : d = c <;> simp [lStep, e, notC])
      obtain ⟨j, j', hpull⟩ := run_pull ok hs hk hw s6 ss (clsD (heldOf t σ)) a7 j8 j10 (.ow (b.map frD)) (.fz (clD c)) (.fz (.int 0)) a14 .un
      refine ⟨[.fz (trD t), .fz (stD σ), .fz (dictD (fnD frD (nmsOf t) w)), .fz (dictD (fnD PyData.int (nmsOf t) (stOf t))), .fz (dictD (fnD PyData.int (nmsOf t) (cameOf t σ))), .fz (clsD (heldOf t σ)), .od (fnD frD (nmsOf t) (turnOf t σ w)), j, j8, .fz (frD (totOf t (pullW t σ w) (cameOf t σ) (sideOf ((heldOf t σ).filter (notC c)) c.1))), j10, .ow ((b ++ [carOf t σ w (c, 0)]).map frD), .fz (clD c), .fz (.int 0), j', .un], .inl ?_, by simp [hb], _, _, _, _, _, rfl⟩
      rw [frD_zero] at hlc hpull
      have hcar : carOf t σ w (c, 0) = totOf t (pullW t σ w) (cameOf t σ) (sideOf ((heldOf t σ).filter (notC c)) c.1) := by simp [carOf]
      have e5 : clsD (heldOf t σ) = .tuple ((heldOf t σ).map clD) := rfl
      have e6 : gIx (clD c) (.int 0) = some (.fz (nD c.1)) := rfl
      have e7 : clsD ((heldOf t σ).filter (notC c)) = .tuple (((heldOf t σ).filter (notC c)).map clD) := rfl
      rw [e5] at hlc hpull ⊢
      rw [e7] at hside
      simp only [List.nil_append] at hlc
      simp [fStep, L_run_4, hlc, e6, hside, hpull, hbl, hcar]
    · have hm := way_mul (hs y hy) (ok.dr c hc)
      refine ⟨[.fz (trD t), .fz (stD σ), .fz (dictD (fnD frD (nmsOf t) w)), .fz (dictD (fnD PyData.int (nmsOf t) (stOf t))), .fz (dictD (fnD PyData.int (nmsOf t) (cameOf t σ))), .fz (clsD (heldOf t σ)), .od (fnD frD (nmsOf t) (turnOf t σ w)), a7, j8, a9, j10, .ow ((b ++ [carOf t σ w (c, y)]).map frD), .fz (clD c), .fz (.int y), a14, .un], .inl ?_, by simp [hb], _, _, _, _, _, rfl⟩
      have hcar : carOf t σ w (c, y) = ((y * c.2.2 : Int) : Rat) := by simp [carOf, h0]
      have e6 : gIx (clD c) (.int 2) = some (.fz (.int c.2.2)) := rfl
      have e8 := frD_lit (y * c.2.2)
      simp [fStep, L_run_4, h0, e6, hm, hbl, hcar]
      simpa using e8.symm)
  obtain ⟨δ', h1, _, a7, a9, a12, a13, a14, rfl⟩ := key
  refine ⟨a7, a9, a12, a13, a14, ?_⟩
  refine h1.trans ?_
  have aux : ∀ (l : List (Cl × Int)) (b : List Rat), l.foldl (fun b p => b ++ [carOf t σ w p]) b = b ++ l.map (carOf t σ w) := by
    intro l
    induction l with
    | nil => intro b; simp
    | cons p l ih => intro b; rw [List.foldl_cons, ih]; simp
  rw [aux]
  simp [Function.comp_def]
end
end DL
namespace DL
open PySem PySem.Spec PyProof.Rows L2
section
variable {t : Tr} {σ : List Int} {w : Nm → Rat} {kw : Nat}
theorem F_run_eq (ok : TrOk t) (hs : StOk σ) (hk : kw ≤ 30) (hw : ∀ n ∈ nmsOf t, ht (w n) kw) : F_run [trD t, stD σ, dictD (fnD frD (nmsOf t) w)] =
    some (.fz (.tuple [dictD (fnD frD (nmsOf t) (turnOf t σ w)), .list ((t.cl.zip σ).map fun p => frD (carOf t σ w p))])) := by
  have hdraw := F_drawn_eq ok hs
  let δ0 : Dn := [.fz (trD t), .fz (stD σ), .fz (dictD (fnD frD (nmsOf t) w)), .un, .un, .un, .un, .un, .un, .un, .un, .un, .un, .un, .un, .un]
  obtain ⟨g, h1, _, h3⟩ := dcL_fn (vs := [15]) (G := gN 15) (P := cYes) (A := f2 gIx (fVar 15) (fC (PyData.int 0))) (E := f2 gIx (fVar 15) (fC (PyData.int 2))) (enc := shD) (ev := PyData.int) (fun x : Sh => x.1) (fun x : Sh => x.2.2) (δ := δ0)
    (xs := t.sh) (ns := []) (f := fun _ => 0) (by have := ok.l1; simp; omega) (by simpa [nmsOf] using ok.nd) (fun x hx => by simp [dStep, shD, nD, δ0])
  have e : fnD PyData.int ([] : List Nm) (fun _ => (0 : Int)) = [] := rfl
  rw [e, List.nil_append] at h1
  have h2 := fn_of_sh (ev := PyData.int) (t := t) (g := g) (f := stOf t) fun x hx => by rw [h3 x hx, stOf_mem ok.nd hx]
  have hns : t.sh.map (fun x : Sh => x.1) = nmsOf t := rfl
  rw [hns, h2] at h1
  let δ1 : Dn := [.fz (trD t), .fz (stD σ), .fz (dictD (fnD frD (nmsOf t) w)), .fz (dictD (fnD PyData.int (nmsOf t) (stOf t))), .fz (dictD (fnD PyData.int (nmsOf t) (cameOf t σ))), .un, .un, .un, .un, .un, .un, .un, .un, .un, .un, .un]
  have hheld := lcL_enc (vs := [12, 13]) (G := gT 2 (gsCons (gN 12) (gsCons (gN 13) gsNil))) (P := tTst (f2 gEq (fVar 13) (fC (PyData.int 0)))) (E := fVar 12) (enc := fun p : Cl × Int => .tuple [clD p.1, .int p.2]) (fun p => decide (p.2 = 0)) (fun p => clD p.1) (δ := δ1) (xs := t.cl.zip σ) (acc := []) (by
    have := ok.l2
    rw [List.length_zip]
    have := Nat.min_le_left t.cl.length σ.length
    simp
    omega) (fun p hp => by by_cases e : p.2 = 0 <;> simp [lStep, e, δ1])
  have hh : ((t.cl.zip σ).filter fun p => decide (p.2 = 0)).map (fun p => clD p.1) = (heldOf t σ).map clD := by
    unfold heldOf
    rw [List.map_map]
    rfl
  rw [hh, List.nil_append] at hheld
  obtain ⟨a7, a8, a9, a10, hnames⟩ := run_names ok hs hk hw .un .un .un .un .un (nmsOf t) [] .un .un .un .un rfl
  have e0 : fnD frD ([] : List Nm) (turnOf t σ w) = [] := rfl
  rw [e0] at hnames
  obtain ⟨b7, b9, b12, b13, b14, hcar⟩ := run_car ok hs hk hw a7 a8 a9 a10 .un .un .un .un
  have hkeys : keysD (dictD (fnD PyData.int (nmsOf t) (stOf t))) = some ((nmsOf t).map nD) := by
    rw [keysD_dict]
    unfold fnD
    rw [List.map_map]
    rfl
  simp only [δ0] at h1
  simp only [δ1] at hheld
  simp only [F_run, fnF, B_run]
  have i0 : gIx (trD t) (.int 0) = some (.fz (.tuple (t.sh.map shD))) := rfl
  have i1 : gIx (trD t) (.int 1) = some (.fz (.tuple (t.cl.map clD))) := rfl
  have es : stD σ = .tuple (σ.map .int) := rfl
  rw [es] at h1 hheld hnames hcar hdraw
  have ec : clsD (heldOf t σ) = .tuple ((heldOf t σ).map clD) := rfl
  rw [ec] at hnames hcar
  simp [es, i0, i1, h1, hdraw, zip2_map, hheld, hkeys, hnames, hcar]
end
end DL
namespace DL
open PySem PySem.Spec PyProof.Rows L2
def carsOf (t : Tr) (σ : List Int) (w : Nm → Rat) : List Rat := (t.cl.zip σ).map (carOf t σ w)
def slackRow (x : Nm → Rat) (p : Cl × Int × Rat) : List Rat := if p.2.1 = 0 then [(p.1.2.2 : Rat) - p.2.2, (p.1.2.2 : Rat) + p.2.2] else [(p.2.1 : Rat) * (x p.1.1 - x p.1.2.1)]
def slackOf (t : Tr) (σ : List Int) (x : Nm → Rat) (cs : List Rat) : List Rat := (t.cl.zip (σ.zip cs)).flatMap (slackRow x)
section
variable {t : Tr} {σ : List Int} {x : Nm → Rat} {cs : List Rat}
theorem dr_ht (ok : TrOk t) {c : Cl} (h : c ∈ t.cl) : ht ((c.2.2 : Int) : Rat) 41 := ht_int (by decide) (by have := ok.dr c h; omega)
theorem way_ht (hs : StOk σ) {y : Int} (h : y ∈ σ) : ht (y : Rat) 2 := ht_int (by decide) (by rcases hs y h with rfl | rfl | rfl <;> decide)
theorem slack_ht (ok : TrOk t) (hs : StOk σ) (hx : ∀ n ∈ nmsOf t, ht (x n) 500) (hc : ∀ c ∈ cs, ht c 3409) : ∀ q ∈ slackOf t σ x cs, ht q 3460 := fun q hq => by
  obtain ⟨⟨c, y, m⟩, hp, hq⟩ := List.mem_flatMap.mp hq
  have hcl := (List.of_mem_zip hp).1
  have hy := (List.of_mem_zip (List.of_mem_zip hp).2).1
  have hm := (List.of_mem_zip (List.of_mem_zip hp).2).2
  unfold slackRow at hq
  split at hq
  · simp at hq
    rcases hq with rfl | rfl
    · exact (ht_sub (dr_ht ok hcl) (hc m hm)).up (by decide)
    · exact (ht_add (dr_ht ok hcl) (hc m hm)).up (by decide)
  · simp at hq
    subst hq
    exact (ht_mul (way_ht hs hy) (ht_sub (hx _ (ok.ends c hcl).1) (hx _ (ok.ends c hcl).2))).up (by decide)
theorem F_slack_eq (ok : TrOk t) (hs : StOk σ) (hx : ∀ n ∈ nmsOf t, ht (x n) 500) (hc : ∀ c ∈ cs, ht c 3409) : F_slack_rows [trD t, stD σ, dictD (fnD frD (nmsOf t) x), .list (cs.map frD)] = some (.nw ((slackOf t σ x cs).map frD)) := by
  let Q : Nat → List Rat → Dn → Prop := fun k b δ => b.length ≤ 2 * k ∧ ∃ j5 j6 j7 j8 j9, δ = [.fz (trD t), .fz (stD σ), .fz (dictD (fnD frD (nmsOf t) x)), .fz (.list (cs.map frD)), .ow (b.map frD), j5, j6, j7, j8, j9]
  have hz : (t.cl.zip (σ.zip cs)).length ≤ 5 := by
    rw [List.length_zip]
    exact Nat.le_trans (Nat.min_le_left ..) ok.l2
  have key := forL_foldN (G := gT 3 (gsCons (gT 3 (gsCons (gN 5) (gsCons (gN 6) (gsCons (gN 7) gsNil)))) (gsCons (gN 8) (gsCons (gN 9) gsNil)))) (B := L_slack_rows_1) (enc := fun p : Cl × Int × Rat => PyData.tuple [clD p.1, .int p.2.1, frD p.2.2]) (xs := t.cl.zip (σ.zip cs)) 5 Q (fun b p => b ++ slackRow x p) (k := 0) (b := [])
    (δ := [.fz (trD t), .fz (stD σ), .fz (dictD (fnD frD (nmsOf t) x)), .fz (.list (cs.map frD)), .ow [], .un, .un, .un, .un, .un]) (by omega) ⟨Nat.le_refl _, _, _, _, _, _, rfl⟩ (by
    rintro k b δ ⟨c, y, m⟩ hp hk5 ⟨hb, a5, a6, a7, a8, a9, rfl⟩
    have hcl := (List.of_mem_zip hp).1
    have hy := (List.of_mem_zip (List.of_mem_zip hp).2).1
    have hm := (List.of_mem_zip (List.of_mem_zip hp).2).2
    have hbl : b.length ≤ 1000000 := by omega
    refine ⟨[.fz (trD t), .fz (stD σ), .fz (dictD (fnD frD (nmsOf t) x)), .fz (.list (cs.map frD)), .ow ((b ++ slackRow x (c, y, m)).map frD), .fz (nD c.1), .fz (nD c.2.1), .fz (.int c.2.2), .fz (.int y), .fz (frD m)], .inl ?_, ?_, _, _, _, _, _, rfl⟩
    · have t1 := F_minus_eq (dr_ht ok hcl) (hc m hm) (by decide)
      have t2 := F_plus_eq (dr_ht ok hcl) (hc m hm) (by decide)
      have x1 := hx _ (ok.ends c hcl).1
      have x2 := hx _ (ok.ends c hcl).2
      have t3 := F_minus_eq x1 x2 (by decide)
      have t4 := F_times_eq (way_ht hs hy) (ht_sub x1 x2) (by decide)
      have d1 := dget_fn (enc := frD) (f := x) (ok.ends c hcl).1
      have d2 := dget_fn (enc := frD) (f := x) (ok.ends c hcl).2
      rw [frD_lit] at t1 t2 t4
      have e1 : gIx (dictD (fnD frD (nmsOf t) x)) (nD c.1) = some (.fz (frD (x c.1))) := by rw [nD, gIx_dict, d1]; rfl
      have e2 : gIx (dictD (fnD frD (nmsOf t) x)) (nD c.2.1) = some (.fz (frD (x c.2.1))) := by rw [nD, gIx_dict, d2]; rfl
      have hb2 : b.length + 2 ≤ 1000000 := by omega
      by_cases h0 : y = 0
      · subst h0
        simp [fStep, L_slack_rows_1, clD, t1, t2, slackRow, T.isAl, hb2]
      · simp [fStep, L_slack_rows_1, clD, h0, e1, e2, t3, t4, slackRow, hbl]
    · unfold slackRow
      split <;> simp <;> omega)
  obtain ⟨δ', h1, _, j5, j6, j7, j8, j9, rfl⟩ := key
  have aux : ∀ (l : List (Cl × Int × Rat)) (b : List Rat), l.foldl (fun b p => b ++ slackRow x p) b = b ++ l.flatMap (slackRow x) := by
    intro l
    induction l with
    | nil => intro b; simp
    | cons p l ih => intro b; rw [List.foldl_cons, ih]; simp
  rw [aux, List.nil_append] at h1
  have es : stD σ = .tuple (σ.map .int) := rfl
  have i1 : gIx (trD t) (.int 1) = some (.fz (.tuple (t.cl.map clD))) := rfl
  simp only [F_slack_rows, fnF, B_slack_rows]
  rw [es] at h1 ⊢
  simp [i1, zip3_map, h1]
  rfl
end
end DL
namespace DL
open PySem PySem.Spec PyProof.Rows L2
theorem allSt_mem {cl : List Cl} {σ : List Int} (h : σ ∈ allSt cl) : StOk σ ∧ σ.length = cl.length := by
  have aux : ∀ {α : Type} (l : List α) (f : List (List Int)) (k : Nat), (∀ s ∈ f, StOk s ∧ s.length = k) → ∀ s ∈ l.foldl (fun found _ => allNext found) f, StOk s ∧ s.length = k + l.length := by
    intro α l
    induction l with
    | nil => intro f k h s hs; simpa using h s hs
    | cons c l ih =>
      intro f k h s hs
      have := ih (allNext f) (k + 1) (fun s hs => by
        obtain ⟨r, hr, h1⟩ := List.mem_flatMap.mp hs
        obtain ⟨y, hy, rfl⟩ := List.mem_map.mp h1
        obtain ⟨a, b⟩ := h r hr
        refine ⟨fun z hz => ?_, by simp [b]⟩
        rcases List.mem_append.mp hz with hz | hz
        · exact a z hz
        · simp at hz hy
          subst hz
          omega) s hs
      rw [List.length_cons]
      exact ⟨this.1, by omega⟩
  have := aux cl [[]] 0 (fun s hs => by simp at hs; subst hs; exact ⟨fun z hz => by simp at hz, rfl⟩) σ h
  simpa using this
theorem mem_allSt {cl : List Cl} {σ : List Int} (h1 : StOk σ) (h2 : σ.length = cl.length) : σ ∈ allSt cl := by
  have aux : ∀ {α : Type} (l : List α) (f : List (List Int)) (r s : List Int), r ∈ f → StOk s → s.length = l.length → r ++ s ∈ l.foldl (fun found _ => allNext found) f := by
    intro α l
    induction l with
    | nil => intro f r s hr _ h; have : s = [] := List.eq_nil_of_length_eq_zero h; subst this; simpa using hr
    | cons c l ih =>
      intro f r s hr hs h
      cases s with
      | nil => simp at h
      | cons y s =>
        rw [List.foldl_cons]
        have : r ++ y :: s = (r ++ [y]) ++ s := by simp
        rw [this]
        refine ih (allNext f) (r ++ [y]) s ?_ (fun z hz => hs z (List.mem_cons_of_mem _ hz)) (by simpa using h)
        refine List.mem_flatMap.mpr ⟨r, hr, List.mem_map.mpr ⟨y, ?_, rfl⟩⟩
        have := hs y (List.mem_cons_self ..)
        simp
        omega
  exact aux cl [[]] [] σ (by simp) h1 h2
section
variable {t : Tr} {σ : List Int} {w : Nm → Rat} {kw : Nat}
theorem car_ht (ok : TrOk t) (hs : StOk σ) (hk : kw ≤ 30) (hw : ∀ n ∈ nmsOf t, ht (w n) kw) : ∀ c ∈ carsOf t σ w, ht c 3409 := fun c hc => by
  obtain ⟨⟨d, y⟩, hp, rfl⟩ := List.mem_map.mp hc
  have hd := (List.of_mem_zip hp).1
  have hy := (List.of_mem_zip hp).2
  have hends : ∀ e ∈ (heldOf t σ).filter (notC d), e.1 ∈ nmsOf t ∧ e.2.1 ∈ nmsOf t := fun e he => held_ends ok e (List.mem_filter.mp he).1
  unfold carOf
  split
  · exact car_tot_ht ok hs hk hw (side6 ok hends (ok.ends d hd).1) (side_sub hends (ok.ends d hd).1)
  · have e : ((y * d.2.2 : Int) : Rat) = (y : Rat) * (d.2.2 : Rat) := by simp
    show ht (((y * d.2.2 : Int)) : Rat) 3409
    rw [e]
    exact (ht_mul (way_ht hs hy) (dr_ht ok hd)).up (by decide)
def feas (t : Tr) (w : Nm → Rat) (σ : List Int) : Bool := !(slackOf t σ (turnOf t σ w) (carsOf t σ w)).any fun q => decide (q < 0)
def turD (t : Tr) (σ : List Int) (w : Nm → Rat) : D := .tuple [dictD (fnD frD (nmsOf t) (turnOf t σ w)), .list ((carsOf t σ w).map frD)]
theorem find_some {α : Type} (p : α → Bool) (f : α → D) (xs : List α) : xs.findSome? (fun x => if p x then some (f x) else none) = (xs.find? p).map f := by
  induction xs with
  | nil => rfl
  | cons x xs ih =>
    rw [List.findSome?_cons, List.find?_cons]
    by_cases h : p x = true
    · simp [h]
    · simp [h, ih]
theorem F_turning_eq (ok : TrOk t) (hk : kw ≤ 30) (hw : ∀ n ∈ nmsOf t, ht (w n) kw) : F_turning [trD t, dictD (fnD frD (nmsOf t) w)] = some (.fz (match (allSt t.cl).find? (feas t w) with
    | some σ => turD t σ w
    | none => .none)) := by
  have hall := F_all_states_eq (cl := t.cl) (by have := ok.l2; omega)
  let Q : Dn → Prop := fun δ => ∃ j2 j3 j4, δ = [.fz (trD t), .fz (dictD (fnD frD (nmsOf t) w)), j2, j3, j4, .un]
  have key := forL_find (G := gN 2) (B := L_turning_1) (enc := stD) (xs := allSt t.cl) Q (fun σ => if feas t w σ then some (turD t σ w) else none) (δ := [.fz (trD t), .fz (dictD (fnD frD (nmsOf t) w)), .un, .un, .un, .un]) ⟨_, _, _, rfl⟩ (by
    rintro δ σ hσ ⟨j2, j3, j4, rfl⟩
    obtain ⟨hs, hl⟩ := allSt_mem hσ
    have hrun := F_run_eq ok hs hk hw
    have hx : ∀ n ∈ nmsOf t, ht (turnOf t σ w n) 500 := fun n hn => (turn_ht ok hs hk hw hn).up (by decide)
    have hc := car_ht (σ := σ) ok hs hk hw
    have hsl := F_slack_eq ok hs hx hc
    have hb := slack_ht ok hs hx hc
    have hlen : (slackOf t σ (turnOf t σ w) (carsOf t σ w)).length ≤ 1000000 := by
      have aux : ∀ l : List (Cl × Int × Rat), (l.flatMap (slackRow (turnOf t σ w))).length ≤ 2 * l.length := by
        intro l
        induction l with
        | nil => simp
        | cons p l ih =>
          rw [List.flatMap_cons, List.length_append, List.length_cons]
          have : (slackRow (turnOf t σ w) p).length ≤ 2 := by unfold slackRow; split <;> simp
          omega
      have := aux (t.cl.zip (σ.zip (carsOf t σ w)))
      have h2 := Nat.min_le_left t.cl.length (σ.zip (carsOf t σ w)).length
      have h3 := ok.l2
      unfold slackOf
      rw [List.length_zip] at this
      omega
    have hlc := lcL_all (vs := [5]) (G := gN 5) (P := cYes) (E := fF F_is_less (sCons (fVar 5) (sCons (fC (PyData.tuple [(PyData.int 0), (PyData.int 1)])) sNil))) (enc := frD) (fun q => .bool (decide (q < 0))) (δ := [.fz (trD t), .fz (dictD (fnD frD (nmsOf t) w)), .fz (stD σ), .fz (dictD (fnD frD (nmsOf t) (turnOf t σ w))), .fz (.list ((carsOf t σ w).map frD)), .un])
      (xs := slackOf t σ (turnOf t σ w) (carsOf t σ w)) hlen (fun q hq => by
        have h := F_is_less_eq (hb q hq) ht_zero (by decide)
        rw [frD_zero] at h
        simp [lStep, h])
    refine ⟨[.fz (trD t), .fz (dictD (fnD frD (nmsOf t) w)), .fz (stD σ), .fz (dictD (fnD frD (nmsOf t) (turnOf t σ w))), .fz (.list ((carsOf t σ w).map frD)), .un], ⟨_, _, _, rfl⟩, ?_⟩
    have hcm : (carsOf t σ w).map frD = (t.cl.zip σ).map fun p => frD (carOf t σ w p) := by
      unfold carsOf
      rw [List.map_map]
      rfl
    rw [hcm] at hsl hlc ⊢
    cases hf : feas t w σ with
    | true =>
      have hany : (slackOf t σ (turnOf t σ w) (carsOf t σ w)).any (fun q => decide (q < 0)) = false := by
        unfold feas at hf
        simpa using hf
      have hany2 : ((slackOf t σ (turnOf t σ w) (carsOf t σ w)).map fun q => decide (q < 0)).any id = false := by rw [List.any_map]; exact hany
      simp [fStep, L_turning_1, hrun, hsl, hlc, hany, turD, hcm]
    | false =>
      have hany : (slackOf t σ (turnOf t σ w) (carsOf t σ w)).any (fun q => decide (q < 0)) = true := by
        unfold feas at hf
        simpa using hf
      simp [fStep, L_turning_1, hrun, hsl, hlc, hany])
  obtain ⟨δ', ⟨j2, j3, j4, rfl⟩, h⟩ := key
  rw [find_some] at h
  have i1 : gIx (trD t) (.int 1) = some (.fz (clsD t.cl)) := rfl
  simp only [F_turning, fnF, B_turning]
  cases hf : (allSt t.cl).find? (feas t w) with
  | none =>
    rw [hf] at h
    dsimp only [Option.map] at h
    simp [i1, hall, h]
  | some σ =>
    rw [hf] at h
    dsimp only [Option.map] at h
    simp [i1, hall, h]
end
end DL
namespace DL
open PySem PySem.Spec PyProof.Rows L2
/-! ### sums -/
def sm {α : Type} (l : List α) (f : α → Rat) : Rat := l.foldr (fun n a => f n + a) 0
section
variable {α : Type} {l : List α} {f g : α → Rat}
@[simp] theorem sm_nil : sm ([] : List α) f = 0 := rfl
@[simp] theorem sm_cons {a : α} : sm (a :: l) f = f a + sm l f := rfl
theorem sm_add : sm l (fun n => f n + g n) = sm l f + sm l g := by
  induction l with
  | nil => simp; grind
  | cons a l ih => simp [ih]; grind
theorem sm_sub : sm l (fun n => f n - g n) = sm l f - sm l g := by
  induction l with
  | nil => simp; grind
  | cons a l ih => simp [ih]; grind
theorem sm_mul (c : Rat) : sm l (fun n => c * f n) = c * sm l f := by
  induction l with
  | nil => simp
  | cons a l ih => simp [ih]; grind
theorem sm_congr (h : ∀ n ∈ l, f n = g n) : sm l f = sm l g := by
  induction l with
  | nil => rfl
  | cons a l ih => simp [h a (List.mem_cons_self ..), ih fun n hn => h n (List.mem_cons_of_mem _ hn)]
theorem sm_zero (h : ∀ n ∈ l, f n = 0) : sm l f = 0 := by
  induction l with
  | nil => rfl
  | cons a l ih => simp [h a (List.mem_cons_self ..), ih fun n hn => h n (List.mem_cons_of_mem _ hn)]; grind
theorem sm_le (h : ∀ n ∈ l, f n ≤ g n) : sm l f ≤ sm l g := by
  induction l with
  | nil => simp
  | cons a l ih =>
    have h1 := h a (List.mem_cons_self ..)
    have h2 := ih fun n hn => h n (List.mem_cons_of_mem _ hn)
    simp
    grind
theorem sm_lt (h : ∀ n ∈ l, f n ≤ g n) {m : α} (hm : m ∈ l) (hlt : f m < g m) : sm l f < sm l g := by
  induction l with
  | nil => cases hm
  | cons a l ih =>
    have h1 := h a (List.mem_cons_self ..)
    have h2 : ∀ n ∈ l, f n ≤ g n := fun n hn => h n (List.mem_cons_of_mem _ hn)
    rcases List.mem_cons.mp hm with rfl | hm
    · have := sm_le h2
      simp
      grind
    · have := ih h2 hm
      simp
      grind
theorem sm_perm {l' : List α} (p : l.Perm l') : sm l f = sm l' f := by
  induction p with
  | nil => rfl
  | cons a _ ih => simp [ih]
  | swap a b l => simp; grind
  | trans _ _ h1 h2 => rw [h1, h2]
theorem sm_swap {β : Type} {m : List β} {h : α → β → Rat} : sm l (fun a => sm m (h a)) = sm m fun b => sm l fun a => h a b := by
  induction l with
  | nil => simp [sm_zero]
  | cons a l ih => simp only [sm_cons, ih, sm_add]
theorem sm_append {l' : List α} : sm (l ++ l') f = sm l f + sm l' f := by
  induction l with
  | nil => simp; grind
  | cons a l ih => simp [ih]; grind
theorem sm_filter (p : α → Bool) : sm (l.filter p) f = sm l fun n => if p n = true then f n else 0 := by
  induction l with
  | nil => rfl
  | cons a l ih =>
    rw [List.filter_cons]
    by_cases h : p a = true
    · simp [h, ih]
    · simp [h, ih]; grind
theorem sm_map {β : Type} {e : β → α} {m : List β} : sm (m.map e) f = sm m fun b => f (e b) := by
  induction m with
  | nil => rfl
  | cons b m ih => simp [ih]
theorem foldl_sm (a : Rat) : l.foldl (fun a n => a + f n) a = a + sm l f := by
  induction l generalizing a with
  | nil => simp; grind
  | cons b l ih => simp [ih]; grind
theorem sm_nonneg (h : ∀ n ∈ l, 0 ≤ f n) : 0 ≤ sm l f := by
  have := sm_le (l := l) (f := fun _ => 0) (g := f) h
  rwa [sm_zero fun _ _ => rfl] at this
end
/-- a sum over a part -/
noncomputable def sI (ns : List Nm) (p : Nm → Prop) (f : Nm → Rat) : Rat := sm ns fun n => open Classical in if p n then f n else 0
section
variable {ns : List Nm} {p q : Nm → Prop} {f g : Nm → Rat}
theorem sI_congr (h : ∀ n ∈ ns, p n ↔ q n) : sI ns p f = sI ns q f := sm_congr fun n hn => by
  by_cases e : p n
  · rw [if_pos e, if_pos ((h n hn).mp e)]
  · rw [if_neg e, if_neg fun z => e ((h n hn).mpr z)]
theorem sI_congrF (h : ∀ n ∈ ns, p n → f n = g n) : sI ns p f = sI ns p g := sm_congr fun n hn => by
  by_cases e : p n
  · rw [if_pos e, if_pos e, h n hn e]
  · rw [if_neg e, if_neg e]
theorem sI_add : sI ns p (fun n => f n + g n) = sI ns p f + sI ns p g := by
  unfold sI
  rw [← sm_add]
  refine sm_congr fun n _ => ?_
  split <;> grind
theorem sI_sub : sI ns p (fun n => f n - g n) = sI ns p f - sI ns p g := by
  unfold sI
  rw [← sm_sub]
  refine sm_congr fun n _ => ?_
  split <;> grind
theorem sI_mul (c : Rat) : sI ns p (fun n => c * f n) = c * sI ns p f := by
  unfold sI
  rw [← sm_mul]
  refine sm_congr fun n _ => ?_
  split <;> grind
theorem sI_or (h : ∀ n ∈ ns, p n → ¬ q n) : sI ns (fun n => p n ∨ q n) f = sI ns p f + sI ns q f := by
  unfold sI
  rw [← sm_add]
  refine sm_congr fun n hn => ?_
  by_cases e : p n
  · have := h n hn e
    simp [e, this]
    grind
  · by_cases e2 : q n
    · simp [e, e2]
      grind
    · simp [e, e2]
      grind
theorem sI_list {l : List Nm} (hn : ns.Nodup) (hl : l.Nodup) (hs : ∀ n ∈ l, n ∈ ns) (h : ∀ n ∈ ns, p n ↔ n ∈ l) : sI ns p f = sm l f := by
  have e : sI ns p f = sm (ns.filter fun n => decide (n ∈ l)) f := by
    rw [sm_filter]
    refine sm_congr fun n hn => ?_
    by_cases e : n ∈ l
    · rw [if_pos ((h n hn).mpr e)]; simp [e]
    · rw [if_neg fun z => e ((h n hn).mp z)]; simp [e]
  rw [e]
  refine sm_perm ((List.perm_ext_iff_of_nodup (List.Pairwise.filter _ hn) hl).mpr fun n => ?_)
  simp
  exact fun h => hs n h
def ind (a n : Nm) : Rat := if n = a then 1 else 0
theorem sI_ind {a : Nm} (hn : ns.Nodup) (ha : a ∈ ns) : sI ns p (ind a) = open Classical in if p a then 1 else 0 := by
  unfold sI
  induction ns with
  | nil => cases ha
  | cons b ns ih =>
    rw [List.nodup_cons] at hn
    rw [sm_cons]
    by_cases e : b = a
    · subst e
      rw [sm_zero fun n hm => by
        have : n ≠ b := fun z => hn.1 (z ▸ hm)
        simp [ind, this]]
      simp [ind]
      grind
    · have := ih hn.2 ((List.mem_cons.mp ha).resolve_left fun z => e z.symm)
      rw [this]
      simp [ind, e]
      grind
end
/-! ### what is joined -/
inductive Conn (es : List Cl) : Nm → Nm → Prop
  | refl (a : Nm) : Conn es a a
  | fwd {a : Nm} {c : Cl} : Conn es a c.1 → c ∈ es → Conn es a c.2.1
  | bwd {a : Nm} {c : Cl} : Conn es a c.2.1 → c ∈ es → Conn es a c.1
section
variable {es fs : List Cl} {a b d : Nm}
theorem Conn.trans (h : Conn es a b) (k : Conn es b d) : Conn es a d := by
  induction k with
  | refl => exact h
  | fwd _ m ih => exact .fwd ih m
  | bwd _ m ih => exact .bwd ih m
theorem Conn.symm (h : Conn es a b) : Conn es b a := by
  induction h with
  | refl => exact .refl _
  | fwd _ m ih => exact (Conn.bwd (.refl _) m).trans ih
  | bwd _ m ih => exact (Conn.fwd (.refl _) m).trans ih
theorem Conn.mono (h : Conn es a b) (hs : ∀ c ∈ es, c ∈ fs) : Conn fs a b := by
  induction h with
  | refl => exact .refl _
  | fwd _ m ih => exact .fwd ih (hs _ m)
  | bwd _ m ih => exact .bwd ih (hs _ m)
theorem Conn.edge {c : Cl} (h : c ∈ es) : Conn es c.1 c.2.1 := .fwd (.refl _) h
theorem Conn.same {c : Cl} (h : c ∈ es) : Conn es a c.1 ↔ Conn es a c.2.1 := ⟨fun k => k.fwd h, fun k => k.bwd h⟩
theorem conn_cons {e : Cl} : Conn (e :: es) a b ↔ Conn es a b ∨ (Conn es a e.1 ∧ Conn es e.2.1 b) ∨ (Conn es a e.2.1 ∧ Conn es e.1 b) := by
  constructor
  · intro h
    induction h with
    | refl => exact .inl (.refl _)
    | @fwd c _ m ih =>
      rcases List.mem_cons.mp m with rfl | m
      · rcases ih with h | ⟨h1, h2⟩ | ⟨h1, h2⟩
        · exact .inr (.inl ⟨h, .refl _⟩)
        · exact .inr (.inl ⟨h1, .refl _⟩)
        · exact .inl h1
      · rcases ih with h | ⟨h1, h2⟩ | ⟨h1, h2⟩
        · exact .inl (h.fwd m)
        · exact .inr (.inl ⟨h1, h2.fwd m⟩)
        · exact .inr (.inr ⟨h1, h2.fwd m⟩)
    | @bwd c _ m ih =>
      rcases List.mem_cons.mp m with rfl | m
      · rcases ih with h | ⟨h1, h2⟩ | ⟨h1, h2⟩
        · exact .inr (.inr ⟨h, .refl _⟩)
        · exact .inl h1
        · exact .inr (.inr ⟨h1, .refl _⟩)
      · rcases ih with h | ⟨h1, h2⟩ | ⟨h1, h2⟩
        · exact .inl (h.bwd m)
        · exact .inr (.inl ⟨h1, h2.bwd m⟩)
        · exact .inr (.inr ⟨h1, h2.bwd m⟩)
  · have up : ∀ {x y}, Conn es x y → Conn (e :: es) x y := fun h => h.mono fun c hc => List.mem_cons_of_mem _ hc
    have he : Conn (e :: es) e.1 e.2.1 := .edge (List.mem_cons_self ..)
    rintro (h | ⟨h1, h2⟩ | ⟨h1, h2⟩)
    · exact up h
    · exact ((up h1).trans he).trans (up h2)
    · exact ((up h1).trans he.symm).trans (up h2)
/-! the program's side -/
theorem step_sub (f : List Nm) (c : Cl) : ∀ n ∈ f, n ∈ sideStep f c := fun n hn => by
  unfold sideStep
  split
  · exact hn
  · exact List.mem_append_left _ hn
theorem fold_sub (l : List Cl) (f : List Nm) : ∀ n ∈ f, n ∈ l.foldl sideStep f := by
  induction l generalizing f with
  | nil => exact fun n hn => hn
  | cons c l ih => exact fun n hn => ih _ n (step_sub f c n hn)
theorem fold_sound {l : List Cl} (hl : ∀ c ∈ l, c ∈ es) {f : List Nm} (hf : ∀ n ∈ f, Conn es a n) : ∀ n ∈ l.foldl sideStep f, Conn es a n := by
  induction l generalizing f with
  | nil => exact hf
  | cons c l ih =>
    refine ih (fun d hd => hl d (List.mem_cons_of_mem _ hd)) fun n hn => ?_
    have hc := hl c (List.mem_cons_self ..)
    unfold sideStep at hn
    split at hn
    · exact hf n hn
    · rename_i hne
      rcases List.mem_append.mp hn with hn | hn
      · exact hf n hn
      · simp at hn
        subst hn
        by_cases h1 : c.1 ∈ f
        · rw [if_pos h1]; exact (hf _ h1).fwd hc
        · rw [if_neg h1]
          have h2 : c.2.1 ∈ f := by
            by_cases h2 : c.2.1 ∈ f
            · exact h2
            · exact (hne (by simp [h1, h2])).elim
          exact (hf _ h2).bwd hc
theorem fold_grow (l : List Cl) (f : List Nm) : (l.foldl sideStep f = f ∧ ∀ c ∈ l, c.1 ∈ f ↔ c.2.1 ∈ f) ∨ ∃ c ∈ l, ¬ (c.1 ∈ f ∧ c.2.1 ∈ f) ∧ c.1 ∈ l.foldl sideStep f ∧ c.2.1 ∈ l.foldl sideStep f := by
  induction l generalizing f with
  | nil => exact .inl ⟨rfl, fun c hc => by cases hc⟩
  | cons c l ih =>
    rw [List.foldl_cons]
    by_cases e : decide (c.1 ∈ f) = decide (c.2.1 ∈ f)
    · have e1 : sideStep f c = f := if_pos e
      rw [e1]
      rcases ih f with ⟨h1, h2⟩ | ⟨d, hd, h⟩
      · refine .inl ⟨h1, fun d hd => ?_⟩
        rcases List.mem_cons.mp hd with rfl | hd
        · exact decide_eq_decide.mp e
        · exact h2 d hd
      · exact .inr ⟨d, List.mem_cons_of_mem _ hd, h⟩
    · refine .inr ⟨c, List.mem_cons_self .., fun h => e (by simp [h.1, h.2]), ?_⟩
      have e1 : sideStep f c = f ++ [if c.1 ∈ f then c.2.1 else c.1] := if_neg e
      have : c.1 ∈ sideStep f c ∧ c.2.1 ∈ sideStep f c := by
        rw [e1]
        by_cases h1 : c.1 ∈ f
        · simp [h1]
        · have h2 : c.2.1 ∈ f := by
            by_cases h2 : c.2.1 ∈ f
            · exact h2
            · exact (e (by simp [h1, h2])).elim
          simp [h1, h2]
      exact ⟨fold_sub l _ _ this.1, fold_sub l _ _ this.2⟩
def Closed (es : List Cl) (f : List Nm) : Prop := ∀ c ∈ es, c.1 ∈ f ↔ c.2.1 ∈ f
def insd (es : List Cl) (f : List Nm) : Nat := es.countP fun c => decide (c.1 ∈ f) && decide (c.2.1 ∈ f)
theorem countP_lt {α : Type} {p q : α → Bool} {l : List α} (h : ∀ x ∈ l, p x = true → q x = true) {x : α} (hx : x ∈ l) (h1 : p x = false) (h2 : q x = true) : l.countP p + 1 ≤ l.countP q := by
  induction l with
  | nil => cases hx
  | cons y l ih =>
    rw [List.countP_cons, List.countP_cons]
    have hm : l.countP p ≤ l.countP q := List.countP_mono_left fun z hz => h z (List.mem_cons_of_mem _ hz)
    rcases List.mem_cons.mp hx with rfl | hx
    · simp [h1, h2]
      omega
    · have := ih (fun z hz => h z (List.mem_cons_of_mem _ hz)) hx
      have h3 := h y (List.mem_cons_self ..)
      by_cases e : p y = true
      · simp [e, h3 e]; omega
      · simp [e]; omega
theorem closed_fix {f : List Nm} (h : Closed es f) : ∀ l : List Cl, (∀ c ∈ l, c ∈ es) → l.foldl sideStep f = f := by
  intro l
  induction l with
  | nil => intro _; rfl
  | cons c l ih =>
    intro hl
    rw [List.foldl_cons]
    have e1 : sideStep f c = f := if_pos (decide_eq_decide.mpr (h c (hl c (List.mem_cons_self ..))))
    rw [e1]
    exact ih fun d hd => hl d (List.mem_cons_of_mem _ hd)
theorem side_closed (es : List Cl) (b : Nm) : Closed es (sideOf es b) := by
  have aux : ∀ (m : List Cl) (f : List Nm) (k : Nat), Closed es f ∨ k ≤ insd es f → Closed es (m.foldl (fun f _ => es.foldl sideStep f) f) ∨ k + m.length ≤ insd es (m.foldl (fun f _ => es.foldl sideStep f) f) := by
    intro m
    induction m with
    | nil => intro f k h; simpa using h
    | cons c m ih =>
      intro f k h
      rw [List.foldl_cons, List.length_cons]
      have := ih (es.foldl sideStep f) (k + 1) (by
        rcases fold_grow es f with ⟨h1, h2⟩ | ⟨d, hd, h1, h2, h3⟩
        · rw [h1]; exact .inl h2
        · rcases h with h | h
          · rw [closed_fix h es fun _ h => h]; exact .inl h
          · right
            have := countP_lt (l := es) (p := fun c => decide (c.1 ∈ f) && decide (c.2.1 ∈ f)) (q := fun c => decide (c.1 ∈ es.foldl sideStep f) && decide (c.2.1 ∈ es.foldl sideStep f)) (fun x hx hp => by
              simp at hp ⊢
              exact ⟨fold_sub es f _ hp.1, fold_sub es f _ hp.2⟩) hd (by simpa using h1) (by simp [h2, h3])
            unfold insd at h ⊢
            omega)
      rcases this with h | h
      · exact .inl h
      · right; omega
  rcases aux es [b] 0 (.inr (Nat.zero_le _)) with h | h
  · exact h
  · have hc : insd es (sideOf es b) = es.length := by
      have h1 : insd es (sideOf es b) ≤ es.length := List.countP_le_length
      have h2 : 0 + es.length ≤ insd es (sideOf es b) := h
      omega
    have := List.countP_eq_length.mp hc
    intro c hc'
    have := this c hc'
    simp at this
    exact ⟨fun _ => this.2, fun _ => this.1⟩
theorem side_conn (es : List Cl) (b n : Nm) : n ∈ sideOf es b ↔ Conn es b n := by
  constructor
  · intro h
    have aux : ∀ (m : List Cl) (f : List Nm), (∀ n ∈ f, Conn es b n) → ∀ n ∈ m.foldl (fun f _ => es.foldl sideStep f) f, Conn es b n := by
      intro m
      induction m with
      | nil => exact fun f h => h
      | cons c m ih => exact fun f h => ih _ (fold_sound (fun _ h => h) h)
    exact aux es [b] (fun n hn => by simp at hn; subst hn; exact .refl _) n h
  · intro h
    induction h with
    | refl =>
      have aux : ∀ (m : List Cl) (f : List Nm), ∀ n ∈ f, n ∈ m.foldl (fun f _ => es.foldl sideStep f) f := by
        intro m
        induction m with
        | nil => exact fun f n h => h
        | cons c m ih => exact fun f n h => ih _ n (fold_sub es f n h)
      exact aux es [b] b (by simp)
    | fwd _ m ih => exact (side_closed es b _ m).mp ih
    | bwd _ m ih => exact (side_closed es b _ m).mpr ih
end
end DL
namespace DL
open PySem PySem.Spec PyProof.Rows L2
/-! ### forests, flows -/
def Br (es : List Cl) : Prop := ∀ l1 e l2, es = l1 ++ e :: l2 → ¬ Conn (l1 ++ l2) e.1 e.2.1
theorem Br.sub {es fs : List Cl} (h : Br fs) (s : es.Sublist fs) : Br es := by
  rintro l1 e l2 rfl hc
  obtain ⟨r1, r2, rfl, s1, s2⟩ := List.append_sublist_iff.mp s
  obtain ⟨r3, r4, rfl, hm, s4⟩ := List.cons_sublist_iff.mp s2
  obtain ⟨u, v, rfl⟩ := List.append_of_mem hm
  refine h (r1 ++ u) e (v ++ r4) (by simp) (hc.mono fun c hc => ?_)
  rcases List.mem_append.mp hc with hc | hc
  · simp [s1.subset hc]
  · simp [s4.subset hc]
theorem Br.tail {e : Cl} {es : List Cl} (h : Br (e :: es)) : Br es := h.sub (List.sublist_cons_self ..)
theorem Br.head {e : Cl} {es : List Cl} (h : Br (e :: es)) : ¬ Conn es e.1 e.2.1 := h [] e es rfl
theorem Br.nodup {es : List Cl} (h : Br es) : es.Nodup := by
  induction es with
  | nil => simp
  | cons e es ih => exact List.nodup_cons.mpr ⟨fun m => h.head (.edge m), ih h.tail⟩
theorem Br.filter {es : List Cl} (h : Br es) {e : Cl} (he : e ∈ es) : ¬ Conn (es.filter (notC e)) e.1 e.2.1 := by
  obtain ⟨l1, l2, rfl⟩ := List.append_of_mem he
  have nd := h.nodup
  refine fun hc => h l1 e l2 rfl (hc.mono fun c hc => ?_)
  have := List.mem_filter.mp hc
  have h1 := this.1
  have h2 : c ≠ e := by simpa [notC] using this.2
  simp at h1 ⊢
  rcases h1 with h1 | h1 | h1
  · exact .inl h1
  · exact (h2 h1).elim
  · exact .inr h1
/-- what flows away at a node -/
def dv (es : List Cl) (c : Cl → Rat) (n : Nm) : Rat := sm es fun e => c e * (ind e.1 n - ind e.2.1 n)
section
variable {ns : List Nm} {es : List Cl} {c : Cl → Rat} {p : Nm → Prop}
open Classical in
/-- what flows out of a part -/
noncomputable def cut (es : List Cl) (c : Cl → Rat) (p : Nm → Prop) : Rat := sm es fun e => c e * ((if p e.1 then 1 else 0) - (if p e.2.1 then 1 else 0))
theorem sI_dv (hn : ns.Nodup) (he : ∀ e ∈ es, e.1 ∈ ns ∧ e.2.1 ∈ ns) : sI ns p (dv es c) = cut es c p := by
  have h1 : sI ns p (dv es c) = sm es fun e => sI ns p fun n => c e * (ind e.1 n - ind e.2.1 n) := by
    unfold sI dv
    rw [← sm_swap]
    refine sm_congr fun n _ => ?_
    by_cases e : p n
    · simp only [if_pos e]
    · simp only [if_neg e]
      exact (sm_zero fun _ _ => rfl).symm
  rw [h1]
  refine sm_congr fun e hm => ?_
  rw [sI_mul, sI_sub, sI_ind hn (he e hm).1, sI_ind hn (he e hm).2]
theorem cut_zero (h : ∀ e ∈ es, p e.1 ↔ p e.2.1) : cut es c p = 0 := sm_zero fun e he => by
  by_cases k : p e.1
  · rw [if_pos k, if_pos ((h e he).mp k)]; grind
  · rw [if_neg k, if_neg fun z => k ((h e he).mpr z)]; grind
/-- through a bridge flows what its side has over -/
theorem cut_bridge (hb : Br es) {e : Cl} (he : e ∈ es) : cut es c (Conn (es.filter (notC e)) e.1) = c e := by
  have nb := hb.filter he
  have h1 : cut es c (Conn (es.filter (notC e)) e.1) = sm es fun d => if d = e then c e else 0 := by
    refine sm_congr fun d hd => ?_
    by_cases hde : d = e
    · subst hde
      rw [if_pos rfl, if_pos (Conn.refl _), if_neg nb]
      grind
    · rw [if_neg hde]
      have hm : d ∈ es.filter (notC e) := List.mem_filter.mpr ⟨hd, by simp [notC, hde]⟩
      have := Conn.same (a := e.1) hm
      by_cases k : Conn (es.filter (notC e)) e.1 d.1
      · rw [if_pos k, if_pos (this.mp k)]; grind
      · rw [if_neg k, if_neg fun z => k (this.mpr z)]; grind
  rw [h1]
  have nd := hb.nodup
  clear h1 nb hb
  induction es with
  | nil => cases he
  | cons d es ih =>
    rw [List.nodup_cons] at nd
    rw [sm_cons]
    by_cases hde : d = e
    · subst hde
      rw [if_pos rfl, sm_zero (fun x hx => if_neg (fun (z : x = d) => nd.1 (z ▸ hx)))]
      grind
    · rw [if_neg hde, ih ((List.mem_cons.mp he).resolve_left fun z => hde z.symm) nd.2]
      grind
/-- a flow that carries off what nodes have over -/
theorem flow_ex (hn : ns.Nodup) : ∀ {es : List Cl}, Br es → (∀ e ∈ es, e.1 ∈ ns ∧ e.2.1 ∈ ns) → ∀ f : Nm → Rat, (∀ a ∈ ns, sI ns (Conn es a) f = 0) → ∃ c : Cl → Rat, ∀ n ∈ ns, f n = dv es c n
  | [], _, _, f, h => ⟨fun _ => 0, fun n hm => by
    have h1 := h n hm
    have h2 : sI ns (Conn [] n) f = sm [n] f := sI_list hn (by simp) (by simpa using hm) fun m _ => by
      simp
      constructor
      · intro k
        cases k with
        | refl => rfl
        | fwd _ m => cases m
        | bwd _ m => cases m
      · rintro rfl; exact .refl _
    rw [h2] at h1
    simp at h1
    simp [dv]
    grind⟩
  | e :: es, hb, he, f, h => by
    have heu := (he e (List.mem_cons_self ..)).1
    have hev := (he e (List.mem_cons_self ..)).2
    have hnc := hb.head
    let A := sI ns (Conn es e.1) f
    let f' : Nm → Rat := fun n => f n - A * (ind e.1 n - ind e.2.1 n)
    have hAB : A + sI ns (Conn es e.2.1) f = 0 := by
      rw [← h e.1 heu]
      have := sI_or (ns := ns) (p := Conn es e.1) (q := Conn es e.2.1) (f := f) (fun n _ h1 h2 => hnc (h1.trans h2.symm))
      rw [← this]
      refine sI_congr fun n _ => ?_
      rw [conn_cons]
      constructor
      · rintro (h | h)
        · exact .inl h
        · exact .inr (.inl ⟨.refl _, h⟩)
      · rintro (h | ⟨_, h⟩ | ⟨h, _⟩)
        · exact .inl h
        · exact .inr h
        · exact (hnc h).elim
    have hsum : ∀ a ∈ ns, sI ns (Conn es a) f' = sI ns (Conn es a) f - A * ((open Classical in if Conn es a e.1 then 1 else 0) - (open Classical in if Conn es a e.2.1 then 1 else 0)) := fun a ha => by
      show sI ns (Conn es a) (fun n => f n - A * (ind e.1 n - ind e.2.1 n)) = _
      rw [sI_sub, sI_mul, sI_sub, sI_ind hn heu, sI_ind hn hev]
    obtain ⟨c, hc⟩ := flow_ex hn hb.tail (fun d hd => he d (List.mem_cons_of_mem _ hd)) f' fun a ha => by
      rw [hsum a ha]
      by_cases h1 : Conn es a e.1
      · have h2 : ¬ Conn es a e.2.1 := fun z => hnc (h1.symm.trans z)
        rw [if_pos h1, if_neg h2]
        have : sI ns (Conn es a) f = A := sI_congr fun n _ => ⟨fun k => h1.symm.trans k, fun k => h1.trans k⟩
        rw [this]
        grind
      · by_cases h2 : Conn es a e.2.1
        · rw [if_neg h1, if_pos h2]
          have : sI ns (Conn es a) f = sI ns (Conn es e.2.1) f := sI_congr fun n _ => ⟨fun k => h2.symm.trans k, fun k => h2.trans k⟩
          rw [this]
          grind
        · rw [if_neg h1, if_neg h2]
          have : sI ns (Conn es a) f = 0 := by
            rw [← h a ha]
            refine sI_congr fun n _ => ?_
            rw [conn_cons]
            constructor
            · exact .inl
            · rintro (h | ⟨h, _⟩ | ⟨h, _⟩)
              · exact h
              · exact (h1 h).elim
              · exact (h2 h).elim
          rw [this]
          grind
    have hnm : e ∉ es := fun m => hnc (.edge m)
    refine ⟨fun d => if d = e then A else c d, fun n hm => ?_⟩
    have h1 := hc n hm
    have h2 : dv (e :: es) (fun d => if d = e then A else c d) n = A * (ind e.1 n - ind e.2.1 n) + dv es c n := by
      unfold dv
      rw [sm_cons]
      dsimp only
      rw [if_pos rfl]
      congr 1
      refine sm_congr fun d hd => ?_
      have : d ≠ e := fun z => hnm (z ▸ hd)
      rw [if_neg this]
    rw [h2, ← h1]
    show f n = _ + (f n - _)
    grind
end
/-! ### equilibria -/
def eLaw (e : Cl) (c : Rat) (x : Nm → Rat) : Prop := (-(e.2.2 : Rat) ≤ c ∧ c ≤ (e.2.2 : Rat)) ∧ (x e.2.1 < x e.1 → c = (e.2.2 : Rat)) ∧ (x e.1 < x e.2.1 → c = -(e.2.2 : Rat))
structure Equi (ns : List Nm) (s : Nm → Rat) (es : List Cl) (w x : Nm → Rat) (c : Cl → Rat) : Prop where
  bal : ∀ n ∈ ns, s n * (w n - x n) = dv es c n
  law : ∀ e ∈ es, eLaw e (c e) x
section
variable {ns : List Nm} {es : List Cl} {s w w' x y : Nm → Rat} {c c' : Cl → Rat}
/-- by higher wishes none turns slower -/
theorem equi_mono (hn : ns.Nodup) (he : ∀ e ∈ es, e.1 ∈ ns ∧ e.2.1 ∈ ns) (hs : ∀ n ∈ ns, 0 < s n) (h : Equi ns s es w x c) (h' : Equi ns s es w' y c') (hw : ∀ n ∈ ns, w n ≤ w' n) : ∀ n ∈ ns, x n ≤ y n := by
  intro m hm
  refine Rat.not_lt.mp fun hlt => ?_
  let p : Nm → Prop := fun n => y n < x n
  have h1 : sI ns p (dv es c) = cut es c p := sI_dv hn he
  have h2 : sI ns p (dv es c') = cut es c' p := sI_dv hn he
  have h3 : cut es c' p ≤ cut es c p := sm_le fun e hem => by
    obtain ⟨⟨l1, l2⟩, l3, l4⟩ := h.law e hem
    obtain ⟨⟨k1, k2⟩, k3, k4⟩ := h'.law e hem
    by_cases a1 : y e.1 < x e.1
    · by_cases a2 : y e.2.1 < x e.2.1
      · rw [if_pos (show p e.1 from a1), if_pos (show p e.2.1 from a2)]; grind
      · rw [if_pos (show p e.1 from a1), if_neg (show ¬ p e.2.1 from a2)]
        have : c' e ≤ c e := by
          by_cases a3 : x e.2.1 < x e.1
          · rw [l3 a3]; exact k2
          · have : y e.1 < y e.2.1 := by grind
            rw [k4 this]; exact l1
        grind
    · by_cases a2 : y e.2.1 < x e.2.1
      · rw [if_neg (show ¬ p e.1 from a1), if_pos (show p e.2.1 from a2)]
        have : c e ≤ c' e := by
          by_cases a3 : x e.1 < x e.2.1
          · rw [l4 a3]; exact k1
          · have : y e.2.1 < y e.1 := by grind
            rw [k3 this]; exact l2
        grind
      · rw [if_neg (show ¬ p e.1 from a1), if_neg (show ¬ p e.2.1 from a2)]; grind
  have h4 : sI ns p (fun n => s n * (w n - x n)) = sI ns p (dv es c) := sI_congrF fun n hn _ => h.bal n hn
  have h5 : sI ns p (fun n => s n * (w' n - y n)) = sI ns p (dv es c') := sI_congrF fun n hn _ => h'.bal n hn
  have h6 : sI ns p (fun n => s n * (w n - x n)) < sI ns p (fun n => s n * (w' n - y n)) := by
    refine sm_lt (fun n hn => ?_) hm ?_
    · by_cases k : p n
      · rw [if_pos k, if_pos k]
        refine Rat.mul_le_mul_of_nonneg_left ?_ (Rat.le_of_lt (hs n hn))
        have := hw n hn
        have : y n < x n := k
        grind
      · rw [if_neg k, if_neg k]; exact Rat.le_refl
    · rw [if_pos (show p m from hlt), if_pos (show p m from hlt)]
      refine Rat.mul_lt_mul_of_pos_left ?_ (hs m hm)
      have := hw m hm
      grind
  rw [h4, h5, h1, h2] at h6
  grind
theorem equi_unique (hn : ns.Nodup) (he : ∀ e ∈ es, e.1 ∈ ns ∧ e.2.1 ∈ ns) (hs : ∀ n ∈ ns, 0 < s n) (h : Equi ns s es w x c) (h' : Equi ns s es w y c') : ∀ n ∈ ns, x n = y n := fun n hm => by
  have h1 := equi_mono hn he hs h h' (fun _ _ => Rat.le_refl) n hm
  have h2 := equi_mono hn he hs h' h (fun _ _ => Rat.le_refl) n hm
  grind
theorem equi_flow (hn : ns.Nodup) (hb : Br es) (he : ∀ e ∈ es, e.1 ∈ ns ∧ e.2.1 ∈ ns) (h : Equi ns s es w x c) : ∀ e ∈ es, c e = sI ns (Conn (es.filter (notC e)) e.1) fun n => s n * (w n - x n) := fun e hem => by
  rw [← cut_bridge (c := c) hb hem, ← sI_dv hn he]
  exact sI_congrF fun n hn _ => (h.bal n hn).symm
theorem equi_uniqueC (hn : ns.Nodup) (hb : Br es) (he : ∀ e ∈ es, e.1 ∈ ns ∧ e.2.1 ∈ ns) (hs : ∀ n ∈ ns, 0 < s n) (h : Equi ns s es w x c) (h' : Equi ns s es w y c') : ∀ e ∈ es, c e = c' e := fun e hem => by
  rw [equi_flow hn hb he h e hem, equi_flow hn hb he h' e hem]
  refine sI_congrF fun n hm _ => ?_
  rw [equi_unique hn he hs h h' n hm]
end
end DL
namespace DL
open PySem PySem.Spec PyProof.Rows L2
/-! ### a run is an equilibrium, an equilibrium is a run -/
def wayOf (cl : List Cl) (σ : List Int) (e : Cl) : Int := (((cl.zip σ).find? fun p => decide (p.1 = e)).map (·.2)).getD 0
theorem zip_way : ∀ {cl : List Cl} {σ : List Int}, cl.Nodup → σ.length = cl.length → cl.zip σ = cl.map fun e => (e, wayOf cl σ e)
  | [], _, _, _ => by simp
  | e :: cl, [], _, h => by simp at h
  | e :: cl, y :: σ, hn, h => by
    rw [List.nodup_cons] at hn
    have ih := zip_way hn.2 (by simpa using h)
    rw [List.zip_cons_cons, List.map_cons]
    congr 1
    · simp [wayOf]
    · rw [ih]
      refine List.map_congr_left fun d hd => ?_
      have : ¬ e = d := fun z => hn.1 (z ▸ hd)
      simp [wayOf, this]
theorem way_map {cl : List Cl} (hn : cl.Nodup) (f : Cl → Int) : ∀ e ∈ cl, wayOf cl (cl.map f) e = f e := fun e he => by
  have h := zip_way (σ := cl.map f) hn (by simp)
  have h2 : cl.zip (cl.map f) = cl.map fun e => (e, f e) := by
    clear h hn he
    induction cl with
    | nil => rfl
    | cons d cl ih => simp [ih]
  rw [h2] at h
  have := (List.map_inj_left.mp h) e he
  exact (congrArg Prod.snd this).symm
def sR (t : Tr) (n : Nm) : Rat := (stOf t n : Rat)
def cR (t : Tr) (σ : List Int) (w : Nm → Rat) (e : Cl) : Rat := carOf t σ w (e, wayOf t.cl σ e)
section
variable {t : Tr} {σ : List Int} {w x : Nm → Rat} {c : Cl → Rat}
theorem way_ok (hn : t.cl.Nodup) (hl : σ.length = t.cl.length) (hs : StOk σ) {e : Cl} (he : e ∈ t.cl) : wayOf t.cl σ e = 0 ∨ wayOf t.cl σ e = 1 ∨ wayOf t.cl σ e = -1 := by
  refine hs _ ?_
  have h := zip_way hn hl
  have : (e, wayOf t.cl σ e) ∈ t.cl.zip σ := by rw [h]; exact List.mem_map.mpr ⟨e, he, rfl⟩
  exact (List.of_mem_zip this).2
theorem held_eq (hn : t.cl.Nodup) (hl : σ.length = t.cl.length) : heldOf t σ = t.cl.filter fun e => decide (wayOf t.cl σ e = 0) := by
  unfold heldOf
  rw [zip_way hn hl, List.filter_map, List.map_map]
  simp [Function.comp_def]
theorem cars_eq (hn : t.cl.Nodup) (hl : σ.length = t.cl.length) : carsOf t σ w = t.cl.map (cR t σ w) := by
  unfold carsOf
  rw [zip_way hn hl, List.map_map]
  rfl
theorem came_eq (hb : Br t.cl) (hl : σ.length = t.cl.length) (n : Nm) : ((cameOf t σ n : Int) : Rat) = - sm t.cl fun e => (((wayOf t.cl σ e * e.2.2 : Int)) : Rat) * (ind e.1 n - ind e.2.1 n) := by
  unfold cameOf
  rw [zip_way hb.nodup hl]
  have hne : ∀ e ∈ t.cl, e.1 ≠ e.2.1 := fun e he z => hb.filter he (by rw [z]; exact .refl _)
  generalize wayOf t.cl σ = wy at *
  generalize t.cl = l at *
  clear hb hl
  have aux : ∀ (l : List Cl) (f : Nm → Int), (∀ e ∈ l, e.1 ≠ e.2.1) → ((((l.map fun e => (e, wy e)).foldl drawStep f n : Int)) : Rat) = (f n : Rat) - sm l fun e => (((wy e * e.2.2 : Int)) : Rat) * (ind e.1 n - ind e.2.1 n) := by
    intro l
    induction l with
    | nil => intro f _; simp; grind
    | cons e l ih =>
      intro f h
      rw [List.map_cons, List.foldl_cons, ih _ fun d hd => h d (List.mem_cons_of_mem _ hd), sm_cons]
      have hne := h e (List.mem_cons_self ..)
      have : ((drawStep f (e, wy e) n : Int) : Rat) = (f n : Rat) - (((wy e * e.2.2 : Int)) : Rat) * (ind e.1 n - ind e.2.1 n) := by
        unfold drawStep upF ind
        dsimp only
        generalize wy e * e.2.2 = z
        by_cases h1 : n = e.2.1
        · have h2 : n ≠ e.1 := fun q => hne (q.symm.trans h1)
          subst h1
          rw [if_pos rfl, if_neg h2, if_pos rfl, Rat.intCast_add]
          grind
        · rw [if_neg h1, if_neg h1]
          by_cases h2 : n = e.1
          · subst h2
            rw [if_pos rfl, if_pos rfl, Rat.intCast_sub]
            grind
          · rw [if_neg h2, if_neg h2]
            grind
      rw [this]
      grind
  have := aux l (fun _ => 0) hne
  rw [this]
  simp
  grind
theorem tot_sI (ok : TrOk t) {es : List Cl} (he : ∀ e ∈ es, e.1 ∈ nmsOf t ∧ e.2.1 ∈ nmsOf t) {a : Nm} (ha : a ∈ nmsOf t) (came : Nm → Int) : totOf t w came (sideOf es a) = sI (nmsOf t) (Conn es a) (item t w came) := by
  unfold totOf
  rw [foldl_sm, sI_list ok.nd (grown_side es a).1 (side_sub he ha) fun n _ => (side_conn es a n).symm]
  grind
theorem whole_sI (ok : TrOk t) {es : List Cl} (he : ∀ e ∈ es, e.1 ∈ nmsOf t ∧ e.2.1 ∈ nmsOf t) {a : Nm} (ha : a ∈ nmsOf t) : ((wholeOf t (sideOf es a) : Int) : Rat) = sI (nmsOf t) (Conn es a) (sR t) := by
  rw [sI_list ok.nd (grown_side es a).1 (side_sub he ha) fun n _ => (side_conn es a n).symm]
  unfold wholeOf
  have aux : ∀ (l : List Nm) (z : Int), ((l.foldl (fun a n => a + stOf t n) z : Int) : Rat) = (z : Rat) + sm l (sR t) := by
    intro l
    induction l with
    | nil => intro z; simp; grind
    | cons n l ih => intro z; rw [List.foldl_cons, ih, sm_cons, Rat.intCast_add]; unfold sR; grind
  rw [aux]
  simp
  grind
theorem s_pos (ok : TrOk t) {n : Nm} (hn : n ∈ nmsOf t) : 0 < sR t n := by
  have := st_bd ok hn
  unfold sR
  have : ((0 : Int) : Rat) < (stOf t n : Rat) := by
    rw [Rat.intCast_lt_intCast]
    omega
  simpa using this
theorem whole_pos (ok : TrOk t) {es : List Cl} (he : ∀ e ∈ es, e.1 ∈ nmsOf t ∧ e.2.1 ∈ nmsOf t) {a : Nm} (ha : a ∈ nmsOf t) : 0 < sI (nmsOf t) (Conn es a) (sR t) := by
  rw [← whole_sI ok he ha]
  have := (whole_side ok he ha).1
  have : ((0 : Int) : Rat) < (wholeOf t (sideOf es a) : Rat) := by
    rw [Rat.intCast_lt_intCast]
    exact this
  simpa using this
theorem turn_mul (ok : TrOk t) {a : Nm} (ha : a ∈ nmsOf t) : turnOf t σ w a * sI (nmsOf t) (Conn (heldOf t σ) a) (sR t) = sI (nmsOf t) (Conn (heldOf t σ) a) (item t w (cameOf t σ)) := by
  have hp := whole_pos ok (held_ends (σ := σ) ok) ha
  unfold turnOf
  rw [tot_sI ok (held_ends ok) ha, whole_sI ok (held_ends ok) ha]
  have := Rat.mul_inv_cancel _ (Rat.ne_of_gt hp)
  rw [Rat.div_def]
  grind
theorem turn_same (ok : TrOk t) {a b : Nm} (ha : a ∈ nmsOf t) (hb : b ∈ nmsOf t) (h : Conn (heldOf t σ) a b) : turnOf t σ w a = turnOf t σ w b := by
  have h1 := turn_mul (w := w) (σ := σ) ok ha
  have h2 := turn_mul (w := w) (σ := σ) ok hb
  have e : ∀ f, sI (nmsOf t) (Conn (heldOf t σ) a) f = sI (nmsOf t) (Conn (heldOf t σ) b) f := fun f => sI_congr fun n _ => ⟨fun k => h.symm.trans k, fun k => h.trans k⟩
  rw [e, e, ← h2] at h1
  have hp := whole_pos ok (held_ends (σ := σ) ok) hb
  generalize sI (nmsOf t) (Conn (heldOf t σ) b) (sR t) = S at *
  have : (turnOf t σ w a - turnOf t σ w b) * S = 0 := by grind
  rcases Rat.mul_eq_zero.mp this with h | h
  · grind
  · grind
/-- what a node has over, came counted -/
theorem run_over (ok : TrOk t) {a : Nm} (ha : a ∈ nmsOf t) : sI (nmsOf t) (Conn (heldOf t σ) a) (item t (fun n => w n - turnOf t σ w n) (cameOf t σ)) = 0 := by
  have h1 := turn_mul (w := w) (σ := σ) ok ha
  rw [Rat.mul_comm, Rat.mul_comm, ← sI_mul] at h1
  have h2 : sI (nmsOf t) (Conn (heldOf t σ) a) (item t (fun n => w n - turnOf t σ w n) (cameOf t σ)) = sI (nmsOf t) (Conn (heldOf t σ) a) (fun n => item t w (cameOf t σ) n - turnOf t σ w a * sR t n) := sI_congrF fun n hn k => by
    rw [turn_same ok ha hn k]
    unfold item sR
    grind
  rw [h2, sI_sub, h1]
  grind
theorem car_held (ok : TrOk t) {e : Cl} (he : e ∈ t.cl) (h0 : wayOf t.cl σ e = 0) : cR t σ w e = sI (nmsOf t) (Conn ((heldOf t σ).filter (notC e)) e.1) (item t (fun n => w n - turnOf t σ w n) (cameOf t σ)) := by
  unfold cR carOf
  rw [if_pos h0]
  exact tot_sI ok (fun d hd => held_ends ok d (List.mem_filter.mp hd).1) (ok.ends e he).1 _
theorem car_slip {e : Cl} (h0 : wayOf t.cl σ e ≠ 0) : cR t σ w e = ((wayOf t.cl σ e * e.2.2 : Int) : Rat) := by
  unfold cR carOf
  rw [if_neg h0]
theorem zip_zip {γ : Type} (l : List Cl) (f : Cl → Int) (g : Cl → γ) : l.zip ((l.map f).zip (l.map g)) = l.map fun e => (e, f e, g e) := by
  induction l with
  | nil => rfl
  | cons d cl ih => simp [ih]
theorem feas_iff (hn : t.cl.Nodup) (hl : σ.length = t.cl.length) : feas t w σ = true ↔ ∀ e ∈ t.cl, (wayOf t.cl σ e = 0 → -(e.2.2 : Rat) ≤ cR t σ w e ∧ cR t σ w e ≤ (e.2.2 : Rat)) ∧ (wayOf t.cl σ e ≠ 0 → 0 ≤ (wayOf t.cl σ e : Rat) * (turnOf t σ w e.1 - turnOf t σ w e.2.1)) := by
  have hz : t.cl.zip (σ.zip (carsOf t σ w)) = t.cl.map fun e => (e, wayOf t.cl σ e, cR t σ w e) := by
    have h1 := zip_way hn hl
    rw [cars_eq hn hl]
    have h2 : σ = t.cl.map (wayOf t.cl σ) := by
      have := congrArg (List.map Prod.snd) h1
      rw [List.map_snd_zip (by omega), List.map_map] at this
      exact this
    exact (congrArg (fun s => t.cl.zip (s.zip (t.cl.map (cR t σ w)))) h2).trans (zip_zip _ _ _)
  unfold feas slackOf
  rw [hz]
  simp only [Bool.not_eq_true', List.any_eq_false, List.mem_flatMap, List.mem_map, decide_eq_true_eq, Rat.not_lt]
  constructor
  · intro h e he
    have := fun q hq => h q ⟨_, ⟨e, he, rfl⟩, hq⟩
    refine ⟨fun h0 => ?_, fun h0 => ?_⟩
    · simp [slackRow, h0] at this
      grind
    · simpa [slackRow, h0] using this
  · rintro h q ⟨_, ⟨e, he, rfl⟩, hq⟩
    obtain ⟨h1, h2⟩ := h e he
    by_cases h0 : wayOf t.cl σ e = 0
    · have := h1 h0
      simp [slackRow, h0] at hq
      rcases hq with rfl | rfl <;> grind
    · have := h2 h0
      simp [slackRow, h0] at hq
      subst hq
      exact this
theorem run_equi (ok : TrOk t) (hb : Br t.cl) (hs : StOk σ) (hl : σ.length = t.cl.length) (hf : feas t w σ = true) : Equi (nmsOf t) (sR t) t.cl w (turnOf t σ w) (cR t σ w) := by
  have nd := hb.nodup
  have hf := (feas_iff nd hl).mp hf
  have hh := held_eq nd hl
  have hbh : Br (heldOf t σ) := by rw [hh]; exact hb.sub List.filter_sublist
  obtain ⟨c, hc⟩ := flow_ex ok.nd hbh (held_ends ok) _ fun a ha => run_over (w := w) (σ := σ) ok ha
  have hcr : ∀ e ∈ heldOf t σ, c e = cR t σ w e := fun e he => by
    have hm : e ∈ t.cl ∧ wayOf t.cl σ e = 0 := by
      rw [hh] at he
      simpa using List.mem_filter.mp he
    rw [car_held ok hm.1 hm.2, ← cut_bridge (c := c) hbh he, ← sI_dv ok.nd (held_ends ok)]
    exact sI_congrF fun n hn _ => (hc n hn).symm
  refine ⟨fun n hn => ?_, fun e he => ?_⟩
  · have h1 := hc n hn
    have h2 : dv (heldOf t σ) c n = sm t.cl fun e => if wayOf t.cl σ e = 0 then cR t σ w e * (ind e.1 n - ind e.2.1 n) else 0 := by
      unfold dv
      rw [sm_congr fun e he => by rw [hcr e he], hh, sm_filter]
      simp
    have h3 := came_eq hb hl n
    have h4 : dv t.cl (cR t σ w) n = (sm t.cl fun e => if wayOf t.cl σ e = 0 then cR t σ w e * (ind e.1 n - ind e.2.1 n) else 0) + sm t.cl fun e => (((wayOf t.cl σ e * e.2.2 : Int)) : Rat) * (ind e.1 n - ind e.2.1 n) := by
      unfold dv
      rw [← sm_add]
      refine sm_congr fun e he => ?_
      by_cases h0 : wayOf t.cl σ e = 0
      · simp [h0]
        grind
      · rw [if_neg h0, car_slip h0]
        grind
    rw [h4, ← h2, ← h1]
    unfold item
    rw [h3]
    unfold sR
    grind
  · obtain ⟨h1, h2⟩ := hf e he
    have hd : (0 : Rat) ≤ (e.2.2 : Rat) := by
      have := (ok.dr e he).1
      have h : ((0 : Int) : Rat) ≤ (e.2.2 : Rat) := by rw [Rat.intCast_le_intCast]; exact this
      simpa using h
    by_cases h0 : wayOf t.cl σ e = 0
    · have hx : turnOf t σ w e.1 = turnOf t σ w e.2.1 := turn_same ok (ok.ends e he).1 (ok.ends e he).2 (.edge (by rw [hh]; exact List.mem_filter.mpr ⟨he, by simpa using h0⟩))
      refine ⟨h1 h0, fun k => ?_, fun k => ?_⟩ <;> (rw [hx] at k; exact absurd k (Rat.lt_irrefl))
    · have h2 := h2 h0
      rw [car_slip h0]
      rcases way_ok nd hl hs he with e0 | e1 | e1
      · exact (h0 e0).elim
      · rw [e1] at h2 ⊢
        simp at h2 ⊢
        refine ⟨⟨by grind, by grind⟩, fun _ => rfl, fun k => ?_⟩
        grind
      · rw [e1] at h2 ⊢
        simp at h2 ⊢
        refine ⟨⟨by grind, by grind⟩, fun k => ?_, fun _ => rfl⟩
        grind
end
end DL
namespace DL
open PySem PySem.Spec PyProof.Rows L2
def wy (x : Nm → Rat) (e : Cl) : Int := if x e.1 = x e.2.1 then 0 else if x e.2.1 < x e.1 then 1 else -1
section
variable {t : Tr} {w x : Nm → Rat} {c : Cl → Rat}
theorem wy_ok (x : Nm → Rat) (l : List Cl) : StOk (l.map (wy x)) := fun y hy => by
  obtain ⟨e, _, rfl⟩ := List.mem_map.mp hy
  unfold wy
  split
  · exact .inl rfl
  · split
    · exact .inr (.inl rfl)
    · exact .inr (.inr rfl)
theorem wy_zero {e : Cl} : wy x e = 0 ↔ x e.1 = x e.2.1 := by
  unfold wy
  by_cases h : x e.1 = x e.2.1
  · simp [h]
  · by_cases h2 : x e.2.1 < x e.1 <;> simp [h, h2]
theorem equi_run (ok : TrOk t) (hb : Br t.cl) (h : Equi (nmsOf t) (sR t) t.cl w x c) :
    feas t w (t.cl.map (wy x)) = true ∧ (∀ n ∈ nmsOf t, turnOf t (t.cl.map (wy x)) w n = x n) ∧ ∀ e ∈ t.cl, cR t (t.cl.map (wy x)) w e = c e := by
  have nd := hb.nodup
  have hl : (t.cl.map (wy x)).length = t.cl.length := by simp
  have hw := way_map nd (wy x)
  generalize hσ : t.cl.map (wy x) = σ at *
  have hh := held_eq (t := t) nd hl
  have hbh : Br (heldOf t σ) := by rw [hh]; exact hb.sub List.filter_sublist
  have hheld : ∀ e, e ∈ heldOf t σ ↔ e ∈ t.cl ∧ x e.1 = x e.2.1 := fun e => by
    rw [hh, List.mem_filter]
    constructor
    · rintro ⟨h1, h2⟩
      refine ⟨h1, wy_zero.mp ?_⟩
      rw [← hw e h1]
      simpa using h2
    · rintro ⟨h1, h2⟩
      refine ⟨h1, ?_⟩
      rw [hw e h1]
      simpa using wy_zero.mpr h2
  have hsame : ∀ {a b : Nm}, Conn (heldOf t σ) a b → x a = x b := fun k => by
    induction k with
    | refl => rfl
    | fwd _ m ih => rw [ih, ((hheld _).mp m).2]
    | bwd _ m ih => rw [ih, ((hheld _).mp m).2]
  have hslip : ∀ e ∈ t.cl, wy x e ≠ 0 → c e = ((wy x e * e.2.2 : Int) : Rat) := fun e he h0 => by
    have hne : x e.1 ≠ x e.2.1 := fun z => h0 (wy_zero.mpr z)
    obtain ⟨_, l1, l2⟩ := h.law e he
    unfold wy
    rw [if_neg hne]
    by_cases hlt : x e.2.1 < x e.1
    · rw [if_pos hlt, l1 hlt]; simp
    · rw [if_neg hlt, l2 (by grind)]; simp
  -- what a node has over
  have hover : ∀ n ∈ nmsOf t, item t (fun n => w n - x n) (cameOf t σ) n = dv (heldOf t σ) c n := fun n hn => by
    have h1 := h.bal n hn
    have h2 := came_eq hb hl n
    have h3 : dv (heldOf t σ) c n = sm t.cl fun e => if wy x e = 0 then c e * (ind e.1 n - ind e.2.1 n) else 0 := by
      unfold dv
      rw [hh, sm_filter]
      refine sm_congr fun e he => ?_
      rw [hw e he]
      by_cases h0 : wy x e = 0 <;> simp [h0]
    have h4 : dv t.cl c n = (sm t.cl fun e => if wy x e = 0 then c e * (ind e.1 n - ind e.2.1 n) else 0) + sm t.cl fun e => (((wayOf t.cl σ e * e.2.2 : Int)) : Rat) * (ind e.1 n - ind e.2.1 n) := by
      unfold dv
      rw [← sm_add]
      refine sm_congr fun e he => ?_
      rw [hw e he]
      by_cases h0 : wy x e = 0
      · simp [h0]
        grind
      · rw [if_neg h0, hslip e he h0]
        grind
    unfold item
    rw [h2, h3]
    rw [h4] at h1
    unfold sR at h1
    grind
  have hturn : ∀ a ∈ nmsOf t, turnOf t σ w a = x a := fun a ha => by
    have h1 := turn_mul (w := w) (σ := σ) ok ha
    have hz : sI (nmsOf t) (Conn (heldOf t σ) a) (item t (fun n => w n - x n) (cameOf t σ)) = 0 := by
      rw [sI_congrF fun n hn _ => hover n hn, sI_dv ok.nd (held_ends ok)]
      exact cut_zero fun e he => Conn.same he
    have h2 : sI (nmsOf t) (Conn (heldOf t σ) a) (item t (fun n => w n - x n) (cameOf t σ)) = sI (nmsOf t) (Conn (heldOf t σ) a) (item t w (cameOf t σ)) - x a * sI (nmsOf t) (Conn (heldOf t σ) a) (sR t) := by
      rw [← sI_mul, ← sI_sub]
      refine sI_congrF fun n hn k => ?_
      rw [hsame k]
      unfold item sR
      grind
    rw [hz, ← h1] at h2
    have hp := whole_pos ok (held_ends (σ := σ) ok) ha
    generalize sI (nmsOf t) (Conn (heldOf t σ) a) (sR t) = S at *
    have : (turnOf t σ w a - x a) * S = 0 := by grind
    rcases Rat.mul_eq_zero.mp this with k | k
    · grind
    · grind
  have hcar : ∀ e ∈ t.cl, cR t σ w e = c e := fun e he => by
    by_cases h0 : wy x e = 0
    · have h0' : wayOf t.cl σ e = 0 := by rw [hw e he, h0]
      have hm : e ∈ heldOf t σ := (hheld e).mpr ⟨he, wy_zero.mp h0⟩
      rw [car_held ok he h0', ← cut_bridge (c := c) hbh hm, ← sI_dv ok.nd (held_ends ok)]
      refine sI_congrF fun n hn _ => ?_
      rw [← hover n hn]
      unfold item
      dsimp only
      rw [hturn n hn]
    · have h0' : wayOf t.cl σ e ≠ 0 := by rw [hw e he]; exact h0
      rw [car_slip h0', hw e he, hslip e he h0]
  refine ⟨(feas_iff nd hl).mpr fun e he => ⟨fun h0 => ?_, fun h0 => ?_⟩, hturn, hcar⟩
  · rw [hcar e he]
    exact (h.law e he).1
  · rw [hw e he] at h0 ⊢
    rw [hturn _ (ok.ends e he).1, hturn _ (ok.ends e he).2]
    have hne : x e.1 ≠ x e.2.1 := fun z => h0 (wy_zero.mpr z)
    unfold wy
    rw [if_neg hne]
    by_cases hlt : x e.2.1 < x e.1
    · rw [if_pos hlt]; simp; grind
    · rw [if_neg hlt]; simp; grind
end
/-! ### a root between -/
abbrev Af := Rat × Rat
def Af.ev (r : Af) (τ : Rat) : Rat := r.1 + τ * r.2
def Af.root (lo : Rat) (r : Af) : Rat := if r.2 = 0 then lo else -r.1 / r.2
theorem max_ex {p : Rat → Prop} : ∀ {l : List Rat}, (∃ a ∈ l, p a) → ∃ a ∈ l, p a ∧ ∀ b ∈ l, p b → b ≤ a
  | [], h => by obtain ⟨a, h, _⟩ := h; cases h
  | a :: l, h => by
    by_cases h1 : ∃ b ∈ l, p b
    · obtain ⟨b, hb, pb, mb⟩ := max_ex h1
      by_cases pa : p a
      · by_cases hab : b ≤ a
        · refine ⟨a, List.mem_cons_self .., pa, fun d hd pd => ?_⟩
          rcases List.mem_cons.mp hd with rfl | hd
          · exact Rat.le_refl
          · exact Rat.le_trans (mb d hd pd) hab
        · refine ⟨b, List.mem_cons_of_mem _ hb, pb, fun d hd pd => ?_⟩
          rcases List.mem_cons.mp hd with rfl | hd
          · grind
          · exact mb d hd pd
      · refine ⟨b, List.mem_cons_of_mem _ hb, pb, fun d hd pd => ?_⟩
        rcases List.mem_cons.mp hd with rfl | hd
        · exact (pa pd).elim
        · exact mb d hd pd
    · obtain ⟨b, hb, pb⟩ := h
      rcases List.mem_cons.mp hb with rfl | hb
      · refine ⟨b, List.mem_cons_self .., pb, fun d hd pd => ?_⟩
        rcases List.mem_cons.mp hd with rfl | hd
        · exact Rat.le_refl
        · exact (h1 ⟨d, hd, pd⟩).elim
      · exact (h1 ⟨b, hb, pb⟩).elim
theorem min_ex {p : Rat → Prop} {l : List Rat} (h : ∃ a ∈ l, p a) : ∃ a ∈ l, p a ∧ ∀ b ∈ l, p b → a ≤ b := by
  obtain ⟨a, ha, pa⟩ := h
  obtain ⟨b, hb, pb, mb⟩ := max_ex (p := fun y => p (-y)) (l := l.map fun y => -y) ⟨-a, List.mem_map.mpr ⟨a, ha, rfl⟩, by simpa using pa⟩
  obtain ⟨d, hd, rfl⟩ := List.mem_map.mp hb
  refine ⟨d, hd, by simpa using pb, fun z hz pz => ?_⟩
  have := mb (-z) (List.mem_map.mpr ⟨z, hz, rfl⟩) (by simpa using pz)
  grind
theorem root_at {r : Af} {lo : Rat} (h : r.2 ≠ 0) : r.ev (r.root lo) = 0 := by
  unfold Af.ev Af.root
  rw [if_neg h]
  have := Rat.div_mul_cancel (a := -r.1) h
  rw [this]
  grind
/-- an affine function whose root is not between keeps its sign on the stretch -/
theorem keep_sign {r : Af} {lo t1 t2 m : Rat} (h1 : t1 < m) (h2 : m < t2) (hr : ¬ (t1 < r.root lo ∧ r.root lo < t2)) (hm : 0 ≤ r.ev m) : 0 ≤ r.ev t1 ∧ 0 ≤ r.ev t2 := by
  by_cases h0 : r.2 = 0
  · unfold Af.ev at *
    rw [h0] at hm ⊢
    grind
  · have hz := root_at (lo := lo) h0
    generalize r.root lo = ρ at *
    unfold Af.ev at *
    obtain ⟨a, b⟩ := r
    dsimp only at *
    have ea : a = -(ρ * b) := by grind
    subst ea
    have e : ∀ y : Rat, -(ρ * b) + y * b = (y - ρ) * b := fun y => by grind
    rw [e] at hm ⊢
    rw [e]
    by_cases hb : 0 < b
    · have : ρ ≤ m := by
        refine Rat.not_lt.mp fun hlt => ?_
        have := Rat.mul_lt_mul_of_pos_right (a := m - ρ) (b := 0) (by grind) hb
        grind
      have : ρ ≤ t1 := by grind
      exact ⟨Rat.mul_nonneg (by grind) (Rat.le_of_lt hb), Rat.mul_nonneg (by grind) (Rat.le_of_lt hb)⟩
    · have hb' : 0 < -b := by grind
      have : m ≤ ρ := by
        refine Rat.not_lt.mp fun hlt => ?_
        have := Rat.mul_lt_mul_of_pos_right (a := 0) (b := m - ρ) (by grind) hb'
        grind
      have : t2 ≤ ρ := by grind
      have k1 := Rat.mul_nonneg (a := ρ - t1) (b := -b) (by grind) (Rat.le_of_lt hb')
      have k2 := Rat.mul_nonneg (a := ρ - t2) (b := -b) (by grind) (Rat.le_of_lt hb')
      grind
theorem root_ex {ι : Type} (J : List ι) (rows : ι → List Af) (g : ι → Af) {lo hi : Rat} (hlh : lo ≤ hi)
    (cover : ∀ τ, ∃ j ∈ J, ∀ r ∈ rows j, 0 ≤ r.ev τ) (same : ∀ τ, ∀ j ∈ J, ∀ k ∈ J, (∀ r ∈ rows j, 0 ≤ r.ev τ) → (∀ r ∈ rows k, 0 ≤ r.ev τ) → (g j).ev τ = (g k).ev τ)
    (hlo : ∀ j ∈ J, (∀ r ∈ rows j, 0 ≤ r.ev lo) → 0 < (g j).ev lo) (hhi : ∀ j ∈ J, (∀ r ∈ rows j, 0 ≤ r.ev hi) → (g j).ev hi < 0) :
    ∃ τ, lo ≤ τ ∧ τ ≤ hi ∧ ∃ j ∈ J, (∀ r ∈ rows j, 0 ≤ r.ev τ) ∧ (g j).ev τ = 0 := by
  by_cases hno : ∃ τ, lo ≤ τ ∧ τ ≤ hi ∧ ∃ j ∈ J, (∀ r ∈ rows j, 0 ≤ r.ev τ) ∧ (g j).ev τ = 0
  · exact hno
  · exfalso
    let T : List Rat := lo :: hi :: J.flatMap fun j => (g j :: rows j).map (Af.root lo)
    have inT : ∀ j ∈ J, ∀ r ∈ g j :: rows j, r.root lo ∈ T := fun j hj r hr => List.mem_cons_of_mem _ (List.mem_cons_of_mem _ (List.mem_flatMap.mpr ⟨j, hj, List.mem_map.mpr ⟨r, hr, rfl⟩⟩))
    let p : Rat → Prop := fun τ => lo ≤ τ ∧ τ ≤ hi ∧ ∃ j ∈ J, (∀ r ∈ rows j, 0 ≤ r.ev τ) ∧ 0 < (g j).ev τ
    obtain ⟨t1, m1, ⟨l1, u1, j1, hj1, f1, g1⟩, x1⟩ := max_ex (p := p) (l := T) ⟨lo, List.mem_cons_self .., Rat.le_refl, hlh, by
      obtain ⟨j, hj, f⟩ := cover lo
      exact ⟨j, hj, f, hlo j hj f⟩⟩
    have lt1 : t1 < hi := by
      refine Rat.not_le.mp fun h => ?_
      have e : t1 = hi := by grind
      rw [e] at f1 g1
      have := hhi j1 hj1 f1
      grind
    obtain ⟨t2, m2, ⟨l2, u2⟩, x2⟩ := min_ex (p := fun τ => t1 < τ ∧ τ ≤ hi) (l := T) ⟨hi, List.mem_cons_of_mem _ (List.mem_cons_self ..), lt1, Rat.le_refl⟩
    have nr : ∀ ρ ∈ T, ¬ (t1 < ρ ∧ ρ < t2) := fun ρ hρ h => by
      have := x2 ρ hρ ⟨h.1, by grind⟩
      grind
    obtain ⟨j, hj, f⟩ := cover ((t1 + t2) / 2)
    have b1 : t1 < (t1 + t2) / 2 := by grind
    have b2 : (t1 + t2) / 2 < t2 := by grind
    have k := fun r hr => keep_sign b1 b2 (nr _ (inT j hj r (List.mem_cons_of_mem _ hr))) (f r hr)
    have gt1 : 0 < (g j).ev t1 := by rw [same t1 j hj j1 hj1 (fun r hr => (k r hr).1) f1]; exact g1
    by_cases gt2 : 0 < (g j).ev t2
    · have := x1 t2 m2 ⟨by grind, u2, j, hj, fun r hr => (k r hr).2, gt2⟩
      grind
    · by_cases gz : (g j).ev t2 = 0
      · exact hno ⟨t2, by grind, u2, j, hj, fun r hr => (k r hr).2, gz⟩
      · have h0 : (g j).2 ≠ 0 := fun z => by
          unfold Af.ev at *
          rw [z] at gt1 gt2
          grind
        have hz := root_at (lo := lo) h0
        refine nr _ (inT j hj (g j) (List.mem_cons_self ..)) ?_
        generalize (g j).root lo = ρ at *
        unfold Af.ev at *
        generalize (g j).1 = a at *
        generalize (g j).2 = b at *
        have ea : a = -(ρ * b) := by grind
        subst ea
        have e : ∀ y : Rat, -(ρ * b) + y * b = (y - ρ) * b := fun y => by grind
        rw [e] at gt1 gt2 gz
        have hb : b < 0 := by
          refine Rat.not_le.mp fun hb => ?_
          have hb' : 0 < b := by grind
          have := Rat.mul_le_mul_of_nonneg_right (a := t1 - ρ) (b := t2 - ρ) (c := b) (by grind) hb
          grind
        have hb' : 0 < -b := by grind
        refine ⟨Rat.not_le.mp fun h => ?_, Rat.not_le.mp fun h => ?_⟩
        · have := Rat.mul_nonneg (a := t1 - ρ) (b := -b) (by grind) (Rat.le_of_lt hb')
          grind
        · have := Rat.mul_nonneg (a := ρ - t2) (b := -b) (by grind) (Rat.le_of_lt hb')
          grind
end DL
namespace DL
open PySem PySem.Spec PyProof.Rows L2
/-! ### there is an equilibrium -/
def turnB (t : Tr) (σ : List Int) (k : Nm → Rat) (n : Nm) : Rat := (1 / (wholeOf t (sideOf (heldOf t σ) n) : Rat)) * sm (sideOf (heldOf t σ) n) fun m => sR t m * k m
def carB (t : Tr) (σ : List Int) (k : Nm → Rat) (e : Cl) : Rat := if wayOf t.cl σ e = 0 then sm (sideOf ((heldOf t σ).filter (notC e)) e.1) (fun m => sR t m * (k m - turnB t σ k m)) else 0
section
variable {t : Tr} {σ : List Int} {w k : Nm → Rat} {τ : Rat}
theorem tot_aff (came : Nm → Int) (l : List Nm) : totOf t (fun n => w n + τ * k n) came l = totOf t w came l + τ * sm l fun m => sR t m * k m := by
  unfold totOf
  rw [foldl_sm, foldl_sm, ← sm_mul, Rat.add_assoc, ← sm_add]
  congr 1
  refine sm_congr fun n _ => ?_
  unfold item sR
  grind
theorem turn_aff (n : Nm) : turnOf t σ (fun n => w n + τ * k n) n = turnOf t σ w n + τ * turnB t σ k n := by
  unfold turnOf turnB
  rw [tot_aff]
  grind
theorem car_aff (e : Cl) : cR t σ (fun n => w n + τ * k n) e = cR t σ w e + τ * carB t σ k e := by
  unfold cR carOf carB
  by_cases h : wayOf t.cl σ e = 0
  · rw [if_pos h, if_pos h, if_pos h]
    dsimp only
    have : (fun n => w n + τ * k n - turnOf t σ (fun n => w n + τ * k n) n) = fun n => (w n - turnOf t σ w n) + τ * (k n - turnB t σ k n) := by
      funext n
      rw [turn_aff]
      grind
    rw [this, tot_aff]
  · rw [if_neg h, if_neg h, if_neg h]
    grind
def rowsA (t : Tr) (w k : Nm → Rat) (σ : List Int) : List Af := t.cl.flatMap fun e => if wayOf t.cl σ e = 0 then [((e.2.2 : Rat) - cR t σ w e, -carB t σ k e), ((e.2.2 : Rat) + cR t σ w e, carB t σ k e)]
  else [((wayOf t.cl σ e : Rat) * (turnOf t σ w e.1 - turnOf t σ w e.2.1), (wayOf t.cl σ e : Rat) * (turnB t σ k e.1 - turnB t σ k e.2.1))]
theorem rows_feas (hn : t.cl.Nodup) (hl : σ.length = t.cl.length) : (∀ r ∈ rowsA t w k σ, 0 ≤ r.ev τ) ↔ feas t (fun n => w n + τ * k n) σ = true := by
  rw [feas_iff hn hl]
  unfold rowsA
  simp only [List.mem_flatMap]
  constructor
  · intro h e he
    have := fun r hr => h r ⟨e, he, hr⟩
    rw [car_aff, turn_aff, turn_aff]
    refine ⟨fun h0 => ?_, fun h0 => ?_⟩
    · simp [h0, Af.ev] at this
      grind
    · simp [h0, Af.ev] at this
      grind
  · rintro h r ⟨e, he, hr⟩
    obtain ⟨h1, h2⟩ := h e he
    rw [car_aff] at h1
    rw [turn_aff, turn_aff] at h2
    by_cases h0 : wayOf t.cl σ e = 0
    · have := h1 h0
      simp [h0] at hr
      rcases hr with rfl | rfl
      · simp [Af.ev]; grind
      · simp [Af.ev]; grind
    · have := h2 h0
      simp [h0] at hr
      subst hr
      simp [Af.ev]
      grind
end
theorem TrOk.tail {sh : List Sh} {e : Cl} {es : List Cl} (ok : TrOk ⟨sh, e :: es⟩) : TrOk ⟨sh, es⟩ :=
  ⟨ok.nd, fun c hc => ok.ends c (List.mem_cons_of_mem _ hc), ok.l1, by have := ok.l2; simp at this ⊢; omega, ok.st, ok.wi, fun c hc => ok.dr c (List.mem_cons_of_mem _ hc)⟩
theorem equi_ex (sh : List Sh) : ∀ es : List Cl, TrOk ⟨sh, es⟩ → Br es → ∀ w : Nm → Rat, ∃ (x : Nm → Rat) (c : Cl → Rat), Equi (nmsOf ⟨sh, es⟩) (sR ⟨sh, es⟩) es w x c
  | [], _, _, w => ⟨w, fun _ => 0, ⟨fun n _ => by simp [dv]; grind, fun e he => by cases he⟩⟩
  | e :: es, ok, hb, w => by
    have ok1 := ok.tail
    have hb1 := hb.tail
    have ih := equi_ex sh es ok1 hb1
    let t1 : Tr := ⟨sh, es⟩
    have hu : e.1 ∈ nmsOf t1 := (ok.ends e (List.mem_cons_self ..)).1
    have hv : e.2.1 ∈ nmsOf t1 := (ok.ends e (List.mem_cons_self ..)).2
    have su := s_pos ok1 hu
    have sv := s_pos ok1 hv
    let k : Nm → Rat := fun n => ind e.2.1 n / sR t1 e.2.1 - ind e.1 n / sR t1 e.1
    have nd1 : es.Nodup := hb1.nodup
    have hd : (0 : Rat) ≤ (e.2.2 : Rat) := by
      have := (ok.dr e (List.mem_cons_self ..)).1
      have h : ((0 : Int) : Rat) ≤ (e.2.2 : Rat) := by rw [Rat.intCast_le_intCast]; exact this
      simpa using h
    have hnm : e ∉ es := fun m => hb.head (.edge m)
    -- what is wanted
    have fin : ∀ (τ : Rat) (x : Nm → Rat) (c : Cl → Rat), Equi (nmsOf t1) (sR t1) es (fun n => w n + τ * k n) x c → eLaw e τ x → ∃ (x : Nm → Rat) (c : Cl → Rat), Equi (nmsOf ⟨sh, e :: es⟩) (sR ⟨sh, e :: es⟩) (e :: es) w x c := by
      intro τ x c h hlaw
      refine ⟨x, fun d => if d = e then τ else c d, fun n hn => ?_, fun d hd => ?_⟩
      · have h1 := h.bal n hn
        have h2 : dv (e :: es) (fun d => if d = e then τ else c d) n = τ * (ind e.1 n - ind e.2.1 n) + dv es c n := by
          unfold dv
          rw [sm_cons]
          dsimp only
          rw [if_pos rfl]
          congr 1
          refine sm_congr fun d hd => ?_
          have : d ≠ e := fun z => hnm (z ▸ hd)
          rw [if_neg this]
        have h3 : sR t1 n * k n = ind e.2.1 n - ind e.1 n := by
          have hq : ∀ a : Nm, 0 < sR t1 a → sR t1 n * (ind a n / sR t1 a) = ind a n := fun a ha => by
            by_cases hna : n = a
            · subst hna
              have := Rat.div_mul_cancel (a := ind n n) (Rat.ne_of_gt ha)
              grind
            · simp [ind, hna]
              rw [Rat.div_def]
              grind
          show sR t1 n * (ind e.2.1 n / sR t1 e.2.1 - ind e.1 n / sR t1 e.1) = _
          have q1 := hq _ sv
          have q2 := hq _ su
          grind
        rw [h2]
        have h4 : sR t1 n * (w n + τ * k n - x n) = sR t1 n * (w n - x n) + τ * (sR t1 n * k n) := by grind
        rw [h4, h3] at h1
        have h5 : sR ⟨sh, e :: es⟩ n = sR t1 n := rfl
        rw [h5]
        grind
      · rcases List.mem_cons.mp hd with rfl | hd
        · rw [if_pos rfl]
          exact hlaw
        · have : d ≠ e := fun z => hnm (z ▸ hd)
          rw [if_neg this]
          exact h.law d hd
    -- states
    have hrun : ∀ τ, ∀ σ ∈ allSt es, (∀ r ∈ rowsA t1 w k σ, 0 ≤ r.ev τ) → Equi (nmsOf t1) (sR t1) es (fun n => w n + τ * k n) (turnOf t1 σ fun n => w n + τ * k n) (cR t1 σ fun n => w n + τ * k n) := fun τ σ hσ hr => by
      obtain ⟨hs, hl⟩ := allSt_mem hσ
      exact run_equi ok1 hb1 hs hl ((rows_feas (t := t1) nd1 hl).mp hr)
    have cover : ∀ τ, ∃ σ ∈ allSt es, ∀ r ∈ rowsA t1 w k σ, 0 ≤ r.ev τ := fun τ => by
      obtain ⟨x, c, h⟩ := ih fun n => w n + τ * k n
      obtain ⟨hf, _⟩ := equi_run (t := t1) ok1 hb1 h
      exact ⟨es.map (wy x), mem_allSt (wy_ok x es) (by simp), (rows_feas (t := t1) nd1 (List.length_map ..)).mpr hf⟩
    let g : List Int → Af := fun σ => (turnOf t1 σ w e.1 - turnOf t1 σ w e.2.1, turnB t1 σ k e.1 - turnB t1 σ k e.2.1)
    have gev : ∀ σ τ, (g σ).ev τ = turnOf t1 σ (fun n => w n + τ * k n) e.1 - turnOf t1 σ (fun n => w n + τ * k n) e.2.1 := fun σ τ => by
      rw [turn_aff, turn_aff]
      show _ + τ * _ = _
      grind
    have same : ∀ τ, ∀ j ∈ allSt es, ∀ j' ∈ allSt es, (∀ r ∈ rowsA t1 w k j, 0 ≤ r.ev τ) → (∀ r ∈ rowsA t1 w k j', 0 ≤ r.ev τ) → (g j).ev τ = (g j').ev τ := fun τ j hj j' hj' f f' => by
      have h1 := hrun τ j hj f
      have h2 := hrun τ j' hj' f'
      have un := equi_unique ok1.nd ok1.ends (fun n hn => s_pos ok1 hn) h1 h2
      rw [gev, gev, un _ hu, un _ hv]
    have close : ∀ τ, -(e.2.2 : Rat) ≤ τ → τ ≤ (e.2.2 : Rat) → ∀ σ ∈ allSt es, (∀ r ∈ rowsA t1 w k σ, 0 ≤ r.ev τ) → (0 < (g σ).ev τ → τ = (e.2.2 : Rat)) → ((g σ).ev τ < 0 → τ = -(e.2.2 : Rat)) → ∃ (x : Nm → Rat) (c : Cl → Rat), Equi (nmsOf ⟨sh, e :: es⟩) (sR ⟨sh, e :: es⟩) (e :: es) w x c := fun τ h1 h2 σ hσ hr h3 h4 => by
      rw [gev] at h3 h4
      exact fin τ _ _ (hrun τ σ hσ hr) ⟨⟨h1, h2⟩, fun k => h3 (by grind), fun k => h4 (by grind)⟩
    by_cases c1 : ∃ σ ∈ allSt es, (∀ r ∈ rowsA t1 w k σ, 0 ≤ r.ev (e.2.2 : Rat)) ∧ 0 ≤ (g σ).ev (e.2.2 : Rat)
    · obtain ⟨σ, hσ, hr, hg⟩ := c1
      exact close _ (by grind) Rat.le_refl σ hσ hr (fun _ => rfl) fun z => by grind
    · by_cases c2 : ∃ σ ∈ allSt es, (∀ r ∈ rowsA t1 w k σ, 0 ≤ r.ev (-(e.2.2 : Rat))) ∧ (g σ).ev (-(e.2.2 : Rat)) ≤ 0
      · obtain ⟨σ, hσ, hr, hg⟩ := c2
        exact close _ Rat.le_refl (by grind) σ hσ hr (fun z => by grind) fun _ => rfl
      · obtain ⟨τ, h1, h2, σ, hσ, hr, hg⟩ := root_ex (allSt es) (rowsA t1 w k) g (lo := -(e.2.2 : Rat)) (hi := (e.2.2 : Rat)) (by grind) cover same
          (fun j hj f => Rat.not_le.mp fun z => c2 ⟨j, hj, f, z⟩) (fun j hj f => Rat.not_le.mp fun z => c1 ⟨j, hj, f, z⟩)
        exact close τ h1 h2 σ hσ hr (fun z => by grind) fun z => by grind
/-- turning finds one -/
theorem turning_finds {t : Tr} (ok : TrOk t) (hb : Br t.cl) (w : Nm → Rat) : ∃ σ, (allSt t.cl).find? (feas t w) = some σ ∧ StOk σ ∧ σ.length = t.cl.length ∧ Equi (nmsOf t) (sR t) t.cl w (turnOf t σ w) (cR t σ w) := by
  obtain ⟨x, c, h⟩ := equi_ex t.sh t.cl ok hb w
  obtain ⟨hf, _⟩ := equi_run ok hb h
  cases e : (allSt t.cl).find? (feas t w) with
  | none =>
    have := List.find?_eq_none.mp e _ (mem_allSt (wy_ok x t.cl) (by simp))
    exact (this hf).elim
  | some σ =>
    obtain ⟨hs, hl⟩ := allSt_mem (List.mem_of_find?_eq_some e)
    exact ⟨σ, rfl, hs, hl, run_equi ok hb hs hl (List.find?_some e)⟩
end DL
namespace DL
open PySem PySem.Spec PyProof.Rows L2
/-! ### what is_train asks -/
theorem rising_pair {α : Type} {lt : α → α → Bool} {l : List α} (tr : ∀ a b c, lt a b = true → lt b c = true → lt a c = true) (h : risingB lt l = true) : l.Pairwise fun a b => lt a b = true := by
  unfold risingB at h
  rw [List.all_eq_true] at h
  have step : ∀ (k : Nat) (h1 : k + 1 < l.length), lt l[k] l[k + 1] = true := fun k h1 => by
    have := h k (List.mem_range.mpr (by omega))
    rw [List.getElem?_eq_getElem (by omega : k < l.length), List.getElem?_eq_getElem h1] at this
    exact this
  rw [List.pairwise_iff_getElem]
  intro i j hi hj hij
  obtain ⟨d, rfl⟩ : ∃ d, j = i + 1 + d := ⟨j - i - 1, by omega⟩
  induction d with
  | zero => exact step i (by omega)
  | succ d ih => exact tr _ _ _ (ih (by omega) (by omega)) (step (i + 1 + d) (by omega))
theorem nLt_trans (a b c : Nm) (h1 : nLt a b = true) (h2 : nLt b c = true) : nLt a c = true := by
  unfold nLt at *
  simp at *
  exact List.lt_trans h1 h2
theorem nLt_irrefl (a : Nm) : nLt a a = false := by
  unfold nLt
  simp
theorem nLt_ne {a b : Nm} (h : nLt a b = true) : a ≠ b := by
  rintro rfl
  rw [nLt_irrefl] at h
  cases h
theorem br_of_ring {cl : List Cl} (h : makeRing cl = false) : Br cl := by
  rintro l1 e l2 rfl hc
  unfold makeRing at h
  rw [List.any_eq_false] at h
  refine h (e, l1.length) ?_ ?_
  · rw [List.mk_mem_zipIdx_iff_getElem?]
    simp
  · unfold ringAt
    simp
    rw [side_conn]
    exact hc
structure Big (t : Tr) : Prop where
  s1 : t.sh.length ≤ 500
  s2 : t.cl.length ≤ 500
theorem isTr_ok {t : Tr} (h : isTr t = true) : TrOk t ∧ Br t.cl ∧ 1 ≤ t.sh.length ∧ (∀ c ∈ t.cl, nLt c.1 c.2.1 = true ∧ c.2.2 ≤ 1000000) ∧ (nmsOf t).Pairwise (fun a b => nLt a b = true) := by
  unfold isTr at h
  simp only [Bool.and_eq_true, decide_eq_true_eq, List.all_eq_true, Bool.not_eq_true'] at h
  obtain ⟨⟨⟨⟨h1, h2⟩, h3⟩, h4, h5, h6⟩, h7, h8⟩ := h
  have pw := rising_pair nLt_trans h4
  have hc : ∀ c ∈ t.cl, c.1 ∈ nmsOf t ∧ c.2.1 ∈ nmsOf t ∧ nLt c.1 c.2.1 = true ∧ 0 ≤ c.2.2 ∧ c.2.2 ≤ 1000000 := fun c hc => by
    have := h6 c hc
    unfold clutchOk at this
    simpa [Bool.and_eq_true] using this
  have hs : ∀ x ∈ t.sh, (-1000000 ≤ x.2.1 ∧ x.2.1 ≤ 1000000) ∧ 1 ≤ x.2.2 ∧ x.2.2 ≤ 9 := fun x hx => by
    have := h3 x hx
    unfold shaftOk wishOk at this
    simpa [Bool.and_eq_true] using this
  exact ⟨⟨pw.imp fun h => nLt_ne h, fun c hm => ⟨(hc c hm).1, (hc c hm).2.1⟩, h2, h5, fun x hx => (hs x hx).2, fun x hx => (hs x hx).1, fun c hm => ⟨(hc c hm).2.2.2.1, by have := (hc c hm).2.2.2.2; omega⟩⟩,
    br_of_ring h8, h1, fun c hm => ⟨(hc c hm).2.2.1, (hc c hm).2.2.2.2⟩, pw⟩
/-! ### the ones that turn -/
def wR (t : Tr) : Nm → Rat := fun n => (wiOf t n : Rat)
/-- the one lot of speeds of a train -/
structure Turns (t : Tr) (x : Nm → Rat) (c : Cl → Rat) : Prop where
  e : Equi (nmsOf t) (sR t) t.cl (wR t) x c
theorem w_ht {t : Tr} (ok : TrOk t) : ∀ n ∈ nmsOf t, ht (wR t n) 20 := fun n hn => by
  obtain ⟨x, hx, rfl⟩ := List.mem_map.mp hn
  unfold wR
  rw [wiOf_mem ok.nd hx]
  have := ok.wi x hx
  exact ht_int (by decide) (by omega)
theorem F_turning_w {t : Tr} (ok : TrOk t) (hb : Br t.cl) : ∃ x c, Equi (nmsOf t) (sR t) t.cl (wR t) x c ∧ (∀ n ∈ nmsOf t, ht (x n) 487) ∧ (∀ e ∈ t.cl, ht (c e) 3409) ∧ F_turning [trD t, dictD (fnD frD (nmsOf t) (wR t))] = some (.fz (.tuple [dictD (fnD frD (nmsOf t) x), .list (t.cl.map fun e => frD (c e))])) := by
  obtain ⟨σ, hf, hs, hl, he⟩ := turning_finds ok hb (wR t)
  refine ⟨_, _, he, fun n hn => turn_ht ok hs (by decide) (w_ht ok) hn, fun e hm => ?_, ?_⟩
  · refine car_ht ok hs (kw := 20) (by decide) (w_ht ok) _ ?_
    rw [cars_eq hb.nodup hl]
    exact List.mem_map.mpr ⟨e, hm, rfl⟩
  · have := F_turning_eq ok (kw := 20) (by decide) (w_ht ok)
    have hd : turD t σ (wR t) = .tuple [dictD (fnD frD (nmsOf t) (turnOf t σ (wR t))), .list (t.cl.map fun e => frD (cR t σ (wR t) e))] := by
      unfold turD
      rw [cars_eq hb.nodup hl, List.map_map]
      rfl
    rw [this, hf, ← hd]
theorem F_speeds_of_eq {t : Tr} (ok : TrOk t) (hb : Br t.cl) : ∃ x c, Equi (nmsOf t) (sR t) t.cl (wR t) x c ∧ (∀ n ∈ nmsOf t, ht (x n) 487) ∧ F_speeds_of [trD t] = some (.fz (dictD (fnD frD (nmsOf t) x))) := by
  obtain ⟨x, c, he, hx, _, hF⟩ := F_turning_w ok hb
  refine ⟨x, c, he, hx, ?_⟩
  have hw := F_wishes_eq ok.nd (by have := ok.l1; omega)
  have hF' : F_turning [trD t, dictD (fnD frD (nmsOf t) fun n => (wiOf t n : Rat))] = _ := hF
  simp only [F_speeds_of, fnF, B_speeds_of]
  simp [hw, hF']
def slipsD (t : Tr) (x : Nm → Rat) : List D := (t.cl.filter fun e => !decide (x e.1 = x e.2.1)).map fun e => prD (e.1, e.2.1)
theorem F_slips_of_eq {t : Tr} (ok : TrOk t) (hb : Br t.cl) : ∃ x c, Equi (nmsOf t) (sR t) t.cl (wR t) x c ∧ F_slips_of [trD t] = some (.nw (slipsD t x)) := by
  obtain ⟨x, c, he, hx, hF⟩ := F_speeds_of_eq ok hb
  refine ⟨x, c, he, ?_⟩
  have hlc := lcL_enc (vs := [2]) (G := gN 2) (P := tTst (f2 gNe (f2 gIx (fVar 1) (f2 gIx (fVar 2) (fC (PyData.int 0)))) (f2 gIx (fVar 1) (f2 gIx (fVar 2) (fC (PyData.int 1)))))) (E := fSl (fVar 2) oNone (oSome (fC (PyData.int 2)))) (enc := clD) (fun e => !decide (x e.1 = x e.2.1)) (fun e => prD (e.1, e.2.1)) (δ := [.fz (trD t), .fz (dictD (fnD frD (nmsOf t) x)), .un]) (xs := t.cl) (acc := []) (by have := ok.l2; simp; omega) (fun e he => by
    have d1 := dget_fn (enc := frD) (f := x) (ok.ends e he).1
    have d2 := dget_fn (enc := frD) (f := x) (ok.ends e he).2
    have e1 : gIx (dictD (fnD frD (nmsOf t) x)) (nD e.1) = some (.fz (frD (x e.1))) := by rw [nD, gIx_dict, d1]; rfl
    have e2 : gIx (dictD (fnD frD (nmsOf t) x)) (nD e.2.1) = some (.fz (frD (x e.2.1))) := by rw [nD, gIx_dict, d2]; rfl
    by_cases h : x e.1 = x e.2.1 <;> simp [lStep, clD, e1, e2, h, prD])
  have i1 : gIx (trD t) (.int 1) = some (.fz (.tuple (t.cl.map clD))) := rfl
  simp only [F_slips_of, fnF, B_slips_of]
  simp only [List.nil_append] at hlc
  simp [hF, i1, hlc, slipsD]
theorem F_need_eq {t : Tr} (h : isTr t = true) : F_need_train [trD t] = some (.fz .none) := by
  obtain ⟨ok, _⟩ := isTr_ok h
  have := F_is_train_eq (t := t) (by have := ok.l1; omega) (by have := ok.l2; omega)
  simp only [F_need_train, fnF, B_need_train]
  simp [this, h]
theorem F_slips_eq {t : Tr} (h : isTr t = true) : ∃ x c, Equi (nmsOf t) (sR t) t.cl (wR t) x c ∧ F_slips [trD t] = some (.nw (slipsD t x)) := by
  obtain ⟨ok, hb, _⟩ := isTr_ok h
  obtain ⟨x, c, he, hF⟩ := F_slips_of_eq ok hb
  refine ⟨x, c, he, ?_⟩
  simp only [F_slips, fnF, B_slips]
  simp [hF, F_need_eq h]
end DL
namespace DL
open PySem PySem.Spec PyProof.Rows L2
def optD : Option Rat → D
  | none => .none
  | some q => frD q
def absR (q : Rat) : Rat := if 0 ≤ q then q else -q
theorem div_norm {p q : Rat} (hq : 0 < q) : ∃ h, p / q = Rat.normalize (p.num * q.den) (p.den * q.num.toNat) h ∧ ((q.num.toNat : Nat) : Int) = q.num := by
  have hn : 0 < q.num := by
    have := (Rat.lt_iff 0 q).mp hq
    simpa using this
  have e : ((q.num.toNat : Nat) : Int) = q.num := by omega
  have h0 : p.den * q.num.toNat ≠ 0 := Nat.mul_ne_zero p.den_nz (by omega)
  refine ⟨h0, ?_, e⟩
  rw [Rat.normalize_eq_mkRat, Rat.mkRat_eq_div]
  have hp : (p.num : Rat) / (p.den : Rat) = p := by rw [← Rat.mkRat_eq_div, Rat.mkRat_self]
  have hq' : (q.num : Rat) / (q.den : Rat) = q := by rw [← Rat.mkRat_eq_div, Rat.mkRat_self]
  have d1 : (p.den : Rat) ≠ 0 := by
    have := p.den_nz
    intro h
    exact this (by exact_mod_cast h)
  have d2 : (q.den : Rat) ≠ 0 := by
    have := q.den_nz
    intro h
    exact this (by exact_mod_cast h)
  have d3 : (q.num : Rat) ≠ 0 := by
    intro h
    rw [h] at hq'
    rw [← hq', Rat.div_def, Rat.zero_mul] at hq
    exact absurd hq (Rat.lt_irrefl)
  have e2 : ((p.den * q.num.toNat : Nat) : Rat) = (p.den : Rat) * (q.num : Rat) := by
    rw [Rat.natCast_mul]
    congr 1
    exact_mod_cast congrArg (fun z : Int => (z : Rat)) e
  rw [e2, Rat.intCast_mul]
  have e3 : ((q.den : Int) : Rat) = (q.den : Rat) := rfl
  rw [e3]
  have x1 : p * (p.den : Rat) = (p.num : Rat) := by
    have := Rat.div_mul_cancel (a := (p.num : Rat)) d1
    rw [hp] at this
    exact this
  have x2 : q * (q.den : Rat) = (q.num : Rat) := by
    have := Rat.div_mul_cancel (a := (q.num : Rat)) d2
    rw [hq'] at this
    exact this
  have hqne : q ≠ 0 := Rat.ne_of_gt hq
  have d4 : (p.den : Rat) * (q.num : Rat) ≠ 0 := fun h => (Rat.mul_eq_zero.mp h).elim d1 d3
  have y1 := Rat.div_mul_cancel (a := (p.num : Rat) * (q.den : Rat)) d4
  have y2 := Rat.div_mul_cancel (a := p) hqne
  have key : (p / q - (p.num : Rat) * (q.den : Rat) / ((p.den : Rat) * (q.num : Rat))) * ((p.den : Rat) * (q.num : Rat)) = 0 := by
    have : (p / q) * ((p.den : Rat) * (q.num : Rat)) = (p.num : Rat) * (q.den : Rat) := by
      rw [← x2, ← x1]
      have : p / q * ((p.den : Rat) * (q * (q.den : Rat))) = (p / q * q) * ((p.den : Rat) * (q.den : Rat)) := by grind
      rw [this, y2]
      grind
    grind
  rcases Rat.mul_eq_zero.mp key with h | h
  · grind
  · exact (d4 h).elim
theorem num_ht {q : Rat} {k : Nat} (h : ht q k) (hn : 0 < q.num) : q.num.toNat < 2 ^ k := by
  have := h.1
  omega
theorem F_shared_eq {p q : Rat} {a b : Nat} (hp : ht p a) (hq : ht q b) (h : a + b ≤ 8000) (h0 : 0 < q) : F_shared [frD p, frD q] = some (.fz (frD (p / q))) ∧ ht (p / q) (a + b) := by
  obtain ⟨hnz, e, en⟩ := div_norm (p := p) h0
  have hn : 0 < q.num := by
    have := (Rat.lt_iff 0 q).mp h0
    simpa using this
  have hl : p.den * q.num.toNat < 2 ^ (a + b) := by
    rw [Nat.pow_add]
    exact Nat.mul_lt_mul'' hp.2 (num_ht hq hn)
  have h1 : gMulA (.int p.num) (.int q.den) = some (.fz (.int (p.num * q.den))) := gMulA_int (mul_nd hp hq h)
  have h2 : gMulA (.int p.den) (.int q.num) = some (.fz (.int (p.den * q.num))) := gMulA_int (wide_mul (by rw [den_abs]; exact hp.2) hq.1 hp.pos hq.pos (by omega))
  have h4 := F_fraction_norm (i := p.num * q.den) hnz (k := a + b) hl (by omega)
  rw [Int.natCast_mul, en] at h4
  refine ⟨?_, ?_⟩
  · rw [e]
    simp only [F_shared, fnF, B_shared]
    unfold frD at h4 ⊢
    simp [h1, h2, h4]
  · rw [e]
    exact ht_norm _ (nd_lt hp hq) hl
theorem absR_num (q : Rat) : frD (absR q) = .tuple [.int (if q.num < 0 then -q.num else q.num), .int q.den] := by
  unfold absR frD
  have : 0 ≤ q ↔ 0 ≤ q.num := by
    rw [Rat.le_iff]
    simp
  by_cases h : 0 ≤ q.num
  · rw [if_pos (this.mpr h), if_neg (by omega)]
  · rw [if_neg (fun z => h (this.mp z)), if_pos (by omega)]
    simp [Rat.neg_num, Rat.neg_den]
theorem absR_ht {q : Rat} {k : Nat} (h : ht q k) : ht (absR q) k := by
  unfold absR
  split
  · exact h
  · unfold ht
    rw [Rat.neg_num, Rat.neg_den]
    exact ⟨by have := h.1; omega, h.2⟩
theorem absR_nonneg (q : Rat) : 0 ≤ absR q := by unfold absR; split <;> grind
theorem absR_le {q b : Rat} : absR q ≤ b ↔ -b ≤ q ∧ q ≤ b := by unfold absR; split <;> grind
/-- the carries where none slips -/
def c0 (t : Tr) (e : Cl) : Rat := cR t (t.cl.map fun _ => 0) (wR t) e
def bestStep (c : Cl → Rat) (b : Rat) (e : Cl) : Rat := if e.2.2 = 0 then b else if b < absR (c e) / (e.2.2 : Rat) then absR (c e) / (e.2.2 : Rat) else b
def bestOf (cl : List Cl) (c : Cl → Rat) : Option Rat := if cl.any (fun e => decide (e.2.2 = 0) && !decide (c e = 0)) then none else some (cl.foldl (bestStep c) 0)
theorem st0_ok (cl : List Cl) : StOk (cl.map fun _ => 0) := fun y hy => by
  obtain ⟨_, _, rfl⟩ := List.mem_map.mp hy
  exact .inl rfl
theorem best_ht {cl : List Cl} {c : Cl → Rat} {k : Nat} (hd : ∀ e ∈ cl, 0 ≤ e.2.2 ∧ e.2.2 ≤ 1000000000000) (hc : ∀ e ∈ cl, ht (c e) k) (hk : k ≤ 7000) : ∀ {b : Rat}, ht b (k + 41) → ht (cl.foldl (bestStep c) b) (k + 41) := by
  induction cl with
  | nil => exact fun h => h
  | cons e cl ih =>
    intro b hb
    refine ih (fun d hm => hd d (List.mem_cons_of_mem _ hm)) (fun d hm => hc d (List.mem_cons_of_mem _ hm)) ?_
    unfold bestStep
    have h1 := hd e (List.mem_cons_self ..)
    split
    · exact hb
    · split
      · have h41 : ht ((e.2.2 : Int) : Rat) 41 := ht_int (by decide) (by omega)
        have hpos : (0 : Rat) < (e.2.2 : Rat) := by
          have h : ((0 : Int) : Rat) < (e.2.2 : Rat) := by rw [Rat.intCast_lt_intCast]; omega
          simpa using h
        exact (F_shared_eq (absR_ht (hc e (List.mem_cons_self ..))) h41 (by omega) hpos).2
      · exact hb
theorem zero_state (cl : List Cl) : (PyData.tuple (List.replicate cl.length [PyData.int 0]).flatten) = stD (cl.map fun _ => 0) := by
  unfold stD
  congr 1
  induction cl with
  | nil => rfl
  | cons e cl ih => rw [List.length_cons, List.replicate_succ, List.flatten_cons, ih]; rfl
theorem c0_ht {t : Tr} (ok : TrOk t) (hb : Br t.cl) : ∀ e ∈ t.cl, ht (c0 t e) 3409 := fun e he => by
  refine car_ht ok (st0_ok t.cl) (kw := 20) (by decide) (w_ht ok) _ ?_
  rw [cars_eq hb.nodup (by simp)]
  exact List.mem_map.mpr ⟨e, he, rfl⟩
theorem forL_foldE {α β : Type} {G : GF} {B : MS} {enc : α → D} {xs : List α} (Q : β → Dn → Prop) (step : β → α → β) (stop : α → Bool) (d : D) : ∀ {b : β} {δ : Dn}, Q b δ →
    (∀ b δ x, x ∈ xs → Q b δ → if stop x = true then ∃ δ', fStep G B (enc x) δ = some (.rt (.fz d) δ') else ∃ δ', fStep G B (enc x) δ = some (.nx δ') ∧ Q (step b x) δ') →
    if xs.any stop = true then ∃ δ', forL G B (xs.map enc) δ = some (.rt (.fz d) δ') else ∃ δ', forL G B (xs.map enc) δ = some (.nx δ') ∧ Q (xs.foldl step b) δ' := by
  induction xs with
  | nil => intro b δ q _; exact ⟨δ, rfl, q⟩
  | cons x xs ih =>
    intro b δ q h
    have h1 := h b δ x (List.mem_cons_self ..) q
    rw [List.any_cons]
    cases hs : stop x with
    | true =>
      rw [hs, if_pos rfl] at h1
      obtain ⟨δ1, e1⟩ := h1
      rw [Bool.true_or, if_pos rfl]
      exact ⟨δ1, by rw [List.map_cons, forL_cons, e1]; rfl⟩
    | false =>
      rw [hs, if_neg Bool.false_ne_true] at h1
      obtain ⟨δ1, e1, q1⟩ := h1
      have := ih q1 fun b δ y hy => h b δ y (List.mem_cons_of_mem _ hy)
      have e2 : forL G B ((x :: xs).map enc) δ = forL G B (xs.map enc) δ1 := by rw [List.map_cons, forL_cons, e1]; rfl
      rw [Bool.false_or, e2]
      exact this
theorem F_times_as_one_eq {t : Tr} (h : isTr t = true) : F_times_as_one [trD t] = some (.fz (optD (bestOf t.cl (c0 t)))) := by
  obtain ⟨ok, hb, _⟩ := isTr_ok h
  have hrun := F_run_eq (σ := t.cl.map fun _ => 0) ok (st0_ok t.cl) (kw := 20) (by decide) (w_ht ok)
  have hcars := cars_eq (t := t) (σ := t.cl.map fun _ => 0) (w := wR t) hb.nodup (by simp)
  have hcm : ((t.cl.zip (t.cl.map fun _ => (0 : Int))).map fun p => frD (carOf t (t.cl.map fun _ => 0) (wR t) p)) = t.cl.map fun e => frD (c0 t e) := by
    have : ((t.cl.zip (t.cl.map fun _ => (0 : Int))).map fun p => frD (carOf t (t.cl.map fun _ => 0) (wR t) p)) = (carsOf t (t.cl.map fun _ => 0) (wR t)).map frD := by
      unfold carsOf
      rw [List.map_map]
      rfl
    rw [this, hcars, List.map_map]
    rfl
  rw [hcm] at hrun
  have hc := c0_ht ok hb
  let dr : Cl → Bool := fun e => decide (e.2.2 = 0) && !decide (c0 t e = 0)
  let Q : Rat → Dn → Prop := fun b δ => ht b 3450 ∧ ∃ j3 j4 j5, δ = [.fz (trD t), .fz (frD b), .fz (.list (t.cl.map fun e => frD (c0 t e))), j3, j4, j5]
  have key := forL_foldE (G := gT 2 (gsCons (gN 3) (gsCons (gN 4) gsNil))) (B := L_times_as_one_1) (enc := fun e => .tuple [clD e, frD (c0 t e)]) (xs := t.cl) Q (bestStep (c0 t)) dr .none (b := 0) (δ := [.fz (trD t), .fz (frD 0), .fz (.list (t.cl.map fun e => frD (c0 t e))), .un, .un, .un]) ⟨ht_zero.up (by decide), _, _, _, rfl⟩ (by
    rintro b δ e he ⟨hbt, j3, j4, j5, rfl⟩
    have hce := hc e he
    have hab := absR_ht hce
    have m1 := F_times_eq (p := ((-1 : Int) : Rat)) (ht_int (k := 1) (by decide) (by decide)) hce (by decide)
    rw [frD_lit] at m1
    have g0 : gIx (frD (c0 t e)) (.int 0) = some (.fz (.int (c0 t e).num)) := rfl
    have g2 : gIx (clD e) (.int 2) = some (.fz (.int e.2.2)) := rfl
    have hab0 : absR (c0 t e) = 0 ↔ c0 t e = 0 := by unfold absR; split <;> grind
    have hnum : 0 ≤ c0 t e ↔ 0 ≤ (c0 t e).num := by rw [Rat.le_iff]; simp
    have z0 := frD_zero
    -- the size
    have hsz : ∀ δ : Dn, δ[4]? = some (.fz (frD (c0 t e))) → fIf (tTst (f2 gGe (f2 gIx (fVar 4) (fC (PyData.int 0))) (fC (PyData.int 0)))) (fVar 4) (fF F_times (sCons (fTup (sCons (f1 gNeg (fC (PyData.int 1))) (sCons (fC (PyData.int 1)) sNil))) (sCons (fVar 4) sNil))) δ = some (.fz (frD (absR (c0 t e))), δ) := fun δ h4 => by
      by_cases hn : 0 ≤ (c0 t e).num
      · have : absR (c0 t e) = c0 t e := by unfold absR; rw [if_pos (hnum.mpr hn)]
        simp [h4, g0, hn, this]
      · have : absR (c0 t e) = ((-1 : Int) : Rat) * c0 t e := by unfold absR; rw [if_neg (fun z => hn (hnum.mp z))]; simp; grind
        rw [this]
        simp [h4, g0, hn, m1]
    have hsz' := hsz [.fz (trD t), .fz (frD b), .fz (.list (t.cl.map fun e => frD (c0 t e))), .fz (clD e), .fz (frD (c0 t e)), j5] rfl
    have hne := gNe_fr (absR (c0 t e)) 0
    rw [z0] at hne
    by_cases hd : e.2.2 = 0
    · have hbs : bestStep (c0 t) b e = b := by unfold bestStep; rw [if_pos hd]
      by_cases hz : c0 t e = 0
      · have hs : dr e = false := by simp [dr, hd, hz]
        rw [hs, if_neg Bool.false_ne_true]
        refine ⟨[.fz (trD t), .fz (frD (bestStep (c0 t) b e)), .fz (.list (t.cl.map fun e => frD (c0 t e))), .fz (clD e), .fz (frD (c0 t e)), .fz (frD (absR (c0 t e)))], ?_, by rw [hbs]; exact hbt, _, _, _, rfl⟩
        have ha := hab0.mpr hz
        rw [ha] at hne hsz' ⊢
        rw [hbs]
        simp only [fStep, L_times_as_one_1, oSeq, oSet]
        simp [hsz', g2, hd, hne, -fIf]
      · have hs : dr e = true := by simp [dr, hd, hz]
        rw [hs, if_pos rfl]
        refine ⟨[.fz (trD t), .fz (frD b), .fz (.list (t.cl.map fun e => frD (c0 t e))), .fz (clD e), .fz (frD (c0 t e)), .fz (frD (absR (c0 t e)))], ?_⟩
        have ha : ¬ absR (c0 t e) = 0 := fun z => hz (hab0.mp z)
        simp only [fStep, L_times_as_one_1, oSeq, oSet]
        simp [hsz', g2, hd, hne, ha, -fIf]
    · have hs : dr e = false := by simp [dr, hd]
      rw [hs, if_neg Bool.false_ne_true]
      have h41 := dr_ht ok he
      have hpos : (0 : Rat) < (e.2.2 : Rat) := by
        have h1 := (ok.dr e he).1
        have h : ((0 : Int) : Rat) < (e.2.2 : Rat) := by rw [Rat.intCast_lt_intCast]; omega
        simpa using h
      obtain ⟨f1, f2⟩ := F_shared_eq hab h41 (by decide) hpos
      rw [frD_lit] at f1
      have f3 := F_is_less_eq hbt f2 (by decide)
      refine ⟨[.fz (trD t), .fz (frD (bestStep (c0 t) b e)), .fz (.list (t.cl.map fun e => frD (c0 t e))), .fz (clD e), .fz (frD (c0 t e)), .fz (frD (absR (c0 t e)))], ?_, ?_, _, _, _, rfl⟩
      · simp only [fStep, L_times_as_one_1, oSeq, oSet]
        by_cases hlt : b < absR (c0 t e) / (e.2.2 : Rat)
        · have hbs : bestStep (c0 t) b e = absR (c0 t e) / (e.2.2 : Rat) := by unfold bestStep; rw [if_neg hd, if_pos hlt]
          rw [hbs]
          simp [hsz', g2, hd, f1, f3, hlt, -fIf]
        · have hbs : bestStep (c0 t) b e = b := by unfold bestStep; rw [if_neg hd, if_neg hlt]
          rw [hbs]
          simp [hsz', g2, hd, f1, f3, hlt, -fIf]
      · unfold bestStep
        rw [if_neg hd]
        split
        · exact f2
        · exact hbt)
  have hw := F_wishes_eq ok.nd (by have := ok.l1; omega)
  have hrun' : F_run [trD t, stD (t.cl.map fun _ => 0), dictD (fnD frD (nmsOf t) fun n => (wiOf t n : Rat))] = _ := hrun
  have i1 : gIx (trD t) (.int 1) = some (.fz (.tuple (t.cl.map clD))) := rfl
  have hmul : gMulA (.tuple [.int 0]) (.int (t.cl.length : Nat)) = some (.fz (stD (t.cl.map fun _ => 0))) := by
    rw [gMulA_tup rfl (by omega) (by have := ok.l2; omega) (by decide), ← zero_state]
    rfl
  have hz2 : zip2 (t.cl.map clD) (t.cl.map fun e => frD (c0 t e)) = t.cl.map fun e => .tuple [clD e, frD (c0 t e)] := by
    generalize t.cl = l
    unfold zip2
    induction l with
    | nil => rfl
    | cons e l ih => simp [ih]
  simp only [F_times_as_one, fnF, B_times_as_one]
  rw [frD_zero] at key
  unfold bestOf
  by_cases ha : t.cl.any dr = true
  · rw [if_pos ha] at key
    obtain ⟨δ', hk⟩ := key
    have ha' : (t.cl.any fun e => decide (e.2.2 = 0) && !decide (c0 t e = 0)) = true := ha
    rw [ha']
    simp [F_need_eq h, hw, hrun', i1, hmul, hz2, hk, optD]
  · rw [if_neg ha] at key
    obtain ⟨δ', hk, _, j3, j4, j5, rfl⟩ := key
    have ha' : (t.cl.any fun e => decide (e.2.2 = 0) && !decide (c0 t e = 0)) = false := Bool.eq_false_iff.mpr ha
    rw [ha']
    simp [F_need_eq h, hw, hrun', i1, hmul, hz2, hk, optD]
end DL
namespace DL
open PySem PySem.Spec PyProof.Rows L2
/-! ### the well -/
def WellOk (ws : List D) : Prop := ∃ c s p : Int, ws = [.int c, .int s, .int p] ∧ 0 ≤ c ∧ 0 ≤ s ∧ s ≤ 4294967296 ∧ 1 ≤ p ∧ p ≤ 2147483648
theorem F_take_eq {ws : List D} (h : WellOk ws) {many : Int} (h1 : 1 ≤ many) (h2 : many ≤ 1000000000) : ∃ d ws', F__law_take ws [.int many] = some (.fz (.int d), ws') ∧ WellOk ws' ∧ 0 ≤ d ∧ d < many := by
  obtain ⟨c, s, p, rfl, hc, hs, hs2, hp, hp2⟩ := h
  have m1 : ∀ x, gMod (.int x) (.int many) = some (.fz (.int (x % many))) := fun x => gMod_int (by omega)
  by_cases c0 : 0 < c
  · have d1 : gDiv (.int c) (.int many) = some (.fz (.int (c / many))) := gDiv_int (wide_div (by omega) (b := 40) (by omega) (by decide) (by decide))
    refine ⟨c % many, [.int (c / many), .int s, .int p], ?_, ⟨_, _, _, rfl, Int.ediv_nonneg hc (by omega), hs, hs2, hp, hp2⟩, Int.emod_nonneg _ (by omega), Int.emod_lt_of_pos _ (by omega)⟩
    simp only [F__law_take, fnW, B__law_take]
    simp [c0, m1, d1, putAt, ixN]
  · have x1 : gMulA (.int s) (.int 48271) = some (.fz (.int (s * 48271))) := gMulA_int (wide_mul (a := 40) (b := 40) (by omega) (by decide) (by decide) (by decide) (by decide))
    have x2 : gMod (.int (s * 48271)) (.int p) = some (.fz (.int (s * 48271 % p))) := gMod_int (by omega)
    have b1 : 0 ≤ s * 48271 % p := Int.emod_nonneg _ (by omega)
    have b2 : s * 48271 % p < p := Int.emod_lt_of_pos _ (by omega)
    generalize s * 48271 % p = y at *
    have x3 : gMulA (.int (y + 1)) (.int (y + 1)) = some (.fz (.int ((y + 1) * (y + 1)))) := gMulA_int (wide_mul (a := 40) (b := 40) (by omega) (by omega) (by decide) (by decide) (by decide))
    generalize (y + 1) * (y + 1) = z at *
    have x4 : gMod (.int z) (.int 2147483423) = some (.fz (.int (z % 2147483423))) := gMod_int (by decide)
    have x5 : gDiv (.int (z % 2147483423)) (.int 7) = some (.fz (.int (z % 2147483423 / 7))) := gDiv_int (wide_div (by decide) (b := 40) (by decide) (by decide) (by decide))
    refine ⟨z % 2147483423 / 7 % many, [.int c, .int (y + 1), .int p], ?_, ⟨_, _, _, rfl, hc, by omega, by omega, hp, hp2⟩, Int.emod_nonneg _ (by omega), Int.emod_lt_of_pos _ (by omega)⟩
    simp only [F__law_take, fnW, B__law_take]
    simp [c0, x1, x2, x3, x4, x5, m1, putAt, ixN]
theorem F_well_eq (ns : List Int) (k : Nat) (hk : k ≤ 100) (hl : ns.length ≤ 1000) : ∃ ws, F__law_well [scrD ns, .int k] = some (.nw ws) ∧ WellOk ws := by
  have hprime : ∀ i : Int, 0 ≤ i → i < 8 → ∃ p : Int, 1 ≤ p ∧ p ≤ 2147483648 ∧ atI [PyData.int 2147483647, .int 2147483629, .int 2147483587, .int 2147483579, .int 2147483563, .int 2147483549, .int 2147483543, .int 2147483497] i = some (.int p) := fun i h0 h8 => by
    have : i = 0 ∨ i = 1 ∨ i = 2 ∨ i = 3 ∨ i = 4 ∨ i = 5 ∨ i = 6 ∨ i = 7 := by omega
    rcases this with rfl | rfl | rfl | rfl | rfl | rfl | rfl | rfl
    · exact ⟨2147483647, by decide, by decide, rfl⟩
    · exact ⟨2147483629, by decide, by decide, rfl⟩
    · exact ⟨2147483587, by decide, by decide, rfl⟩
    · exact ⟨2147483579, by decide, by decide, rfl⟩
    · exact ⟨2147483563, by decide, by decide, rfl⟩
    · exact ⟨2147483549, by decide, by decide, rfl⟩
    · exact ⟨2147483543, by decide, by decide, rfl⟩
    · exact ⟨2147483497, by decide, by decide, rfl⟩
  obtain ⟨p, p1, p2, hp⟩ := hprime ((k : Int) % 8) (Int.emod_nonneg _ (by decide)) (Int.emod_lt_of_pos _ (by decide))
  have m8 : gMod (.int k) (.int 8) = some (.fz (.int ((k : Int) % 8))) := gMod_int (by decide)
  have hpow : gPow (.int 10) (.int 18) = some (.fz (.int 1000000000000000000)) := by
    have : CPow 10 18 := by decide
    exact (if_pos this : (if CPow 10 18 then some (T.fz (.int (10 ^ (18 : Int).toNat))) else none) = _)
  have fin : ∀ cell : Int, (((k : Int) < ns.length ∧ atI (ns.map PyData.int) (k : Int) = some (.int cell)) ∨ (¬ (k : Int) < ns.length ∧ cell = 0)) → ∃ ws, F__law_well [scrD ns, .int k] = some (.nw ws) ∧ WellOk ws := fun cell hcell => by
    have b1 : 0 ≤ cell % 2147483489 := Int.emod_nonneg _ (by decide)
    have b2 : cell % 2147483489 < 2147483489 := Int.emod_lt_of_pos _ (by decide)
    have y1 : gMod (.int cell) (.int 2147483489) = some (.fz (.int (cell % 2147483489))) := gMod_int (by decide)
    have y2 : gMulA (.int 2) (.int k) = some (.fz (.int (2 * k))) := gMulA_int (wide_mul (a := 40) (b := 40) (by decide) (by omega) (by decide) (by decide) (by decide))
    have y3 : gMulA (.int (cell % 2147483489 + 1)) (.int (48271 + 2 * k)) = some (.fz (.int ((cell % 2147483489 + 1) * (48271 + 2 * k)))) := gMulA_int (wide_mul (a := 40) (b := 40) (by omega) (by omega) (by decide) (by decide) (by decide))
    have y4 : gMod (.int ((cell % 2147483489 + 1) * (48271 + 2 * k))) (.int 2147483489) = some (.fz (.int (((cell % 2147483489 + 1) * (48271 + 2 * k)) % 2147483489))) := gMod_int (by decide)
    have b3 : 0 ≤ ((cell % 2147483489 + 1) * (48271 + 2 * k)) % 2147483489 := Int.emod_nonneg _ (by decide)
    have b4 : ((cell % 2147483489 + 1) * (48271 + 2 * k)) % 2147483489 < 2147483489 := Int.emod_lt_of_pos _ (by decide)
    generalize ((cell % 2147483489 + 1) * (48271 + 2 * k)) % 2147483489 = y at *
    generalize (cell % 2147483489 + 1) * (48271 + 2 * k) = q at *
    generalize cell % 2147483489 = r at *
    have x3 : gMulA (.int y) (.int y) = some (.fz (.int (y * y))) := gMulA_int (wide_mul (a := 40) (b := 40) (by omega) (by omega) (by decide) (by decide) (by decide))
    have x4 : gMod (.int (y * y)) (.int 2147483477) = some (.fz (.int (y * y % 2147483477))) := gMod_int (by decide)
    have b5 : 0 ≤ y * y % 2147483477 := Int.emod_nonneg _ (by decide)
    have b6 : y * y % 2147483477 < 2147483477 := Int.emod_lt_of_pos _ (by decide)
    generalize y * y % 2147483477 = z at *
    simp only [F__law_well, fnF, B__law_well]
    rcases hcell with ⟨hkl, ha⟩ | ⟨hkl, rfl⟩
    · by_cases hbig : (1000000000000000000 : Int) ≤ cell
      · refine ⟨[.int cell, .int (z + k + 1), .int p], ?_, ⟨_, _, _, rfl, by omega, by omega, by omega, p1, p2⟩⟩
        simp [gLtA, hkl, ha, y1, y2, y3, y4, x3, x4, hpow, hbig, m8, hp]
      · refine ⟨[.int 0, .int (z + k + 1), .int p], ?_, ⟨_, _, _, rfl, by omega, by omega, by omega, p1, p2⟩⟩
        simp [gLtA, hkl, ha, y1, y2, y3, y4, x3, x4, hpow, hbig, m8, hp]
    · refine ⟨[.int 0, .int (z + k + 1), .int p], ?_, ⟨_, _, _, rfl, by omega, by omega, by omega, p1, p2⟩⟩
      simp [gLtA, hkl, y1, y2, y3, y4, x3, x4, hpow, m8, hp]
  by_cases hkl : (k : Int) < ns.length
  · exact fin (ns[k]'(by omega)) (.inl ⟨hkl, atI_map (enc := PyData.int) (List.getElem?_eq_getElem (by omega))⟩)
  · exact fin 0 (.inr ⟨hkl, rfl⟩)
end DL
namespace DL
open PySem PySem.Spec PyProof.Rows L2
/-! ### the law's own fractions -/
theorem lfrac_loop (x y : Sl) : ∀ (n b a : Nat), b < n → whL (tTst (f2 gGt (fVar 3) (fC (PyData.int 0)))) L__law_frac_1 n [x, y, .fz (.int a), .fz (.int b)] = some (.nx [x, y, .fz (.int (Nat.gcd a b)), .fz (.int 0)])
  | 0, b, a, h => by omega
  | n + 1, b, a, h => by
    by_cases hb : b = 0
    · subst hb
      simp [whL]
    · have h0 : (0 : Int) < b := by omega
      have hlt : a % b < b := Nat.mod_lt _ (by omega)
      have := lfrac_loop x y n (a % b) b (by omega)
      have hm : (a : Int) % b = ((a % b : Nat) : Int) := rfl
      have hb0 : 0 < b := by omega
      simp [L__law_frac_1] at this
      simp [whL, L__law_frac_1, hb0, gMod_int h0]
      rw [this, Nat.gcd_comm a b, Nat.gcd_rec b a, Nat.gcd_comm]
theorem F_lfrac_norm {i : Int} {n : Nat} (hn : n ≠ 0) {k : Nat} (hk : n < 2 ^ k) (h9 : k ≤ 9000) : F__law_frac [.int i, .int n] = some (.fz (frD (Rat.normalize i n hn))) := by
  have h0 : 0 < k := by
    rcases Nat.eq_zero_or_pos k with h | h
    · subst h; omega
    · exact h
  have hg : 0 < Nat.gcd i.natAbs n := Nat.gcd_pos_of_pos_right _ (by omega)
  have hgl := gcd_lt (a := i.natAbs) (by omega : 0 < n) hk
  have hd : ∀ x, gDiv (.int x) (.int ((Nat.gcd i.natAbs n : Nat) : Int)) = some (.fz (.int (x / (Nat.gcd i.natAbs n : Nat)))) := fun x => gDiv_int (wide_div (by omega) (b := k) (by simpa using hgl) h0 h9)
  have hl := lfrac_loop (.fz (.int i)) (.fz (.int n)) (n + 1) n i.natAbs (by omega)
  have hn0 : (0 : Int) < n := by omega
  have hab : (if (n : Int) < 0 then -(n : Int) else (n : Int)) = (n : Int) := if_neg (by omega)
  simp only [F__law_frac, fnF, B__law_frac]
  rw [Rat.normalize_eq hn]
  have hn1 : ¬ ((n : Int) < 0) := by omega
  have hnp : 0 < n := by omega
  simp [abs_eq, muI, hl, -tTst]
  simp [hnp, hd, frD]
variable {p q : Rat} {a b : Nat}
theorem F_lplus_eq (hp : ht p a) (hq : ht q b) (h : a + b ≤ 8000) : F__law_plus [frD p, frD q] = some (.fz (frD (p + q))) := by
  have h1 : gMulA (.int p.num) (.int q.den) = some (.fz (.int (p.num * q.den))) := gMulA_int (mul_nd hp hq h)
  have h2 : gMulA (.int q.num) (.int p.den) = some (.fz (.int (q.num * p.den))) := gMulA_int (mul_nd hq hp (by omega))
  have h3 : gMulA (.int p.den) (.int q.den) = some (.fz (.int ((p.den * q.den : Nat) : Int))) := by
    rw [gMulA_int (mul_dd hp hq h), Int.natCast_mul]
  rw [Int.natCast_mul] at h3
  have h4 := F_lfrac_norm (i := p.num * q.den + q.num * p.den) (n := p.den * q.den) (Nat.mul_ne_zero p.den_nz q.den_nz) (k := a + b) (dd_lt hp hq) (by omega)
  rw [Int.natCast_mul] at h4
  rw [Rat.add_def]
  simp only [F__law_plus, fnF, B__law_plus]
  unfold frD at h4 ⊢
  simp [h1, h2, h3, h4]
theorem F_lminus_eq (hp : ht p a) (hq : ht q b) (h : a + b ≤ 8000) : F__law_minus [frD p, frD q] = some (.fz (frD (p - q))) := by
  have h1 : gMulA (.int p.num) (.int q.den) = some (.fz (.int (p.num * q.den))) := gMulA_int (mul_nd hp hq h)
  have h2 : gMulA (.int q.num) (.int p.den) = some (.fz (.int (q.num * p.den))) := gMulA_int (mul_nd hq hp (by omega))
  have h3 : gMulA (.int p.den) (.int q.den) = some (.fz (.int ((p.den * q.den : Nat) : Int))) := by
    rw [gMulA_int (mul_dd hp hq h), Int.natCast_mul]
  rw [Int.natCast_mul] at h3
  have h4 := F_lfrac_norm (i := p.num * q.den - q.num * p.den) (n := p.den * q.den) (Nat.mul_ne_zero p.den_nz q.den_nz) (k := a + b) (dd_lt hp hq) (by omega)
  rw [Int.natCast_mul] at h4
  rw [Rat.sub_def]
  simp only [F__law_minus, fnF, B__law_minus]
  unfold frD at h4 ⊢
  simp [h1, h2, h3, h4]
theorem F_ltimes_eq (hp : ht p a) (hq : ht q b) (h : a + b ≤ 8000) : F__law_times [frD p, frD q] = some (.fz (frD (p * q))) := by
  have h1 : gMulA (.int p.num) (.int q.num) = some (.fz (.int (p.num * q.num))) := gMulA_int (mul_nn hp hq h)
  have h3 : gMulA (.int p.den) (.int q.den) = some (.fz (.int ((p.den * q.den : Nat) : Int))) := by
    rw [gMulA_int (mul_dd hp hq h), Int.natCast_mul]
  rw [Int.natCast_mul] at h3
  have h4 := F_lfrac_norm (i := p.num * q.num) (n := p.den * q.den) (Nat.mul_ne_zero p.den_nz q.den_nz) (k := a + b) (dd_lt hp hq) (by omega)
  rw [Int.natCast_mul] at h4
  rw [Rat.mul_def]
  simp only [F__law_times, fnF, B__law_times]
  unfold frD at h4 ⊢
  simp [h1, h3, h4]
theorem F_lless_eq (hp : ht p a) (hq : ht q b) (h : a + b ≤ 8000) : F__law_less [frD p, frD q] = some (.fz (.bool (decide (p < q)))) := by
  have h1 : gMulA (.int p.num) (.int q.den) = some (.fz (.int (p.num * q.den))) := gMulA_int (mul_nd hp hq h)
  have h2 : gMulA (.int q.num) (.int p.den) = some (.fz (.int (q.num * p.den))) := gMulA_int (mul_nd hq hp (by omega))
  simp only [F__law_less, fnF, B__law_less]
  simp [frD, h1, h2, gLtA, Rat.lt_iff]
theorem norm_self (q : Rat) : Rat.normalize q.num q.den q.den_nz = q := Rat.normalize_self q
theorem F_lis_frac (hq : ht q a) (h : a ≤ 9000) : F__law_is_frac [frD q] = some (.fz (.bool true)) := by
  have h4 := F_lfrac_norm (i := q.num) q.den_nz hq.2 h
  rw [norm_self] at h4
  have hp : (0 : Int) < q.den := by have := q.den_pos; omega
  have he := gEq_fr q q
  have hd : frD q = .tuple [.int q.num, .int q.den] := rfl
  rw [hd] at h4 he ⊢
  simp only [F__law_is_frac, fnF, B__law_is_frac]
  have hp0 := q.den_pos
  simp [forL, L__law_is_frac_1, hp0, h4, he]
end DL
namespace DL
open PySem PySem.Spec PyProof.Rows L2
@[simp] theorem gEq_nm (a b : Nm) : gEq (nD a) (nD b) = some (.fz (.bool (decide (a = b)))) := by simp [gEq]
theorem F_lnames_eq {t : Tr} (h : t.sh.length ≤ 1000) : F__law_names [trD t] = some (.nw ((nmsOf t).map nD)) := by
  have hlc := lcL_all (vs := [1]) (G := gN 1) (P := cYes) (E := f2 gIx (fVar 1) (fC (PyData.int 0))) (enc := shD) (xs := t.sh) (fun x => nD x.1) (δ := [.fz (trD t), .un]) (by omega) (fun x hx => by simp [lStep, shD])
  have i0 : gIx (trD t) (.int 0) = some (.fz (.tuple (t.sh.map shD))) := rfl
  have e : (nmsOf t).map nD = t.sh.map fun x => nD x.1 := by unfold nmsOf; rw [List.map_map]; rfl
  rw [e]
  simp only [F__law_names, fnF, B__law_names]
  simp [i0, hlc]
theorem merge_fn {β : Type} {ev : β → D} (f : Nm → β) : ∀ (l pre : List Nm), (pre ++ l).Nodup → mergeD (fnD ev pre f) (fnD ev l f) = fnD ev (pre ++ l) f
  | [], pre, _ => by simp [fnD, mergeD]
  | n :: l, pre, h => by
    have hn : n ∉ pre := fun z => by
      rw [List.nodup_append] at h
      exact h.2.2 n z n (List.mem_cons_self ..) rfl
    have e := dput_new (enc := ev) (f := f) (b := f n) hn
    rw [upF_self] at e
    show mergeD (dput (fnD ev pre f) n.s (ev (f n))) (fnD ev l f) = _
    rw [e, merge_fn f l (pre ++ [n]) (by simpa using h)]
    simp
theorem F_lwishes_eq {t : Tr} (hn : (nmsOf t).Nodup) (h : t.sh.length ≤ 1000) : F__law_wishes [trD t] = some (.nd (fnD frD (nmsOf t) (wR t))) := by
  have hlc := lcL_all (vs := [1]) (G := gN 1) (P := cYes) (E := fTup (sCons (f2 gIx (fVar 1) (fC (PyData.int 0))) (sCons (fTup (sCons (f2 gIx (fVar 1) (fC (PyData.int 1))) (sCons (fC (PyData.int 1)) sNil))) sNil))) (enc := shD) (xs := t.sh) (fun x => .tuple [nD x.1, frD (x.2.1 : Rat)]) (δ := [.fz (trD t), .un]) (by omega) (fun x hx => by simp [lStep, shD, frD_lit])
  have i0 : gIx (trD t) (.int 0) = some (.fz (.tuple (t.sh.map shD))) := rfl
  have hp : ∀ l : List Sh, pairsOf (l.map fun x => .tuple [nD x.1, frD (x.2.1 : Rat)]) = some (l.map fun x => (x.1.s, frD (x.2.1 : Rat))) := by
    intro l
    induction l with
    | nil => rfl
    | cons x l ih =>
      show (pairOf _).bind _ = _
      rw [ih]
      rfl
  have e : fnD frD (nmsOf t) (wR t) = t.sh.map fun x => (x.1.s, frD (x.2.1 : Rat)) := by
    unfold fnD nmsOf
    rw [List.map_map]
    refine List.map_congr_left fun x hx => ?_
    simp only [Function.comp, wR]
    rw [wiOf_mem hn hx]
  have hm := merge_fn (ev := frD) (wR t) (nmsOf t) [] (by simpa using hn)
  have e0 : fnD frD ([] : List Nm) (wR t) = [] := rfl
  rw [e0, e, List.nil_append, e] at hm
  rw [e]
  simp only [F__law_wishes, fnF, B__law_wishes]
  simp [i0, hlc, gDictP, hp, hm]
/-! ### the law's side is the program's -/
theorem F_lside_eq {cl : List Cl} {cd : D} (b : Nm) (hl : cl.length ≤ 1000) (hcd : wk cd = some (cl.map clD)) : F__law_side [cd, nD b] = some (.nw ((sideOf cl b).map nD)) := by
  let Q : List Nm → Dn → Prop := fun f δ => Grown (b :: endsOf cl) f ∧ ∃ j3 j4, δ = [.fz cd, .fz (nD b), .ow (f.map nD), j3, j4]
  have inner : ∀ f δ, Q f δ → ∃ δ', forL (gN 4) L__law_side_1 (cl.map clD) δ = some (.nx δ') ∧ Q (cl.foldl sideStep f) δ' := by
    intro f δ q
    refine forL_fold Q sideStep q fun f δ c hc q => ?_
    obtain ⟨g, j3, j4, rfl⟩ := q
    have hf : f.length ≤ 1000000 := by
      have := g.len
      have e := endsOf_len cl
      simp only [List.length_cons] at this
      omega
    have g' := grown_step (c := c) g (List.mem_cons_of_mem _ (ends_mem hc).1) (List.mem_cons_of_mem _ (ends_mem hc).2)
    refine ⟨[.fz cd, .fz (nD b), .ow ((sideStep f c).map nD), j3, .fz (clD c)], .inl ?_, g', _, _, rfl⟩
    have g0 : gIx (clD c) (.int 0) = some (.fz (nD c.1)) := rfl
    have g1 : gIx (clD c) (.int 1) = some (.fz (nD c.2.1)) := rfl
    have n0 : ∀ f : List Nm, gNotIn (nD c.1) (.list (f.map nD)) = some (.fz (.bool (!decide (c.1 ∈ f)))) := fun f => gNotIn_nm c.1 f
    by_cases h1 : c.1 ∈ f
    · by_cases h2 : c.2.1 ∈ f
      · simp [fStep, L__law_side_1, g0, g1, sideStep, h1, h2, hf]
      · have m2 := gInA_nm c.2.1 (f ++ [c.2.1])
        have m1 := gNotIn_nm c.1 (f ++ [c.2.1])
        rw [List.map_append] at m1 m2
        simp [h1] at m1 m2
        simp [fStep, L__law_side_1, g0, g1, sideStep, h1, h2, hf, m1, m2]
    · by_cases h2 : c.2.1 ∈ f
      · simp [fStep, L__law_side_1, g0, g1, sideStep, h1, h2, hf]
      · simp [fStep, L__law_side_1, g0, g1, sideStep, h1, h2, hf]
  have outer : ∃ δ', forL (gN 3) L__law_side_2 (cl.map clD) [.fz cd, .fz (nD b), .ow [nD b], .un, .un] = some (.nx δ') ∧ Q (sideOf cl b) δ' := by
    refine forL_fold Q (fun f _ => cl.foldl sideStep f) ⟨⟨by simp, by simp⟩, _, _, rfl⟩ fun f δ c hc q => ?_
    obtain ⟨g, j3, j4, rfl⟩ := q
    obtain ⟨δ', h1, h2⟩ := inner f [.fz cd, .fz (nD b), .ow (f.map nD), .fz (clD c), j4] ⟨g, _, _, rfl⟩
    refine ⟨δ', .inl ?_, h2⟩
    simp [fStep, L__law_side_2, hcd, h1]
  obtain ⟨δ', h1, g, j3, j4, rfl⟩ := outer
  simp only [F__law_side, fnF, B__law_side]
  simp [hcd, h1]
/-! ### due carries -/
def dueOf (t : Tr) (w x : Nm → Rat) (e : Cl) : Rat := sm (sideOf (t.cl.filter (notC e)) e.1) fun n => sR t n * (w n - x n)
def dueD (t : Tr) (w x : Nm → Rat) (e : Cl) : D := .tuple [nD e.1, nD e.2.1, frD (dueOf t w x e)]
theorem filter_one {t : Tr} (hn : (nmsOf t).Nodup) {n : Nm} (h : n ∈ nmsOf t) : (t.sh.filter fun x => decide (x.1 = n)).map (fun x => PyData.int x.2.2) = [.int (stOf t n)] := by
  obtain ⟨x, hx, rfl⟩ := List.mem_map.mp h
  have hs := stOf_mem hn hx
  rw [hs]
  clear hs h
  unfold nmsOf at hn
  generalize t.sh = l at *
  induction l with
  | nil => cases hx
  | cons y l ih =>
    rw [List.map_cons, List.nodup_cons] at hn
    rcases List.mem_cons.mp hx with rfl | hx
    · have : l.filter (fun z => decide (z.1 = x.1)) = [] := List.filter_eq_nil_iff.mpr fun z hz => by
        simp
        exact fun e => hn.1 (e ▸ List.mem_map.mpr ⟨z, hz, rfl⟩)
      simp [this]
    · have : ¬ y.1 = x.1 := fun e => hn.1 (e ▸ List.mem_map.mpr ⟨x, hx, rfl⟩)
      rw [List.filter_cons_of_neg (by simpa using this)]
      exact ih hn.2 hx
theorem F_ldue_eq {t : Tr} {w x : Nm → Rat} (ok : TrOk t) (hw : ∀ n ∈ nmsOf t, ht (w n) 30) (hx : ∀ n ∈ nmsOf t, ht (x n) 500) :
    F__law_due_carries [trD t, dictD (fnD frD (nmsOf t) x), dictD (fnD frD (nmsOf t) w)] = some (.nw (t.cl.map (dueD t w x))) ∧ ∀ e ∈ t.cl, ht (dueOf t w x e) 3409 := by
  have i0 : gIx (trD t) (.int 0) = some (.fz (.tuple (t.sh.map shD))) := rfl
  have i1 : gIx (trD t) (.int 1) = some (.fz (.tuple (t.cl.map clD))) := rfl
  have itm : ∀ n ∈ nmsOf t, ht (sR t n * (w n - x n)) 535 := fun n hn => (ht_mul (st_ht ok hn) (ht_sub (hw n hn) (hx n hn))).up (by decide)
  have sum_ht : ∀ (l : List Nm) (a : Rat) (b : Nat), (∀ n ∈ l, n ∈ nmsOf t) → ht a b → ht (l.foldl (fun a n => a + sR t n * (w n - x n)) a) (b + l.length * 536) := by
    intro l
    induction l with
    | nil => intro a b _ h; simpa using h
    | cons n l ih =>
      intro a b hl ha
      have h1 := ih _ _ (fun m hm => hl m (List.mem_cons_of_mem _ hm)) (ht_add ha (itm n (hl n (List.mem_cons_self ..))))
      rw [List.foldl_cons, List.length_cons]
      refine h1.up ?_
      rw [Nat.succ_mul]
      omega
  have hside : ∀ e ∈ t.cl, (sideOf (t.cl.filter (notC e)) e.1).length ≤ 6 ∧ ∀ n ∈ sideOf (t.cl.filter (notC e)) e.1, n ∈ nmsOf t := fun e he =>
    ⟨side6 ok (fun d hd => ok.ends d (List.mem_filter.mp hd).1) (ok.ends e he).1, side_sub (fun d hd => ok.ends d (List.mem_filter.mp hd).1) (ok.ends e he).1⟩
  have sum_eq : ∀ l : List Nm, l.foldl (fun a n => a + sR t n * (w n - x n)) 0 = sm l fun n => sR t n * (w n - x n) := fun l => by
    rw [foldl_sm]
    grind
  have due_ht : ∀ e ∈ t.cl, ht (dueOf t w x e) 3409 := fun e he => by
    obtain ⟨h1, h2⟩ := hside e he
    have := sum_ht _ 0 1 h2 ht_zero
    rw [sum_eq] at this
    refine this.up ?_
    omega
  refine ⟨?_, due_ht⟩
  -- the inner loop
  have inner : ∀ (l : List Nm), l.length ≤ 6 → (∀ n ∈ l, n ∈ nmsOf t) → ∀ (s3 j4 j6 j7 : Sl), ∃ j6' j7', forL (gN 6) L__law_due_carries_1 (l.map nD) [.fz (trD t), .fz (dictD (fnD frD (nmsOf t) x)), .fz (dictD (fnD frD (nmsOf t) w)), s3, j4, .fz (frD 0), j6, j7, .un] = some (.nx [.fz (trD t), .fz (dictD (fnD frD (nmsOf t) x)), .fz (dictD (fnD frD (nmsOf t) w)), s3, j4, .fz (frD (l.foldl (fun a n => a + sR t n * (w n - x n)) 0)), j6', j7', .un]) := by
    intro l hl hm s3 j4 j6 j7
    let Q : Nat → Rat → Dn → Prop := fun k b δ => ht b (1 + k * 536) ∧ ∃ j6 j7, δ = [.fz (trD t), .fz (dictD (fnD frD (nmsOf t) x)), .fz (dictD (fnD frD (nmsOf t) w)), s3, j4, .fz (frD b), j6, j7, .un]
    have key := forL_foldN (G := gN 6) (B := L__law_due_carries_1) (enc := nD) (xs := l) 6 Q (fun a n => a + sR t n * (w n - x n)) (k := 0) (b := 0) (by omega) ⟨ht_zero, j6, j7, rfl⟩ (by
      rintro k q δ n hn hk6 ⟨hq, j, j', rfl⟩
      have hn' := hm n hn
      have d1 := dget_fn (enc := frD) (f := w) hn'
      have d2 := dget_fn (enc := frD) (f := x) hn'
      have e1 : gIx (dictD (fnD frD (nmsOf t) w)) (nD n) = some (.fz (frD (w n))) := by rw [nD, gIx_dict, d1]; rfl
      have e2 : gIx (dictD (fnD frD (nmsOf t) x)) (nD n) = some (.fz (frD (x n))) := by rw [nD, gIx_dict, d2]; rfl
      have t0 := F_lminus_eq (hw n hn') (hx n hn') (by decide)
      have t1 := F_ltimes_eq (st_ht ok hn') (ht_sub (hw n hn') (hx n hn')) (by decide)
      have t2 := F_lplus_eq hq (itm n hn') (by omega)
      rw [frD_lit] at t1
      have hlc := lcL_enc (vs := [8]) (G := gN 8) (P := tTst (f2 gEq (f2 gIx (fVar 8) (fC (PyData.int 0))) (fVar 6))) (E := f2 gIx (fVar 8) (fC (PyData.int 2))) (enc := shD) (fun y => decide (y.1 = n)) (fun y => .int y.2.2) (δ := [.fz (trD t), .fz (dictD (fnD frD (nmsOf t) x)), .fz (dictD (fnD frD (nmsOf t) w)), s3, j4, .fz (frD q), .fz (nD n), j', .un]) (xs := t.sh) (acc := []) (by have := ok.l1; simp; omega) (fun y hy => by
        by_cases e : y.1 = n <;> simp [lStep, shD, e])
      rw [List.nil_append, filter_one ok.nd hn'] at hlc
      refine ⟨[.fz (trD t), .fz (dictD (fnD frD (nmsOf t) x)), .fz (dictD (fnD frD (nmsOf t) w)), s3, j4, .fz (frD (q + sR t n * (w n - x n))), .fz (nD n), .fz (.int (stOf t n)), .un], .inl ?_, (ht_add hq (itm n hn')).up (by omega), _, _, rfl⟩
      have t1' : F__law_times [PyData.tuple [PyData.int (stOf t n), PyData.int 1], frD (w n - x n)] = some (.fz (frD (sR t n * (w n - x n)))) := t1
      have at0 : atI [PyData.int (stOf t n)] 0 = some (.int (stOf t n)) := rfl
      simp [fStep, L__law_due_carries_1, i0, hlc, at0, e1, e2, t0, t1', t2])
    obtain ⟨δ', h1, _, j, j', rfl⟩ := key
    exact ⟨j, j', h1⟩
  let Q : Nat → List D → Dn → Prop := fun k b δ => b.length = k ∧ ∃ j4 j5 j6 j7, δ = [.fz (trD t), .fz (dictD (fnD frD (nmsOf t) x)), .fz (dictD (fnD frD (nmsOf t) w)), .ow b, j4, j5, j6, j7, .un]
  have key := forL_foldN (G := gN 4) (B := L__law_due_carries_2) (enc := clD) (xs := t.cl) 5 Q (fun b e => b ++ [dueD t w x e]) (k := 0) (b := []) (δ := [.fz (trD t), .fz (dictD (fnD frD (nmsOf t) x)), .fz (dictD (fnD frD (nmsOf t) w)), .ow [], .un, .un, .un, .un, .un]) (by have := ok.l2; omega) ⟨rfl, _, _, _, _, rfl⟩ (by
    rintro k b δ e he hk5 ⟨hb, a4, a5, a6, a7, rfl⟩
    obtain ⟨h1, h2⟩ := hside e he
    have hlen : (t.cl.filter (notC e)).length ≤ 1000 := by
      have := List.length_filter_le (notC e) t.cl
      have := ok.l2
      omega
    have hlc := lcL_enc (vs := [8]) (G := gN 8) (P := tTst (f2 gNe (fVar 8) (fVar 4))) (E := fVar 8) (enc := clD) (notC e) clD (δ := [.fz (trD t), .fz (dictD (fnD frD (nmsOf t) x)), .fz (dictD (fnD frD (nmsOf t) w)), .ow b, .fz (clD e), .fz (frD 0), a6, a7, .un]) (xs := t.cl) (acc := []) (by have := ok.l2; simp; omega) (fun d hd => by by_cases h : d = e <;> simp [lStep, h, notC])
    rw [List.nil_append] at hlc
    have hs := F_lside_eq (cl := t.cl.filter (notC e)) (cd := .list ((t.cl.filter (notC e)).map clD)) e.1 hlen rfl
    obtain ⟨j6, j7, hin⟩ := inner _ h1 h2 (.ow b) (.fz (clD e)) a6 a7
    rw [sum_eq] at hin
    have g0 : gIx (clD e) (.int 0) = some (.fz (nD e.1)) := rfl
    have g1 : gIx (clD e) (.int 1) = some (.fz (nD e.2.1)) := rfl
    have hbl : b.length ≤ 1000000 := by omega
    refine ⟨[.fz (trD t), .fz (dictD (fnD frD (nmsOf t) x)), .fz (dictD (fnD frD (nmsOf t) w)), .ow (b ++ [dueD t w x e]), .fz (clD e), .fz (frD (dueOf t w x e)), j6, j7, .un], .inl ?_, by simp [hb], _, _, _, _, rfl⟩
    rw [frD_zero] at hlc hin
    simp [fStep, L__law_due_carries_2, i1, hlc, g0, g1, hs, hin, hbl, dueD, dueOf])
  obtain ⟨δ', h1, _, a4, a5, a6, a7, rfl⟩ := key
  have aux : ∀ (l : List Cl) (b : List D), l.foldl (fun b e => b ++ [dueD t w x e]) b = b ++ l.map (dueD t w x) := by
    intro l
    induction l with
    | nil => intro b; simp
    | cons p l ih => intro b; rw [List.foldl_cons, ih]; simp
  rw [aux, List.nil_append] at h1
  simp only [F__law_due_carries, fnF, B__law_due_carries]
  simp [i1, h1]
end DL
namespace DL
open PySem PySem.Spec PyProof.Rows L2
/-! ### where none slips -/
abbrev z0 (t : Tr) : List Int := t.cl.map fun _ => 0
def x0 (t : Tr) : Nm → Rat := turnOf t (z0 t) (wR t)
theorem way0 {t : Tr} (hn : t.cl.Nodup) {e : Cl} (he : e ∈ t.cl) : wayOf t.cl (z0 t) e = 0 := way_map hn (fun _ => 0) e he
theorem held0 {t : Tr} (hn : t.cl.Nodup) : heldOf t (z0 t) = t.cl := by
  rw [held_eq hn (by simp)]
  refine List.filter_eq_self.mpr fun e he => ?_
  rw [way0 hn he]
  rfl
theorem came0 {t : Tr} (hb : Br t.cl) (n : Nm) : cameOf t (z0 t) n = 0 := by
  have h := came_eq (σ := z0 t) hb (by simp) n
  rw [sm_zero fun e he => by rw [way0 hb.nodup he]; simp] at h
  have : ((cameOf t (z0 t) n : Int) : Rat) = ((0 : Int) : Rat) := by rw [h]; simp
  exact Rat.intCast_inj.mp this
theorem due_c0 {t : Tr} (ok : TrOk t) (hb : Br t.cl) {e : Cl} (he : e ∈ t.cl) : dueOf t (wR t) (x0 t) e = c0 t e := by
  unfold c0 cR carOf dueOf
  rw [if_pos (way0 hb.nodup he)]
  unfold totOf
  rw [foldl_sm, held0 hb.nodup]
  have : sm (sideOf (t.cl.filter (notC e)) e.1) (item t (fun n => wR t n - turnOf t (z0 t) (wR t) n) (cameOf t (z0 t))) = sm (sideOf (t.cl.filter (notC e)) e.1) fun n => sR t n * (wR t n - x0 t n) := sm_congr fun n _ => by
    unfold item sR x0
    rw [came0 hb]
    simp
    grind
  rw [← this]
  exact (Rat.zero_add _).symm
@[simp] theorem ints_fun {α : Type} (g : α → Int) (xs : List α) : intsD (xs.map fun x => PyData.int (g x)) = some (xs.map g) := by
  have := ints_map (xs.map g)
  rwa [List.map_map] at this
def sideSh (t : Tr) (n : Nm) : List Sh := t.sh.filter fun x => decide (x.1 ∈ sideOf t.cl n)
theorem sum_cast {α : Type} (g : α → Int) (xs : List α) : (((xs.map g).sum : Int) : Rat) = sm xs fun x => (g x : Rat) := by
  induction xs with
  | nil => simp
  | cons x xs ih => simp [ih]
theorem sideSh_sm {t : Tr} (ok : TrOk t) (n : Nm) (f : Nm → Rat) : sm (sideSh t n) (fun x => f x.1) = sI (nmsOf t) (Conn t.cl n) f := by
  unfold sideSh sI nmsOf
  rw [sm_filter, sm_map]
  refine sm_congr fun x _ => ?_
  by_cases h : x.1 ∈ sideOf t.cl n
  · rw [if_pos ((side_conn _ _ _).mp h)]; simp [h]
  · rw [if_neg fun z => h ((side_conn _ _ _).mpr z)]; simp [h]
theorem sum_bd {α : Type} {g : α → Int} {xs : List α} {lo hi : Int} (h : ∀ x ∈ xs, lo ≤ g x ∧ g x ≤ hi) : lo * xs.length ≤ (xs.map g).sum ∧ (xs.map g).sum ≤ hi * xs.length := by
  induction xs with
  | nil => simp
  | cons x xs ih =>
    have h1 := h x (List.mem_cons_self ..)
    have h2 := ih fun y hy => h y (List.mem_cons_of_mem _ hy)
    simp only [List.map_cons, List.sum_cons, List.length_cons]
    rw [Int.natCast_add, Int.mul_add, Int.mul_add]
    omega
theorem x0_frac {t : Tr} (ok : TrOk t) (hb : Br t.cl) {n : Nm} (hn : n ∈ nmsOf t) :
    F__law_frac [.int ((sideSh t n).map fun x => x.2.1 * x.2.2).sum, .int ((sideSh t n).map fun x => x.2.2).sum] = some (.fz (frD (x0 t n))) := by
  have hmem : ∀ x ∈ sideSh t n, x ∈ t.sh := fun x hx => (List.mem_filter.mp hx).1
  have hlen : (sideSh t n).length ≤ 6 := Nat.le_trans (List.length_filter_le ..) ok.l1
  have hB := sum_bd (g := fun x : Sh => x.2.2) (xs := sideSh t n) (lo := 1) (hi := 9) fun x hx => ok.st x (hmem x hx)
  have hpos : 1 ≤ (sideSh t n).length := by
    obtain ⟨x, hx, rfl⟩ := List.mem_map.mp hn
    have : x ∈ sideSh t x.1 := List.mem_filter.mpr ⟨hx, by simpa using (side_conn _ _ _).mpr (.refl _)⟩
    exact List.length_pos_of_mem this
  have cB : ((((sideSh t n).map fun x => x.2.2).sum : Int) : Rat) = sI (nmsOf t) (Conn t.cl n) (sR t) := by
    rw [sum_cast, ← sideSh_sm ok]
    refine sm_congr fun x hx => ?_
    unfold sR
    rw [stOf_mem ok.nd (hmem x hx)]
  have cA : ((((sideSh t n).map fun x => x.2.1 * x.2.2).sum : Int) : Rat) = sI (nmsOf t) (Conn t.cl n) fun m => sR t m * wR t m := by
    rw [sum_cast, ← sideSh_sm ok]
    refine sm_congr fun x hx => ?_
    unfold sR wR
    rw [stOf_mem ok.nd (hmem x hx), wiOf_mem ok.nd (hmem x hx), Rat.intCast_mul, Rat.mul_comm]
  have hm := turn_mul (w := wR t) (σ := z0 t) ok hn
  rw [held0 hb.nodup] at hm
  have hi : sI (nmsOf t) (Conn t.cl n) (item t (wR t) (cameOf t (z0 t))) = sI (nmsOf t) (Conn t.cl n) fun m => sR t m * wR t m := sI_congrF fun m _ _ => by
    unfold item sR
    rw [came0 hb]
    simp
    grind
  rw [hi, ← cA, ← cB] at hm
  have hm' : x0 t n * ((((sideSh t n).map fun x => x.2.2).sum : Int) : Rat) = _ := hm
  generalize ((sideSh t n).map fun x => x.2.1 * x.2.2).sum = A at *
  generalize ((sideSh t n).map fun x => x.2.2).sum = B at *
  obtain ⟨m, rfl⟩ : ∃ m : Nat, B = m := ⟨B.toNat, by omega⟩
  have hm0 : m ≠ 0 := by omega
  rw [F_lfrac_norm hm0 (k := 100) (by omega) (by decide), Rat.normalize_eq_mkRat, Rat.mkRat_eq_div]
  have d : ((m : Int) : Rat) ≠ 0 := by
    intro h
    have : ((m : Int) : Rat) = ((0 : Int) : Rat) := by rw [h]; simp
    have := Rat.intCast_inj.mp this
    omega
  have y := Rat.div_mul_cancel (a := (A : Rat)) d
  have e : ((m : Nat) : Rat) = ((m : Int) : Rat) := rfl
  rw [e]
  congr 3
  have : (A / ((m : Int) : Rat) - x0 t n) * ((m : Int) : Rat) = 0 := by grind
  rcases Rat.mul_eq_zero.mp this with h | h
  · grind
  · exact (d h).elim
theorem x0_ht {t : Tr} (ok : TrOk t) : ∀ n ∈ nmsOf t, ht (x0 t n) 487 := fun n hn => turn_ht ok (st0_ok t.cl) (kw := 20) (by decide) (w_ht ok) hn
theorem best_names {t : Tr} (ok : TrOk t) (hb : Br t.cl) (b : D) (s6 s7 s8 s9 s10 : Sl) : ∀ (l pre : List Nm) (j3 j4 j5 : Sl), pre ++ l = nmsOf t →
    ∃ j3' j4' j5', forL (gN 3) L__law_best_1 (l.map nD) [.fz (trD t), .fz b, .od (fnD frD pre (x0 t)), j3, j4, .un, s6, s7, s8, s9, s10] = some (.nx [.fz (trD t), .fz b, .od (fnD frD (nmsOf t) (x0 t)), j3', j4', j5', s6, s7, s8, s9, s10])
  | [], pre, j3, j4, j5, h => by
    rw [List.append_nil] at h
    subst h
    exact ⟨j3, j4, .un, rfl⟩
  | n :: l, pre, j3, j4, j5, h => by
    have hn : n ∈ nmsOf t := by rw [← h]; simp
    have hnp : n ∉ pre := fun z => by
      have := ok.nd
      rw [← h, List.nodup_append] at this
      exact this.2.2 n z n (List.mem_cons_self ..) rfl
    have i0 : gIx (trD t) (.int 0) = some (.fz (.tuple (t.sh.map shD))) := rfl
    have i1 : gIx (trD t) (.int 1) = some (.fz (clsD t.cl)) := rfl
    have hside := F_lside_eq (cl := t.cl) (cd := clsD t.cl) n (by have := ok.l2; omega) rfl
    have hl1 := ok.l1
    let δ1 : Dn := [.fz (trD t), .fz b, .od (fnD frD pre (x0 t)), .fz (nD n), j4, .un, s6, s7, s8, s9, s10]
    let δ2 : Dn := [.fz (trD t), .fz b, .od (fnD frD pre (x0 t)), .fz (nD n), .fz (.list ((sideSh t n).map shD)), .un, s6, s7, s8, s9, s10]
    have l1 := lcL_enc (vs := [5]) (G := gN 5) (P := tTst (f2 gInA (f2 gIx (fVar 5) (fC (PyData.int 0))) (fF F__law_side (sCons (f2 gIx (fVar 0) (fC (PyData.int 1))) (sCons (fVar 3) sNil))))) (E := fVar 5) (enc := shD) (fun x => decide (x.1 ∈ sideOf t.cl n)) shD (δ := δ1) (xs := t.sh) (acc := []) (by simp; omega) (fun x hx => by
      have g0 : gIx (shD x) (.int 0) = some (.fz (nD x.1)) := rfl
      by_cases hm : x.1 ∈ sideOf t.cl n <;> simp [lStep, δ1, g0, i1, hside, hm])
    rw [List.nil_append] at l1
    have l1' : lcL [5] (gN 5) (tTst (f2 gInA (f2 gIx (fVar 5) (fC (PyData.int 0))) (fF F__law_side (sCons (f2 gIx (fVar 0) (fC (PyData.int 1))) (sCons (fVar 3) sNil))))) (fVar 5) (t.sh.map shD) [] δ1 = some ((sideSh t n).map shD, δ1) := l1
    have hsl : (sideSh t n).length ≤ 6 := Nat.le_trans (List.length_filter_le ..) ok.l1
    have hmem : ∀ x ∈ sideSh t n, x ∈ t.sh := fun x hx => (List.mem_filter.mp hx).1
    have l2 := lcL_all (vs := [5]) (G := gN 5) (P := cYes) (E := f2 gMulA (f2 gIx (fVar 5) (fC (PyData.int 1))) (f2 gIx (fVar 5) (fC (PyData.int 2)))) (enc := shD) (fun x => .int (x.2.1 * x.2.2)) (δ := δ2) (xs := sideSh t n) (by omega) (fun x hx => by
      have hw := ok.wi x (hmem x hx)
      have hst := ok.st x (hmem x hx)
      have hm : gMulA (.int x.2.1) (.int x.2.2) = some (.fz (.int (x.2.1 * x.2.2))) := gMulA_int (wide_mul (a := 40) (b := 40) (by omega) (by omega) (by decide) (by decide) (by decide))
      simp [lStep, δ2, shD, hm])
    have l3 := lcL_all (vs := [5]) (G := gN 5) (P := cYes) (E := f2 gIx (fVar 5) (fC (PyData.int 2))) (enc := shD) (fun x => .int x.2.2) (δ := δ2) (xs := sideSh t n) (by omega) (fun x hx => by simp [lStep, δ2, shD])
    have hfr := x0_frac ok hb hn
    have hput := dput_new (enc := frD) (f := x0 t) (b := x0 t n) hnp
    rw [upF_self] at hput
    have hpl : pre.length ≤ 1000000 := by
      have := nms_len ok
      rw [← h] at this
      simp at this
      omega
    obtain ⟨a3, a4, a5, ih⟩ := best_names ok hb b s6 s7 s8 s9 s10 l (pre ++ [n]) (.fz (nD n)) (.fz (.list ((sideSh t n).map shD))) .un (by rw [List.append_assoc]; exact h)
    refine ⟨a3, a4, a5, ?_⟩
    rw [List.map_cons, forL_cons, ← ih]
    have hst : fStep (gN 3) L__law_best_1 (nD n) [.fz (trD t), .fz b, .od (fnD frD pre (x0 t)), j3, j4, .un, s6, s7, s8, s9, s10] = some (.nx [.fz (trD t), .fz b, .od (fnD frD (pre ++ [n]) (x0 t)), .fz (nD n), .fz (.list ((sideSh t n).map shD)), .un, s6, s7, s8, s9, s10]) := by
      simp only [δ1] at l1'
      simp only [δ2] at l2 l3
      rw [← hput]
      simp [fStep, L__law_best_1, i0, l1', l2, l3, hfr]
      simp [putAt, nD, hpl]
    rw [hst]
    rfl
end DL
namespace DL
open PySem PySem.Spec PyProof.Rows L2
theorem F_lbest_eq {t : Tr} (ok : TrOk t) (hb : Br t.cl) : F__law_best [trD t] = some (.fz (optD (bestOf t.cl (c0 t)))) := by
  have hnames := F_lnames_eq (t := t) (by have := ok.l1; omega)
  have hwish := F_lwishes_eq ok.nd (by have := ok.l1; omega)
  obtain ⟨hdue, _⟩ := F_ldue_eq (w := wR t) (x := x0 t) ok (fun n hn => (w_ht ok n hn).up (by decide)) (fun n hn => (x0_ht ok n hn).up (by decide))
  have hdm : t.cl.map (dueD t (wR t) (x0 t)) = t.cl.map fun e => .tuple [nD e.1, nD e.2.1, frD (c0 t e)] := List.map_congr_left fun e he => by
    unfold dueD
    rw [due_c0 ok hb he]
  rw [hdm] at hdue
  have hc := c0_ht ok hb
  obtain ⟨a3, a4, a5, hn⟩ := best_names ok hb (frD 0) .un .un .un .un .un (nmsOf t) [] .un .un .un rfl
  have e0 : fnD frD ([] : List Nm) (x0 t) = [] := rfl
  rw [e0] at hn
  let dr : Cl → Bool := fun e => decide (e.2.2 = 0) && !decide (c0 t e = 0)
  let Q : Rat → Dn → Prop := fun b δ => ht b 3450 ∧ ∃ j3 j4 j5 j6 j7 j8 j9 j10, δ = [.fz (trD t), .fz (frD b), .fz (dictD (fnD frD (nmsOf t) (x0 t))), j3, j4, j5, j6, j7, j8, j9, j10]
  have key := forL_foldE (G := gT 2 (gsCons (gT 3 (gsCons (gN 5) (gsCons (gN 6) (gsCons (gN 7) gsNil)))) (gsCons (gN 8) gsNil))) (B := L__law_best_2) (enc := fun e : Cl => .tuple [clD e, .tuple [nD e.1, nD e.2.1, frD (c0 t e)]]) (xs := t.cl) Q (bestStep (c0 t)) dr .none (b := 0) (δ := [.fz (trD t), .fz (frD 0), .fz (dictD (fnD frD (nmsOf t) (x0 t))), a3, a4, a5, .un, .un, .un, .un, .un]) ⟨ht_zero.up (by decide), _, _, _, _, _, _, _, _, rfl⟩ (by
    rintro b δ e he ⟨hbt, j3, j4, j5, j6, j7, j8, j9, j10, rfl⟩
    have hce := hc e he
    have hab := absR_ht hce
    have hd0 := (ok.dr e he).1
    have hab0 : absR (c0 t e) = 0 ↔ c0 t e = 0 := by unfold absR; split <;> grind
    have hfr : frD (c0 t e) = .tuple [.int (c0 t e).num, .int (c0 t e).den] := rfl
    have hnz : c0 t e = 0 ↔ (c0 t e).num = 0 := by
      constructor
      · intro h; rw [h]; rfl
      · exact fun h => Rat.num_eq_zero.mp h
    have han := absR_num (c0 t e)
    have g2 : gIx (.tuple [nD e.1, nD e.2.1, frD (c0 t e)]) (.int 2) = some (.fz (frD (c0 t e))) := rfl
    have g0 : gIx (frD (c0 t e)) (.int 0) = some (.fz (.int (c0 t e).num)) := rfl
    have g1 : gIx (frD (c0 t e)) (.int 1) = some (.fz (.int (c0 t e).den)) := rfl
    by_cases hd : e.2.2 = 0
    · have hbs : bestStep (c0 t) b e = b := by unfold bestStep; rw [if_pos hd]
      by_cases hz : c0 t e = 0
      · have hs : dr e = false := by simp [dr, hd, hz]
        rw [hs, if_neg Bool.false_ne_true]
        refine ⟨[.fz (trD t), .fz (frD (bestStep (c0 t) b e)), .fz (dictD (fnD frD (nmsOf t) (x0 t))), j3, j4, .fz (nD e.1), .fz (nD e.2.1), .fz (.int e.2.2), .fz (.tuple [nD e.1, nD e.2.1, frD (c0 t e)]), .fz (frD (absR (c0 t e))), j10], ?_, by rw [hbs]; exact hbt, _, _, _, _, _, _, _, _, rfl⟩
        have hz' := hnz.mp hz
        rw [hbs, han]
        simp [fStep, L__law_best_2, clD, g2, g0, g1, hd, hz']
      · have hs : dr e = true := by simp [dr, hd, hz]
        rw [hs, if_pos rfl]
        have hz' : (c0 t e).num ≠ 0 := fun z => hz (hnz.mpr z)
        refine ⟨[.fz (trD t), .fz (frD b), .fz (dictD (fnD frD (nmsOf t) (x0 t))), j3, j4, .fz (nD e.1), .fz (nD e.2.1), .fz (.int e.2.2), .fz (.tuple [nD e.1, nD e.2.1, frD (c0 t e)]), .fz (frD (absR (c0 t e))), j10], ?_⟩
        rw [han]
        have hpos : 0 < (if (c0 t e).num < 0 then -(c0 t e).num else (c0 t e).num) := by split <;> omega
        simp [fStep, L__law_best_2, clD, g2, g0, g1, hd, hpos]
    · have hs : dr e = false := by simp [dr, hd]
      rw [hs, if_neg Bool.false_ne_true]
      have h41 := dr_ht ok he
      have hposI : 0 < e.2.2 := by omega
      have hpos : (0 : Rat) < (e.2.2 : Rat) := by
        have h : ((0 : Int) : Rat) < (e.2.2 : Rat) := by rw [Rat.intCast_lt_intCast]; omega
        simpa using h
      obtain ⟨_, f2⟩ := F_shared_eq hab h41 (by decide) hpos
      have f3 := F_lless_eq hbt f2 (by decide)
      obtain ⟨hnn, en, enn⟩ := div_norm (p := absR (c0 t e)) hpos
      have hq : ((e.2.2 : Int) : Rat).den = 1 := Rat.den_intCast _
      have hqn : ((e.2.2 : Int) : Rat).num = e.2.2 := Rat.num_intCast _
      have hden : (absR (c0 t e)).den = (c0 t e).den := by
        have := congrArg (fun d => match d with | PyData.tuple [_, .int j] => j | _ => 0) han
        simp [frD] at this
        exact_mod_cast this
      have hnum : (absR (c0 t e)).num = if (c0 t e).num < 0 then -(c0 t e).num else (c0 t e).num := by
        have := congrArg (fun d => match d with | PyData.tuple [.int j, _] => j | _ => 0) han
        simpa [frD] using this
      have hl : (absR (c0 t e)).den * ((e.2.2 : Int) : Rat).num.toNat < 2 ^ 3450 := by
        have h1 : (absR (c0 t e)).den * ((e.2.2 : Int) : Rat).num.toNat < 2 ^ (3409 + 41) := by
          rw [Nat.pow_add]
          exact Nat.mul_lt_mul'' hab.2 (num_ht h41 (by rw [hqn]; exact hposI))
        exact h1
      have h4 := F_lfrac_norm (i := (absR (c0 t e)).num * ((e.2.2 : Int) : Rat).den) hnn (k := 3450) hl (by decide)
      rw [← en, hq, Int.natCast_mul, enn, hqn, hden, hnum] at h4
      have h4' : F__law_frac [.int (if (c0 t e).num < 0 then -(c0 t e).num else (c0 t e).num), .int ((c0 t e).den * e.2.2)] = some (.fz (frD (absR (c0 t e) / (e.2.2 : Rat)))) := by
        simpa using h4
      have hm : gMulA (.int (c0 t e).den) (.int e.2.2) = some (.fz (.int ((c0 t e).den * e.2.2))) := gMulA_int (wide_mul (a := 3409) (b := 50) (by rw [den_abs]; exact hce.2) (by have := ok.dr e he; omega) (by decide) (by decide) (by decide))
      refine ⟨[.fz (trD t), .fz (frD (bestStep (c0 t) b e)), .fz (dictD (fnD frD (nmsOf t) (x0 t))), j3, j4, .fz (nD e.1), .fz (nD e.2.1), .fz (.int e.2.2), .fz (.tuple [nD e.1, nD e.2.1, frD (c0 t e)]), .fz (frD (absR (c0 t e))), .fz (frD (absR (c0 t e) / (e.2.2 : Rat)))], ?_, ?_, _, _, _, _, _, _, _, _, rfl⟩
      · rw [han]
        by_cases hlt : b < absR (c0 t e) / (e.2.2 : Rat)
        · have hbs : bestStep (c0 t) b e = absR (c0 t e) / (e.2.2 : Rat) := by unfold bestStep; rw [if_neg hd, if_pos hlt]
          rw [hbs]
          simp [fStep, L__law_best_2, clD, g2, g0, g1, hd, hposI, hm, h4', f3, hlt]
        · have hbs : bestStep (c0 t) b e = b := by unfold bestStep; rw [if_neg hd, if_neg hlt]
          rw [hbs]
          simp [fStep, L__law_best_2, clD, g2, g0, g1, hd, hposI, hm, h4', f3, hlt]
      · unfold bestStep
        rw [if_neg hd]
        split
        · exact f2
        · exact hbt)
  have i1 : gIx (trD t) (.int 1) = some (.fz (.tuple (t.cl.map clD))) := rfl
  have hz2 : zip2 (t.cl.map clD) (t.cl.map fun e => .tuple [nD e.1, nD e.2.1, frD (c0 t e)]) = t.cl.map fun e => .tuple [clD e, .tuple [nD e.1, nD e.2.1, frD (c0 t e)]] := by
    generalize t.cl = l
    unfold zip2
    induction l with
    | nil => rfl
    | cons e l ih => simp [ih]
  rw [frD_zero] at key hn
  simp only [F__law_best, fnF, B__law_best]
  unfold bestOf
  by_cases ha : t.cl.any dr = true
  · rw [if_pos ha] at key
    obtain ⟨δ', hk⟩ := key
    have ha' : (t.cl.any fun e => decide (e.2.2 = 0) && !decide (c0 t e = 0)) = true := ha
    rw [ha']
    simp [hnames, hn, hwish, hdue, i1, hz2, hk, optD]
  · rw [if_neg ha] at key
    obtain ⟨δ', hk, _, j3, j4, j5, j6, j7, j8, j9, j10, rfl⟩ := key
    have ha' : (t.cl.any fun e => decide (e.2.2 = 0) && !decide (c0 t e = 0)) = false := Bool.eq_false_iff.mpr ha
    rw [ha']
    simp [hnames, hn, hwish, hdue, i1, hz2, hk, optD]
def dragT (t : Tr) (top bot : Int) : Tr := ⟨t.sh.map fun x => (x.1, bot * x.2.1, x.2.2), t.cl.map fun c => (c.1, c.2.1, top * c.2.2)⟩
theorem F_ldragged_eq {t : Tr} (ok : TrOk t) {top bot : Int} (h1 : top.natAbs < 2 ^ 9000) (h2 : bot.natAbs < 2 ^ 9000) : F__law_dragged [trD t, .int top, .int bot] = some (.fz (if isTr (dragT t top bot) = true then trD (dragT t top bot) else .none)) := by
  have i0 : gIx (trD t) (.int 0) = some (.fz (.tuple (t.sh.map shD))) := rfl
  have i1 : gIx (trD t) (.int 1) = some (.fz (.tuple (t.cl.map clD))) := rfl
  have l1 := lcL_all (vs := [5, 6, 7]) (G := gT 3 (gsCons (gN 5) (gsCons (gN 6) (gsCons (gN 7) gsNil)))) (P := cYes) (E := fTup (sCons (fVar 5) (sCons (f2 gMulA (fVar 2) (fVar 6)) (sCons (fVar 7) sNil)))) (enc := shD) (fun x => shD (x.1, bot * x.2.1, x.2.2)) (δ := [.fz (trD t), .fz (.int top), .fz (.int bot), .un, .un, .un, .un, .un, .un, .un, .un]) (xs := t.sh) (by have := ok.l1; omega) (fun x hx => by
    have hw := ok.wi x hx
    have hm : gMulA (.int bot) (.int x.2.1) = some (.fz (.int (bot * x.2.1))) := gMulA_int (wide_mul (a := 9000) (b := 40) h2 (by omega) (by decide) (by decide) (by decide))
    simp [lStep, shD, hm])
  have l2 := lcL_all (vs := [8, 9, 10]) (G := gT 3 (gsCons (gN 8) (gsCons (gN 9) (gsCons (gN 10) gsNil)))) (P := cYes) (E := fTup (sCons (fVar 8) (sCons (fVar 9) (sCons (f2 gMulA (fVar 1) (fVar 10)) sNil)))) (enc := clD) (fun c => clD (c.1, c.2.1, top * c.2.2)) (δ := [.fz (trD t), .fz (.int top), .fz (.int bot), .fz (.tuple (t.sh.map fun x => shD (x.1, bot * x.2.1, x.2.2))), .un, .un, .un, .un, .un, .un, .un]) (xs := t.cl) (by have := ok.l2; omega) (fun c hc => by
    have hw := ok.dr c hc
    have hm : gMulA (.int top) (.int c.2.2) = some (.fz (.int (top * c.2.2))) := gMulA_int (wide_mul (a := 9000) (b := 50) h1 (by omega) (by decide) (by decide) (by decide))
    simp [lStep, clD, hm])
  have ht := F_is_train_eq (t := dragT t top bot) (by have := ok.l1; simp [dragT]; omega) (by have := ok.l2; simp [dragT]; omega)
  have hd : trD (dragT t top bot) = .tuple [.tuple (t.sh.map fun x => shD (x.1, bot * x.2.1, x.2.2)), .tuple (t.cl.map fun c => clD (c.1, c.2.1, top * c.2.2))] := by
    unfold trD clsD dragT
    rw [List.map_map, List.map_map]
    rfl
  rw [hd] at ht ⊢
  simp only [F__law_dragged, fnF, B__law_dragged]
  cases hi : isTr (dragT t top bot) <;> simp [i0, i1, l1, l2, ht, hi]
end DL
namespace DL
open PySem PySem.Spec PyProof.Rows L2
theorem br_iff {es : List Cl} : Br es ↔ es.Nodup ∧ ∀ e ∈ es, ¬ Conn (es.filter (notC e)) e.1 e.2.1 := by
  constructor
  · exact fun h => ⟨h.nodup, fun e he => h.filter he⟩
  · rintro ⟨h1, h2⟩ l1 e l2 rfl hc
    refine h2 e (by simp) (hc.mono fun c hm => ?_)
    refine List.mem_filter.mpr ⟨?_, ?_⟩
    · simp at hm ⊢
      rcases hm with h | h
      · exact .inl h
      · exact .inr (.inr h)
    · have : c ≠ e := by
        rintro rfl
        rw [List.nodup_append] at h1
        rcases List.mem_append.mp hm with h | h
        · exact h1.2.2 c h c (List.mem_cons_self ..) rfl
        · exact (List.nodup_cons.mp h1.2.1).1 h
      simp [notC, this]
theorem Br.perm {es fs : List Cl} (h : Br es) (p : es.Perm fs) : Br fs := by
  obtain ⟨h1, h2⟩ := br_iff.mp h
  refine br_iff.mpr ⟨p.nodup_iff.mp h1, fun e he hc => h2 e (p.mem_iff.mpr he) (hc.mono fun c hc => ?_)⟩
  have := List.mem_filter.mp hc
  exact List.mem_filter.mpr ⟨p.mem_iff.mpr this.1, this.2⟩
theorem conn_alone {es : List Cl} {a b : Nm} (h : ∀ c ∈ es, c.1 ≠ a ∧ c.2.1 ≠ a) (k : Conn es a b) : b = a := by
  induction k with
  | refl => rfl
  | fwd _ m ih => exact ((h _ m).1 ih).elim
  | bwd _ m ih => exact ((h _ m).2 ih).elim
theorem br_add {es : List Cl} {c : Cl} {n : Nm} (h : Br es) (hn : ∀ d ∈ es, d.1 ≠ n ∧ d.2.1 ≠ n) (hc : (c.1 = n ∧ c.2.1 ≠ n) ∨ (c.2.1 = n ∧ c.1 ≠ n)) : Br (c :: es) := by
  intro l1 e l2 e1
  cases l1 with
  | nil =>
    simp at e1
    obtain ⟨rfl, rfl⟩ := e1
    intro k
    simp at k
    rcases hc with ⟨h1, h2⟩ | ⟨h1, h2⟩
    · rw [h1] at k; exact h2 (conn_alone hn k)
    · rw [h1] at k; exact h2 (conn_alone hn k.symm)
  | cons d l1 =>
    simp at e1
    obtain ⟨rfl, rfl⟩ := e1
    intro k
    rw [List.cons_append, conn_cons] at k
    have hs : ∀ d ∈ l1 ++ l2, d.1 ≠ n ∧ d.2.1 ≠ n := fun d hd => hn d (by simp at hd ⊢; rcases hd with h | h; exact .inl h; exact .inr (.inr h))
    have he := hn e (by simp)
    rcases k with k | ⟨k1, k2⟩ | ⟨k1, k2⟩
    · exact h l1 e l2 rfl k
    · rcases hc with ⟨h1, _⟩ | ⟨h1, _⟩
      · rw [h1] at k1; exact he.1 (conn_alone hs k1.symm)
      · rw [h1] at k2; exact he.2 (conn_alone hs k2)
    · rcases hc with ⟨h1, _⟩ | ⟨h1, _⟩
      · rw [h1] at k2; exact he.2 (conn_alone hs k2)
      · rw [h1] at k1; exact he.1 (conn_alone hs k1.symm)
theorem ring_of_br {cl : List Cl} (h : Br cl) : makeRing cl = false := by
  unfold makeRing
  rw [List.any_eq_false]
  rintro ⟨e, k⟩ hm hr
  unfold ringAt at hr
  simp only [decide_eq_true_eq] at hr
  rw [side_conn] at hr
  have hk := List.mem_zipIdx hm
  have hkl : k < cl.length := by omega
  have he : e = cl[k] := by simpa using hk.2.2
  refine h (cl.take k) e (cl.drop (k + 1)) ?_ hr
  rw [he]
  simp
theorem br_pairs {cl : List Cl} (h : Br cl) {c d : Cl} (hc : c ∈ cl) (hd : d ∈ cl) (e1 : c.1 = d.1) (e2 : c.2.1 = d.2.1) : c = d := by
  by_cases e : c = d
  · exact e
  · exfalso
    refine h.filter hd ?_
    rw [← e1, ← e2]
    exact .edge (List.mem_filter.mpr ⟨hc, by simp [notC, e]⟩)
theorem rising_of_pair {α : Type} {lt : α → α → Bool} {l : List α} (h : l.Pairwise fun a b => lt a b = true) : risingB lt l = true := by
  unfold risingB
  rw [List.all_eq_true]
  intro k hk
  have hk := List.mem_range.mp hk
  rw [List.getElem?_eq_getElem (by omega : k < l.length), List.getElem?_eq_getElem (by omega : k + 1 < l.length)]
  exact (List.pairwise_iff_getElem.mp h) k (k + 1) (by omega) (by omega) (by omega)
theorem perm_map_inv {α : Type} {f : α → D} {l' m : List D} (p : m.Perm l') : ∀ l : List α, m = l.map f → ∃ cs : List α, cs.Perm l ∧ l' = cs.map f := by
  induction p with
  | nil =>
    intro l h
    cases l with
    | nil => exact ⟨[], .refl _, rfl⟩
    | cons a l => simp at h
  | cons x _ ih =>
    intro l h
    cases l with
    | nil => simp at h
    | cons a l =>
      simp at h
      obtain ⟨cs, h1, h2⟩ := ih l h.2
      exact ⟨a :: cs, h1.cons a, by simp [h.1, h2]⟩
  | swap x y l0 =>
    intro l h
    match l, h with
    | [], h => simp at h
    | [_], h => simp at h
    | a :: b :: l, h =>
      simp at h
      exact ⟨b :: a :: l, List.Perm.swap a b l, by simp [h.1, h.2.1, h.2.2]⟩
  | trans _ _ ih1 ih2 =>
    intro l h
    obtain ⟨cs, h1, h2⟩ := ih1 l h
    obtain ⟨ds, h3, h4⟩ := ih2 cs h2
    exact ⟨ds, h3.trans h1, h4⟩
theorem nm_alike (a b : Nm) : PySem.W.alike (nD a) (nD b) = true := by simp [nD, PySem.W.alike]
theorem cl_alike (c d : Cl) : PySem.W.alike (clD c) (clD d) = true := by simp [clD, PySem.W.alike, PySem.W.alikeAll, nm_alike]
theorem sort_cl (cl : List Cl) (h : cl.length ≤ 1000) : sortB (cl.map clD) = true := by
  unfold sortB
  simp only [Bool.and_eq_true, Bool.or_eq_true, List.all_eq_true, decide_eq_true_eq, List.mem_map]
  refine ⟨⟨⟨⟨?_, .inl ?_⟩, by simp; omega⟩, ?_⟩, ?_⟩
  · rintro d ⟨c, _, rfl⟩ e ⟨c', _, rfl⟩
    exact cl_alike c c'
  · rintro d ⟨c, _, rfl⟩
    rfl
  · rintro d ⟨c, _, rfl⟩
    simp
  · rintro d ⟨c, _, rfl⟩
    simp
theorem dataLt_cl (c d : Cl) : PySem.W.dataLt (clD c) (clD d) = if c.1 = d.1 then (if c.2.1 = d.2.1 then decide (c.2.2 < d.2.2) else nLt c.2.1 d.2.1) else nLt c.1 d.1 := by
  have hd : ∀ a b : Nm, PySem.W.dataLt (nD a) (nD b) = nLt a b := fun a b => PySem.W.dataLt_str a.s b.s
  unfold clD
  rw [PySem.W.dataLt_tuple, PySem.W.dataLt_cons (nm_alike _ _), PySem.W.dataLt_cons (nm_alike _ _), PySem.W.dataLt_cons (by simp [PySem.W.alike])]
  simp only [eqv_nm, eqv_int, decide_eq_true_eq, hd, PySem.W.dataLt_int]
  by_cases h1 : c.1 = d.1
  · by_cases h2 : c.2.1 = d.2.1
    · by_cases h3 : c.2.2 = d.2.2
      · simp [h1, h2, h3]
        exact PyProof.Rows.lex_irrefl _
      · simp [h1, h2, h3]
    · simp [h1, h2]
  · simp [h1]
theorem srt_cl {cl : List Cl} (h : Br cl) (tot : ∀ a b : Nm, (∃ c ∈ cl, a = c.1 ∨ a = c.2.1) → (∃ c ∈ cl, b = c.1 ∨ b = c.2.1) → a ≠ b → nLt a b = true ∨ nLt b a = true) :
    ∃ cs : List Cl, cs.Perm cl ∧ srtD (cl.map clD) = cs.map clD ∧ risingB prLt (cs.map fun c => (c.1, c.2.1)) = true := by
  have T := PySem.W.sortLe_total (PyProof.Rows.listOrd PyProof.Rows.itemOrd) false (fun b : D => PySem.W.keyToks (id b))
  have hp : (srtD (cl.map clD)).Perm (cl.map clD) := List.mergeSort_perm _ _
  obtain ⟨cs, h1, h2⟩ := perm_map_inv hp.symm cl rfl
  refine ⟨cs, h1, h2, rising_of_pair ?_⟩
  have hs : (srtD (cl.map clD)).Pairwise fun a b => leD a b = true := List.pairwise_mergeSort T.trans (fun a b => by simpa using T.total a b) _
  rw [h2, List.pairwise_map] at hs
  rw [List.pairwise_map]
  have hb := h.perm h1.symm
  have hnd := hb.nodup
  have hm : ∀ c ∈ cs, c ∈ cl := fun c hc => h1.mem_iff.mp hc
  refine List.Pairwise.imp_of_mem (R := fun a b => leD (clD a) (clD b) = true ∧ a ≠ b) ?_ (hs.and hnd)
  rintro a b ha hb' ⟨hle, hne⟩
  have hle : PySem.W.dataLt (clD b) (clD a) = false := by
    have : (!PySem.W.dataLt (clD b) (clD a)) = true := hle
    simpa using this
  rw [dataLt_cl] at hle
  unfold prLt
  dsimp only
  by_cases e1 : a.1 = b.1
  · rw [if_pos e1]
    rw [if_pos e1.symm] at hle
    by_cases e2 : a.2.1 = b.2.1
    · exact (hne (br_pairs hb ha hb' e1 e2)).elim
    · rw [if_neg e2]
      rw [if_neg (fun z => e2 z.symm)] at hle
      rcases tot a.2.1 b.2.1 ⟨a, hm a ha, .inr rfl⟩ ⟨b, hm b hb', .inr rfl⟩ e2 with h | h
      · exact h
      · rw [h] at hle; cases hle
  · rw [if_neg e1]
    rw [if_neg (fun z => e1 z.symm)] at hle
    rcases tot a.1 b.1 ⟨a, hm a ha, .inl rfl⟩ ⟨b, hm b hb', .inl rfl⟩ e1 with h | h
    · exact h
    · rw [h] at hle; cases hle
end DL
namespace DL
open PySem PySem.Spec PyProof.Rows L2
def nAl : Nm := ⟨"al", by decide +kernel, by kernel_rfl⟩
def nBo : Nm := ⟨"bo", by decide +kernel, by kernel_rfl⟩
def nCy : Nm := ⟨"cy", by decide +kernel, by kernel_rfl⟩
def nDi : Nm := ⟨"di", by decide +kernel, by kernel_rfl⟩
def nEd : Nm := ⟨"ed", by decide +kernel, by kernel_rfl⟩
def nFay : Nm := ⟨"fay", by decide +kernel, by kernel_rfl⟩
def six : List Nm := [nAl, nBo, nCy, nDi, nEd, nFay]
theorem six_rise : six.Pairwise fun a b => nLt a b = true := by
  simp only [six, List.pairwise_cons, List.Pairwise.nil, and_true, List.mem_cons, List.not_mem_nil, or_false]
  refine ⟨?_, ?_, ?_, ?_, ?_, ?_⟩ <;> (intro b h; first | (rcases h with rfl | rfl | rfl | rfl | rfl <;> decide +kernel) | (rcases h with rfl | rfl | rfl | rfl <;> decide +kernel) | (rcases h with rfl | rfl | rfl <;> decide +kernel) | (rcases h with rfl | rfl <;> decide +kernel) | (subst h; decide +kernel) | exact h.elim)
theorem six_tot {a b : Nm} (ha : a ∈ six) (hb : b ∈ six) (h : a ≠ b) : nLt a b = true ∨ nLt b a = true := by
  have := six_rise
  obtain ⟨i, hi, rfl⟩ := List.mem_iff_getElem.mp ha
  obtain ⟨j, hj, rfl⟩ := List.mem_iff_getElem.mp hb
  have pw := List.pairwise_iff_getElem.mp this
  rcases Nat.lt_trichotomy i j with k | k | k
  · exact .inl (pw i j hi hj k)
  · subst k; exact (h rfl).elim
  · exact .inr (pw j i hj hi k)
/-- drawn shafts -/
structure ShOk (sh : List Sh) : Prop where
  ok : ∀ x ∈ sh, shaftOk x = true
theorem draw_sh {s1 s2 : Sl} {wide : Int} (hw1 : 1 ≤ wide) (hw2 : wide ≤ 1000000) (s6 s7 s8 s9 s10 : Sl) : ∀ (l : List Nm) (pre : List Sh) (ws : List D) (j5 : Sl), WellOk ws → pre.length + l.length ≤ 100 →
    ∃ sh' ws' j5', WellOk ws' ∧ sh'.map (·.1) = l ∧ (∀ x ∈ sh', shaftOk x = true) ∧ forL (gN 5) L__law_train_1 (l.map nD) [.ow ws, s1, s2, .fz (.int wide), .ow (pre.map shD), j5, s6, s7, s8, s9, s10] = some (.nx [.ow ws', s1, s2, .fz (.int wide), .ow ((pre ++ sh').map shD), j5', s6, s7, s8, s9, s10])
  | [], pre, ws, j5, h, _ => ⟨[], ws, j5, h, rfl, by simp, by simp [forL]⟩
  | n :: l, pre, ws, j5, h, hl => by
    have m2 : gMulA (.int 2) (.int wide) = some (.fz (.int (2 * wide))) := gMulA_int (wide_mul (a := 40) (b := 40) (by decide) (by omega) (by decide) (by decide) (by decide))
    obtain ⟨d1, ws1, t1, h1, p1, q1⟩ := F_take_eq h (many := 2 * wide + 1) (by omega) (by omega)
    obtain ⟨d2, ws2, t2, h2, p2, q2⟩ := F_take_eq h1 (many := 3) (by decide) (by decide)
    have hk : ∃ m : Int, 1 ≤ m ∧ m ≤ 9 ∧ atI [PyData.int 1, .int 3, .int 9] d2 = some (.int m) := by
      have : d2 = 0 ∨ d2 = 1 ∨ d2 = 2 := by omega
      rcases this with rfl | rfl | rfl
      · exact ⟨1, by decide, by decide, rfl⟩
      · exact ⟨3, by decide, by decide, rfl⟩
      · exact ⟨9, by decide, by decide, rfl⟩
    obtain ⟨m, m1, m9, hm⟩ := hk
    obtain ⟨d3, ws3, t3, h3, p3, q3⟩ := F_take_eq h2 (many := m) (by omega) (by omega)
    have hpl : pre.length ≤ 1000000 := by omega
    obtain ⟨sh', ws', j5', a1, a2, a3, a4⟩ := draw_sh hw1 hw2 s6 s7 s8 s9 s10 l (pre ++ [(n, d1 - wide, 1 + d3)]) ws3 (.fz (nD n)) h3 (by simp at hl ⊢; omega)
    refine ⟨(n, d1 - wide, 1 + d3) :: sh', ws', j5', a1, by simp [a2], fun x hx => ?_, ?_⟩
    · rcases List.mem_cons.mp hx with rfl | hx
      · simp [shaftOk, wishOk]
        omega
      · exact a3 x hx
    · rw [List.map_cons, forL_cons]
      have hst : fStep (gN 5) L__law_train_1 (nD n) [.ow ws, s1, s2, .fz (.int wide), .ow (pre.map shD), j5, s6, s7, s8, s9, s10] = some (.nx [.ow ws3, s1, s2, .fz (.int wide), .ow ((pre ++ [(n, d1 - wide, 1 + d3)]).map shD), .fz (nD n), s6, s7, s8, s9, s10]) := by
        simp [fStep, L__law_train_1, m2, t1, t2, hm, t3, hpl, shD]
      rw [hst]
      have : pre ++ (n, d1 - wide, 1 + d3) :: sh' = pre ++ [(n, d1 - wide, 1 + d3)] ++ sh' := by simp
      rw [this]
      exact a4
end DL
namespace DL
open PySem PySem.Spec PyProof.Rows L2
theorem gNe_nil (l : List Nm) : gNe (.list (l.map nD)) (.list []) = some (.fz (.bool (!l.isEmpty))) := by
  have h0 : SeqAt.shaped (.list []) = true := sh_nms []
  unfold gNe
  rw [sh_nms, h0]
  cases l with
  | nil => rfl
  | cons a l => rfl
theorem gMin_nm (a b : Nm) : gMinA [nD a, nD b] = some (.fz (nD (if nLt b a = true then b else a))) := by
  have : gMinA [nD a, nD b] = some (.fz (.str (if b.s.cps.toList < a.s.cps.toList then b.s else a.s))) := rfl
  rw [this]
  unfold nLt nD
  by_cases h : b.s.cps.toList < a.s.cps.toList <;> simp [h]
theorem gMax_nm (a b : Nm) : gMaxA [nD a, nD b] = some (.fz (nD (if nLt a b = true then b else a))) := by
  have : gMaxA [nD a, nD b] = some (.fz (.str (if a.s.cps.toList < b.s.cps.toList then b.s else a.s))) := rfl
  rw [this]
  unfold nLt nD
  by_cases h : a.s.cps.toList < b.s.cps.toList <;> simp [h]
theorem whL_nx {c : M Bool} {B : MS} {n : Nat} {δ δ1 δ2 : Dn} (hc : c δ = some (true, δ1)) (hB : B δ1 = some (.nx δ2)) : whL c B (n + 1) δ = whL c B n δ2 := by
  show (c δ).bind _ = _
  rw [hc]
  simp [hB]
structure Drawn (had left : List Nm) (found : List Cl) : Prop where
  nd : (had ++ left).Nodup
  six : ∀ n ∈ had ++ left, n ∈ DL.six
  br : Br found
  cl : ∀ c ∈ found, c.1 ∈ had ∧ c.2.1 ∈ had ∧ nLt c.1 c.2.1 = true ∧ 0 ≤ c.2.2 ∧ c.2.2 ≤ 100
  len : found.length ≤ had.length - 1
theorem six_len {l : List Nm} (h1 : l.Nodup) (h2 : ∀ n ∈ l, n ∈ DL.six) : l.length ≤ 6 := h1.length_le_of_subset h2
theorem erase_perm : ∀ {l : List Nm} {i : Nat} (h : i < l.length), (l[i] :: l.eraseIdx i).Perm l
  | a :: l, 0, h => .refl _
  | a :: l, i + 1, h => by
    have h' : i < l.length := by simpa using h
    have ih := erase_perm (l := l) (i := i) h'
    show (l[i] :: a :: l.eraseIdx i).Perm (a :: l)
    exact (List.Perm.swap a l[i] _).trans (ih.cons a)
theorem erase_map : ∀ (l : List Nm) (i : Nat), (l.map nD).eraseIdx i = (l.eraseIdx i).map nD
  | [], _ => rfl
  | a :: l, 0 => rfl
  | a :: l, i + 1 => by
    show nD a :: (l.map nD).eraseIdx i = nD a :: (l.eraseIdx i).map nD
    rw [erase_map l i]
theorem draw_cl {s1 s2 s3 s4 : Sl} {hard : Int} (hh1 : 1 ≤ hard) (hh2 : hard ≤ 101) : ∀ (n : Nat) (had left : List Nm) (found : List Cl) (ws : List D) (j5 j10 : Sl), left.length = n → WellOk ws → Drawn had left found →
    ∃ had' found' ws' j5' j10', WellOk ws' ∧ Drawn had' [] found' ∧ had'.Perm (had ++ left) ∧ whL (tTst (f2 gNe (fVar 6) (fLst sNil))) L__law_train_2 (n + 1) [.ow ws, s1, s2, s3, s4, j5, .ow (left.map nD), .ow (had.map nD), .ow (found.map clD), .fz (.int hard), j10] =
      some (.nx [.ow ws', s1, s2, s3, s4, j5', .ow [], .ow (had'.map nD), .ow (found'.map clD), .fz (.int hard), j10'])
  | 0, had, left, found, ws, j5, j10, hl, hw, hd => by
    have : left = [] := List.eq_nil_of_length_eq_zero hl
    subst this
    have g := gNe_nil []
    refine ⟨had, found, ws, j5, j10, hw, hd, by simp, ?_⟩
    simp at g
    simp [whL, g]
  | n + 1, had, left, found, ws, j5, j10, hl, hw, hd => by
    have g := gNe_nil left
    have hne : left.isEmpty = false := by cases left with
      | nil => simp at hl
      | cons a l => rfl
    rw [hne] at g
    have hall := six_len hd.nd hd.six
    rw [List.length_append] at hall
    obtain ⟨d, ws1, t1, w1, p1, q1⟩ := F_take_eq hw (many := (left.length : Nat)) (by omega) (by omega)
    obtain ⟨i, rfl⟩ : ∃ i : Nat, d = i := ⟨d.toNat, by omega⟩
    have hi : i < left.length := by omega
    have hget : (left.map nD)[i]? = some (nD left[i]) := by rw [List.getElem?_map, List.getElem?_eq_getElem hi]; rfl
    have her := erase_map left i
    have hperm := erase_perm hi
    have hg2 : left[i]? = some left[i] := List.getElem?_eq_getElem hi
    have hll : left.length ≤ 1000000 := by omega
    have hhl : had.length ≤ 1000000 := by omega
    have hfl : found.length ≤ 1000000 := by have := hd.len; omega
    have nd2 : (had ++ [left[i]] ++ left.eraseIdx i).Nodup := by
      have : (had ++ [left[i]] ++ left.eraseIdx i).Perm (had ++ left) := by
        rw [List.append_assoc]
        exact List.Perm.append_left had hperm
      exact this.nodup_iff.mpr hd.nd
    have mem2 : ∀ m ∈ had ++ [left[i]] ++ left.eraseIdx i, m ∈ DL.six := fun m hm => by
      have : (had ++ [left[i]] ++ left.eraseIdx i).Perm (had ++ left) := by
        rw [List.append_assoc]
        exact List.Perm.append_left had hperm
      exact hd.six m (this.mem_iff.mp hm)
    have hnew : left[i] ∉ had := fun z => by
      have := hd.nd
      rw [List.nodup_append] at this
      exact this.2.2 _ z _ (List.getElem_mem hi) rfl
    have hlen2 : (left.eraseIdx i).length = n := by rw [List.length_eraseIdx]; simp [hi]; omega
    have hpf : ∀ {had' : List Nm}, had'.Perm (had ++ [left[i]] ++ left.eraseIdx i) → had'.Perm (had ++ left) := fun p => p.trans (by
      rw [List.append_assoc]
      exact List.Perm.append_left had hperm)
    -- without a clutch
    have plain : Drawn (had ++ [left[i]]) (left.eraseIdx i) found := ⟨nd2, mem2, hd.br, fun c hc => by
      obtain ⟨a1, a2, a3⟩ := hd.cl c hc
      exact ⟨List.mem_append_left _ a1, List.mem_append_left _ a2, a3⟩, by have := hd.len; simp; omega⟩
    by_cases hh : had = []
    · subst hh
      have gh := gNe_nil []
      simp at gh
      obtain ⟨had', found', ws', j5', j10', r1, r2, r3, r4⟩ := draw_cl hh1 hh2 n ([] ++ [left[i]]) (left.eraseIdx i) found ws1 (.fz (nD left[i])) j10 hlen2 w1 plain
      refine ⟨had', found', ws', j5', j10', r1, r2, hpf r3, ?_⟩
      refine (whL_nx (δ1 := [.ow ws, s1, s2, s3, s4, j5, .ow (left.map nD), .ow [], .ow (found.map clD), .fz (.int hard), j10]) (by simp [g]) ?_).trans r4
      simp [L__law_train_2, t1, hg2, her, hll, gh]
    · have gh := gNe_nil had
      have hhe : had.isEmpty = false := by cases had with
        | nil => exact (hh rfl).elim
        | cons a l => rfl
      rw [hhe] at gh
      have hhp : 0 < had.length := List.length_pos_iff.mpr hh
      obtain ⟨d2, ws2, t2, w2, p2, q2⟩ := F_take_eq w1 (many := 8) (by decide) (by decide)
      by_cases hz : 0 < d2
      · obtain ⟨d3, ws3, t3, w3, p3, q3⟩ := F_take_eq w2 (many := (had.length : Nat)) (by omega) (by omega)
        obtain ⟨k, rfl⟩ : ∃ k : Nat, d3 = k := ⟨d3.toNat, by omega⟩
        have hk : k < had.length := by omega
        have hat : atI (had.map nD) (k : Int) = some (nD had[k]) := atI_map (List.getElem?_eq_getElem hk)
        obtain ⟨d4, ws4, t4, w4, p4, q4⟩ := F_take_eq w3 (many := hard) hh1 (by omega)
        have hko : had[k] ∈ had := List.getElem_mem hk
        have hne2 : left[i] ≠ had[k] := fun z => hnew (z ▸ hko)
        have s1' : left[i] ∈ DL.six := hd.six _ (List.mem_append_right _ (List.getElem_mem hi))
        have s2' : had[k] ∈ DL.six := hd.six _ (List.mem_append_left _ hko)
        have gmin := gMin_nm left[i] had[k]
        have gmax := gMax_nm left[i] had[k]
        have asym : ∀ a b : Nm, nLt a b = true → nLt b a = false := fun a b h => by
          cases h2 : nLt b a with
          | false => rfl
          | true =>
            have := nLt_trans a b a h h2
            rw [nLt_irrefl] at this
            cases this
        have main : ∃ c : Cl, (c.1 = (if nLt had[k] left[i] = true then had[k] else left[i])) ∧ c.2.1 = (if nLt left[i] had[k] = true then had[k] else left[i]) ∧ c.2.2 = d4 ∧ nLt c.1 c.2.1 = true ∧ ((c.1 = left[i] ∧ c.2.1 = had[k]) ∨ (c.2.1 = left[i] ∧ c.1 = had[k])) := by
          rcases six_tot s1' s2' hne2 with h | h
          · have h' := asym _ _ h
            exact ⟨(left[i], had[k], d4), by simp [h'], by simp [h], rfl, h, .inl ⟨rfl, rfl⟩⟩
          · have h' := asym _ _ h
            exact ⟨(had[k], left[i], d4), by simp [h], by simp [h'], rfl, h, .inr ⟨rfl, rfl⟩⟩
        obtain ⟨c, c1, c2, c3, c4, c5⟩ := main
        have hfn : ∀ e ∈ found, e.1 ≠ left[i] ∧ e.2.1 ≠ left[i] := fun e he => by
          obtain ⟨a1, a2, _⟩ := hd.cl e he
          exact ⟨fun z => hnew (z ▸ a1), fun z => hnew (z ▸ a2)⟩
        have hbr : Br (found ++ [c]) := by
          have : Br (c :: found) := br_add hd.br hfn (by
            rcases c5 with ⟨a1, a2⟩ | ⟨a1, a2⟩
            · exact .inl ⟨a1, fun z => hne2 (z.symm.trans a2)⟩
            · exact .inr ⟨a1, fun z => hne2 (z.symm.trans a2)⟩)
          exact this.perm (List.perm_append_comm (l₁ := [c]) (l₂ := found))
        have dr : Drawn (had ++ [left[i]]) (left.eraseIdx i) (found ++ [c]) := ⟨nd2, mem2, hbr, fun e he => by
          rcases List.mem_append.mp he with he | he
          · obtain ⟨a1, a2, a3⟩ := hd.cl e he
            exact ⟨List.mem_append_left _ a1, List.mem_append_left _ a2, a3⟩
          · simp at he
            subst he
            refine ⟨?_, ?_, c4, by omega, by omega⟩
            · rcases c5 with ⟨a1, a2⟩ | ⟨a1, a2⟩
              · rw [a1]; simp
              · rw [a2]; simp
            · rcases c5 with ⟨a1, a2⟩ | ⟨a1, a2⟩
              · rw [a2]; simp
              · rw [a1]; simp, by have := hd.len; simp; omega⟩
        obtain ⟨had', found', ws', j5', j10', r1, r2, r3, r4⟩ := draw_cl hh1 hh2 n (had ++ [left[i]]) (left.eraseIdx i) (found ++ [c]) ws4 (.fz (nD left[i])) (.fz (nD had[k])) hlen2 w4 dr
        refine ⟨had', found', ws', j5', j10', r1, r2, hpf r3, ?_⟩
        rw [← c1] at gmin
        rw [← c2] at gmax
        rw [← c3] at t4
        have hcd : clD c = .tuple [nD c.1, nD c.2.1, .int c.2.2] := rfl
        refine (whL_nx (δ1 := [.ow ws, s1, s2, s3, s4, j5, .ow (left.map nD), .ow (had.map nD), .ow (found.map clD), .fz (.int hard), j10]) (by simp [g]) ?_).trans r4
        simp [hcd, L__law_train_2, t1, hg2, her, hll, gh, t2, hz, t3, hat, gmin, gmax, t4, hfl, hhl]
      · obtain ⟨had', found', ws', j5', j10', r1, r2, r3, r4⟩ := draw_cl hh1 hh2 n (had ++ [left[i]]) (left.eraseIdx i) found ws2 (.fz (nD left[i])) j10 hlen2 w2 plain
        refine ⟨had', found', ws', j5', j10', r1, r2, hpf r3, ?_⟩
        refine (whL_nx (δ1 := [.ow ws, s1, s2, s3, s4, j5, .ow (left.map nD), .ow (had.map nD), .ow (found.map clD), .fz (.int hard), j10]) (by simp [g]) ?_).trans r4
        simp [L__law_train_2, t1, hg2, her, hll, gh, t2, hz, hhl]
end DL
namespace DL
open PySem PySem.Spec PyProof.Rows L2
theorem gNeW {ws : List D} : True := trivial
theorem F_ltrain_eq {ws : List D} (hw : WellOk ws) {most : Int} (h1 : 1 ≤ most) (h6 : most ≤ 6) : ∃ t ws', F__law_train ws [.int most] = some (.fz (trD t), ws') ∧ WellOk ws' ∧ isTr t = true ∧ ∀ n ∈ nmsOf t, n ∈ six := by
  obtain ⟨d, ws1, t1, w1, p1, q1⟩ := F_take_eq hw h1 (by omega)
  obtain ⟨k, rfl⟩ : ∃ k : Nat, d = k := ⟨d.toNat, by omega⟩
  have hk6 : k < 6 := by omega
  obtain ⟨d2, ws2, t2, w2, p2, q2⟩ := F_take_eq w1 (many := 4) (by decide) (by decide)
  have hpow : gPow (.int 10) (.int 6) = some (.fz (.int 1000000)) := by
    have : CPow 10 6 := by decide
    exact (if_pos this : (if CPow 10 6 then some (T.fz (.int (10 ^ (6 : Int).toNat))) else none) = _)
  have hwide : ∃ m : Int, 1 ≤ m ∧ m ≤ 1000000 ∧ atI [PyData.int 4, .int 12, .int 100, .int 1000000] d2 = some (.int m) := by
    have : d2 = 0 ∨ d2 = 1 ∨ d2 = 2 ∨ d2 = 3 := by omega
    rcases this with rfl | rfl | rfl | rfl
    · exact ⟨4, by decide, by decide, rfl⟩
    · exact ⟨12, by decide, by decide, rfl⟩
    · exact ⟨100, by decide, by decide, rfl⟩
    · exact ⟨1000000, by decide, by decide, rfl⟩
  obtain ⟨wide, m1, m2, hwd⟩ := hwide
  let names : List Nm := six.take (k + 1)
  have hnl : names.length = k + 1 := by simp [names, six]; omega
  have hcut : cutG [PyData.str "al", .str "bo", .str "cy", .str "di", .str "ed", .str "fay"] none (some (1 + (k : Int))) = names.map nD := by
    have e : (1 + (k : Int)) = ((k + 1 : Nat) : Int) := by omega
    rw [e, cut_take]
    show _ = (six.take (k + 1)).map nD
    rw [List.map_take]
    rfl
  obtain ⟨sh, ws3, j5, w3, hsh, hok, hloop⟩ := draw_sh (s1 := .fz (.int most)) (s2 := .fz (.list (names.map nD))) m1 m2 .un .un .un .un .un names [] ws2 .un w2 (by simp; omega)
  obtain ⟨d3, ws4, t4, w4, p4, q4⟩ := F_take_eq w3 (many := 3) (by decide) (by decide)
  have hhard : ∃ m : Int, 1 ≤ m ∧ m ≤ 101 ∧ atI [PyData.int 3, .int 12, .int 101] d3 = some (.int m) := by
    have : d3 = 0 ∨ d3 = 1 ∨ d3 = 2 := by omega
    rcases this with rfl | rfl | rfl
    · exact ⟨3, by decide, by decide, rfl⟩
    · exact ⟨12, by decide, by decide, rfl⟩
    · exact ⟨101, by decide, by decide, rfl⟩
  obtain ⟨hard, n1, n2, hhd⟩ := hhard
  have pw : names.Pairwise fun a b => nLt a b = true := six_rise.sublist (List.take_sublist _ _)
  have nd : names.Nodup := pw.imp fun h => nLt_ne h
  have start : Drawn [] names [] := ⟨by simpa using nd, fun n hn => List.mem_of_mem_take (by simpa using hn), by
    intro l1 e l2 h
    simp at h, fun c hc => by simp at hc, by simp⟩
  obtain ⟨had, found, ws5, j5', j10', w5, dr, pm, hwh⟩ := draw_cl (s1 := .fz (.int most)) (s2 := .fz (.list (names.map nD))) (s3 := .fz (.int wide)) (s4 := .ow (sh.map shD)) n1 n2 (k + 1) [] names [] ws4 j5 .un hnl w4 start
  rw [List.nil_append] at pm
  have hhl : had.length = k + 1 := by rw [pm.length_eq, hnl]
  have hfl : found.length ≤ 5 := by have := dr.len; omega
  have hsrt := sort_cl found (by omega)
  obtain ⟨cs, c1, c2, c3⟩ := srt_cl dr.br (fun a b ⟨c, hc, hac⟩ ⟨e, he, hbe⟩ hne => by
    have inSix : ∀ c ∈ found, c.1 ∈ six ∧ c.2.1 ∈ six := fun c hc => by
      obtain ⟨a1, a2, _⟩ := dr.cl c hc
      exact ⟨dr.six _ (by simpa using a1), dr.six _ (by simpa using a2)⟩
    refine six_tot ?_ ?_ hne
    · rcases hac with rfl | rfl
      · exact (inSix c hc).1
      · exact (inSix c hc).2
    · rcases hbe with rfl | rfl
      · exact (inSix e he).1
      · exact (inSix e he).2)
  refine ⟨⟨sh, cs⟩, ws5, ?_, w5, ?_, fun n hn => ?_⟩
  · have hgs := gSorted_lst hsrt
    rw [c2] at hgs
    simp at hloop
    have hmu : muL 6 [.ow ws4, .fz (.int most), .fz (.list (names.map nD)), .fz (.int wide), .ow (sh.map shD), j5, .ow (names.map nD), .ow [], .ow [], .fz (.int hard), .un] = k + 2 := by
      show (names.map nD).length + 1 = _
      rw [List.length_map, hnl]
    simp at hwh
    have hwh' : whL (tTst (f2 gNe (fVar 6) (fLst sNil))) L__law_train_2 (k + 2) [.ow ws4, .fz (.int most), .fz (.list (names.map nD)), .fz (.int wide), .ow (sh.map shD), j5, .ow (names.map nD), .ow [], .ow [], .fz (.int hard), .un] = some (.nx [.ow ws5, .fz (.int most), .fz (.list (names.map nD)), .fz (.int wide), .ow (sh.map shD), j5', .ow [], .ow (had.map nD), .ow (found.map clD), .fz (.int hard), j10']) := by
      simpa using hwh
    simp only [F__law_train, fnW, B__law_train]
    simp [t1, hcut, hpow, t2, hwd, hloop, t4, hhd, -tTst]
    rw [hmu, hwh']
    simp [hgs, trD, clsD]
  · have hnames : nmsOf ⟨sh, cs⟩ = names := hsh
    have hshl : sh.length = k + 1 := by rw [← hnl, ← hsh, List.length_map]
    have hbr := dr.br.perm c1.symm
    unfold isTr
    rw [hnames]
    have a1 : risingB nLt names = true := rising_of_pair pw
    have a2 : makeRing cs = false := ring_of_br hbr
    have a3 : cs.length = found.length := c1.length_eq
    have a4 : risingB prLt (prsOf ⟨sh, cs⟩) = true := c3
    have a5 : cs.all (clutchOk names) = true := by
      rw [List.all_eq_true]
      intro c hc
      obtain ⟨b1, b2, b3, b4, b5⟩ := dr.cl c (c1.mem_iff.mp hc)
      unfold clutchOk
      have e1 := pm.mem_iff.mp b1
      have e2 := pm.mem_iff.mp b2
      simp [e1, e2, b3]
      omega
    have a6 : sh.all shaftOk = true := List.all_eq_true.mpr hok
    simp only [a1, a2, a4, a5, a6, Bool.and_true, Bool.true_and, Bool.not_false, Bool.and_eq_true, decide_eq_true_eq]
    omega
  · have hnames : nmsOf ⟨sh, cs⟩ = names := hsh
    rw [hnames] at hn
    exact List.mem_of_mem_take hn
end DL
namespace DL
open PySem PySem.Spec PyProof.Rows L2
theorem conn_map {f : Cl → Cl} (hf : ∀ c, (f c).1 = c.1 ∧ (f c).2.1 = c.2.1) {l : List Cl} {a b : Nm} : Conn (l.map f) a b ↔ Conn l a b := by
  constructor
  · intro h
    induction h with
    | refl => exact .refl _
    | fwd _ m ih =>
      obtain ⟨c, hc, rfl⟩ := List.mem_map.mp m
      rw [(hf c).1] at ih
      rw [(hf c).2]
      exact ih.fwd hc
    | bwd _ m ih =>
      obtain ⟨c, hc, rfl⟩ := List.mem_map.mp m
      rw [(hf c).2] at ih
      rw [(hf c).1]
      exact ih.bwd hc
  · intro h
    induction h with
    | refl => exact .refl _
    | @fwd c _ m ih =>
      have := Conn.fwd (c := f c) (es := l.map f) (a := a) (by rw [(hf c).1]; exact ih) (List.mem_map.mpr ⟨c, m, rfl⟩)
      rwa [(hf c).2] at this
    | @bwd c _ m ih =>
      have := Conn.bwd (c := f c) (es := l.map f) (a := a) (by rw [(hf c).2]; exact ih) (List.mem_map.mpr ⟨c, m, rfl⟩)
      rwa [(hf c).1] at this
theorem x0_mul {t : Tr} (ok : TrOk t) (hb : Br t.cl) {n : Nm} (hn : n ∈ nmsOf t) : x0 t n * sI (nmsOf t) (Conn t.cl n) (sR t) = sI (nmsOf t) (Conn t.cl n) fun m => sR t m * wR t m := by
  have hm := turn_mul (w := wR t) (σ := z0 t) ok hn
  rw [held0 hb.nodup] at hm
  have hi : sI (nmsOf t) (Conn t.cl n) (item t (wR t) (cameOf t (z0 t))) = sI (nmsOf t) (Conn t.cl n) fun m => sR t m * wR t m := sI_congrF fun m _ _ => by
    unfold item sR
    rw [came0 hb]
    simp
    grind
  rw [hi] at hm
  exact hm
theorem c0_sI {t : Tr} (ok : TrOk t) (hb : Br t.cl) {e : Cl} (he : e ∈ t.cl) : c0 t e = sI (nmsOf t) (Conn (t.cl.filter (notC e)) e.1) fun n => sR t n * (wR t n - x0 t n) := by
  rw [← due_c0 ok hb he]
  unfold dueOf
  exact (sI_list ok.nd (grown_side _ _).1 (side_sub (fun d hd => ok.ends d (List.mem_filter.mp hd).1) (ok.ends e he).1) fun n _ => (side_conn _ _ _).symm).symm
section
variable {t : Tr} {top bot : Int}
def scC (top : Int) (c : Cl) : Cl := (c.1, c.2.1, top * c.2.2)
theorem drag_cl : (dragT t top bot).cl = t.cl.map (scC top) := rfl
theorem drag_nms : nmsOf (dragT t top bot) = nmsOf t := by
  unfold nmsOf dragT
  rw [List.map_map]
  rfl
theorem drag_find (n : Nm) : (dragT t top bot).sh.find? (fun x => decide (x.1 = n)) = (t.sh.find? fun x => decide (x.1 = n)).map fun x => (x.1, bot * x.2.1, x.2.2) := by
  unfold dragT
  dsimp only
  rw [List.find?_map]
  rfl
theorem drag_sR : sR (dragT t top bot) = sR t := by
  funext n
  unfold sR stOf
  rw [drag_find]
  cases t.sh.find? (fun x => decide (x.1 = n)) <;> rfl
theorem drag_wR (n : Nm) : wR (dragT t top bot) n = (bot : Rat) * wR t n := by
  unfold wR wiOf
  rw [drag_find]
  cases t.sh.find? (fun x => decide (x.1 = n)) with
  | none => simp
  | some x => simp
theorem drag_x0 (ok : TrOk t) (hb : Br t.cl) (ok' : TrOk (dragT t top bot)) (hb' : Br (dragT t top bot).cl) {n : Nm} (hn : n ∈ nmsOf t) : x0 (dragT t top bot) n = (bot : Rat) * x0 t n := by
  have h1 := x0_mul ok hb hn
  have h2 := x0_mul ok' hb' (n := n) (by rw [drag_nms]; exact hn)
  have hc : ∀ f, sI (nmsOf t) (Conn (dragT t top bot).cl n) f = sI (nmsOf t) (Conn t.cl n) f := fun f => sI_congr fun m _ => by
    rw [drag_cl]
    exact conn_map (f := scC top) fun c => ⟨rfl, rfl⟩
  rw [drag_nms, drag_sR, hc, hc] at h2
  have h3 : sI (nmsOf t) (Conn t.cl n) (fun m => sR t m * wR (dragT t top bot) m) = (bot : Rat) * sI (nmsOf t) (Conn t.cl n) fun m => sR t m * wR t m := by
    rw [← sI_mul]
    refine sI_congrF fun m _ _ => ?_
    rw [drag_wR]
    grind
  rw [h3, ← h1] at h2
  have hp := whole_pos ok ok.ends hn
  generalize sI (nmsOf t) (Conn t.cl n) (sR t) = S at *
  have : (x0 (dragT t top bot) n - (bot : Rat) * x0 t n) * S = 0 := by grind
  rcases Rat.mul_eq_zero.mp this with k | k
  · grind
  · grind
theorem drag_c0 (ok : TrOk t) (hb : Br t.cl) (ok' : TrOk (dragT t top bot)) (hb' : Br (dragT t top bot).cl) {e : Cl} (he : e ∈ t.cl) : c0 (dragT t top bot) (scC top e) = (bot : Rat) * c0 t e := by
  have he' : scC top e ∈ (dragT t top bot).cl := List.mem_map.mpr ⟨e, he, rfl⟩
  rw [c0_sI ok' hb' he', c0_sI ok hb he, drag_nms, drag_sR, ← sI_mul]
  have hf : (dragT t top bot).cl.filter (notC (scC top e)) = (t.cl.filter (notC e)).map (scC top) := by
    rw [drag_cl, List.filter_map]
    congr 1
    refine List.filter_congr fun d hd => ?_
    unfold notC
    have : scC top d = scC top e ↔ d = e := by
      constructor
      · intro h
        have h1 : (scC top d).1 = (scC top e).1 := by rw [h]
        have h2 : (scC top d).2.1 = (scC top e).2.1 := by rw [h]
        exact br_pairs hb hd he h1 h2
      · rintro rfl; rfl
    simp [this]
  have hcn : sI (nmsOf t) (Conn ((dragT t top bot).cl.filter (notC (scC top e))) (scC top e).1) (fun n => sR t n * (wR (dragT t top bot) n - x0 (dragT t top bot) n)) = sI (nmsOf t) (Conn (t.cl.filter (notC e)) e.1) (fun n => sR t n * (wR (dragT t top bot) n - x0 (dragT t top bot) n)) := by
    rw [hf]
    exact sI_congr fun m _ => conn_map (f := scC top) fun c => ⟨rfl, rfl⟩
  rw [hcn]
  refine sI_congrF fun n hn _ => ?_
  rw [drag_wR, drag_x0 ok hb ok' hb' hn]
  grind
end
/-- none slips iff the firm run holds -/
theorem slips_nil {t : Tr} (ok : TrOk t) (hb : Br t.cl) {x : Nm → Rat} {c : Cl → Rat} (h : Equi (nmsOf t) (sR t) t.cl (wR t) x c) : slipsD t x = [] ↔ ∀ e ∈ t.cl, absR (c0 t e) ≤ (e.2.2 : Rat) := by
  have hnil : slipsD t x = [] ↔ ∀ e ∈ t.cl, x e.1 = x e.2.1 := by
    unfold slipsD
    rw [List.map_eq_nil_iff, List.filter_eq_nil_iff]
    constructor
    · intro k e he
      have := k e he
      simpa using this
    · intro k e he
      simpa using k e he
  have hfe : feas t (wR t) (z0 t) = true ↔ ∀ e ∈ t.cl, absR (c0 t e) ≤ (e.2.2 : Rat) := by
    rw [feas_iff hb.nodup (by simp)]
    constructor
    · intro k e he
      exact absR_le.mpr ((k e he).1 (way0 hb.nodup he))
    · intro k e he
      exact ⟨fun _ => absR_le.mp (k e he), fun h0 => (h0 (way0 hb.nodup he)).elim⟩
  rw [hnil, ← hfe]
  constructor
  · intro k
    have := (equi_run ok hb h).1
    have e : t.cl.map (wy x) = z0 t := List.map_congr_left fun e he => wy_zero.mpr (k e he)
    rwa [e] at this
  · intro k e he
    have h2 := run_equi ok hb (st0_ok t.cl) (by simp) k
    have un := equi_unique ok.nd ok.ends (fun n hn => s_pos ok hn) h h2
    rw [un _ (ok.ends e he).1, un _ (ok.ends e he).2]
    exact turn_same ok (ok.ends e he).1 (ok.ends e he).2 (.edge (by rw [held0 hb.nodup]; exact he))
theorem best_le {cl : List Cl} {c : Cl → Rat} {r : Rat} : ∀ {b : Rat}, cl.foldl (bestStep c) b ≤ r ↔ b ≤ r ∧ ∀ e ∈ cl, e.2.2 ≠ 0 → absR (c e) / (e.2.2 : Rat) ≤ r := by
  induction cl with
  | nil => intro b; simp
  | cons e cl ih =>
    intro b
    rw [List.foldl_cons, ih]
    unfold bestStep
    constructor
    · rintro ⟨h1, h2⟩
      refine ⟨?_, fun d hd h0 => ?_⟩
      · split at h1
        · exact h1
        · split at h1
          · grind
          · exact h1
      · rcases List.mem_cons.mp hd with rfl | hd
        · rw [if_neg h0] at h1
          split at h1
          · exact h1
          · grind
        · exact h2 d hd h0
    · rintro ⟨h1, h2⟩
      refine ⟨?_, fun d hd h0 => h2 d (List.mem_cons_of_mem _ hd) h0⟩
      split
      · exact h1
      · rename_i h0
        split
        · exact h2 e (List.mem_cons_self ..) h0
        · exact h1
theorem drag_slips {t : Tr} (h : isTr t = true) {q : Rat} (hq : bestOf t.cl (c0 t) = some q) {top : Int} (htop : 0 ≤ top) (h' : isTr (dragT t top q.den) = true) {x : Nm → Rat} {c : Cl → Rat}
    (he : Equi (nmsOf (dragT t top q.den)) (sR (dragT t top q.den)) (dragT t top q.den).cl (wR (dragT t top q.den)) x c) : slipsD (dragT t top q.den) x = [] ↔ q.num ≤ top := by
  obtain ⟨ok, hb, _⟩ := isTr_ok h
  obtain ⟨ok', hb', _⟩ := isTr_ok h'
  rw [slips_nil ok' hb' he]
  unfold bestOf at hq
  split at hq
  · cases hq
  · rename_i hany
    have hq := Option.some.inj hq
    have hden : (0 : Rat) < (q.den : Rat) := by
      have := q.den_pos
      exact_mod_cast this
    have hden' : (((q.den : Nat) : Int) : Rat) = (q.den : Rat) := rfl
    have hqd : q * (q.den : Rat) = (q.num : Rat) := by
      have h1 : (q.num : Rat) / (q.den : Rat) = q := by rw [← Rat.mkRat_eq_div, Rat.mkRat_self]
      have h2 := Rat.div_mul_cancel (a := (q.num : Rat)) (Rat.ne_of_gt hden)
      rw [h1] at h2
      exact h2
    have hzero : ∀ e ∈ t.cl, e.2.2 = 0 → c0 t e = 0 := fun e hem h0 => by
      by_cases hc : c0 t e = 0
      · exact hc
      · exact (hany (List.any_eq_true.mpr ⟨e, hem, by simp [h0, hc]⟩)).elim
    have hpos : ∀ e ∈ t.cl, e.2.2 ≠ 0 → (0 : Rat) < (e.2.2 : Rat) := fun e hem h0 => by
      have := (ok.dr e hem).1
      have h : ((0 : Int) : Rat) < (e.2.2 : Rat) := by rw [Rat.intCast_lt_intCast]; omega
      simpa using h
    have e1 : (∀ e ∈ (dragT t top q.den).cl, absR (c0 (dragT t top q.den) e) ≤ (e.2.2 : Rat)) ↔ ∀ e ∈ t.cl, (q.den : Rat) * absR (c0 t e) ≤ (top : Rat) * (e.2.2 : Rat) := by
      have key : ∀ e ∈ t.cl, absR (c0 (dragT t top q.den) (scC top e)) = (q.den : Rat) * absR (c0 t e) := fun e hem => by
        rw [drag_c0 ok hb ok' hb' hem, hden']
        unfold absR
        by_cases hz : 0 ≤ c0 t e
        · rw [if_pos hz, if_pos (Rat.mul_nonneg (Rat.le_of_lt hden) hz)]
        · rw [if_neg hz]
          have h1 : 0 < -c0 t e := by grind
          have h2 := Rat.mul_pos hden h1
          rw [if_neg (by grind)]
          grind
      rw [drag_cl]
      constructor
      · intro k e hem
        have := k (scC top e) (List.mem_map.mpr ⟨e, hem, rfl⟩)
        rw [key e hem] at this
        have h2 : (((scC top e).2.2 : Int) : Rat) = (top : Rat) * (e.2.2 : Rat) := Rat.intCast_mul _ _
        rw [h2] at this
        exact this
      · intro k e' hm'
        obtain ⟨e, hem, rfl⟩ := List.mem_map.mp hm'
        rw [key e hem]
        have h2 : (((scC top e).2.2 : Int) : Rat) = (top : Rat) * (e.2.2 : Rat) := Rat.intCast_mul _ _
        rw [h2]
        exact k e hem
    rw [e1]
    have htR : (0 : Rat) ≤ (top : Rat) := by
      have h : ((0 : Int) : Rat) ≤ (top : Rat) := by rw [Rat.intCast_le_intCast]; exact htop
      simpa using h
    have e2 : q.num ≤ top ↔ q ≤ (top : Rat) / (q.den : Rat) := by
      rw [← Rat.intCast_le_intCast, ← hqd]
      have h3 := Rat.div_mul_cancel (a := (top : Rat)) (Rat.ne_of_gt hden)
      generalize (top : Rat) / (q.den : Rat) = r at *
      rw [← h3]
      constructor
      · intro k
        refine Rat.not_lt.mp fun z => ?_
        have := Rat.mul_lt_mul_of_pos_right z hden
        grind
      · intro k
        exact Rat.mul_le_mul_of_nonneg_right k (Rat.le_of_lt hden)
    rw [e2]
    have h3 := Rat.div_mul_cancel (a := (top : Rat)) (Rat.ne_of_gt hden)
    generalize (top : Rat) / (q.den : Rat) = r at *
    clear e1 e2 hden' he
    generalize (q.den : Rat) = dn at *
    rw [← hq, best_le, ← h3]
    constructor
    · intro k
      refine ⟨?_, fun e hem h0 => ?_⟩
      · refine Rat.not_lt.mp fun z => ?_
        have h6 := Rat.mul_lt_mul_of_pos_right z hden
        rw [Rat.zero_mul, h3] at h6
        exact (Rat.not_lt.mpr htR) h6
      · have h4 := k e hem
        have hp := hpos e hem h0
        have h5 := Rat.div_mul_cancel (a := absR (c0 t e)) (Rat.ne_of_gt hp)
        generalize absR (c0 t e) / (e.2.2 : Rat) = y at *
        rw [← h5] at h4
        refine Rat.not_lt.mp fun z => ?_
        have h6 := Rat.mul_lt_mul_of_pos_right (Rat.mul_lt_mul_of_pos_right z hp) hden
        have a2 : dn * (y * (e.2.2 : Rat)) = y * (e.2.2 : Rat) * dn := Rat.mul_comm _ _
        have a3 : r * dn * (e.2.2 : Rat) = r * (e.2.2 : Rat) * dn := by rw [Rat.mul_assoc, Rat.mul_comm dn, ← Rat.mul_assoc]
        rw [a2, a3] at h4
        exact (Rat.not_lt.mpr h4) h6
    · rintro ⟨_, k⟩ e hem
      by_cases h0 : e.2.2 = 0
      · rw [hzero e hem h0, h0]
        unfold absR
        simp
      · have h4 := k e hem h0
        have hp := hpos e hem h0
        have h5 := Rat.div_mul_cancel (a := absR (c0 t e)) (Rat.ne_of_gt hp)
        generalize absR (c0 t e) / (e.2.2 : Rat) = y at *
        rw [← h5]
        have h6 := Rat.mul_le_mul_of_nonneg_right (Rat.mul_le_mul_of_nonneg_right h4 (Rat.le_of_lt hp)) (Rat.le_of_lt hden)
        have a2 : dn * (y * (e.2.2 : Rat)) = y * (e.2.2 : Rat) * dn := Rat.mul_comm _ _
        have a3 : r * dn * (e.2.2 : Rat) = r * (e.2.2 : Rat) * dn := by rw [Rat.mul_assoc, Rat.mul_comm dn, ← Rat.mul_assoc]
        rw [a2, a3]
        exact h6
end DL
namespace DL
open PySem PySem.Spec PyProof.Rows L2
def B_names_of : MS :=
  (oRet (fLc [1] (wSq (f2 gIx (fVar 0) (fC (PyData.int 0)))) (gN 1) cYes (f2 gIx (fVar 1) (fC (PyData.int 0)))))
def F_names_of := fnF 1 2 B_names_of
def B_need_shaft : MS :=
  (oIf (tOr (tNot (tTst (f1 (gIsi "str") (fVar 1)))) (tTst (f2 gNotIn (fVar 1) (fF F_names_of (sCons (fVar 0) sNil))))) oNever oNil)
def F_need_shaft := fnF 2 2 B_need_shaft
def L_choices_1 (F_choices : List D → Option T) : MS :=
  (oExp (fExtend 2 (fLc [5] (wSq (fF F_choices (sCons (fSl (fVar 0) (oSome (f2 gAdd (fVar 3) (fC (PyData.int 1)))) oNone) (sCons (f2 gSub (fVar 1) (fC (PyData.int 1))) sNil)))) (gN 5) cYes (f2 gAdd (fTup (sCons (fVar 4) sNil)) (fVar 5)))))
def BR_choices (F_choices : List D → Option T) : MS :=
  (oSeq (oIf (tTst (f2 gEq (fVar 1) (fC (PyData.int 0)))) (oRet (fLst (sCons (fTup sNil) sNil))) oNil)
  (oSeq (oSet true 2 (fLst sNil))
  (oSeq (oFor (wEn (fVar 0)) (gT 2 (gsCons (gN 3) (gsCons (gN 4) gsNil))) (L_choices_1 F_choices))
  (oRet (fVar 2)))))
def FR_choices : Nat → List D → Option T
  | 0 => fnF 2 6 oNever
  | k + 1 => fnF 2 6 (BR_choices (FR_choices k))
def F_choices := FR_choices 8
def B_with_locked : MS :=
  (oSeq (oSet false 2 (fLc [3] (wSq (f2 gIx (fVar 0) (fC (PyData.int 1)))) (gN 3) cYes (fIf (tTst (f2 gInA (fSl (fVar 3) oNone (oSome (fC (PyData.int 2)))) (fVar 1))) (f2 gAdd (fSl (fVar 3) oNone (oSome (fC (PyData.int 2)))) (fTup (sCons (fC (PyData.int 1000000000000)) sNil))) (fVar 3))))
  (oRet (fTup (sCons (f2 gIx (fVar 0) (fC (PyData.int 0))) (sCons (fB gTupOf (pCons (fVar 2) pNil)) sNil)))))
def F_with_locked := fnF 2 4 B_with_locked
def L_fewest_locked_1 : MS :=
  (oSeq (oSet false 6 (f2 gIx (fF F_turning (sCons (fF F_with_locked (sCons (fVar 0) (sCons (fVar 5) sNil))) (sCons (fF F_wishes_of (sCons (fVar 0) sNil)) sNil))) (fC (PyData.int 0))))
  (oIf (tTst (f2 gEq (f2 gIx (fVar 6) (fVar 1)) (f2 gIx (fVar 6) (fVar 2)))) (oRet (fVar 5)) oNil))
def L_fewest_locked_2 : MS :=
  (oFor (wSq (fF F_choices (sCons (fVar 3) (sCons (fVar 4) sNil)))) (gN 5) L_fewest_locked_1)
def B_fewest_locked : MS :=
  (oSeq (oExp (fF F_need_train (sCons (fVar 0) sNil)))
  (oSeq (oExp (fF F_need_shaft (sCons (fVar 0) (sCons (fVar 1) sNil))))
  (oSeq (oExp (fF F_need_shaft (sCons (fVar 0) (sCons (fVar 2) sNil))))
  (oSeq (oSet false 3 (fLc [7] (wSq (f2 gIx (fVar 0) (fC (PyData.int 1)))) (gN 7) cYes (fSl (fVar 7) oNone (oSome (fC (PyData.int 2))))))
  (oSeq (oFor (wR1 (f2 gAdd (fB gLen (pCons (fVar 3) pNil)) (fC (PyData.int 1)))) (gN 4) L_fewest_locked_2)
  (oRet (fC PyData.none)))))))
def F_fewest_locked := fnF 3 8 B_fewest_locked
def B_speeds : MS :=
  (oSeq (oExp (fF F_need_train (sCons (fVar 0) sNil)))
  (oRet (fItems (fF F_speeds_of (sCons (fVar 0) sNil)))))
def F_speeds := fnF 1 1 B_speeds
def L__law_lots_1 : MS :=
  (oSet false 1 (f2 gAdd (fVar 1) (fLc [3] (wSq (fVar 1)) (gN 3) cYes (f2 gAdd (fVar 3) (fTup (sCons (fVar 2) sNil))))))
def B__law_lots : MS :=
  (oSeq (oSet false 1 (fLst (sCons (fTup sNil) sNil)))
  (oSeq (oFor (wSq (fVar 0)) (gN 2) L__law_lots_1)
  (oRet (fLc [4, 3] (wSq (fB gSorted (pCons (fLc [3] (wSq (fVar 1)) (gN 3) cYes (fTup (sCons (fB gLen (pCons (fVar 3) pNil)) (sCons (fVar 3) sNil)))) pNil))) (gT 2 (gsCons (gN 4) (gsCons (gN 3) gsNil))) cYes (fVar 3)))))
def F__law_lots := fnF 1 5 B__law_lots
end DL
namespace DL
open PySem PySem.Spec PyProof.Rows L2
/-! ### speeds(train) -/
def spD (n : Nm) (q : Rat) : D := .tuple [nD n, frD q]
theorem pairs_fn (ns : List Nm) (x : Nm → Rat) : pairsD (fnD frD ns x) = ns.map fun n => spD n (x n) := by
  unfold pairsD fnD
  rw [List.map_map]
  rfl
theorem sp_alike (a b : Nm) (p q : Rat) : PySem.W.alike (spD a p) (spD b q) = true := by simp [spD, PySem.W.alike, PySem.W.alikeAll, nm_alike, frD]
theorem sort_sp (ns : List Nm) (x : Nm → Rat) (h : ns.length ≤ 1000) : sortB (ns.map fun n => spD n (x n)) = true := by
  unfold sortB
  simp only [Bool.and_eq_true, Bool.or_eq_true, List.all_eq_true, decide_eq_true_eq, List.mem_map]
  refine ⟨⟨⟨⟨?_, .inl ?_⟩, by simp; omega⟩, ?_⟩, ?_⟩
  · rintro d ⟨c, _, rfl⟩ e ⟨c', _, rfl⟩
    exact sp_alike _ _ _ _
  · rintro d ⟨c, _, rfl⟩
    rfl
  · rintro d ⟨c, _, rfl⟩
    simp [spD, PyData.depth, PyData.depthAll]
  · rintro d ⟨c, _, rfl⟩
    simp [spD, PyData.canLay0, PyData.canLayAll0]
theorem dataLt_sp {a b : Nm} (p q : Rat) (h : a ≠ b) : PySem.W.dataLt (spD a p) (spD b q) = nLt a b := by
  have hd : ∀ a b : Nm, PySem.W.dataLt (nD a) (nD b) = nLt a b := fun a b => PySem.W.dataLt_str a.s b.s
  have hal : PySem.W.alike (frD p) (frD q) = true := by simp [frD, PySem.W.alike, PySem.W.alikeAll]
  unfold spD
  rw [PySem.W.dataLt_pair (nm_alike _ _) hal]
  simp [h, hd]
theorem srt_sp {ns : List Nm} (x : Nm → Rat) (h : ns.Pairwise fun a b => nLt a b = true) : srtD (ns.map fun n => spD n (x n)) = ns.map fun n => spD n (x n) := by
  unfold srtD
  refine List.mergeSort_of_pairwise ?_
  rw [List.pairwise_map]
  refine h.imp fun {a b} hab => ?_
  show (!PySem.W.dataLt (spD b (x b)) (spD a (x a))) = true
  rw [dataLt_sp _ _ (fun z => nLt_ne hab z.symm)]
  cases e : nLt b a with
  | false => rfl
  | true =>
    have := nLt_trans a b a hab e
    rw [nLt_irrefl] at this
    cases this
theorem F_speeds_eq {t : Tr} (h : isTr t = true) : ∃ x c, Equi (nmsOf t) (sR t) t.cl (wR t) x c ∧ (∀ n ∈ nmsOf t, ht (x n) 487) ∧ F_speeds [trD t] = some (.nw ((nmsOf t).map fun n => spD n (x n))) := by
  obtain ⟨ok, hb, _, _, pw⟩ := isTr_ok h
  obtain ⟨x, c, he, hx, hF⟩ := F_speeds_of_eq ok hb
  refine ⟨x, c, he, hx, ?_⟩
  have hs := itemsD_dict (kvs := fnD frD (nmsOf t) x) (by rw [pairs_fn]; exact sort_sp _ _ (by have := nms_len ok; omega))
  rw [pairs_fn, srt_sp x pw] at hs
  simp only [F_speeds, fnF, B_speeds]
  simp [F_need_eq h, hF, hs]
end DL
namespace DL
open PySem PySem.Spec PyProof.Rows L2
theorem F_names_eq {t : Tr} (h : t.sh.length ≤ 1000) : F_names_of [trD t] = some (.nw ((nmsOf t).map nD)) := by
  have hlc := lcL_all (vs := [1]) (G := gN 1) (P := cYes) (E := f2 gIx (fVar 1) (fC (PyData.int 0))) (enc := shD) (xs := t.sh) (fun x => nD x.1) (δ := [.fz (trD t), .un]) (by omega) (fun x hx => by simp [lStep, shD])
  have i0 : gIx (trD t) (.int 0) = some (.fz (.tuple (t.sh.map shD))) := rfl
  have e : (nmsOf t).map nD = t.sh.map fun x => nD x.1 := by unfold nmsOf; rw [List.map_map]; rfl
  rw [e]
  simp only [F_names_of, fnF, B_names_of]
  simp [i0, hlc]
theorem F_need_shaft_eq {t : Tr} (h : t.sh.length ≤ 1000) {n : Nm} (hn : n ∈ nmsOf t) : F_need_shaft [trD t, nD n] = some (.fz .none) := by
  have h1 := F_names_eq h
  have h2 := gNotIn_nm n (nmsOf t)
  simp only [F_need_shaft, fnF, B_need_shaft]
  simp [h1, h2, hn]
end DL
namespace DL
open PySem PySem.Spec PyProof.Rows L2
/-- all wish alike: all turn so, nothing is carried -/
theorem equi_const {ns : List Nm} {s : Nm → Rat} {es : List Cl} (hd : ∀ e ∈ es, 0 ≤ e.2.2) (a : Rat) : Equi ns s es (fun _ => a) (fun _ => a) fun _ => 0 := by
  refine ⟨fun n _ => ?_, fun e he => ⟨⟨?_, ?_⟩, fun h => absurd h (Rat.lt_irrefl), fun h => absurd h (Rat.lt_irrefl)⟩⟩
  · unfold dv
    rw [sm_zero fun e _ => by grind]
    grind
  · have h : ((0 : Int) : Rat) ≤ (e.2.2 : Rat) := by rw [Rat.intCast_le_intCast]; exact hd e he
    simp at h
    grind
  · have h : ((0 : Int) : Rat) ≤ (e.2.2 : Rat) := by rw [Rat.intCast_le_intCast]; exact hd e he
    simpa using h
/-- speeds lie between the wishes -/
theorem equi_between {t : Tr} (ok : TrOk t) {w x : Nm → Rat} {c : Cl → Rat} (h : Equi (nmsOf t) (sR t) t.cl w x c) {lo hi : Rat} (hw : ∀ n ∈ nmsOf t, lo ≤ w n ∧ w n ≤ hi) : ∀ n ∈ nmsOf t, lo ≤ x n ∧ x n ≤ hi := fun n hn => by
  have d : ∀ e ∈ t.cl, 0 ≤ e.2.2 := fun e he => (ok.dr e he).1
  have h1 := equi_mono ok.nd ok.ends (fun n hn => s_pos ok hn) (equi_const (ns := nmsOf t) (s := sR t) d lo) h (fun n hn => (hw n hn).1) n hn
  have h2 := equi_mono ok.nd ok.ends (fun n hn => s_pos ok hn) h (equi_const (ns := nmsOf t) (s := sR t) d hi) (fun n hn => (hw n hn).2) n hn
  exact ⟨h1, h2⟩
theorem sm_const {α : Type} (l : List α) (a : Rat) : sm l (fun _ => a) = (l.length : Rat) * a := by
  induction l with
  | nil => simp
  | cons b l ih =>
    rw [sm_cons, ih, List.length_cons]
    have : (((l.length + 1 : Nat)) : Rat) = (l.length : Rat) + 1 := by
      rw [Rat.natCast_add]; rfl
    rw [this]
    grind
end DL
namespace DL
open PySem PySem.Spec PyProof.Rows L2
theorem st_le9 {t : Tr} (ok : TrOk t) {n : Nm} (hn : n ∈ nmsOf t) : sR t n ≤ 9 := by
  have h := (st_bd ok hn).2
  unfold sR
  have : (stOf t n : Rat) ≤ ((9 : Int) : Rat) := by rw [Rat.intCast_le_intCast]; exact h
  simpa using this
/-- what is carried is bounded -/
theorem flow_bd {t : Tr} (ok : TrOk t) (hb : Br t.cl) {w x : Nm → Rat} {c : Cl → Rat} (h : Equi (nmsOf t) (sR t) t.cl w x c) {b : Rat} (hb0 : 0 ≤ b) (hw : ∀ n ∈ nmsOf t, -b ≤ w n ∧ w n ≤ b) : ∀ e ∈ t.cl, -(6 * (18 * b)) ≤ c e ∧ c e ≤ 6 * (18 * b) := fun e he => by
  have hx := equi_between ok h hw
  have hf := equi_flow ok.nd hb ok.ends h e he
  have one : ∀ n ∈ nmsOf t, -(18 * b) ≤ sR t n * (w n - x n) ∧ sR t n * (w n - x n) ≤ 18 * b := fun n hn => by
    have h1 := hw n hn
    have h2 := hx n hn
    have s0 := s_pos ok hn
    have s9 := st_le9 ok hn
    have u : w n - x n ≤ 2 * b := by grind
    have l : -(2 * b) ≤ w n - x n := by grind
    have m1 := Rat.mul_le_mul_of_nonneg_left u (Rat.le_of_lt s0)
    have m2 := Rat.mul_le_mul_of_nonneg_left l (Rat.le_of_lt s0)
    have m3 := Rat.mul_le_mul_of_nonneg_right s9 (show (0 : Rat) ≤ 2 * b by grind)
    constructor <;> grind
  have hl : ((nmsOf t).length : Rat) ≤ 6 := by
    have := nms_len ok
    exact_mod_cast this
  have b18 : (0 : Rat) ≤ 18 * b := by grind
  have up : c e ≤ ((nmsOf t).length : Rat) * (18 * b) := by
    rw [hf, ← sm_const]
    refine sm_le fun n hn => ?_
    split
    · exact (one n hn).2
    · exact b18
  have lo : ((nmsOf t).length : Rat) * (-(18 * b)) ≤ c e := by
    rw [hf, ← sm_const]
    refine sm_le fun n hn => ?_
    split
    · exact (one n hn).1
    · grind
  have m := Rat.mul_le_mul_of_nonneg_right hl b18
  constructor <;> grind
end DL
namespace DL
open PySem PySem.Spec PyProof.Rows L2
/-! ### choices -/
def chs {α : Type} : List α → Nat → List (List α)
  | _, 0 => [[]]
  | [], _ + 1 => []
  | a :: l, k + 1 => (chs l k).map (fun x => a :: x) ++ chs l (k + 1)
theorem chs_zero {α : Type} (l : List α) : chs l 0 = [[]] := by cases l <;> rfl
theorem chs_nil {α : Type} (k : Nat) : chs ([] : List α) (k + 1) = [] := rfl
theorem chs_cons {α : Type} (a : α) (l : List α) (k : Nat) : chs (a :: l) (k + 1) = (chs l k).map (fun x => a :: x) ++ chs l (k + 1) := rfl
theorem chs_len {α : Type} : ∀ (l : List α) (k : Nat), (chs l k).length ≤ 2 ^ l.length
  | [], 0 => by simp [chs]
  | [], k + 1 => by simp [chs]
  | a :: l, 0 => by
    rw [chs_zero]
    exact Nat.pow_pos (by decide)
  | a :: l, k + 1 => by
    rw [chs_cons, List.length_append, List.length_map, List.length_cons, Nat.pow_succ]
    have := chs_len l k
    have := chs_len l (k + 1)
    omega
theorem chs_mem {α : Type} : ∀ {l : List α} {k : Nat} {x : List α}, x ∈ chs l k → x.length = k ∧ x.Sublist l
  | l, 0, x, h => by
    rw [chs_zero] at h
    simp at h
    subst h
    simp
  | [], k + 1, x, h => by simp [chs] at h
  | a :: l, k + 1, x, h => by
    rw [chs_cons] at h
    rcases List.mem_append.mp h with h | h
    · obtain ⟨y, hy, rfl⟩ := List.mem_map.mp h
      obtain ⟨h1, h2⟩ := chs_mem hy
      exact ⟨by simp [h1], h2.cons₂ a⟩
    · obtain ⟨h1, h2⟩ := chs_mem h
      exact ⟨h1, h2.cons a⟩
def ltD (l : List (Nm × Nm)) : D := .tuple (l.map prD)
def lsD (l : List (Nm × Nm)) : D := .list (l.map prD)
theorem ch_loop {F : List D → Option T} {k : Nat} (hF : ∀ l : List (Nm × Nm), l.length ≤ 5 → F [lsD l, .int k] = some (.nw ((chs l k).map ltD))) : ∀ (suf pre : List (Nm × Nm)) (acc : List (List (Nm × Nm))) (j3 j4 : Sl), (pre ++ suf).length ≤ 5 → acc.length + 40 * suf.length ≤ 1000 →
    ∃ j3' j4', forL (gT 2 (gsCons (gN 3) (gsCons (gN 4) gsNil))) (L_choices_1 F) (enumF pre.length (suf.map prD)) [.fz (lsD (pre ++ suf)), .fz (.int ((k : Int) + 1)), .ow (acc.map ltD), j3, j4, .un] = some (.nx [.fz (lsD (pre ++ suf)), .fz (.int ((k : Int) + 1)), .ow ((acc ++ chs suf (k + 1)).map ltD), j3', j4', .un])
  | [], pre, acc, j3, j4, _, _ => ⟨j3, j4, by simp [enumF, forL, chs_nil]⟩
  | a :: suf, pre, acc, j3, j4, hl, ha => by
    have hs : suf.length ≤ 5 := by simp at hl; omega
    have h1 : F [.list (suf.map prD), .int k] = _ := hF suf hs
    have hc := chs_len suf k
    have h32 : 2 ^ suf.length ≤ 32 := Nat.pow_le_pow_right (by decide) hs
    obtain ⟨j3', j4', ih⟩ := ch_loop hF suf (pre ++ [a]) (acc ++ (chs suf k).map fun x => a :: x) (.fz (.int pre.length)) (.fz (prD a)) (by simpa using hl) (by simp at ha ⊢; omega)
    have hdrop : gSl (some ((pre.length : Int) + 1)) none (lsD (pre ++ a :: suf)) = some (.nw (suf.map prD)) := by
      unfold lsD
      rw [gSl_lst, cut_dropk, ← List.map_drop]
      congr 3
      simp [List.drop_append]
    have hlc := lcL_all (vs := [5]) (G := gN 5) (P := cYes) (E := f2 gAdd (fTup (sCons (fVar 4) sNil)) (fVar 5)) (enc := ltD) (xs := chs suf k) (fun x => ltD (a :: x)) (δ := [.fz (lsD (pre ++ a :: suf)), .fz (.int ((k : Int) + 1)), .ow (acc.map ltD), .fz (.int pre.length), .fz (prD a), .un]) (by omega) (fun x hx => by
      have hx := (chs_mem hx).2.length_le
      have hg : gAdd (.tuple [prD a]) (ltD x) = some (.fz (ltD (a :: x))) := by
        unfold ltD
        rw [gAdd_tup (by simp; omega)]
        rfl
      simp [lStep, hg])
    refine ⟨j3', j4', ?_⟩
    have ek : ((k : Int) + 1 - 1) = k := by omega
    have el : acc.length + (chs suf k).length ≤ 1000000 := by simp at ha; omega
    have step : fStep (gT 2 (gsCons (gN 3) (gsCons (gN 4) gsNil))) (L_choices_1 F) (.tuple [.int pre.length, prD a]) [.fz (lsD (pre ++ a :: suf)), .fz (.int ((k : Int) + 1)), .ow (acc.map ltD), j3, j4, .un] =
        some (.nx [.fz (lsD (pre ++ a :: suf)), .fz (.int ((k : Int) + 1)), .ow ((acc ++ (chs suf k).map fun x => a :: x).map ltD), .fz (.int pre.length), .fz (prD a), .un]) := by
      simp [fStep, L_choices_1, hdrop, ek, h1, hlc, el, T.isAl]
    show forL _ _ (.tuple [.int pre.length, prD a] :: enumF (pre.length + 1) (suf.map prD)) _ = _
    rw [forL_cons, step]
    have e1 : (pre ++ [a]).length = pre.length + 1 := by simp
    rw [e1] at ih
    simp only [List.append_assoc, List.singleton_append] at ih
    rw [chs_cons]
    exact ih
theorem FR_choices_eq : ∀ (f k : Nat) (l : List (Nm × Nm)), l.length ≤ 5 → k < f → FR_choices f [lsD l, .int k] = some (.nw ((chs l k).map ltD))
  | 0, k, l, _, h => by omega
  | f + 1, 0, l, hl, _ => by
    show fnF 2 6 (BR_choices (FR_choices f)) _ = _
    rw [chs_zero]
    simp [fnF, BR_choices, ltD, lsD]
  | f + 1, k + 1, l, hl, h => by
    show fnF 2 6 (BR_choices (FR_choices f)) _ = _
    obtain ⟨j3, j4, hloop⟩ := ch_loop (k := k) (F := FR_choices f) (fun l hl => FR_choices_eq f k l hl (by omega)) l [] [] .un .un (by simpa using hl) (by simp; omega)
    have hk : ¬ ((k : Int) + 1 = 0) := by omega
    simp at hloop
    have hw : wk (lsD l) = some (l.map prD) := rfl
    simp [fnF, BR_choices, hk, hw, hloop]
theorem F_choices_eq {k : Nat} {l : List (Nm × Nm)} (hl : l.length ≤ 5) (hk : k ≤ 7) : F_choices [lsD l, .int k] = some (.nw ((chs l k).map ltD)) := FR_choices_eq 8 k l hl (by omega)
end DL
namespace DL
open PySem PySem.Spec PyProof.Rows L2
/-! ### the speeds as a function -/
def stAt (t : Tr) (w : Nm → Rat) : List Int := ((allSt t.cl).find? (feas t w)).getD []
def spd (t : Tr) (w : Nm → Rat) : Nm → Rat := turnOf t (stAt t w) w
def cur (t : Tr) (w : Nm → Rat) : Cl → Rat := cR t (stAt t w) w
section
variable {t : Tr} {w x : Nm → Rat} {c : Cl → Rat} {kw : Nat}
theorem stAt_ok (ok : TrOk t) (hb : Br t.cl) (w : Nm → Rat) : (allSt t.cl).find? (feas t w) = some (stAt t w) ∧ StOk (stAt t w) ∧ (stAt t w).length = t.cl.length := by
  obtain ⟨σ, h, hs, hl, _⟩ := turning_finds ok hb w
  unfold stAt
  rw [h]
  exact ⟨rfl, hs, hl⟩
theorem spd_equi (ok : TrOk t) (hb : Br t.cl) (w : Nm → Rat) : Equi (nmsOf t) (sR t) t.cl w (spd t w) (cur t w) := by
  obtain ⟨σ, h, hs, hl, he⟩ := turning_finds ok hb w
  unfold spd cur stAt
  rw [h]
  exact he
theorem spd_uniq (ok : TrOk t) (hb : Br t.cl) (h : Equi (nmsOf t) (sR t) t.cl w x c) : ∀ n ∈ nmsOf t, spd t w n = x n := equi_unique ok.nd ok.ends (fun n hn => s_pos ok hn) (spd_equi ok hb w) h
theorem cur_uniq (ok : TrOk t) (hb : Br t.cl) (h : Equi (nmsOf t) (sR t) t.cl w x c) : ∀ e ∈ t.cl, cur t w e = c e := equi_uniqueC ok.nd hb ok.ends (fun n hn => s_pos ok hn) (spd_equi ok hb w) h
theorem spd_ht (ok : TrOk t) (hb : Br t.cl) (hk : kw ≤ 30) (hw : ∀ n ∈ nmsOf t, ht (w n) kw) : ∀ n ∈ nmsOf t, ht (spd t w n) 487 := fun n hn => turn_ht ok (stAt_ok ok hb w).2.1 hk hw hn
theorem cur_ht (ok : TrOk t) (hb : Br t.cl) (hk : kw ≤ 30) (hw : ∀ n ∈ nmsOf t, ht (w n) kw) : ∀ e ∈ t.cl, ht (cur t w e) 3409 := fun e he => by
  obtain ⟨_, hs, hl⟩ := stAt_ok ok hb w
  refine car_ht ok hs hk hw _ ?_
  rw [cars_eq hb.nodup hl]
  exact List.mem_map.mpr ⟨e, he, rfl⟩
theorem F_turning_spd (ok : TrOk t) (hb : Br t.cl) (hk : kw ≤ 30) (hw : ∀ n ∈ nmsOf t, ht (w n) kw) : F_turning [trD t, dictD (fnD frD (nmsOf t) w)] = some (.fz (.tuple [dictD (fnD frD (nmsOf t) (spd t w)), .list (t.cl.map fun e => frD (cur t w e))])) := by
  obtain ⟨h, hs, hl⟩ := stAt_ok ok hb w
  rw [F_turning_eq ok hk hw, h]
  dsimp only
  unfold turD
  rw [cars_eq hb.nodup hl, List.map_map]
  rfl
theorem F_wishes_wR (ok : TrOk t) : F_wishes_of [trD t] = some (.nd (fnD frD (nmsOf t) (wR t))) := F_wishes_eq ok.nd (by have := ok.l1; omega)
theorem F_speeds_of_spd (ok : TrOk t) (hb : Br t.cl) : F_speeds_of [trD t] = some (.fz (dictD (fnD frD (nmsOf t) (spd t (wR t))))) := by
  have hw := F_wishes_wR ok
  have hF := F_turning_spd ok hb (kw := 20) (by decide) (w_ht ok)
  simp only [F_speeds_of, fnF, B_speeds_of]
  simp [hw, hF]
theorem F_slips_spd (h : isTr t = true) : F_slips [trD t] = some (.nw (slipsD t (spd t (wR t)))) := by
  obtain ⟨ok, hb, _⟩ := isTr_ok h
  obtain ⟨x, c, he, hF⟩ := F_slips_eq h
  rw [hF]
  have hu := spd_uniq ok hb he
  congr 2
  unfold slipsD
  congr 1
  refine List.filter_congr fun e he => ?_
  rw [hu _ (ok.ends e he).1, hu _ (ok.ends e he).2]
theorem F_speeds_spd (h : isTr t = true) : F_speeds [trD t] = some (.nw ((nmsOf t).map fun n => spD n (spd t (wR t) n))) := by
  obtain ⟨ok, hb, _⟩ := isTr_ok h
  obtain ⟨x, c, he, _, hF⟩ := F_speeds_eq h
  rw [hF]
  have hu := spd_uniq ok hb he
  congr 2
  exact List.map_congr_left fun n hn => by rw [hu n hn]
end
end DL
namespace DL
open PySem PySem.Spec PyProof.Rows L2
theorem oFor_eq {I : M (List D)} {G : GF} {B : MS} {δ δ1 : Dn} {ds : List D} (h : I δ = some (ds, δ1)) : oFor I G B δ = forL G B ds δ1 := by
  simp [h]
theorem lo62 (n : Nat) : -(2 ^ 62) ≤ ((n : Nat) : Int) := Int.le_trans (by decide : -(2 ^ 62) ≤ (0 : Int)) (Int.natCast_nonneg n)
theorem hi62 {n : Nat} (hn : n ≤ 1000000) : ((n : Nat) : Int) < 2 ^ 62 := Int.lt_of_le_of_lt (Int.ofNat_le.mpr hn) (by decide : ((1000000 : Nat) : Int) < 2 ^ 62)
theorem ite62 {α : Type} {x y : α} {n : Nat} (hn : n ≤ 1000000) : (if -(2 ^ 62) ≤ ((n : Nat) : Int) ∧ ((n : Nat) : Int) < 2 ^ 62 then x else y) = x := if_pos ⟨lo62 n, hi62 hn⟩
theorem wR1_eq {A : M T} {δ δ1 : Dn} {n : Nat} (h : A δ = some (.fz (.int n), δ1)) (hn : n ≤ 1000000) : wR1 A δ = some (rngD 0 n, δ1) := by
  unfold wR1
  rw [h, Option.bind_some]
  dsimp only
  rw [asI_int, Option.bind_some, ite62 hn, Int.toNat_natCast]
end DL
namespace DL
open PySem PySem.Spec PyProof.Rows L2
/-! ### tools for the laws' own functions -/
theorem oSeq_nx {A B : MS} {δ δ1 : Dn} {o : Option Out} (h : A δ = some (.nx δ1)) (h2 : B δ1 = o) : oSeq A B δ = o := by
  show (A δ).bind _ = o
  rw [h, ← h2]
  rfl
theorem oSeq_rt {A B : MS} {δ δ1 : Dn} {t : T} (h : A δ = some (.rt t δ1)) : oSeq A B δ = some (.rt t δ1) := by
  show (A δ).bind _ = _
  rw [h]
  rfl
theorem fnF_rt {n m : Nat} {B : MS} {ds : List D} {t t' : T} {δ : Dn} (hn : ds.length = n) (h : B (ds.map .fz ++ List.replicate (m - n) .un) = some (.rt t δ)) (hf : fin t δ = some t') : fnF n m B ds = some t' := by
  unfold fnF
  rw [if_pos hn, h]
  exact hf
theorem fStep_eq {G : GF} {B : MS} {d : D} {δ δ1 : Dn} {o : Option Out} (hg : G d δ = some δ1) (h : B δ1 = o) : fStep G B d δ = o := by
  unfold fStep
  rw [hg]
  exact h
theorem pick_nm {ws : List D} (hw : WellOk ws) {l : List Nm} (h1 : 1 ≤ l.length) (h2 : l.length ≤ 1000) : ∃ n ∈ l, ∃ (d : Int) (ws' : List D), F__law_take ws [.int l.length] = some (.fz (.int d), ws') ∧ WellOk ws' ∧ gIx (.list (l.map nD)) (.int d) = some (.fz (nD n)) := by
  obtain ⟨d, ws', h, hw', hd0, hd1⟩ := F_take_eq hw (many := l.length) (by omega) (by omega)
  obtain ⟨k, rfl⟩ : ∃ k : Nat, d = k := ⟨d.toNat, by omega⟩
  have hk : k < l.length := by omega
  refine ⟨l[k], List.getElem_mem hk, k, ws', h, hw', ?_⟩
  rw [gIx_lst, atI_map (List.getElem?_eq_getElem hk)]
  rfl
theorem dict_sp {ns : List Nm} (x : Nm → Rat) (hn : ns.Nodup) : gDictP [.list (ns.map fun n => spD n (x n))] = some (.nd (fnD frD ns x)) := by
  have hp : ∀ l : List Nm, pairsOf (l.map fun n => spD n (x n)) = some (fnD frD l x) := by
    intro l
    induction l with
    | nil => rfl
    | cons n l ih =>
      show (pairOf _).bind _ = _
      rw [ih]
      rfl
  have hm := merge_fn (ev := frD) x ns [] (by simpa using hn)
  have e0 : fnD frD ([] : List Nm) x = [] := rfl
  rw [e0, List.nil_append] at hm
  show (pairsOf _).map _ = _
  rw [hp, Option.map_some, hm]
theorem dix_fn {ns : List Nm} {x : Nm → Rat} {n : Nm} (h : n ∈ ns) : gIx (dictD (fnD frD ns x)) (nD n) = some (.fz (frD (x n))) := by rw [nD, gIx_dict, dget_fn h]; rfl
/-- the law's main loop: for k in range(max(lo, min(hi, len(script)))) -/
theorem law_for {lo hi : Int} {B : MS} {ns : List Int} (h0 : 0 ≤ lo) (hlo : lo ≤ 100) (hh : hi ≤ 100) (Q : Dn → Prop) {δ : Dn} (hq : Q (.fz (scrD ns) :: δ))
    (h : ∀ (k : Nat) δ, k ≤ 100 → Q δ → ∃ δ', fStep (gN 1) B (.int k) δ = some (.nx δ') ∧ Q δ') :
    ∃ δ', oFor (wR1 (fB gMaxA (pCons (fC (PyData.int lo)) (pCons (fB gMinA (pCons (fC (PyData.int hi)) (pCons (fB gLen (pCons (fVar 0) pNil)) pNil))) pNil)))) (gN 1) B (.fz (scrD ns) :: δ) = some (.nx δ') ∧ Q δ' := by
  have hmm : ∃ (m : Int) (n : Nat), gMinA [.int hi, .int ns.length] = some (.fz (.int m)) ∧ gMaxA [.int lo, .int m] = some (.fz (.int (n : Nat))) ∧ n ≤ 100 := by
    refine ⟨if (ns.length : Int) < hi then ns.length else hi, (if (if (ns.length : Int) < hi then (ns.length : Int) else hi) > lo then (if (ns.length : Int) < hi then (ns.length : Int) else hi) else lo).toNat, by rw [gMinA_int], ?_, ?_⟩
    · rw [gMaxA_int, Int.toNat_of_nonneg]
      repeat' split
      all_goals omega
    · repeat' split
      all_goals omega
  obtain ⟨mm, n, hmin, hmax, hn⟩ := hmm
  obtain ⟨δ', hk, hq'⟩ := forL_fold (G := gN 1) (B := B) (enc := fun k : Nat => PyData.int k) (xs := List.range n) (fun (_ : Unit) δ => Q δ) (fun b _ => b) (b := ()) (δ := .fz (scrD ns) :: δ) hq (by
    intro b δ k hk hq
    obtain ⟨δ', h1, h2⟩ := h k δ (by have := List.mem_range.mp hk; omega) hq
    exact ⟨δ', .inl h1, h2⟩)
  refine ⟨δ', ?_, by simpa using hq'⟩
  have hgl := gLen_scr ns
  have hI := wR1_eq (A := fB gMaxA (pCons (fC (PyData.int lo)) (pCons (fB gMinA (pCons (fC (PyData.int hi)) (pCons (fB gLen (pCons (fVar 0) pNil)) pNil))) pNil))) (δ := .fz (scrD ns) :: δ) (δ1 := .fz (scrD ns) :: δ) (n := n) (by simp [hgl, hmin, hmax]) (by omega)
  rw [rng0] at hI
  exact (oFor_eq hI).trans hk
end DL
namespace DL
open PySem PySem.Spec PyProof.Rows L2
/-! ### locked clutches -/
def lockC (m : Int) (lot : List (Nm × Nm)) (c : Cl) : Cl := if (c.1, c.2.1) ∈ lot then (c.1, c.2.1, m) else c
def lockT (m : Int) (lot : List (Nm × Nm)) (t : Tr) : Tr := ⟨t.sh, t.cl.map (lockC m lot)⟩
theorem lockC_ends (m : Int) (lot : List (Nm × Nm)) (c : Cl) : (lockC m lot c).1 = c.1 ∧ (lockC m lot c).2.1 = c.2.1 := by
  unfold lockC
  split <;> exact ⟨rfl, rfl⟩
theorem br_map {f : Cl → Cl} (hf : ∀ c, (f c).1 = c.1 ∧ (f c).2.1 = c.2.1) {es : List Cl} (h : Br es) : Br (es.map f) := by
  rintro l1 e l2 he hc
  obtain ⟨k1, k2, rfl, h1, h2⟩ := List.map_eq_append_iff.mp he
  obtain ⟨d, k3, rfl, h3, h4⟩ := List.map_eq_cons_iff.mp h2
  subst h1 h3 h4
  rw [← List.map_append, conn_map hf, (hf d).1, (hf d).2] at hc
  exact h k1 d k3 rfl hc
theorem ring_map {f : Cl → Cl} (hf : ∀ c, (f c).1 = c.1 ∧ (f c).2.1 = c.2.1) {es : List Cl} (h : makeRing es = false) : makeRing (es.map f) = false := ring_of_br (br_map hf (br_of_ring h))
section
variable {t : Tr} {m : Int} {lot : List (Nm × Nm)}
theorem lock_nms : nmsOf (lockT m lot t) = nmsOf t := rfl
theorem lock_wR : wR (lockT m lot t) = wR t := rfl
theorem lock_sR : sR (lockT m lot t) = sR t := rfl
theorem lock_ok (ok : TrOk t) (h0 : 0 ≤ m) (h1 : m ≤ 1000000000000) : TrOk (lockT m lot t) := by
  refine ⟨ok.nd, fun c hc => ?_, ok.l1, by simpa [lockT] using ok.l2, ok.st, ok.wi, fun c hc => ?_⟩
  · obtain ⟨d, hd, rfl⟩ := List.mem_map.mp hc
    rw [(lockC_ends m lot d).1, (lockC_ends m lot d).2]
    exact ok.ends d hd
  · obtain ⟨d, hd, rfl⟩ := List.mem_map.mp hc
    unfold lockC
    split
    · exact ⟨h0, h1⟩
    · exact ok.dr d hd
theorem lock_br (hb : Br t.cl) : Br (lockT m lot t).cl := br_map (lockC_ends m lot) hb
theorem lock_prs : prsOf (lockT m lot t) = prsOf t := by
  unfold prsOf lockT
  rw [List.map_map]
  exact List.map_congr_left fun c _ => by
    show ((lockC m lot c).1, (lockC m lot c).2.1) = _
    rw [(lockC_ends m lot c).1, (lockC_ends m lot c).2]
theorem lock_isTr (h : isTr t = true) (h0 : 0 ≤ m) (h1 : m ≤ 1000000) : isTr (lockT m lot t) = true := by
  unfold isTr at h ⊢
  simp only [Bool.and_eq_true, decide_eq_true_eq, List.all_eq_true, Bool.not_eq_true'] at h ⊢
  obtain ⟨⟨⟨⟨a1, a2⟩, a3⟩, a4, a5, a6⟩, a7, a8⟩ := h
  refine ⟨⟨⟨⟨a1, a2⟩, a3⟩, a4, by simpa [lockT] using a5, fun c hc => ?_⟩, by rw [lock_prs]; exact a7, ring_map (lockC_ends m lot) a8⟩
  obtain ⟨d, hd, rfl⟩ := List.mem_map.mp hc
  have := a6 d hd
  unfold clutchOk at this ⊢
  rw [lock_nms, (lockC_ends m lot d).1, (lockC_ends m lot d).2]
  unfold lockC
  split
  · simp only [Bool.and_eq_true, decide_eq_true_eq] at this ⊢
    exact ⟨this.1, this.2.1, this.2.2.1, h0, h1⟩
  · exact this
end
@[simp] theorem lay_pr (p : Nm × Nm) : (prD p).canLay0 = true := by simp [prD, PyData.canLay0, PyData.canLayAll0]
@[simp] theorem dep_pr' (p : Nm × Nm) : (prD p).depth = 1 := by simp [prD, PyData.depth, PyData.depthAll]
@[simp] theorem shp_pr (p : Nm × Nm) : SeqAt.shaped (prD p) = true := shaped_of (by simp) (by simp)
@[simp] theorem lay_lt (l : List (Nm × Nm)) : (ltD l).canLay0 = true := by
  unfold ltD
  simp only [PyData.canLay0]
  exact layAll_map _ lay_pr l
theorem dep_lt (l : List (Nm × Nm)) : (ltD l).depth ≤ 2 := by
  unfold ltD
  have := depAll_map prD 1 (by simp) l
  simp only [PyData.depth]
  omega
@[simp] theorem shp_lt (l : List (Nm × Nm)) : SeqAt.shaped (ltD l) = true := shaped_of (by simp) (by have := dep_lt l; omega)
@[simp] theorem eqv_pr (p q : Nm × Nm) : PyData.eqv (prD p) (prD q) = decide (p = q) := by
  obtain ⟨a, b⟩ := p
  obtain ⟨c, d⟩ := q
  simp [prD, PyData.eqv, PyData.eqvAll, -eqv_nm, nD, nm_beq]
theorem gInA_pr (p : Nm × Nm) (l : List (Nm × Nm)) : gInA (prD p) (ltD l) = some (.fz (.bool (decide (p ∈ l)))) := by
  have h : gInA (prD p) (ltD l) = gInT (prD p) (.tuple (l.map prD)) := rfl
  rw [h]
  have h1 : SeqAt.shaped (.tuple (l.map prD)) = true := shp_lt l
  simp only [gInT, shp_pr, h1, Bool.and_self, if_true]
  congr 3
  rw [List.any_map]
  by_cases hm : p ∈ l
  · simp [hm]
  · simp [hm]
    intro a b hx he
    exact hm (he ▸ hx)
theorem F_with_locked_eq {t : Tr} (h : t.cl.length ≤ 1000) (lot : List (Nm × Nm)) : F_with_locked [trD t, ltD lot] = some (.fz (trD (lockT 1000000000000 lot t))) := by
  have hlc := lcL_all (vs := [3]) (G := gN 3) (P := cYes) (E := fIf (tTst (f2 gInA (fSl (fVar 3) oNone (oSome (fC (PyData.int 2)))) (fVar 1))) (f2 gAdd (fSl (fVar 3) oNone (oSome (fC (PyData.int 2)))) (fTup (sCons (fC (PyData.int 1000000000000)) sNil))) (fVar 3)) (enc := clD) (xs := t.cl) (fun c => clD (lockC 1000000000000 lot c)) (δ := [.fz (trD t), .fz (ltD lot), .un, .un]) (by omega) (fun c hc => by
    have hi := gInA_pr (c.1, c.2.1) lot
    have hs : gSl none (some 2) (clD c) = some (.fz (prD (c.1, c.2.1))) := rfl
    have ha : gAdd (prD (c.1, c.2.1)) (.tuple [.int 1000000000000]) = some (.fz (clD (c.1, c.2.1, 1000000000000))) := rfl
    by_cases hm : (c.1, c.2.1) ∈ lot
    · simp [lStep, hs, hi, ha, hm, lockC]
    · simp [lStep, hs, hi, ha, hm, lockC])
  have i0 : gIx (trD t) (.int 0) = some (.fz (.tuple (t.sh.map shD))) := rfl
  have i1 : gIx (trD t) (.int 1) = some (.fz (clsD t.cl)) := rfl
  have hw : wk (clsD t.cl) = some (t.cl.map clD) := rfl
  have e : (lockT 1000000000000 lot t).cl.map clD = t.cl.map fun c => clD (lockC 1000000000000 lot c) := by
    unfold lockT
    rw [List.map_map]
    rfl
  have e2 : trD (lockT 1000000000000 lot t) = .tuple [.tuple (t.sh.map shD), .tuple (t.cl.map fun c => clD (lockC 1000000000000 lot c))] := by
    rw [← e]
    rfl
  rw [e2]
  simp only [F_with_locked, fnF, B_with_locked]
  simp [i0, i1, hw, hlc]
end DL
namespace DL
open PySem PySem.Spec PyProof.Rows L2
def alikeL (t : Tr) (a b : Nm) (lot : List (Nm × Nm)) : Bool := decide (spd (lockT 1000000000000 lot t) (wR t) a = spd (lockT 1000000000000 lot t) (wR t) b)
def optL : Option (List (Nm × Nm)) → D
  | none => .none
  | some l => ltD l
def allLots (l : List (Nm × Nm)) : List (List (Nm × Nm)) := (List.range (l.length + 1)).flatMap (chs l)
theorem findSome_flat {α β : Type} (f : α → List β) (p : β → Bool) : ∀ xs : List α, (xs.findSome? fun x => (f x).find? p) = (xs.flatMap f).find? p
  | [] => rfl
  | x :: xs => by
    have ih := findSome_flat f p xs
    rw [List.findSome?_cons, List.flatMap_cons, List.find?_append, ← ih]
    cases (f x).find? p with
    | none => rfl
    | some y => rfl
theorem fewest_loop {t : Tr} (h : isTr t = true) {a b : Nm} (ha : a ∈ nmsOf t) (hb' : b ∈ nmsOf t) : ∃ j4 j5 j6, oFor (wR1 (f2 gAdd (fB gLen (pCons (fVar 3) pNil)) (fC (PyData.int 1)))) (gN 4) L_fewest_locked_2 [.fz (trD t), .fz (nD a), .fz (nD b), .fz (lsD (prsOf t)), .un, .un, .un, .un] =
    match ((allLots (prsOf t)).find? (alikeL t a b)).map ltD with
    | none => some (.nx [.fz (trD t), .fz (nD a), .fz (nD b), .fz (lsD (prsOf t)), j4, j5, j6, .un])
    | some d => some (.rt (.fz d) [.fz (trD t), .fz (nD a), .fz (nD b), .fz (lsD (prsOf t)), j4, j5, j6, .un]) := by
  obtain ⟨ok, hb, _⟩ := isTr_ok h
  have l5 : t.cl.length ≤ 5 := ok.l2
  have hpl : (prsOf t).length = t.cl.length := by simp [prsOf]
  have hw := F_wishes_wR ok
  have i0 : gIx (trD t) (.int 0) = some (.fz (.tuple (t.sh.map shD))) := rfl
  have i1 : gIx (trD t) (.int 1) = some (.fz (clsD t.cl)) := rfl
  have hwk : wk (clsD t.cl) = some (t.cl.map clD) := rfl
  have n1 := F_need_eq h
  have s6 : t.sh.length ≤ 1000 := by have := ok.l1; omega
  have n2 := F_need_shaft_eq s6 ha
  have n3 := F_need_shaft_eq s6 hb'
  let δ0 (j4 j5 j6 : Sl) : Dn := [.fz (trD t), .fz (nD a), .fz (nD b), .fz (lsD (prsOf t)), j4, j5, j6, .un]
  let Q : Dn → Prop := fun δ => ∃ j4 j5 j6, δ = δ0 j4 j5 j6
  -- one lot
  have one : ∀ δ lot, Q δ → ∃ δ', Q δ' ∧ match (if alikeL t a b lot then some (ltD lot) else none) with
      | none => (fStep (gN 5) L_fewest_locked_1 (ltD lot) δ = some (.nx δ') ∨ fStep (gN 5) L_fewest_locked_1 (ltD lot) δ = some (.ct δ'))
      | some d => fStep (gN 5) L_fewest_locked_1 (ltD lot) δ = some (.rt (.fz d) δ') := by
    rintro δ lot ⟨j4, j5, j6, rfl⟩
    have ok' := lock_ok (lot := lot) ok (m := 1000000000000) (by decide) (by decide)
    have hb2 := lock_br (m := 1000000000000) (lot := lot) hb
    have hL := F_with_locked_eq (t := t) (by omega) lot
    have hT : F_turning [trD (lockT 1000000000000 lot t), dictD (fnD frD (nmsOf t) (wR t))] = some (.fz (.tuple [dictD (fnD frD (nmsOf t) (spd (lockT 1000000000000 lot t) (wR t))), .list ((lockT 1000000000000 lot t).cl.map fun e => frD (cur (lockT 1000000000000 lot t) (wR t) e))])) := F_turning_spd (t := lockT 1000000000000 lot t) (w := wR t) ok' hb2 (kw := 20) (by decide) (show ∀ n ∈ nmsOf (lockT 1000000000000 lot t), ht (wR t n) 20 from w_ht (t := t) ok)
    have e1 : gIx (dictD (fnD frD (nmsOf t) (spd (lockT 1000000000000 lot t) (wR t)))) (nD a) = some (.fz (frD (spd (lockT 1000000000000 lot t) (wR t) a))) := by rw [nD, gIx_dict, dget_fn ha]; rfl
    have e2 : gIx (dictD (fnD frD (nmsOf t) (spd (lockT 1000000000000 lot t) (wR t)))) (nD b) = some (.fz (frD (spd (lockT 1000000000000 lot t) (wR t) b))) := by rw [nD, gIx_dict, dget_fn hb']; rfl
    refine ⟨δ0 j4 (.fz (ltD lot)) (.fz (dictD (fnD frD (nmsOf t) (spd (lockT 1000000000000 lot t) (wR t))))), ⟨_, _, _, rfl⟩, ?_⟩
    unfold alikeL
    by_cases he : spd (lockT 1000000000000 lot t) (wR t) a = spd (lockT 1000000000000 lot t) (wR t) b
    · simp [δ0, fStep, L_fewest_locked_1, hL, hw, hT, e1, e2, he]
    · simp [δ0, fStep, L_fewest_locked_1, hL, hw, hT, e1, e2, he]
  have outer := forL_find (G := gN 4) (B := L_fewest_locked_2) (enc := fun k : Nat => PyData.int k) (xs := List.range ((prsOf t).length + 1)) Q (fun k => ((chs (prsOf t) k).find? (alikeL t a b)).map ltD) (δ := δ0 .un .un .un) ⟨_, _, _, rfl⟩ (by
    rintro δ k hk ⟨j4, j5, j6, rfl⟩
    have hk' := List.mem_range.mp hk
    have hc := F_choices_eq (k := k) (l := prsOf t) (by omega) (by omega)
    obtain ⟨δ', q', h'⟩ := forL_find (G := gN 5) (B := L_fewest_locked_1) (enc := ltD) (xs := chs (prsOf t) k) Q (fun lot => if alikeL t a b lot then some (ltD lot) else none) (δ := δ0 (.fz (.int k)) j5 j6) ⟨_, _, _, rfl⟩ (fun δ x _ q => one δ x q)
    rw [find_some] at h'
    refine ⟨δ', q', ?_⟩
    have st : fStep (gN 4) L_fewest_locked_2 (.int k) (δ0 j4 j5 j6) = forL (gN 5) L_fewest_locked_1 ((chs (prsOf t) k).map ltD) (δ0 (.fz (.int k)) j5 j6) := by
      simp [δ0, fStep, L_fewest_locked_2, hc]
    cases hf : (chs (prsOf t) k).find? (alikeL t a b) with
    | none =>
      rw [hf] at h'
      exact .inl (st.trans h')
    | some lot =>
      rw [hf] at h'
      exact st.trans h')
  obtain ⟨δ', ⟨j4, j5, j6, rfl⟩, h'⟩ := outer
  have e : ((List.range ((prsOf t).length + 1)).findSome? fun k => ((chs (prsOf t) k).find? (alikeL t a b)).map ltD) = ((allLots (prsOf t)).find? (alikeL t a b)).map ltD := by
    unfold allLots
    rw [← findSome_flat, List.map_findSome?]
    rfl
  rw [e] at h'
  have hr : wR1 (f2 gAdd (fB gLen (pCons (fVar 3) pNil)) (fC (PyData.int 1))) (δ0 .un .un .un) = some (rngD 0 ((prsOf t).length + 1), δ0 .un .un .un) := by
    refine wR1_eq ?_ (by omega)
    have : gLen [lsD (prsOf t)] = some (.fz (.int ((prsOf t).length : Nat))) := by
      show gLen [.list ((prsOf t).map prD)] = _
      rw [gLen_lst, List.length_map]
    simp [δ0, this]
  rw [rng0] at hr
  refine ⟨j4, j5, j6, (oFor_eq hr).trans ?_⟩
  cases hq : ((allLots (prsOf t)).find? (alikeL t a b)).map ltD with
  | none =>
    rw [hq] at h'
    exact h'
  | some d =>
    rw [hq] at h'
    exact h'
theorem F_fewest_eq {t : Tr} (h : isTr t = true) {a b : Nm} (ha : a ∈ nmsOf t) (hb' : b ∈ nmsOf t) : F_fewest_locked [trD t, nD a, nD b] = some (.fz (optL ((allLots (prsOf t)).find? (alikeL t a b)))) := by
  obtain ⟨ok, hb, _⟩ := isTr_ok h
  have l5 : t.cl.length ≤ 5 := ok.l2
  have i1 : gIx (trD t) (.int 1) = some (.fz (clsD t.cl)) := rfl
  have hwk : wk (clsD t.cl) = some (t.cl.map clD) := rfl
  have n1 := F_need_eq h
  have s6 : t.sh.length ≤ 1000 := by have := ok.l1; omega
  have n2 := F_need_shaft_eq s6 ha
  have n3 := F_need_shaft_eq s6 hb'
  have hlc := lcL_all (vs := [7]) (G := gN 7) (P := cYes) (E := fSl (fVar 7) oNone (oSome (fC (PyData.int 2)))) (enc := clD) (xs := t.cl) (fun c => prD (c.1, c.2.1)) (δ := [.fz (trD t), .fz (nD a), .fz (nD b), .un, .un, .un, .un, .un]) (by omega) (fun c hc => by
    have hs : gSl none (some 2) (clD c) = some (.fz (prD (c.1, c.2.1))) := rfl
    simp [lStep, hs])
  have el : t.cl.map (fun c => prD (c.1, c.2.1)) = (prsOf t).map prD := by
    unfold prsOf
    rw [List.map_map]
    rfl
  rw [el] at hlc
  obtain ⟨j4, j5, j6, hz⟩ := fewest_loop h ha hb'
  have hD : PyData.list ((prsOf t).map prD) = lsD (prsOf t) := rfl
  have q1 : oExp (fF F_need_train (sCons (fVar 0) sNil)) [.fz (trD t), .fz (nD a), .fz (nD b), .un, .un, .un, .un, .un] = some (.nx [.fz (trD t), .fz (nD a), .fz (nD b), .un, .un, .un, .un, .un]) := by simp [n1]
  have q2 : oExp (fF F_need_shaft (sCons (fVar 0) (sCons (fVar 1) sNil))) [.fz (trD t), .fz (nD a), .fz (nD b), .un, .un, .un, .un, .un] = some (.nx [.fz (trD t), .fz (nD a), .fz (nD b), .un, .un, .un, .un, .un]) := by simp [n2]
  have q3 : oExp (fF F_need_shaft (sCons (fVar 0) (sCons (fVar 2) sNil))) [.fz (trD t), .fz (nD a), .fz (nD b), .un, .un, .un, .un, .un] = some (.nx [.fz (trD t), .fz (nD a), .fz (nD b), .un, .un, .un, .un, .un]) := by simp [n3]
  have q4 : oSet false 3 (fLc [7] (wSq (f2 gIx (fVar 0) (fC (PyData.int 1)))) (gN 7) cYes (fSl (fVar 7) oNone (oSome (fC (PyData.int 2))))) [.fz (trD t), .fz (nD a), .fz (nD b), .un, .un, .un, .un, .un] = some (.nx [.fz (trD t), .fz (nD a), .fz (nD b), .fz (lsD (prsOf t)), .un, .un, .un, .un]) := by
    simp [i1, hwk, hlc, lsD, rest]
  cases hq : (allLots (prsOf t)).find? (alikeL t a b) with
  | none =>
    rw [hq] at hz
    have q6 : oRet (fC PyData.none) [.fz (trD t), .fz (nD a), .fz (nD b), .fz (lsD (prsOf t)), j4, j5, j6, .un] = some (.rt (.fz .none) [.fz (trD t), .fz (nD a), .fz (nD b), .fz (lsD (prsOf t)), j4, j5, j6, .un]) := by simp
    exact fnF_rt rfl (oSeq_nx q1 (oSeq_nx q2 (oSeq_nx q3 (oSeq_nx q4 (oSeq_nx hz q6))))) rfl
  | some lot =>
    rw [hq] at hz
    exact fnF_rt rfl (oSeq_nx q1 (oSeq_nx q2 (oSeq_nx q3 (oSeq_nx q4 (oSeq_rt hz))))) rfl
end DL
namespace DL
open PySem PySem.Spec PyProof.Rows L2
/-! ### _law_lots -/
def lots {α : Type} (l : List α) : List (List α) := l.foldl (fun found p => found ++ found.map fun x => x ++ [p]) [[]]
theorem lots_snoc {α : Type} (l : List α) (p : α) : lots (l ++ [p]) = lots l ++ (lots l).map fun x => x ++ [p] := by
  unfold lots
  rw [List.foldl_append]
  rfl
theorem lots_map {α β : Type} (f : α → β) (l : List α) : lots (l.map f) = (lots l).map (List.map f) := by
  have aux : ∀ (l : List α) (a : List (List α)), (l.map f).foldl (fun found p => found ++ found.map fun x => x ++ [p]) (a.map (List.map f)) = (l.foldl (fun found p => found ++ found.map fun x => x ++ [p]) a).map (List.map f) := by
    intro l
    induction l with
    | nil => intro a; rfl
    | cons b l ih =>
      intro a
      rw [List.map_cons, List.foldl_cons, List.foldl_cons, ← ih]
      congr 1
      simp
  exact aux l [[]]
theorem chs_map {α β : Type} (f : α → β) : ∀ (l : List α) (k : Nat), chs (l.map f) k = (chs l k).map (List.map f)
  | [], 0 => rfl
  | [], k + 1 => rfl
  | a :: l, 0 => by rw [chs_zero, chs_zero]; rfl
  | a :: l, k + 1 => by
    rw [List.map_cons, chs_cons, chs_cons, chs_map f l k, chs_map f l (k + 1), List.map_append, List.map_map, List.map_map]
    rfl
def allChs {α : Type} (l : List α) : List (List α) := (List.range (l.length + 1)).flatMap (chs l)
theorem allChs_map {α β : Type} (f : α → β) (l : List α) : allChs (l.map f) = (allChs l).map (List.map f) := by
  unfold allChs
  rw [List.length_map, List.map_flatMap]
  congr 1
  funext k
  exact chs_map f l k
theorem lots_perm5 : ∀ n : Nat, n ≤ 5 → (lots (List.range n)).Perm (allChs (List.range n)) := by
  intro n hn
  have : n = 0 ∨ n = 1 ∨ n = 2 ∨ n = 3 ∨ n = 4 ∨ n = 5 := by omega
  rcases this with rfl | rfl | rfl | rfl | rfl | rfl <;> decide +kernel
theorem range_get {α : Type} (d : α) (l : List α) : (List.range l.length).map (fun i => l.getD i d) = l := by
  refine List.ext_getElem (by simp) fun i h1 h2 => ?_
  simp at h1
  simp [h1]
theorem lots_perm {α : Type} (l : List α) (h : l.length ≤ 5) : (lots l).Perm (allChs l) := by
  cases l with
  | nil => exact .refl _
  | cons a l =>
    rw [← range_get a (a :: l), lots_map, allChs_map]
    exact (lots_perm5 _ h).map _
theorem srt_perm {ds es : List D} (p : ds.Perm es) (h : es.Pairwise fun a b => PySem.W.dataLt a b = true) : srtD ds = es := by
  have T := PySem.W.sortLe_total (PyProof.Rows.listOrd PyProof.Rows.itemOrd) false (fun b : D => PySem.W.keyToks (id b))
  have e : ∀ a b : D, leD a b = !PySem.W.dataLt b a := fun a b => rfl
  have pm : (srtD ds).Perm es := (List.mergeSort_perm _ _).trans p
  refine List.Perm.eq_of_pairwise (le := fun a b => leD a b = true) ?_ (PySem.W.sort_pairwise T _) (h.imp fun {a b} hab => ?_) pm
  · intro a b ha hb h1 h2
    rw [e] at h1 h2
    obtain ⟨i, hi, rfl⟩ := List.getElem_of_mem (pm.mem_iff.mp ha)
    obtain ⟨j, hj, rfl⟩ := List.getElem_of_mem hb
    have hp := List.pairwise_iff_getElem.mp h
    rcases Nat.lt_trichotomy i j with q | q | q
    · rw [hp i j hi hj q] at h2; cases h2
    · subst q; rfl
    · rw [hp j i hj hi q] at h1; cases h1
  · rcases T.total a b with q | q
    · exact q
    · have q : (!PySem.W.dataLt a b) = true := q
      rw [hab] at q
      cases q
theorem pr_alike (p q : Nm × Nm) : PySem.W.alike (prD p) (prD q) = true := by simp [prD, PySem.W.alike, PySem.W.alikeAll, nm_alike]
theorem lt_alike : ∀ x y : List (Nm × Nm), PySem.W.alike (ltD x) (ltD y) = true
  | [], y => by cases y <;> simp [ltD, PySem.W.alike, PySem.W.alikeAll]
  | a :: x, [] => by simp [ltD, PySem.W.alike, PySem.W.alikeAll]
  | a :: x, b :: y => by
    have := lt_alike x y
    simp [ltD, PySem.W.alike, PySem.W.alikeAll, pr_alike] at this ⊢
    exact this
theorem dataLt_pr (p q : Nm × Nm) : PySem.W.dataLt (prD p) (prD q) = prLt p q := by
  have hd : ∀ a b : Nm, PySem.W.dataLt (nD a) (nD b) = nLt a b := fun a b => PySem.W.dataLt_str a.s b.s
  unfold prD
  rw [PySem.W.dataLt_pair (nm_alike _ _) (nm_alike _ _)]
  simp only [eqv_nm, decide_eq_true_eq, hd]
  rfl
theorem dataLt_lt_cons (a b : Nm × Nm) (x y : List (Nm × Nm)) : PySem.W.dataLt (ltD (a :: x)) (ltD (b :: y)) = if a = b then PySem.W.dataLt (ltD x) (ltD y) else prLt a b := by
  unfold ltD
  rw [PySem.W.dataLt_tuple, PySem.W.dataLt_tuple, List.map_cons, List.map_cons, PySem.W.dataLt_cons (pr_alike _ _), dataLt_pr]
  simp only [eqv_pr, decide_eq_true_eq]
theorem prLt_ne {a b : Nm × Nm} (h : prLt a b = true) : a ≠ b := by
  rintro rfl
  simp [prLt] at h
theorem chs_sorted : ∀ {l : List (Nm × Nm)} {k : Nat}, (l.Pairwise fun a b => prLt a b = true) → (chs l k).Pairwise fun x y => PySem.W.dataLt (ltD x) (ltD y) = true
  | l, 0, _ => by rw [chs_zero]; simp
  | [], k + 1, _ => by rw [chs_nil]; simp
  | a :: l, k + 1, h => by
    rw [chs_cons, List.pairwise_append, List.pairwise_map]
    have h1 := List.pairwise_cons.mp h
    refine ⟨(chs_sorted h1.2).imp fun {x y} hxy => ?_, chs_sorted h1.2, fun x hx y hy => ?_⟩
    · rw [dataLt_lt_cons, if_pos rfl]
      exact hxy
    · obtain ⟨x', _, rfl⟩ := List.mem_map.mp hx
      obtain ⟨hl, hs⟩ := chs_mem hy
      match y, hl, hs with
      | b :: y', _, hs =>
        have hb : b ∈ l := hs.subset (List.mem_cons_self ..)
        have := h1.1 b hb
        rw [dataLt_lt_cons, if_neg (prLt_ne this)]
        exact this
def loD (x : List (Nm × Nm)) : D := .tuple [.int x.length, ltD x]
theorem dataLt_lo (x y : List (Nm × Nm)) : PySem.W.dataLt (loD x) (loD y) = if x.length = y.length then (if (ltD x).eqv (ltD y) = true then false else PySem.W.dataLt (ltD x) (ltD y)) else decide (x.length < y.length) := by
  unfold loD
  rw [PySem.W.dataLt_pair (by simp [PySem.W.alike]) (lt_alike _ _), PySem.W.dataLt_int]
  simp only [eqv_int, decide_eq_true_eq]
  by_cases h : x.length = y.length
  · simp [h]
  · have h' : ¬ ((x.length : Int) = (y.length : Int)) := by omega
    rw [if_neg h', if_neg h]
    congr 1
    simp
theorem eqv_lt_self {x y : List (Nm × Nm)} (h : (ltD x).eqv (ltD y) = true) : PySem.W.dataLt (ltD x) (ltD y) = false := by
  unfold PySem.W.dataLt
  rw [(PySem.W.toks_eqv _ _ (lt_alike x y)).1 h]
  exact PyProof.Rows.lex_irrefl _
theorem allChs_sorted {l : List (Nm × Nm)} (h : l.Pairwise fun a b => prLt a b = true) : ((allChs l).map loD).Pairwise fun a b => PySem.W.dataLt a b = true := by
  rw [List.pairwise_map]
  unfold allChs
  rw [List.pairwise_flatMap]
  refine ⟨fun k _ => ?_, ?_⟩
  · refine List.Pairwise.imp_of_mem ?_ (chs_sorted (k := k) h)
    intro x y hx hy hxy
    rw [dataLt_lo, if_pos (by rw [(chs_mem hx).1, (chs_mem hy).1])]
    by_cases he : (ltD x).eqv (ltD y) = true
    · rw [eqv_lt_self he] at hxy; cases hxy
    · rw [if_neg he]; exact hxy
  · refine (List.pairwise_lt_range).imp fun {i j} hij => ?_
    intro x hx y hy
    have h1 := (chs_mem hx).1
    have h2 := (chs_mem hy).1
    rw [dataLt_lo, if_neg (by omega)]
    simp; omega
theorem sort_lo (ls : List (List (Nm × Nm))) (h : ls.length ≤ 1000) : sortB (ls.map loD) = true := by
  unfold sortB
  simp only [Bool.and_eq_true, Bool.or_eq_true, List.all_eq_true, decide_eq_true_eq, List.mem_map]
  refine ⟨⟨⟨⟨?_, .inl ?_⟩, by simp; omega⟩, ?_⟩, ?_⟩
  · rintro d ⟨c, _, rfl⟩ e ⟨c', _, rfl⟩
    simp [loD, PySem.W.alike, PySem.W.alikeAll, lt_alike]
  · rintro d ⟨c, _, rfl⟩
    rfl
  · rintro d ⟨c, _, rfl⟩
    have := dep_lt c
    simp [loD, PyData.depth, PyData.depthAll]
    omega
  · rintro d ⟨c, _, rfl⟩
    simp [loD, PyData.canLay0, PyData.canLayAll0]
theorem lots_loop : ∀ (suf : List (Nm × Nm)) (found : List (List (Nm × Nm))) (s0 j2 : Sl), found.length * 2 ^ suf.length ≤ 1000 → (∀ x ∈ found, x.length + suf.length ≤ 5) →
    ∃ j2', forL (gN 2) L__law_lots_1 (suf.map prD) [s0, .fz (.list (found.map ltD)), j2, .un, .un] = some (.nx [s0, .fz (.list ((suf.foldl (fun found p => found ++ found.map fun x => x ++ [p]) found).map ltD)), j2', .un, .un])
  | [], found, s0, j2, _, _ => ⟨j2, rfl⟩
  | p :: suf, found, s0, j2, h, hx => by
    have hp : 0 < 2 ^ suf.length := Nat.pow_pos (by decide)
    have h2 : found.length * 2 ^ suf.length * 2 ≤ 1000 := by rw [List.length_cons, Nat.pow_succ, ← Nat.mul_assoc] at h; exact h
    have hf : found.length ≤ found.length * 2 ^ suf.length := Nat.le_mul_of_pos_right _ hp
    obtain ⟨j2', ih⟩ := lots_loop suf (found ++ found.map fun x => x ++ [p]) s0 (.fz (prD p)) (by
      rw [List.length_append, List.length_map, Nat.add_mul]
      omega) (by
      intro x hx'
      rcases List.mem_append.mp hx' with hx' | hx'
      · have := hx x hx'
        simp at this; omega
      · obtain ⟨y, hy, rfl⟩ := List.mem_map.mp hx'
        have := hx y hy
        simp at this ⊢; omega)
    have hlc := lcL_all (vs := [3]) (G := gN 3) (P := cYes) (E := f2 gAdd (fVar 3) (fTup (sCons (fVar 2) sNil))) (enc := ltD) (xs := found) (fun x => ltD (x ++ [p])) (δ := [s0, .fz (.list (found.map ltD)), .fz (prD p), .un, .un]) (by omega) (fun x hx' => by
      have h5 := hx x hx'
      have hg : gAdd (ltD x) (.tuple [prD p]) = some (.fz (ltD (x ++ [p]))) := by
        unfold ltD
        rw [gAdd_tup (by simp at h5 ⊢; omega), List.map_append]
        rfl
      simp [lStep, hg])
    have hs : fStep (gN 2) L__law_lots_1 (prD p) [s0, .fz (.list (found.map ltD)), j2, .un, .un] = some (.nx [s0, .fz (.list ((found ++ found.map fun x => x ++ [p]).map ltD)), .fz (prD p), .un, .un]) := by
      have hg : gAdd (.list (found.map ltD)) (.list (found.map fun x => ltD (x ++ [p]))) = some (.nw ((found ++ found.map fun x => x ++ [p]).map ltD)) := by
        rw [gAdd_lst (by simp; omega), List.map_append, List.map_map]
        rfl
      simp [fStep, L__law_lots_1, hlc, hg, -gAdd_lst]
    refine ⟨j2', ?_⟩
    rw [List.map_cons, forL_cons, hs]
    exact ih
theorem F_llots_eq {l : List (Nm × Nm)} (h5 : l.length ≤ 5) (hs : l.Pairwise fun a b => prLt a b = true) : F__law_lots [lsD l] = some (.nw ((allChs l).map ltD)) := by
  have p2 : 2 ^ l.length ≤ 32 := Nat.pow_le_pow_right (by decide) h5
  obtain ⟨j2, hl⟩ := lots_loop l [[]] (.fz (lsD l)) .un (by simp; omega) (by simp; omega)
  have hll : (lots l).length ≤ 32 := by
    have : ∀ (l : List (Nm × Nm)) (f : List (List (Nm × Nm))), (l.foldl (fun found p => found ++ found.map fun x => x ++ [p]) f).length = f.length * 2 ^ l.length := by
      intro l
      induction l with
      | nil => intro f; simp
      | cons a l ih =>
        intro f
        rw [List.foldl_cons, ih, List.length_append, List.length_map, List.length_cons, Nat.pow_succ, ← Nat.mul_assoc, Nat.add_mul]
        omega
    have := this l [[]]
    unfold lots
    simp at this
    omega
  have hlc := lcL_all (vs := [3]) (G := gN 3) (P := cYes) (E := fTup (sCons (fB gLen (pCons (fVar 3) pNil)) (sCons (fVar 3) sNil))) (enc := ltD) (xs := lots l) loD (δ := [.fz (lsD l), .fz (.list ((lots l).map ltD)), j2, .un, .un]) (by omega) (fun x hx' => by
    have hg : gLen [ltD x] = some (.fz (.int x.length)) := by
      unfold ltD
      rw [gLen_tup, List.length_map]
    simp [lStep, hg, loD])
  have hpm := lots_perm l h5
  have hst : srtD ((lots l).map loD) = (allChs l).map loD := srt_perm (hpm.map loD) (allChs_sorted hs)
  have hso : gSorted [.list ((lots l).map loD)] = some (.nw ((allChs l).map loD)) := by rw [gSorted_lst (sort_lo _ (by omega)), hst]
  have hla : (allChs l).length ≤ 32 := by rw [← hpm.length_eq]; exact hll
  have hlc2 := lcL_all (vs := [4, 3]) (G := gT 2 (gsCons (gN 4) (gsCons (gN 3) gsNil))) (P := cYes) (E := fVar 3) (enc := loD) (xs := allChs l) ltD (δ := [.fz (lsD l), .fz (.list ((lots l).map ltD)), j2, .un, .un]) (by omega) (fun x hx' => by simp [lStep, loD])
  have hw : wk (lsD l) = some (l.map prD) := rfl
  have q1 : oSet false 1 (fLst (sCons (fTup sNil) sNil)) [.fz (lsD l), .un, .un, .un, .un] = some (.nx [.fz (lsD l), .fz (.list ([[]].map ltD)), .un, .un, .un]) := by simp [ltD]
  have q2 : oFor (wSq (fVar 0)) (gN 2) L__law_lots_1 [.fz (lsD l), .fz (.list ([[]].map ltD)), .un, .un, .un] = some (.nx [.fz (lsD l), .fz (.list ((lots l).map ltD)), j2, .un, .un]) := by
    refine (oFor_eq (ds := l.map prD) (δ1 := [.fz (lsD l), .fz (.list ([[]].map ltD)), .un, .un, .un]) (by simp [hw])).trans hl
  have q3 : (oRet (fLc [4, 3] (wSq (fB gSorted (pCons (fLc [3] (wSq (fVar 1)) (gN 3) cYes (fTup (sCons (fB gLen (pCons (fVar 3) pNil)) (sCons (fVar 3) sNil)))) pNil))) (gT 2 (gsCons (gN 4) (gsCons (gN 3) gsNil))) cYes (fVar 3))) [.fz (lsD l), .fz (.list ((lots l).map ltD)), j2, .un, .un] = some (.rt (.nw ((allChs l).map ltD)) [.fz (lsD l), .fz (.list ((lots l).map ltD)), j2, .un, .un]) := by
    simp [hlc, hso, hlc2, rest]
  exact fnF_rt rfl (oSeq_nx q1 (oSeq_nx q2 q3)) rfl
end DL
namespace DL
open PySem PySem.Spec PyProof.Rows L2
/-! ### locked by a million or by a million millions: the same speeds -/
theorem dv_map {f : Cl → Cl} (hf : ∀ c, (f c).1 = c.1 ∧ (f c).2.1 = c.2.1) (es : List Cl) (c : Cl → Rat) (n : Nm) : dv (es.map f) c n = dv es (fun d => c (f d)) n := by
  unfold dv
  rw [sm_map]
  refine sm_congr fun d _ => ?_
  rw [(hf d).1, (hf d).2]
theorem lock_lock (m m' : Int) (lot : List (Nm × Nm)) (d : Cl) : lockC m lot (lockC m' lot d) = lockC m lot d := by
  unfold lockC
  by_cases h : (d.1, d.2.1) ∈ lot
  · simp [h]
  · simp [h]
theorem lock_same {t : Tr} (ok : TrOk t) (hb : Br t.cl) {w : Nm → Rat} (hw : ∀ n ∈ nmsOf t, -100 ≤ w n ∧ w n ≤ 100) (lot : List (Nm × Nm)) : ∀ n ∈ nmsOf t, spd (lockT 1000000000000 lot t) w n = spd (lockT 1000000 lot t) w n := by
  have ok6 := lock_ok (lot := lot) ok (m := 1000000) (by decide) (by decide)
  have ok12 := lock_ok (lot := lot) ok (m := 1000000000000) (by decide) (by decide)
  have hb6 := lock_br (m := 1000000) (lot := lot) hb
  have hb12 := lock_br (m := 1000000000000) (lot := lot) hb
  have h6 := spd_equi ok6 hb6 w
  have bd := flow_bd ok6 hb6 h6 (b := 100) (by decide) hw
  have hl := lockC_ends 1000000 lot
  have hl12 := lockC_ends 1000000000000 lot
  refine spd_uniq ok12 hb12 (c := fun e => cur (lockT 1000000 lot t) w (lockC 1000000 lot e)) ⟨fun n hn => ?_, fun e he => ?_⟩
  · have hbal := h6.bal n hn
    have e1 : dv (lockT 1000000000000 lot t).cl (fun e => cur (lockT 1000000 lot t) w (lockC 1000000 lot e)) n = dv (lockT 1000000 lot t).cl (cur (lockT 1000000 lot t) w) n := by
      show dv (t.cl.map (lockC 1000000000000 lot)) _ n = dv (t.cl.map (lockC 1000000 lot)) _ n
      rw [dv_map hl12, dv_map hl]
      simp only [lock_lock]
    rw [e1]
    exact hbal
  · obtain ⟨d, hd, rfl⟩ := List.mem_map.mp he
    have hd6 : lockC 1000000 lot d ∈ (lockT 1000000 lot t).cl := List.mem_map.mpr ⟨d, hd, rfl⟩
    have b6 := bd _ hd6
    have l6 := h6.law _ hd6
    rw [lock_lock]
    unfold eLaw at l6 ⊢
    rw [(hl d).1, (hl d).2] at l6
    rw [(hl12 d).1, (hl12 d).2]
    generalize cur (lockT 1000000 lot t) w (lockC 1000000 lot d) = c at *
    unfold lockC at l6 ⊢
    by_cases hm : (d.1, d.2.1) ∈ lot
    · rw [if_pos hm] at l6 ⊢
      dsimp only at l6 ⊢
      have c6 : ((1000000 : Int) : Rat) = 1000000 := rfl
      have c12 : ((1000000000000 : Int) : Rat) = 1000000000000 := rfl
      rw [c6] at l6
      rw [c12]
      refine ⟨⟨by grind, by grind⟩, fun h => ?_, fun h => ?_⟩
      · have := l6.2.1 h
        grind
      · have := l6.2.2 h
        grind
    · rw [if_neg hm] at l6 ⊢
      exact l6
def alike6 (t : Tr) (a b : Nm) (lot : List (Nm × Nm)) : Bool := decide (spd (lockT 1000000 lot t) (wR t) a = spd (lockT 1000000 lot t) (wR t) b)
theorem alike_eq {t : Tr} (ok : TrOk t) (hb : Br t.cl) (hw : ∀ n ∈ nmsOf t, -100 ≤ wR t n ∧ wR t n ≤ 100) {a b : Nm} (ha : a ∈ nmsOf t) (hb' : b ∈ nmsOf t) (lot : List (Nm × Nm)) : alike6 t a b lot = alikeL t a b lot := by
  have h := lock_same ok hb hw lot
  unfold alike6 alikeL
  rw [h a ha, h b hb']
/-! ### wishes up to a hundred -/
def clampI (i : Int) : Int := if (if i < 100 then i else 100) > -100 then (if i < 100 then i else 100) else -100
theorem clampI_bd (i : Int) : -100 ≤ clampI i ∧ clampI i ≤ 100 := by
  unfold clampI
  constructor <;> (repeat' split) <;> omega
def clampT (t : Tr) : Tr := ⟨t.sh.map fun x => (x.1, clampI x.2.1, x.2.2), t.cl⟩
theorem clamp_nms (t : Tr) : nmsOf (clampT t) = nmsOf t := by
  unfold nmsOf clampT
  rw [List.map_map]
  rfl
theorem clamp_isTr {t : Tr} (h : isTr t = true) : isTr (clampT t) = true := by
  have e := clamp_nms t
  unfold isTr at h ⊢
  rw [e]
  simp only [Bool.and_eq_true, decide_eq_true_eq, List.all_eq_true] at h ⊢
  obtain ⟨⟨⟨⟨a1, a2⟩, a3⟩, a4⟩, a5⟩ := h
  refine ⟨⟨⟨⟨by simpa [clampT] using a1, by simpa [clampT] using a2⟩, fun x hx => ?_⟩, a4⟩, a5⟩
  obtain ⟨y, hy, rfl⟩ := List.mem_map.mp hx
  have h1 := a3 y hy
  unfold shaftOk wishOk at h1 ⊢
  have h2 := clampI_bd y.2.1
  simp only [Bool.and_eq_true, decide_eq_true_eq] at h1 ⊢
  exact ⟨⟨by omega, by omega⟩, h1.2⟩
theorem clamp_wR {t : Tr} (h : isTr t = true) : ∀ n ∈ nmsOf (clampT t), -100 ≤ wR (clampT t) n ∧ wR (clampT t) n ≤ 100 := fun n hn => by
  obtain ⟨ok, _⟩ := isTr_ok (clamp_isTr h)
  obtain ⟨x, hx, rfl⟩ := List.mem_map.mp hn
  unfold wR
  rw [wiOf_mem ok.nd hx]
  obtain ⟨y, hy, rfl⟩ := List.mem_map.mp hx
  have h2 := clampI_bd y.2.1
  dsimp only
  have c1 : ((-100 : Int) : Rat) = -100 := rfl
  have c2 : ((100 : Int) : Rat) = 100 := rfl
  rw [← c1, ← c2, Rat.intCast_le_intCast, Rat.intCast_le_intCast]
  exact h2
end DL
namespace DL
open PySem PySem.Spec PyProof.Rows L2
def L_law_1 : MS :=
  (oIf (tTst (f2 gIsN (fVar 9) (fC PyData.none))) (oSeq (oSet false 11 (fB gTupOf (pCons (fLc [18] (wSq (fVar 4)) (gN 18) cYes (f2 gAdd (fSl (fVar 18) oNone (oSome (fC (PyData.int 2)))) (fTup (sCons (fIf (tTst (f2 gInA (fSl (fVar 18) oNone (oSome (fC (PyData.int 2)))) (fVar 10))) (f2 gPow (fC (PyData.int 10)) (fC (PyData.int 6))) (f2 gIx (fVar 18) (fC (PyData.int 2)))) sNil)))) pNil)))
  (oSeq (oSet false 12 (fB gDictP (pCons (fF F_speeds (sCons (fTup (sCons (f2 gIx (fVar 5) (fC (PyData.int 0))) (sCons (fVar 11) sNil))) sNil)) pNil)))
  (oSet false 9 (fIf (tTst (f2 gEq (f2 gIx (fVar 12) (fVar 7)) (f2 gIx (fVar 12) (fVar 8)))) (fVar 10) (fC PyData.none))))) oNil)
def L_law_2 : MS :=
  (oSeq (oSet true 2 (fF F__law_well (sCons (fVar 0) (sCons (fVar 1) sNil))))
  (oSeq (oAsg (fW 2 F__law_train (sCons (fC (PyData.int 6)) sNil)) (gT 2 (gsCons (gN 3) (gsCons (gN 4) gsNil))))
  (oSeq (oSet false 5 (fTup (sCons (fB gTupOf (pCons (fLc [15, 16, 17] (wSq (fVar 3)) (gT 3 (gsCons (gN 15) (gsCons (gN 16) (gsCons (gN 17) gsNil)))) cYes (fTup (sCons (fVar 15) (sCons (fB gMaxA (pCons (f1 gNeg (fC (PyData.int 100))) (pCons (fB gMinA (pCons (fC (PyData.int 100)) (pCons (fVar 16) pNil))) pNil))) (sCons (fVar 17) sNil))))) pNil)) (sCons (fVar 4) sNil))))
  (oSeq (oSet false 6 (fF F__law_names (sCons (fVar 5) sNil)))
  (oSeq (oPar false false 7 8 (f2 gIx (fVar 6) (fW 2 F__law_take (sCons (fB gLen (pCons (fVar 6) pNil)) sNil))) (f2 gIx (fVar 6) (fW 2 F__law_take (sCons (fB gLen (pCons (fVar 6) pNil)) sNil))))
  (oSeq (oSet false 9 (fC PyData.none))
  (oSeq (oFor (wSq (fF F__law_lots (sCons (fLc [18] (wSq (fVar 4)) (gN 18) cYes (fSl (fVar 18) oNone (oSome (fC (PyData.int 2))))) sNil))) (gN 10) L_law_1)
  (oIf (tTst (f2 gNe (fF F_fewest_locked (sCons (fVar 5) (sCons (fVar 7) (sCons (fVar 8) sNil)))) (fVar 9))) (oRet (fC (PyData.bool false))) oNil))))))))
def B_law : MS :=
  (oSeq (oFor (wR1 (fB gMaxA (pCons (fC (PyData.int 3)) (pCons (fB gMinA (pCons (fC (PyData.int 5)) (pCons (fB gLen (pCons (fVar 0) pNil)) pNil))) pNil)))) (gN 1) L_law_2)
  (oSeq (oSet false 13 (fTup (sCons (fTup (sCons (fC (PyData.str "a")) (sCons (fC (PyData.int 10)) (sCons (fC (PyData.int 1)) sNil)))) (sCons (fTup (sCons (fC (PyData.str "b")) (sCons (fC (PyData.int 0)) (sCons (fC (PyData.int 1)) sNil)))) (sCons (fTup (sCons (fC (PyData.str "c")) (sCons (fC (PyData.int 5)) (sCons (fC (PyData.int 1)) sNil)))) sNil)))))
  (oSeq (oIf (tTst (f2 gNe (fF F_fewest_locked (sCons (fTup (sCons (fVar 13) (sCons (fTup (sCons (fTup (sCons (fC (PyData.str "a")) (sCons (fC (PyData.str "b")) (sCons (fC (PyData.int 3)) sNil)))) sNil)) sNil))) (sCons (fC (PyData.str "a")) (sCons (fC (PyData.str "c")) sNil)))) (fTup (sCons (fTup (sCons (fC (PyData.str "a")) (sCons (fC (PyData.str "b")) sNil))) sNil)))) (oRet (fC (PyData.bool false))) oNil)
  (oSeq (oSet false 14 (fTup (sCons (f2 gAdd (fSl (fVar 13) oNone (oSome (fC (PyData.int 2)))) (fTup (sCons (fTup (sCons (fC (PyData.str "c")) (sCons (fC (PyData.int 100)) (sCons (fC (PyData.int 1)) sNil)))) sNil))) (sCons (fTup (sCons (fTup (sCons (fC (PyData.str "a")) (sCons (fC (PyData.str "b")) (sCons (fC (PyData.int 3)) sNil)))) sNil)) sNil))))
  (oSeq (oIf (tOr (tTst (f2 gNotN (fF F_fewest_locked (sCons (fVar 14) (sCons (fC (PyData.str "a")) (sCons (fC (PyData.str "c")) sNil)))) (fC PyData.none))) (tTst (f2 gNe (fF F_fewest_locked (sCons (fVar 14) (sCons (fC (PyData.str "c")) (sCons (fC (PyData.str "c")) sNil)))) (fTup sNil)))) (oRet (fC (PyData.bool false))) oNil)
  (oRet (f2 gEq (fF F_fewest_locked (sCons (fVar 14) (sCons (fC (PyData.str "a")) (sCons (fC (PyData.str "b")) sNil)))) (fTup (sCons (fTup (sCons (fC (PyData.str "a")) (sCons (fC (PyData.str "b")) sNil))) sNil)))))))))
def F_law := fnF 1 19 B_law
end DL
namespace DL
open PySem PySem.Spec PyProof.Rows L2
theorem pow6 : gPow (.int 10) (.int 6) = some (.fz (.int 1000000)) := by
  have : CPow 10 6 := by decide
  exact (if_pos this : (if CPow 10 6 then some (T.fz (.int (10 ^ (6 : Int).toNat))) else none) = _)
theorem isN_opt (o : Option (List (Nm × Nm))) : isN (optL o) = o.isNone := by cases o <;> rfl
abbrev kst (s0 s1 s2 s3 : Sl) (t : Tr) (s6 : Sl) (a b : Nm) (due : Option (List (Nm × Nm))) (j10 j11 j12 s13 s14 : Sl) : Dn :=
  [s0, s1, s2, s3, .fz (clsD t.cl), .fz (trD t), s6, .fz (nD a), .fz (nD b), .fz (optL due), j10, j11, j12, s13, s14, .un, .un, .un, .un]
theorem k31_lot {t : Tr} (h : isTr t = true) {a b : Nm} (ha : a ∈ nmsOf t) (hb' : b ∈ nmsOf t) (s0 s1 s2 s3 s6 s13 s14 j10 j11 j12 : Sl) (due : Option (List (Nm × Nm))) (lot : List (Nm × Nm)) :
    ∃ j10' j11' j12', fStep (gN 10) L_law_1 (ltD lot) (kst s0 s1 s2 s3 t s6 a b due j10 j11 j12 s13 s14) = some (.nx (kst s0 s1 s2 s3 t s6 a b (match due with
      | some d => some d
      | none => if alike6 t a b lot then some lot else none) j10' j11' j12' s13 s14)) := by
  obtain ⟨ok, hb, _⟩ := isTr_ok h
  cases due with
  | some d =>
    refine ⟨.fz (ltD lot), j11, j12, ?_⟩
    have hn : isN (optL (some d)) = false := rfl
    simp [kst, fStep, L_law_1, hn]
  | none =>
    have h6 := lock_isTr (lot := lot) h (m := 1000000) (by decide) (by decide)
    have hlc := lcL_all (vs := [18]) (G := gN 18) (P := cYes) (E := f2 gAdd (fSl (fVar 18) oNone (oSome (fC (PyData.int 2)))) (fTup (sCons (fIf (tTst (f2 gInA (fSl (fVar 18) oNone (oSome (fC (PyData.int 2)))) (fVar 10))) (f2 gPow (fC (PyData.int 10)) (fC (PyData.int 6))) (f2 gIx (fVar 18) (fC (PyData.int 2)))) sNil))) (enc := clD) (xs := t.cl) (fun c => clD (lockC 1000000 lot c)) (δ := kst s0 s1 s2 s3 t s6 a b none (.fz (ltD lot)) j11 j12 s13 s14) (by have := ok.l2; omega) (fun c hc => by
      have hi := gInA_pr (c.1, c.2.1) lot
      have hs : gSl none (some 2) (clD c) = some (.fz (prD (c.1, c.2.1))) := rfl
      have ha : ∀ m, gAdd (prD (c.1, c.2.1)) (.tuple [.int m]) = some (.fz (clD (c.1, c.2.1, m))) := fun m => rfl
      have h2 : gIx (clD c) (.int 2) = some (.fz (.int c.2.2)) := rfl
      by_cases hm : (c.1, c.2.1) ∈ lot
      · simp [kst, lStep, hs, hi, ha, hm, lockC, pow6]
      · simp [kst, lStep, hs, hi, ha, hm, lockC, h2])
    have hw : wk (clsD t.cl) = some (t.cl.map clD) := rfl
    have i0 : gIx (trD t) (.int 0) = some (.fz (.tuple (t.sh.map shD))) := rfl
    have e : (lockT 1000000 lot t).cl.map clD = t.cl.map fun c => clD (lockC 1000000 lot c) := by
      unfold lockT
      rw [List.map_map]
      rfl
    have e2 : PyData.tuple [.tuple (t.sh.map shD), clsD (lockT 1000000 lot t).cl] = trD (lockT 1000000 lot t) := rfl
    have hsp := F_speeds_spd h6
    have hdi := dict_sp (ns := nmsOf t) (spd (lockT 1000000 lot t) (wR t)) ok.nd
    have hsp' : F_speeds [trD (lockT 1000000 lot t)] = some (.nw ((nmsOf t).map fun n => spD n (spd (lockT 1000000 lot t) (wR t) n))) := hsp
    have x1 := dix_fn (ns := nmsOf t) (x := spd (lockT 1000000 lot t) (wR t)) ha
    have x2 := dix_fn (ns := nmsOf t) (x := spd (lockT 1000000 lot t) (wR t)) hb'
    refine ⟨.fz (ltD lot), .fz (clsD (lockT 1000000 lot t).cl), .fz (dictD (fnD frD (nmsOf t) (spd (lockT 1000000 lot t) (wR t)))), ?_⟩
    have q1 : oSet false 11 (fB gTupOf (pCons (fLc [18] (wSq (fVar 4)) (gN 18) cYes (f2 gAdd (fSl (fVar 18) oNone (oSome (fC (PyData.int 2)))) (fTup (sCons (fIf (tTst (f2 gInA (fSl (fVar 18) oNone (oSome (fC (PyData.int 2)))) (fVar 10))) (f2 gPow (fC (PyData.int 10)) (fC (PyData.int 6))) (f2 gIx (fVar 18) (fC (PyData.int 2)))) sNil)))) pNil)) (kst s0 s1 s2 s3 t s6 a b none (.fz (ltD lot)) j11 j12 s13 s14) = some (.nx (kst s0 s1 s2 s3 t s6 a b none (.fz (ltD lot)) (.fz (clsD (lockT 1000000 lot t).cl)) j12 s13 s14)) := by
      have e3 : PyData.tuple (t.cl.map fun c => clD (lockC 1000000 lot c)) = clsD (lockT 1000000 lot t).cl := by rw [← e]; rfl
      simp [kst] at hlc
      simp [kst, hw, hlc, rest, e3]
    have q2 : oSet false 12 (fB gDictP (pCons (fF F_speeds (sCons (fTup (sCons (f2 gIx (fVar 5) (fC (PyData.int 0))) (sCons (fVar 11) sNil))) sNil)) pNil)) (kst s0 s1 s2 s3 t s6 a b none (.fz (ltD lot)) (.fz (clsD (lockT 1000000 lot t).cl)) j12 s13 s14) = some (.nx (kst s0 s1 s2 s3 t s6 a b none (.fz (ltD lot)) (.fz (clsD (lockT 1000000 lot t).cl)) (.fz (dictD (fnD frD (nmsOf t) (spd (lockT 1000000 lot t) (wR t))))) s13 s14)) := by
      simp [kst, i0, e2, hsp', hdi]
    have q3 : oSet false 9 (fIf (tTst (f2 gEq (f2 gIx (fVar 12) (fVar 7)) (f2 gIx (fVar 12) (fVar 8)))) (fVar 10) (fC PyData.none)) (kst s0 s1 s2 s3 t s6 a b none (.fz (ltD lot)) (.fz (clsD (lockT 1000000 lot t).cl)) (.fz (dictD (fnD frD (nmsOf t) (spd (lockT 1000000 lot t) (wR t))))) s13 s14) = some (.nx (kst s0 s1 s2 s3 t s6 a b (if alike6 t a b lot then some lot else none) (.fz (ltD lot)) (.fz (clsD (lockT 1000000 lot t).cl)) (.fz (dictD (fnD frD (nmsOf t) (spd (lockT 1000000 lot t) (wR t))))) s13 s14)) := by
      unfold alike6
      by_cases hh : spd (lockT 1000000 lot t) (wR t) a = spd (lockT 1000000 lot t) (wR t) b
      · simp [kst, x1, x2, hh, optL]
      · simp [kst, x1, x2, hh, optL]
    have hg : (gN 10) (ltD lot) (kst s0 s1 s2 s3 t s6 a b none j10 j11 j12 s13 s14) = some (kst s0 s1 s2 s3 t s6 a b none (.fz (ltD lot)) j11 j12 s13 s14) := rfl
    have hn : isN (optL none) = true := rfl
    have hi : ∀ (A B : MS), oIf (tTst (f2 gIsN (fVar 9) (fC PyData.none))) A B (kst s0 s1 s2 s3 t s6 a b none (.fz (ltD lot)) j11 j12 s13 s14) = A (kst s0 s1 s2 s3 t s6 a b none (.fz (ltD lot)) j11 j12 s13 s14) := fun A B => by
      simp [kst, hn]
    unfold fStep
    rw [hg, Option.bind_some]
    unfold L_law_1
    rw [hi]
    exact oSeq_nx q1 (oSeq_nx q2 q3)
theorem due_find (p : List (Nm × Nm) → Bool) : ∀ (ls : List (List (Nm × Nm))) (due : Option (List (Nm × Nm))), ls.foldl (fun due lot => match due with
      | some d => some d
      | none => if p lot then some lot else none) due = (match due with
      | some d => some d
      | none => ls.find? p)
  | [], due => by cases due <;> rfl
  | l :: ls, due => by
    rw [List.foldl_cons, due_find p ls]
    cases due with
    | some d => rfl
    | none =>
      rw [List.find?_cons]
      by_cases h : p l = true
      · simp [h]
      · simp [h]
theorem k31_lots {t : Tr} (h : isTr t = true) {a b : Nm} (ha : a ∈ nmsOf t) (hb' : b ∈ nmsOf t) (s0 s1 s2 s3 s6 s13 s14 j10 j11 j12 : Sl) (ls : List (List (Nm × Nm))) :
    ∃ j10' j11' j12', forL (gN 10) L_law_1 (ls.map ltD) (kst s0 s1 s2 s3 t s6 a b none j10 j11 j12 s13 s14) = some (.nx (kst s0 s1 s2 s3 t s6 a b (ls.find? (alike6 t a b)) j10' j11' j12' s13 s14)) := by
  obtain ⟨δ', h1, j10', j11', j12', rfl⟩ := forL_fold (G := gN 10) (B := L_law_1) (enc := ltD) (xs := ls) (fun due δ => ∃ j10 j11 j12, δ = kst s0 s1 s2 s3 t s6 a b due j10 j11 j12 s13 s14) (fun due lot => match due with
      | some d => some d
      | none => if alike6 t a b lot then some lot else none) (b := none) (δ := kst s0 s1 s2 s3 t s6 a b none j10 j11 j12 s13 s14) ⟨_, _, _, rfl⟩ (by
    rintro due δ lot _ ⟨j10, j11, j12, rfl⟩
    obtain ⟨k10, k11, k12, hk⟩ := k31_lot h ha hb' s0 s1 s2 s3 s6 s13 s14 j10 j11 j12 due lot
    exact ⟨_, .inl hk, _, _, _, rfl⟩)
  rw [due_find] at h1
  exact ⟨_, _, _, h1⟩
end DL
namespace DL
open PySem PySem.Spec PyProof.Rows L2
theorem gNe_optL (o : Option (List (Nm × Nm))) : gNe (optL o) (optL o) = some (.fz (.bool false)) := by
  cases o with
  | none => simp [optL, gNe, PyData.eqv]
  | some l =>
    have h : PyData.eqv (ltD l) (ltD l) = true := SeqAt.eqv_refl _ (lay_lt l)
    simp [optL, gNe, h]
theorem prLt_trans (a b c : Nm × Nm) (h1 : prLt a b = true) (h2 : prLt b c = true) : prLt a c = true := by
  unfold prLt at *
  by_cases e1 : a.1 = b.1
  · rw [if_pos e1] at h1
    by_cases e2 : b.1 = c.1
    · rw [if_pos e2] at h2
      rw [if_pos (e1.trans e2)]
      by_cases f1 : a.2 = b.2
      · rw [if_pos f1] at h1; cases h1
      · rw [if_neg f1] at h1
        by_cases f2 : b.2 = c.2
        · rw [if_pos f2] at h2; cases h2
        · rw [if_neg f2] at h2
          have h3 := nLt_trans _ _ _ h1 h2
          rw [if_neg (nLt_ne h3)]
          exact h3
    · rw [if_neg e2] at h2
      rw [if_neg (fun z => e2 (e1.symm.trans z)), e1]
      exact h2
  · rw [if_neg e1] at h1
    by_cases e2 : b.1 = c.1
    · rw [if_neg (fun z => e1 (z.trans e2.symm)), ← e2]
      exact h1
    · rw [if_neg e2] at h2
      have h3 := nLt_trans _ _ _ h1 h2
      rw [if_neg (nLt_ne h3)]
      exact h3
abbrev kq (ns : List Int) (j1 j2 j3 j4 j5 j6 j7 j8 j9 j10 j11 j12 : Sl) : Dn := [.fz (scrD ns), j1, j2, j3, j4, j5, j6, j7, j8, j9, j10, j11, j12, .un, .un, .un, .un, .un, .un]
theorem k31_turn (ns : List Int) (hl : ns.length ≤ 63) (k : Nat) (hk : k ≤ 100) (j1 j2 j3 j4 j5 j6 j7 j8 j9 j10 j11 j12 : Sl) : ∃ δ', fStep (gN 1) L_law_2 (.int k) (kq ns j1 j2 j3 j4 j5 j6 j7 j8 j9 j10 j11 j12) = some (.nx δ') ∧ ∃ k1 k2 k3 k4 k5 k6 k7 k8 k9 k10 k11 k12, δ' = kq ns k1 k2 k3 k4 k5 k6 k7 k8 k9 k10 k11 k12 := by
  obtain ⟨ws, hw, wok⟩ := F_well_eq ns k hk (by omega)
  obtain ⟨t0, ws1, ht0, wok1, htr0, _⟩ := F_ltrain_eq wok (most := 6) (by decide) (by decide)
  have htr := clamp_isTr htr0
  have hcl := clamp_wR htr0
  have enm : nmsOf (clampT t0) = nmsOf t0 := clamp_nms t0
  have ecl : (clampT t0).cl = t0.cl := rfl
  have esh : (clampT t0).sh.map shD = t0.sh.map fun x => shD (x.1, clampI x.2.1, x.2.2) := by
    show (t0.sh.map _).map shD = _
    rw [List.map_map]
    rfl
  generalize clampT t0 = t at *
  obtain ⟨ok, hb, hn1, _, pw⟩ := isTr_ok htr
  have hlen := nms_len ok
  have hn1' : 1 ≤ (nmsOf t).length := by simpa [nmsOf] using hn1
  obtain ⟨a, ha, d1, ws2, tk1, wok2, ix1⟩ := pick_nm wok1 hn1' (by omega)
  obtain ⟨b, hb', d2, ws3, tk2, wok3, ix2⟩ := pick_nm wok2 hn1' (by omega)
  have hnm := F_lnames_eq (t := t) (by have := ok.l1; omega)
  have hpl : (prsOf t).length ≤ 5 := by have := ok.l2; simpa [prsOf] using this
  have hpp : (prsOf t).Pairwise fun a b => prLt a b = true := by
    have h := htr
    unfold isTr at h
    simp only [Bool.and_eq_true] at h
    exact rising_pair prLt_trans h.2.1
  have hlots := F_llots_eq hpl hpp
  have hfew := F_fewest_eq htr ha hb'
  have hfe : (allLots (prsOf t)).find? (alikeL t a b) = (allChs (prsOf t)).find? (alike6 t a b) := by
    show (allChs (prsOf t)).find? (alikeL t a b) = _
    congr 1
    funext lot
    exact (alike_eq ok hb hcl ha hb' lot).symm
  rw [hfe] at hfew
  obtain ⟨k10, k11, k12, hloop⟩ := k31_lots htr ha hb' (.fz (scrD ns)) (.fz (.int k)) (.ow ws3) (.fz (.tuple (t0.sh.map shD))) (.fz (.list ((nmsOf t).map nD))) .un .un j10 j11 j12 (allChs (prsOf t))
  have q1 : oSet true 2 (fF F__law_well (sCons (fVar 0) (sCons (fVar 1) sNil))) (kq ns (.fz (.int k)) j2 j3 j4 j5 j6 j7 j8 j9 j10 j11 j12) = some (.nx (kq ns (.fz (.int k)) (.ow ws) j3 j4 j5 j6 j7 j8 j9 j10 j11 j12)) := by simp [hw]
  have q2 : oAsg (fW 2 F__law_train (sCons (fC (PyData.int 6)) sNil)) (gT 2 (gsCons (gN 3) (gsCons (gN 4) gsNil))) (kq ns (.fz (.int k)) (.ow ws) j3 j4 j5 j6 j7 j8 j9 j10 j11 j12) = some (.nx (kq ns (.fz (.int k)) (.ow ws1) (.fz (.tuple (t0.sh.map shD))) (.fz (clsD t.cl)) j5 j6 j7 j8 j9 j10 j11 j12)) := by
    simp [ht0, trD, ecl]
  have hlc := lcL_all (vs := [15, 16, 17]) (G := gT 3 (gsCons (gN 15) (gsCons (gN 16) (gsCons (gN 17) gsNil)))) (P := cYes) (E := fTup (sCons (fVar 15) (sCons (fB gMaxA (pCons (f1 gNeg (fC (PyData.int 100))) (pCons (fB gMinA (pCons (fC (PyData.int 100)) (pCons (fVar 16) pNil))) pNil))) (sCons (fVar 17) sNil)))) (enc := shD) (xs := t0.sh) (fun x => shD (x.1, clampI x.2.1, x.2.2)) (δ := kq ns (.fz (.int k)) (.ow ws1) (.fz (.tuple (t0.sh.map shD))) (.fz (clsD t.cl)) j5 j6 j7 j8 j9 j10 j11 j12) (by
      have := (isTr_ok htr0).1.l1
      omega) (fun x hx => by
    simp [lStep, shD, clampI])
  rw [← esh] at hlc
  have q3 : oSet false 5 (fTup (sCons (fB gTupOf (pCons (fLc [15, 16, 17] (wSq (fVar 3)) (gT 3 (gsCons (gN 15) (gsCons (gN 16) (gsCons (gN 17) gsNil)))) cYes (fTup (sCons (fVar 15) (sCons (fB gMaxA (pCons (f1 gNeg (fC (PyData.int 100))) (pCons (fB gMinA (pCons (fC (PyData.int 100)) (pCons (fVar 16) pNil))) pNil))) (sCons (fVar 17) sNil))))) pNil)) (sCons (fVar 4) sNil))) (kq ns (.fz (.int k)) (.ow ws1) (.fz (.tuple (t0.sh.map shD))) (.fz (clsD t.cl)) j5 j6 j7 j8 j9 j10 j11 j12) = some (.nx (kq ns (.fz (.int k)) (.ow ws1) (.fz (.tuple (t0.sh.map shD))) (.fz (clsD t.cl)) (.fz (trD t)) j6 j7 j8 j9 j10 j11 j12)) := by
    have e2 : PyData.tuple [.tuple (t.sh.map shD), clsD t.cl] = trD t := rfl
    simp [hlc, rest, e2]
  have q4 : oSet false 6 (fF F__law_names (sCons (fVar 5) sNil)) (kq ns (.fz (.int k)) (.ow ws1) (.fz (.tuple (t0.sh.map shD))) (.fz (clsD t.cl)) (.fz (trD t)) j6 j7 j8 j9 j10 j11 j12) = some (.nx (kq ns (.fz (.int k)) (.ow ws1) (.fz (.tuple (t0.sh.map shD))) (.fz (clsD t.cl)) (.fz (trD t)) (.fz (.list ((nmsOf t).map nD))) j7 j8 j9 j10 j11 j12)) := by simp [hnm]
  have q5 : oPar false false 7 8 (f2 gIx (fVar 6) (fW 2 F__law_take (sCons (fB gLen (pCons (fVar 6) pNil)) sNil))) (f2 gIx (fVar 6) (fW 2 F__law_take (sCons (fB gLen (pCons (fVar 6) pNil)) sNil))) (kq ns (.fz (.int k)) (.ow ws1) (.fz (.tuple (t0.sh.map shD))) (.fz (clsD t.cl)) (.fz (trD t)) (.fz (.list ((nmsOf t).map nD))) j7 j8 j9 j10 j11 j12) = some (.nx (kq ns (.fz (.int k)) (.ow ws3) (.fz (.tuple (t0.sh.map shD))) (.fz (clsD t.cl)) (.fz (trD t)) (.fz (.list ((nmsOf t).map nD))) (.fz (nD a)) (.fz (nD b)) j9 j10 j11 j12)) := by
    simp [tk1, tk2, ix1, ix2, -gIx_lst]
  have q6 : oSet false 9 (fC PyData.none) (kq ns (.fz (.int k)) (.ow ws3) (.fz (.tuple (t0.sh.map shD))) (.fz (clsD t.cl)) (.fz (trD t)) (.fz (.list ((nmsOf t).map nD))) (.fz (nD a)) (.fz (nD b)) j9 j10 j11 j12) = some (.nx (kq ns (.fz (.int k)) (.ow ws3) (.fz (.tuple (t0.sh.map shD))) (.fz (clsD t.cl)) (.fz (trD t)) (.fz (.list ((nmsOf t).map nD))) (.fz (nD a)) (.fz (nD b)) (.fz (optL none)) j10 j11 j12)) := by simp [optL]
  have hlc2 := lcL_all (vs := [18]) (G := gN 18) (P := cYes) (E := fSl (fVar 18) oNone (oSome (fC (PyData.int 2)))) (enc := clD) (xs := t.cl) (fun c => prD (c.1, c.2.1)) (δ := kst (.fz (scrD ns)) (.fz (.int k)) (.ow ws3) (.fz (.tuple (t0.sh.map shD))) t (.fz (.list ((nmsOf t).map nD))) a b none j10 j11 j12 .un .un) (by have := ok.l2; omega) (fun c hc => by
    have hs : gSl none (some 2) (clD c) = some (.fz (prD (c.1, c.2.1))) := rfl
    simp [kst, lStep, hs])
  have el : t.cl.map (fun c => prD (c.1, c.2.1)) = (prsOf t).map prD := by
    unfold prsOf
    rw [List.map_map]
    rfl
  rw [el] at hlc2
  have hwk : wk (clsD t.cl) = some (t.cl.map clD) := rfl
  have hI : wSq (fF F__law_lots (sCons (fLc [18] (wSq (fVar 4)) (gN 18) cYes (fSl (fVar 18) oNone (oSome (fC (PyData.int 2))))) sNil)) (kst (.fz (scrD ns)) (.fz (.int k)) (.ow ws3) (.fz (.tuple (t0.sh.map shD))) t (.fz (.list ((nmsOf t).map nD))) a b none j10 j11 j12 .un .un) = some ((allChs (prsOf t)).map ltD, kst (.fz (scrD ns)) (.fz (.int k)) (.ow ws3) (.fz (.tuple (t0.sh.map shD))) t (.fz (.list ((nmsOf t).map nD))) a b none j10 j11 j12 .un .un) := by
    have hlots' : F__law_lots [.list ((prsOf t).map prD)] = _ := hlots
    simp [kst] at hlc2
    simp [kst, hwk, hlc2, rest, hlots']
  have q7 := (oFor_eq (G := gN 10) (B := L_law_1) hI).trans hloop
  have q8 : oIf (tTst (f2 gNe (fF F_fewest_locked (sCons (fVar 5) (sCons (fVar 7) (sCons (fVar 8) sNil)))) (fVar 9))) (oRet (fC (PyData.bool false))) oNil (kst (.fz (scrD ns)) (.fz (.int k)) (.ow ws3) (.fz (.tuple (t0.sh.map shD))) t (.fz (.list ((nmsOf t).map nD))) a b ((allChs (prsOf t)).find? (alike6 t a b)) k10 k11 k12 .un .un) = some (.nx (kst (.fz (scrD ns)) (.fz (.int k)) (.ow ws3) (.fz (.tuple (t0.sh.map shD))) t (.fz (.list ((nmsOf t).map nD))) a b ((allChs (prsOf t)).find? (alike6 t a b)) k10 k11 k12 .un .un)) := by
    have hne := gNe_optL ((allChs (prsOf t)).find? (alike6 t a b))
    simp [kst, hfew, hne]
  have hg : (gN 1) (.int k) (kq ns j1 j2 j3 j4 j5 j6 j7 j8 j9 j10 j11 j12) = some (kq ns (.fz (.int k)) j2 j3 j4 j5 j6 j7 j8 j9 j10 j11 j12) := rfl
  have hfin := oSeq_nx q1 (oSeq_nx q2 (oSeq_nx q3 (oSeq_nx q4 (oSeq_nx q5 (oSeq_nx q6 (oSeq_nx q7 q8))))))
  exact ⟨_, fStep_eq hg hfin, _, _, _, _, _, _, _, _, _, _, _, _, rfl⟩
/-! ### the whole -/
def nA : Nm := ⟨"a", by decide +kernel, by kernel_rfl⟩
def nB : Nm := ⟨"b", by decide +kernel, by kernel_rfl⟩
def nC : Nm := ⟨"c", by decide +kernel, by kernel_rfl⟩
def five3 : Tr := ⟨[(nA, 10, 1), (nB, 0, 1), (nC, 5, 1)], [(nA, nB, 3)]⟩
def two3 : Tr := ⟨[(nA, 10, 1), (nB, 0, 1), (nC, 100, 1)], [(nA, nB, 3)]⟩
theorem five3_ok : isTr five3 = true := by decide +kernel
theorem two3_ok : isTr two3 = true := by decide +kernel
theorem five3_ac : (allLots (prsOf five3)).find? (alikeL five3 nA nC) = some [(nA, nB)] := by decide +kernel
theorem two3_ac : (allLots (prsOf two3)).find? (alikeL two3 nA nC) = none := by decide +kernel
theorem two3_cc : (allLots (prsOf two3)).find? (alikeL two3 nC nC) = some [] := by decide +kernel
theorem two3_ab : (allLots (prsOf two3)).find? (alikeL two3 nA nB) = some [(nA, nB)] := by decide +kernel
end DL
namespace DL
open PySem PySem.Spec PyProof.Rows L2
abbrev fiveD : D := .tuple [.tuple [.str "a", .int 10, .int 1], .tuple [.str "b", .int 0, .int 1], .tuple [.str "c", .int 5, .int 1]]
abbrev twoD : D := .tuple [.tuple [.tuple [.str "a", .int 10, .int 1], .tuple [.str "b", .int 0, .int 1], .tuple [.str "c", .int 100, .int 1]], .tuple [.tuple [.str "a", .str "b", .int 3]]]
abbrev abD : D := .tuple [.tuple [.str "a", .str "b"]]
theorem fe1 : F_fewest_locked [.tuple [fiveD, .tuple [.tuple [.str "a", .str "b", .int 3]]], .str "a", .str "c"] = some (.fz abD) := by
  have h := F_fewest_eq five3_ok (a := nA) (b := nC) (by decide +kernel) (by decide +kernel)
  rw [five3_ac] at h
  exact h
theorem fe2 : F_fewest_locked [twoD, .str "a", .str "c"] = some (.fz .none) := by
  have h := F_fewest_eq two3_ok (a := nA) (b := nC) (by decide +kernel) (by decide +kernel)
  rw [two3_ac] at h
  exact h
theorem fe3 : F_fewest_locked [twoD, .str "c", .str "c"] = some (.fz (.tuple [])) := by
  have h := F_fewest_eq two3_ok (a := nC) (b := nC) (by decide +kernel) (by decide +kernel)
  rw [two3_cc] at h
  exact h
theorem fe4 : F_fewest_locked [twoD, .str "a", .str "b"] = some (.fz abD) := by
  have h := F_fewest_eq two3_ok (a := nA) (b := nB) (by decide +kernel) (by decide +kernel)
  rw [two3_ab] at h
  exact h
theorem ne1 : gNe abD abD = some (.fz (.bool false)) := gNe_optL (some [(nA, nB)])
theorem ne0 : gNe (.tuple []) (.tuple []) = some (.fz (.bool false)) := gNe_optL (some [])
theorem eq1 : gEq abD abD = some (.fz (.bool true)) := by
  have h : SeqAt.shaped abD = true := shp_lt [(nA, nB)]
  have h2 : PyData.eqv abD abD = true := SeqAt.eqv_refl _ (lay_lt [(nA, nB)])
  unfold gEq
  rw [h, h2]
  rfl
theorem k31_tail (ns : List Int) (k1 k2 k3 k4 k5 k6 k7 k8 k9 k10 k11 k12 : Sl) : ∃ δ', (oSeq (oSet false 13 (fTup (sCons (fTup (sCons (fC (PyData.str "a")) (sCons (fC (PyData.int 10)) (sCons (fC (PyData.int 1)) sNil)))) (sCons (fTup (sCons (fC (PyData.str "b")) (sCons (fC (PyData.int 0)) (sCons (fC (PyData.int 1)) sNil)))) (sCons (fTup (sCons (fC (PyData.str "c")) (sCons (fC (PyData.int 5)) (sCons (fC (PyData.int 1)) sNil)))) sNil)))))
  (oSeq (oIf (tTst (f2 gNe (fF F_fewest_locked (sCons (fTup (sCons (fVar 13) (sCons (fTup (sCons (fTup (sCons (fC (PyData.str "a")) (sCons (fC (PyData.str "b")) (sCons (fC (PyData.int 3)) sNil)))) sNil)) sNil))) (sCons (fC (PyData.str "a")) (sCons (fC (PyData.str "c")) sNil)))) (fTup (sCons (fTup (sCons (fC (PyData.str "a")) (sCons (fC (PyData.str "b")) sNil))) sNil)))) (oRet (fC (PyData.bool false))) oNil)
  (oSeq (oSet false 14 (fTup (sCons (f2 gAdd (fSl (fVar 13) oNone (oSome (fC (PyData.int 2)))) (fTup (sCons (fTup (sCons (fC (PyData.str "c")) (sCons (fC (PyData.int 100)) (sCons (fC (PyData.int 1)) sNil)))) sNil))) (sCons (fTup (sCons (fTup (sCons (fC (PyData.str "a")) (sCons (fC (PyData.str "b")) (sCons (fC (PyData.int 3)) sNil)))) sNil)) sNil))))
  (oSeq (oIf (tOr (tTst (f2 gNotN (fF F_fewest_locked (sCons (fVar 14) (sCons (fC (PyData.str "a")) (sCons (fC (PyData.str "c")) sNil)))) (fC PyData.none))) (tTst (f2 gNe (fF F_fewest_locked (sCons (fVar 14) (sCons (fC (PyData.str "c")) (sCons (fC (PyData.str "c")) sNil)))) (fTup sNil)))) (oRet (fC (PyData.bool false))) oNil)
  (oRet (f2 gEq (fF F_fewest_locked (sCons (fVar 14) (sCons (fC (PyData.str "a")) (sCons (fC (PyData.str "b")) sNil)))) (fTup (sCons (fTup (sCons (fC (PyData.str "a")) (sCons (fC (PyData.str "b")) sNil))) sNil)))))))) (kq ns k1 k2 k3 k4 k5 k6 k7 k8 k9 k10 k11 k12) = some (.rt (.fz (.bool true)) δ') := by
  have f1 := fe1
  have f2' := fe2
  have f3 := fe3
  have f4 := fe4
  have n1 := ne1
  have n0 := ne0
  have e1 := eq1
  have q1 : oSet false 13 (fTup (sCons (fTup (sCons (fC (PyData.str "a")) (sCons (fC (PyData.int 10)) (sCons (fC (PyData.int 1)) sNil)))) (sCons (fTup (sCons (fC (PyData.str "b")) (sCons (fC (PyData.int 0)) (sCons (fC (PyData.int 1)) sNil)))) (sCons (fTup (sCons (fC (PyData.str "c")) (sCons (fC (PyData.int 5)) (sCons (fC (PyData.int 1)) sNil)))) sNil)))) (kq ns k1 k2 k3 k4 k5 k6 k7 k8 k9 k10 k11 k12) = some (.nx [.fz (scrD ns), k1, k2, k3, k4, k5, k6, k7, k8, k9, k10, k11, k12, .fz fiveD, .un, .un, .un, .un, .un]) := by simp
  have q2 : oIf (tTst (f2 gNe (fF F_fewest_locked (sCons (fTup (sCons (fVar 13) (sCons (fTup (sCons (fTup (sCons (fC (PyData.str "a")) (sCons (fC (PyData.str "b")) (sCons (fC (PyData.int 3)) sNil)))) sNil)) sNil))) (sCons (fC (PyData.str "a")) (sCons (fC (PyData.str "c")) sNil)))) (fTup (sCons (fTup (sCons (fC (PyData.str "a")) (sCons (fC (PyData.str "b")) sNil))) sNil)))) (oRet (fC (PyData.bool false))) oNil [.fz (scrD ns), k1, k2, k3, k4, k5, k6, k7, k8, k9, k10, k11, k12, .fz fiveD, .un, .un, .un, .un, .un] = some (.nx [.fz (scrD ns), k1, k2, k3, k4, k5, k6, k7, k8, k9, k10, k11, k12, .fz fiveD, .un, .un, .un, .un, .un]) := by simp [f1, n1]
  have q3 : oSet false 14 (fTup (sCons (f2 gAdd (fSl (fVar 13) oNone (oSome (fC (PyData.int 2)))) (fTup (sCons (fTup (sCons (fC (PyData.str "c")) (sCons (fC (PyData.int 100)) (sCons (fC (PyData.int 1)) sNil)))) sNil))) (sCons (fTup (sCons (fTup (sCons (fC (PyData.str "a")) (sCons (fC (PyData.str "b")) (sCons (fC (PyData.int 3)) sNil)))) sNil)) sNil))) [.fz (scrD ns), k1, k2, k3, k4, k5, k6, k7, k8, k9, k10, k11, k12, .fz fiveD, .un, .un, .un, .un, .un] = some (.nx [.fz (scrD ns), k1, k2, k3, k4, k5, k6, k7, k8, k9, k10, k11, k12, .fz fiveD, .fz twoD, .un, .un, .un, .un]) := by simp
  have q4 : oIf (tOr (tTst (f2 gNotN (fF F_fewest_locked (sCons (fVar 14) (sCons (fC (PyData.str "a")) (sCons (fC (PyData.str "c")) sNil)))) (fC PyData.none))) (tTst (f2 gNe (fF F_fewest_locked (sCons (fVar 14) (sCons (fC (PyData.str "c")) (sCons (fC (PyData.str "c")) sNil)))) (fTup sNil)))) (oRet (fC (PyData.bool false))) oNil [.fz (scrD ns), k1, k2, k3, k4, k5, k6, k7, k8, k9, k10, k11, k12, .fz fiveD, .fz twoD, .un, .un, .un, .un] = some (.nx [.fz (scrD ns), k1, k2, k3, k4, k5, k6, k7, k8, k9, k10, k11, k12, .fz fiveD, .fz twoD, .un, .un, .un, .un]) := by simp [f2', f3, n0, isN]
  have q5 : oRet (f2 gEq (fF F_fewest_locked (sCons (fVar 14) (sCons (fC (PyData.str "a")) (sCons (fC (PyData.str "b")) sNil)))) (fTup (sCons (fTup (sCons (fC (PyData.str "a")) (sCons (fC (PyData.str "b")) sNil))) sNil))) [.fz (scrD ns), k1, k2, k3, k4, k5, k6, k7, k8, k9, k10, k11, k12, .fz fiveD, .fz twoD, .un, .un, .un, .un] = some (.rt (.fz (.bool true)) [.fz (scrD ns), k1, k2, k3, k4, k5, k6, k7, k8, k9, k10, k11, k12, .fz fiveD, .fz twoD, .un, .un, .un, .un]) := by simp [f4, e1]
  exact ⟨_, oSeq_nx q1 (oSeq_nx q2 (oSeq_nx q3 (oSeq_nx q4 q5)))⟩
theorem F_law_eq (ns : List Int) (hl : ns.length ≤ 63) : F_law [scrD ns] = some (.fz (.bool true)) := by
  obtain ⟨δ', hloop, k1, k2, k3, k4, k5, k6, k7, k8, k9, k10, k11, k12, rfl⟩ := law_for (lo := 3) (hi := 5) (B := L_law_2) (ns := ns) (by decide) (by decide) (by decide) (fun δ => ∃ k1 k2 k3 k4 k5 k6 k7 k8 k9 k10 k11 k12, δ = kq ns k1 k2 k3 k4 k5 k6 k7 k8 k9 k10 k11 k12) (δ := [.un, .un, .un, .un, .un, .un, .un, .un, .un, .un, .un, .un, .un, .un, .un, .un, .un, .un]) ⟨_, _, _, _, _, _, _, _, _, _, _, _, rfl⟩ (by
    rintro k δ hk ⟨j1, j2, j3, j4, j5, j6, j7, j8, j9, j10, j11, j12, rfl⟩
    exact k31_turn ns hl k hk j1 j2 j3 j4 j5 j6 j7 j8 j9 j10 j11 j12)
  obtain ⟨δ2, ht⟩ := k31_tail ns k1 k2 k3 k4 k5 k6 k7 k8 k9 k10 k11 k12
  exact fnF_rt rfl (oSeq_nx hloop ht) rfl
end DL
namespace HD
open PySem PySem.Spec PyProof.Rows L2
def top (i : Nat) : Stmt := PySem.Challenge.pw_slipshafts_k31_whole_fewest_locked.main.body.getD i (.Pass ⟨0, 0, 0, 0⟩)
abbrev s_divisor : Stmt := top 2
def d_divisor : He.DefD := ⟨("divisor", none), "divisor", "divisor", defArgs s_divisor, defBody s_divisor, defScope s_divisor, [], []⟩
abbrev s_fraction : Stmt := top 3
def d_fraction : He.DefD := ⟨("fraction", none), "fraction", "fraction", defArgs s_fraction, defBody s_fraction, defScope s_fraction, [], []⟩
abbrev s_plus : Stmt := top 4
def d_plus : He.DefD := ⟨("plus", none), "plus", "plus", defArgs s_plus, defBody s_plus, defScope s_plus, [], []⟩
abbrev s_minus : Stmt := top 5
def d_minus : He.DefD := ⟨("minus", none), "minus", "minus", defArgs s_minus, defBody s_minus, defScope s_minus, [], []⟩
abbrev s_times : Stmt := top 6
def d_times : He.DefD := ⟨("times", none), "times", "times", defArgs s_times, defBody s_times, defScope s_times, [], []⟩
abbrev s_is_less : Stmt := top 7
def d_is_less : He.DefD := ⟨("is_less", none), "is_less", "is_less", defArgs s_is_less, defBody s_is_less, defScope s_is_less, [], []⟩
abbrev s_is_whole : Stmt := top 8
def d_is_whole : He.DefD := ⟨("is_whole", none), "is_whole", "is_whole", defArgs s_is_whole, defBody s_is_whole, defScope s_is_whole, [], []⟩
abbrev s_is_name : Stmt := top 20
def d_is_name : He.DefD := ⟨("is_name", none), "is_name", "is_name", defArgs s_is_name, defBody s_is_name, defScope s_is_name, [], []⟩
abbrev s_is_wish : Stmt := top 21
def d_is_wish : He.DefD := ⟨("is_wish", none), "is_wish", "is_wish", defArgs s_is_wish, defBody s_is_wish, defScope s_is_wish, [], []⟩
abbrev s_is_drag : Stmt := top 22
def d_is_drag : He.DefD := ⟨("is_drag", none), "is_drag", "is_drag", defArgs s_is_drag, defBody s_is_drag, defScope s_is_drag, [], []⟩
abbrev s_are_rising : Stmt := top 23
def d_are_rising : He.DefD := ⟨("are_rising", none), "are_rising", "are_rising", defArgs s_are_rising, defBody s_are_rising, defScope s_are_rising, [], []⟩
abbrev s_is_shaft : Stmt := top 24
def d_is_shaft : He.DefD := ⟨("is_shaft", none), "is_shaft", "is_shaft", defArgs s_is_shaft, defBody s_is_shaft, defScope s_is_shaft, [], []⟩
abbrev s_is_clutch : Stmt := top 25
def d_is_clutch : He.DefD := ⟨("is_clutch", none), "is_clutch", "is_clutch", defArgs s_is_clutch, defBody s_is_clutch, defScope s_is_clutch, [], []⟩
abbrev s_side_of : Stmt := top 26
def d_side_of : He.DefD := ⟨("side_of", none), "side_of", "side_of", defArgs s_side_of, defBody s_side_of, defScope s_side_of, [], []⟩
abbrev s_make_ring : Stmt := top 27
def d_make_ring : He.DefD := ⟨("make_ring", none), "make_ring", "make_ring", defArgs s_make_ring, defBody s_make_ring, defScope s_make_ring, [], []⟩
abbrev s_is_train : Stmt := top 28
def d_is_train : He.DefD := ⟨("is_train", none), "is_train", "is_train", defArgs s_is_train, defBody s_is_train, defScope s_is_train, [], []⟩
abbrev s_need_train : Stmt := top 29
def d_need_train : He.DefD := ⟨("need_train", none), "need_train", "need_train", defArgs s_need_train, defBody s_need_train, defScope s_need_train, [], []⟩
abbrev s_need_shaft : Stmt := top 30
def d_need_shaft : He.DefD := ⟨("need_shaft", none), "need_shaft", "need_shaft", defArgs s_need_shaft, defBody s_need_shaft, defScope s_need_shaft, [], []⟩
abbrev s_names_of : Stmt := top 31
def d_names_of : He.DefD := ⟨("names_of", none), "names_of", "names_of", defArgs s_names_of, defBody s_names_of, defScope s_names_of, [], []⟩
abbrev s_all_states : Stmt := top 33
def d_all_states : He.DefD := ⟨("all_states", none), "all_states", "all_states", defArgs s_all_states, defBody s_all_states, defScope s_all_states, [], []⟩
abbrev s_drawn_to : Stmt := top 34
def d_drawn_to : He.DefD := ⟨("drawn_to", none), "drawn_to", "drawn_to", defArgs s_drawn_to, defBody s_drawn_to, defScope s_drawn_to, [], []⟩
abbrev s_run : Stmt := top 35
def d_run : He.DefD := ⟨("run", none), "run", "run", defArgs s_run, defBody s_run, defScope s_run, [], []⟩
abbrev s_slack_rows : Stmt := top 36
def d_slack_rows : He.DefD := ⟨("slack_rows", none), "slack_rows", "slack_rows", defArgs s_slack_rows, defBody s_slack_rows, defScope s_slack_rows, [], []⟩
abbrev s_wishes_of : Stmt := top 37
def d_wishes_of : He.DefD := ⟨("wishes_of", none), "wishes_of", "wishes_of", defArgs s_wishes_of, defBody s_wishes_of, defScope s_wishes_of, [], []⟩
abbrev s_turning : Stmt := top 38
def d_turning : He.DefD := ⟨("turning", none), "turning", "turning", defArgs s_turning, defBody s_turning, defScope s_turning, [], []⟩
abbrev s_choices : Stmt := top 41
def d_choices : He.DefD := ⟨("choices", none), "choices", "choices", defArgs s_choices, defBody s_choices, defScope s_choices, [], []⟩
abbrev s_with_locked : Stmt := top 42
def d_with_locked : He.DefD := ⟨("with_locked", none), "with_locked", "with_locked", defArgs s_with_locked, defBody s_with_locked, defScope s_with_locked, [], []⟩
abbrev s_fewest_locked : Stmt := top 43
def d_fewest_locked : He.DefD := ⟨("fewest_locked", none), "fewest_locked", "fewest_locked", defArgs s_fewest_locked, defBody s_fewest_locked, defScope s_fewest_locked, [], []⟩
abbrev s_speeds_of : Stmt := top 45
def d_speeds_of : He.DefD := ⟨("speeds_of", none), "speeds_of", "speeds_of", defArgs s_speeds_of, defBody s_speeds_of, defScope s_speeds_of, [], []⟩
abbrev s_speeds : Stmt := top 46
def d_speeds : He.DefD := ⟨("speeds", none), "speeds", "speeds", defArgs s_speeds, defBody s_speeds, defScope s_speeds, [], []⟩
abbrev s__law_well : Stmt := top 48
def d__law_well : He.DefD := ⟨("_law_well", none), "_law_well", "_law_well", defArgs s__law_well, defBody s__law_well, defScope s__law_well, [], []⟩
abbrev s__law_take : Stmt := top 49
def d__law_take : He.DefD := ⟨("_law_take", none), "_law_take", "_law_take", defArgs s__law_take, defBody s__law_take, defScope s__law_take, [], []⟩
abbrev s__law_train : Stmt := top 50
def d__law_train : He.DefD := ⟨("_law_train", none), "_law_train", "_law_train", defArgs s__law_train, defBody s__law_train, defScope s__law_train, [], []⟩
abbrev s__law_names : Stmt := top 51
def d__law_names : He.DefD := ⟨("_law_names", none), "_law_names", "_law_names", defArgs s__law_names, defBody s__law_names, defScope s__law_names, [], []⟩
abbrev s__law_lots : Stmt := top 52
def d__law_lots : He.DefD := ⟨("_law_lots", none), "_law_lots", "_law_lots", defArgs s__law_lots, defBody s__law_lots, defScope s__law_lots, [], []⟩
abbrev s_law : Stmt := top 53
def d_law : He.DefD := ⟨("law", none), "law", "law", defArgs s_law, defBody s_law, defScope s_law, [], []⟩
def fn : List He.DefD := ([d_divisor, d_fraction, d_plus, d_minus, d_times, d_is_less, d_is_whole, d_is_name, d_is_wish, d_is_drag, d_are_rising, d_is_shaft, d_is_clutch, d_side_of, d_make_ring, d_is_train, d_need_train, d_need_shaft, d_names_of, d_all_states, d_drawn_to, d_run, d_slack_rows, d_wishes_of, d_turning, d_choices, d_with_locked, d_fewest_locked, d_speeds_of, d_speeds] : List He.DefD) ++ ([d__law_well, d__law_take, d__law_train, d__law_names, d__law_lots, d_law] : List He.DefD)
def fa : List He.Fa := ([.glo "divisor", .glo "fraction", .glo "plus", .glo "minus", .glo "times", .glo "is_less", .glo "is_whole", .glo "is_name", .glo "is_wish", .glo "is_drag", .glo "are_rising", .glo "is_shaft", .glo "is_clutch", .glo "side_of", .glo "make_ring", .glo "is_train", .glo "need_train", .glo "need_shaft", .glo "names_of", .glo "all_states", .glo "drawn_to", .glo "run", .glo "slack_rows", .glo "wishes_of", .glo "turning", .glo "choices", .glo "with_locked", .glo "fewest_locked", .glo "speeds_of", .glo "speeds"] : List He.Fa) ++ ([.glo "_law_well", .glo "_law_take", .glo "_law_train", .glo "_law_names", .glo "_law_lots", .glo "law", .free "ValueError", .free "abs", .free "all", .free "any", .free "bool", .free "dict", .free "enumerate", .free "int", .free "isinstance", .free "len", .free "list", .free "max", .free "min", .free "range", .free "sorted", .free "str", .free "tuple", .free "zip", .glo "NOUGHT", .str "LETTERS" "abcdefghijklmnopqrstuvwxyz", .int "MOST_WISH" 1000000, .int "MOST_STRONG" 9, .int "MOST_DRAG" 1000000, .int "MOST_SHAFTS" 6] : List He.Fa) ++ ([.int "MOST_CLUTCHES" 5, .int "MUCH" 1000000000000] : List He.Fa)
abbrev R : PySem.W.OpenRow := PySem.W.OpenLaw.row PySem.Challenge.rw_slipshafts_k31_whole_fewest_locked
def ex (K : PySem.W.Frag) : Bool := He.tupB K "NOUGHT" [.int 0, .int 1]
abbrev hk : PySem.W.Hook := He.hookX 4 fa fn [] [] ex
def ob (s : PySem.W.SharedT) : He.AlX := He.obsX 4 fa fn [] [] ex (HandSHeadRun.getT s)
theorem ob_eq (s : PySem.W.SharedT) : ob s = hk.obs s.abs := He.obsX_eq (HandSHeadRun.getT_eq s)
def loose : List Str := (["NOUGHT", "divisor", "fraction", "plus", "minus", "times", "is_less", "is_whole", "TrainError", "NoTrain", "NoShaft", "LETTERS", "MOST_WISH", "MOST_STRONG", "MOST_DRAG", "MOST_SHAFTS", "MOST_CLUTCHES", "is_name", "is_wish", "is_drag", "are_rising", "is_shaft", "is_clutch", "side_of", "make_ring", "is_train", "need_train", "need_shaft", "names_of", "all_states"] : List Str) ++ (["drawn_to", "run", "slack_rows", "wishes_of", "turning", "MUCH", "choices", "with_locked", "fewest_locked", "speeds_of", "speeds", "_law_well", "_law_take", "_law_train", "_law_names", "_law_lots"] : List Str)
theorem run (w : World) : HandSHeadRun.RunEq R (PySem.W.view R.prog [53]) hk ob 3000 loose w := by
  intro os
  kernel_rfl
end HD
namespace DL
open PySem PySem.Spec PyProof.Rows L2 HD
theorem bt_abs : bootBuiltins "abs" = some (.builtin "abs") := by decide +kernel
theorem bt_all : bootBuiltins "all" = some (.builtin "all") := by decide +kernel
theorem bt_any : bootBuiltins "any" = some (.builtin "any") := by decide +kernel
theorem bt_bool : bootBuiltins "bool" = some (.type "bool") := by decide +kernel
theorem bt_dict : bootBuiltins "dict" = some (.type "dict") := by decide +kernel
theorem bt_int : bootBuiltins "int" = some (.type "int") := by decide +kernel
theorem bt_isinstance : bootBuiltins "isinstance" = some (.builtin "isinstance") := by decide +kernel
theorem bt_len : bootBuiltins "len" = some (.builtin "len") := by decide +kernel
theorem bt_list : bootBuiltins "list" = some (.type "list") := by decide +kernel
theorem bt_max : bootBuiltins "max" = some (.builtin "max") := by decide +kernel
theorem bt_min : bootBuiltins "min" = some (.builtin "min") := by decide +kernel
theorem bt_sorted : bootBuiltins "sorted" = some (.builtin "sorted") := by decide +kernel
theorem bt_str : bootBuiltins "str" = some (.type "str") := by decide +kernel
theorem bt_tuple : bootBuiltins "tuple" = some (.type "tuple") := by decide +kernel
structure Gb (K : PySem.W.Frag) (mg : Str → Option Value) : Prop where
  b_ValueError : mg "ValueError" = none
  b_abs : mg "abs" = none
  b_all : mg "all" = none
  b_any : mg "any" = none
  b_bool : mg "bool" = none
  b_dict : mg "dict" = none
  b_enumerate : mg "enumerate" = none
  b_int : mg "int" = none
  b_isinstance : mg "isinstance" = none
  b_len : mg "len" = none
  b_list : mg "list" = none
  b_max : mg "max" = none
  b_min : mg "min" = none
  b_range : mg "range" = none
  b_sorted : mg "sorted" = none
  b_str : mg "str" = none
  b_tuple : mg "tuple" = none
  b_zip : mg "zip" = none
  c_NOUGHT : ∃ a vs, mg "NOUGHT" = some (.ref a) ∧ (∀ H, SqT K H a vs) ∧ ∀ Z H, RA K Z H vs [(PyData.int 0), (PyData.int 1)]
  c_LETTERS : ∃ t, mg "LETTERS" = some (.str "abcdefghijklmnopqrstuvwxyz" t)
  c_MOST_WISH : ∃ t, mg "MOST_WISH" = some (.int 1000000 t)
  c_MOST_STRONG : ∃ t, mg "MOST_STRONG" = some (.int 9 t)
  c_MOST_DRAG : ∃ t, mg "MOST_DRAG" = some (.int 1000000 t)
  c_MOST_SHAFTS : ∃ t, mg "MOST_SHAFTS" = some (.int 6 t)
  c_MOST_CLUTCHES : ∃ t, mg "MOST_CLUTCHES" = some (.int 5 t)
  c_MUCH : ∃ t, mg "MUCH" = some (.int 1000000000000 t)
  d_divisor : ∃ f fd, mg "divisor" = some (.ref f) ∧ FunD K "divisor" "divisor" (defArgs s_divisor) (defBody s_divisor) (defScope s_divisor) [] [] f fd
  d_fraction : ∃ f fd, mg "fraction" = some (.ref f) ∧ FunD K "fraction" "fraction" (defArgs s_fraction) (defBody s_fraction) (defScope s_fraction) [] [] f fd
  d_plus : ∃ f fd, mg "plus" = some (.ref f) ∧ FunD K "plus" "plus" (defArgs s_plus) (defBody s_plus) (defScope s_plus) [] [] f fd
  d_minus : ∃ f fd, mg "minus" = some (.ref f) ∧ FunD K "minus" "minus" (defArgs s_minus) (defBody s_minus) (defScope s_minus) [] [] f fd
  d_times : ∃ f fd, mg "times" = some (.ref f) ∧ FunD K "times" "times" (defArgs s_times) (defBody s_times) (defScope s_times) [] [] f fd
  d_is_less : ∃ f fd, mg "is_less" = some (.ref f) ∧ FunD K "is_less" "is_less" (defArgs s_is_less) (defBody s_is_less) (defScope s_is_less) [] [] f fd
  d_is_whole : ∃ f fd, mg "is_whole" = some (.ref f) ∧ FunD K "is_whole" "is_whole" (defArgs s_is_whole) (defBody s_is_whole) (defScope s_is_whole) [] [] f fd
  d_is_name : ∃ f fd, mg "is_name" = some (.ref f) ∧ FunD K "is_name" "is_name" (defArgs s_is_name) (defBody s_is_name) (defScope s_is_name) [] [] f fd
  d_is_wish : ∃ f fd, mg "is_wish" = some (.ref f) ∧ FunD K "is_wish" "is_wish" (defArgs s_is_wish) (defBody s_is_wish) (defScope s_is_wish) [] [] f fd
  d_is_drag : ∃ f fd, mg "is_drag" = some (.ref f) ∧ FunD K "is_drag" "is_drag" (defArgs s_is_drag) (defBody s_is_drag) (defScope s_is_drag) [] [] f fd
  d_are_rising : ∃ f fd, mg "are_rising" = some (.ref f) ∧ FunD K "are_rising" "are_rising" (defArgs s_are_rising) (defBody s_are_rising) (defScope s_are_rising) [] [] f fd
  d_is_shaft : ∃ f fd, mg "is_shaft" = some (.ref f) ∧ FunD K "is_shaft" "is_shaft" (defArgs s_is_shaft) (defBody s_is_shaft) (defScope s_is_shaft) [] [] f fd
  d_is_clutch : ∃ f fd, mg "is_clutch" = some (.ref f) ∧ FunD K "is_clutch" "is_clutch" (defArgs s_is_clutch) (defBody s_is_clutch) (defScope s_is_clutch) [] [] f fd
  d_side_of : ∃ f fd, mg "side_of" = some (.ref f) ∧ FunD K "side_of" "side_of" (defArgs s_side_of) (defBody s_side_of) (defScope s_side_of) [] [] f fd
  d_make_ring : ∃ f fd, mg "make_ring" = some (.ref f) ∧ FunD K "make_ring" "make_ring" (defArgs s_make_ring) (defBody s_make_ring) (defScope s_make_ring) [] [] f fd
  d_is_train : ∃ f fd, mg "is_train" = some (.ref f) ∧ FunD K "is_train" "is_train" (defArgs s_is_train) (defBody s_is_train) (defScope s_is_train) [] [] f fd
  d_need_train : ∃ f fd, mg "need_train" = some (.ref f) ∧ FunD K "need_train" "need_train" (defArgs s_need_train) (defBody s_need_train) (defScope s_need_train) [] [] f fd
  d_need_shaft : ∃ f fd, mg "need_shaft" = some (.ref f) ∧ FunD K "need_shaft" "need_shaft" (defArgs s_need_shaft) (defBody s_need_shaft) (defScope s_need_shaft) [] [] f fd
  d_names_of : ∃ f fd, mg "names_of" = some (.ref f) ∧ FunD K "names_of" "names_of" (defArgs s_names_of) (defBody s_names_of) (defScope s_names_of) [] [] f fd
  d_all_states : ∃ f fd, mg "all_states" = some (.ref f) ∧ FunD K "all_states" "all_states" (defArgs s_all_states) (defBody s_all_states) (defScope s_all_states) [] [] f fd
  d_drawn_to : ∃ f fd, mg "drawn_to" = some (.ref f) ∧ FunD K "drawn_to" "drawn_to" (defArgs s_drawn_to) (defBody s_drawn_to) (defScope s_drawn_to) [] [] f fd
  d_run : ∃ f fd, mg "run" = some (.ref f) ∧ FunD K "run" "run" (defArgs s_run) (defBody s_run) (defScope s_run) [] [] f fd
  d_slack_rows : ∃ f fd, mg "slack_rows" = some (.ref f) ∧ FunD K "slack_rows" "slack_rows" (defArgs s_slack_rows) (defBody s_slack_rows) (defScope s_slack_rows) [] [] f fd
  d_wishes_of : ∃ f fd, mg "wishes_of" = some (.ref f) ∧ FunD K "wishes_of" "wishes_of" (defArgs s_wishes_of) (defBody s_wishes_of) (defScope s_wishes_of) [] [] f fd
  d_turning : ∃ f fd, mg "turning" = some (.ref f) ∧ FunD K "turning" "turning" (defArgs s_turning) (defBody s_turning) (defScope s_turning) [] [] f fd
  d_choices : ∃ f fd, mg "choices" = some (.ref f) ∧ FunD K "choices" "choices" (defArgs s_choices) (defBody s_choices) (defScope s_choices) [] [] f fd
  d_with_locked : ∃ f fd, mg "with_locked" = some (.ref f) ∧ FunD K "with_locked" "with_locked" (defArgs s_with_locked) (defBody s_with_locked) (defScope s_with_locked) [] [] f fd
  d_fewest_locked : ∃ f fd, mg "fewest_locked" = some (.ref f) ∧ FunD K "fewest_locked" "fewest_locked" (defArgs s_fewest_locked) (defBody s_fewest_locked) (defScope s_fewest_locked) [] [] f fd
  d_speeds_of : ∃ f fd, mg "speeds_of" = some (.ref f) ∧ FunD K "speeds_of" "speeds_of" (defArgs s_speeds_of) (defBody s_speeds_of) (defScope s_speeds_of) [] [] f fd
  d_speeds : ∃ f fd, mg "speeds" = some (.ref f) ∧ FunD K "speeds" "speeds" (defArgs s_speeds) (defBody s_speeds) (defScope s_speeds) [] [] f fd
  d__law_well : ∃ f fd, mg "_law_well" = some (.ref f) ∧ FunD K "_law_well" "_law_well" (defArgs s__law_well) (defBody s__law_well) (defScope s__law_well) [] [] f fd
  d__law_take : ∃ f fd, mg "_law_take" = some (.ref f) ∧ FunD K "_law_take" "_law_take" (defArgs s__law_take) (defBody s__law_take) (defScope s__law_take) [] [] f fd
  d__law_train : ∃ f fd, mg "_law_train" = some (.ref f) ∧ FunD K "_law_train" "_law_train" (defArgs s__law_train) (defBody s__law_train) (defScope s__law_train) [] [] f fd
  d__law_names : ∃ f fd, mg "_law_names" = some (.ref f) ∧ FunD K "_law_names" "_law_names" (defArgs s__law_names) (defBody s__law_names) (defScope s__law_names) [] [] f fd
  d__law_lots : ∃ f fd, mg "_law_lots" = some (.ref f) ∧ FunD K "_law_lots" "_law_lots" (defArgs s__law_lots) (defBody s__law_lots) (defScope s__law_lots) [] [] f fd
  d_law : ∃ f fd, mg "law" = some (.ref f) ∧ FunD K "law" "law" (defArgs s_law) (defBody s_law) (defScope s_law) [] [] f fd
section
variable {P : Program} {w : World} {K : PySem.W.Frag} {mg : Str → Option Value} {base : Heap} (G : Gb K mg)
include G
theorem fs_divisor : FnScope ["one", "other"] ["one", "other"] (defScope s_divisor) := ⟨rfl, rfl, rfl, by decide +kernel, rfl, by decide +kernel, by decide +kernel⟩
theorem fn_divisor : Fn P w K mg base 1 "divisor" (spG K F_divisor) := by
  obtain ⟨f, fd, hm, F⟩ := G.d_divisor
  have S := fs_divisor G
  refine fn_mk hm F S (fun _ _ _ _ _ _ us hl => match us, hl with | [_, _], _ => rfl) rfl rfl (by decide) fun cdv A outer s H E hr => ?_
  have hu := hr.un
  have hu1 : (A.deeper (envOfC "divisor" (defScope s_divisor) s.heap.objs.size f cdv)).units + 1 < cLine := by omega
  have hu64 : (A.deeper (envOfC "divisor" (defScope s_divisor) s.heap.objs.size f cdv)).units + 64 < cLine := by omega
  have hu65 : (A.deeper (envOfC "divisor" (defScope s_divisor) s.heap.objs.size f cdv)).units + 65 < cLine := by omega
  exact (ss_cons (st_while (muI 1) PassesOwn.never (et_cmp (op2_ne hu64) (ev_var 1) ev_int) (ss_one (st_par false false 0 1 S.nd rfl (ev_var 1) (ev_bin op2_mod (ev_var 0) (ev_var 1)))))
    (ss_one (st_ret (ev_var 0))))
theorem fs_fraction : FnScope ["top", "bottom", "by"] ["top", "bottom"] (defScope s_fraction) := ⟨rfl, rfl, rfl, by decide +kernel, rfl, by decide +kernel, by decide +kernel⟩
theorem fn_fraction : Fn P w K mg base 2 "fraction" (spG K F_fraction) := by
  obtain ⟨f, fd, hm, F⟩ := G.d_fraction
  have S := fs_fraction G
  have fn_divisor := fn_divisor (P := P) (w := w) (base := base) G
  refine fn_mk hm F S (fun _ _ _ _ _ _ us hl => match us, hl with | [_, _], _ => rfl) rfl rfl (by decide) fun cdv A outer s H E hr => ?_
  have hu := hr.un
  have hu1 : (A.deeper (envOfC "fraction" (defScope s_fraction) s.heap.objs.size f cdv)).units + 1 < cLine := by omega
  have hu64 : (A.deeper (envOfC "fraction" (defScope s_fraction) s.heap.objs.size f cdv)).units + 64 < cLine := by omega
  have hu65 : (A.deeper (envOfC "fraction" (defScope s_fraction) s.heap.objs.size f cdv)).units + 65 < cLine := by omega
  exact (ss_cons (st_set false 2 S.nd (ev_bin op2_mulA (ev_call fn_divisor hr (es_cons (ev_callB c_abs G.b_abs bt_abs (ep_cons (ev_var 0) ep_nil)) (es_cons (ev_callB c_abs G.b_abs bt_abs (ep_cons (ev_var 1) ep_nil)) es_nil))) (ev_if (et_cmp op2_gt (ev_var 1) ev_int) ev_int (ev_un un1_neg ev_int))))
    (ss_one (st_ret (ev_tup (es_cons (ev_bin op2_div (ev_var 0) (ev_var 2)) (es_cons (ev_bin op2_div (ev_var 1) (ev_var 2)) es_nil))))))
theorem fs_plus : FnScope ["one", "other"] ["one", "other"] (defScope s_plus) := ⟨rfl, rfl, rfl, by decide +kernel, rfl, by decide +kernel, by decide +kernel⟩
theorem fn_plus : Fn P w K mg base 3 "plus" (spG K F_plus) := by
  obtain ⟨f, fd, hm, F⟩ := G.d_plus
  have S := fs_plus G
  have fn_fraction := fn_fraction (P := P) (w := w) (base := base) G
  refine fn_mk hm F S (fun _ _ _ _ _ _ us hl => match us, hl with | [_, _], _ => rfl) rfl rfl (by decide) fun cdv A outer s H E hr => ?_
  have hu := hr.un
  have hu1 : (A.deeper (envOfC "plus" (defScope s_plus) s.heap.objs.size f cdv)).units + 1 < cLine := by omega
  have hu64 : (A.deeper (envOfC "plus" (defScope s_plus) s.heap.objs.size f cdv)).units + 64 < cLine := by omega
  have hu65 : (A.deeper (envOfC "plus" (defScope s_plus) s.heap.objs.size f cdv)).units + 65 < cLine := by omega
  exact (ss_one (st_ret (ev_call fn_fraction hr (es_cons (ev_bin op2_add (ev_bin op2_mulA (ev_ix (ix2 hu1) (ev_var 0) ev_int) (ev_ix (ix2 hu1) (ev_var 1) ev_int)) (ev_bin op2_mulA (ev_ix (ix2 hu1) (ev_var 1) ev_int) (ev_ix (ix2 hu1) (ev_var 0) ev_int))) (es_cons (ev_bin op2_mulA (ev_ix (ix2 hu1) (ev_var 0) ev_int) (ev_ix (ix2 hu1) (ev_var 1) ev_int)) es_nil)))))
theorem fs_minus : FnScope ["one", "other"] ["one", "other"] (defScope s_minus) := ⟨rfl, rfl, rfl, by decide +kernel, rfl, by decide +kernel, by decide +kernel⟩
theorem fn_minus : Fn P w K mg base 3 "minus" (spG K F_minus) := by
  obtain ⟨f, fd, hm, F⟩ := G.d_minus
  have S := fs_minus G
  have fn_fraction := fn_fraction (P := P) (w := w) (base := base) G
  refine fn_mk hm F S (fun _ _ _ _ _ _ us hl => match us, hl with | [_, _], _ => rfl) rfl rfl (by decide) fun cdv A outer s H E hr => ?_
  have hu := hr.un
  have hu1 : (A.deeper (envOfC "minus" (defScope s_minus) s.heap.objs.size f cdv)).units + 1 < cLine := by omega
  have hu64 : (A.deeper (envOfC "minus" (defScope s_minus) s.heap.objs.size f cdv)).units + 64 < cLine := by omega
  have hu65 : (A.deeper (envOfC "minus" (defScope s_minus) s.heap.objs.size f cdv)).units + 65 < cLine := by omega
  exact (ss_one (st_ret (ev_call fn_fraction hr (es_cons (ev_bin op2_sub (ev_bin op2_mulA (ev_ix (ix2 hu1) (ev_var 0) ev_int) (ev_ix (ix2 hu1) (ev_var 1) ev_int)) (ev_bin op2_mulA (ev_ix (ix2 hu1) (ev_var 1) ev_int) (ev_ix (ix2 hu1) (ev_var 0) ev_int))) (es_cons (ev_bin op2_mulA (ev_ix (ix2 hu1) (ev_var 0) ev_int) (ev_ix (ix2 hu1) (ev_var 1) ev_int)) es_nil)))))
theorem fs_times : FnScope ["one", "other"] ["one", "other"] (defScope s_times) := ⟨rfl, rfl, rfl, by decide +kernel, rfl, by decide +kernel, by decide +kernel⟩
theorem fn_times : Fn P w K mg base 3 "times" (spG K F_times) := by
  obtain ⟨f, fd, hm, F⟩ := G.d_times
  have S := fs_times G
  have fn_fraction := fn_fraction (P := P) (w := w) (base := base) G
  refine fn_mk hm F S (fun _ _ _ _ _ _ us hl => match us, hl with | [_, _], _ => rfl) rfl rfl (by decide) fun cdv A outer s H E hr => ?_
  have hu := hr.un
  have hu1 : (A.deeper (envOfC "times" (defScope s_times) s.heap.objs.size f cdv)).units + 1 < cLine := by omega
  have hu64 : (A.deeper (envOfC "times" (defScope s_times) s.heap.objs.size f cdv)).units + 64 < cLine := by omega
  have hu65 : (A.deeper (envOfC "times" (defScope s_times) s.heap.objs.size f cdv)).units + 65 < cLine := by omega
  exact (ss_one (st_ret (ev_call fn_fraction hr (es_cons (ev_bin op2_mulA (ev_ix (ix2 hu1) (ev_var 0) ev_int) (ev_ix (ix2 hu1) (ev_var 1) ev_int)) (es_cons (ev_bin op2_mulA (ev_ix (ix2 hu1) (ev_var 0) ev_int) (ev_ix (ix2 hu1) (ev_var 1) ev_int)) es_nil)))))
theorem fs_is_less : FnScope ["one", "other"] ["one", "other"] (defScope s_is_less) := ⟨rfl, rfl, rfl, by decide +kernel, rfl, by decide +kernel, by decide +kernel⟩
theorem fn_is_less : Fn P w K mg base 1 "is_less" (spG K F_is_less) := by
  obtain ⟨f, fd, hm, F⟩ := G.d_is_less
  have S := fs_is_less G
  refine fn_mk hm F S (fun _ _ _ _ _ _ us hl => match us, hl with | [_, _], _ => rfl) rfl rfl (by decide) fun cdv A outer s H E hr => ?_
  have hu := hr.un
  have hu1 : (A.deeper (envOfC "is_less" (defScope s_is_less) s.heap.objs.size f cdv)).units + 1 < cLine := by omega
  have hu64 : (A.deeper (envOfC "is_less" (defScope s_is_less) s.heap.objs.size f cdv)).units + 64 < cLine := by omega
  have hu65 : (A.deeper (envOfC "is_less" (defScope s_is_less) s.heap.objs.size f cdv)).units + 65 < cLine := by omega
  exact (ss_one (st_ret (ev_cmp (op2_ltA hu64) (ev_bin op2_mulA (ev_ix (ix2 hu1) (ev_var 0) ev_int) (ev_ix (ix2 hu1) (ev_var 1) ev_int)) (ev_bin op2_mulA (ev_ix (ix2 hu1) (ev_var 1) ev_int) (ev_ix (ix2 hu1) (ev_var 0) ev_int)))))
theorem fs_is_whole : FnScope ["thing", "low", "high"] ["thing", "low", "high"] (defScope s_is_whole) := ⟨rfl, rfl, rfl, by decide +kernel, rfl, by decide +kernel, by decide +kernel⟩
theorem fn_is_whole : Fn P w K mg base 1 "is_whole" (spG K F_is_whole) := by
  obtain ⟨f, fd, hm, F⟩ := G.d_is_whole
  have S := fs_is_whole G
  refine fn_mk hm F S (fun _ _ _ _ _ _ us hl => match us, hl with | [_, _, _], _ => rfl) rfl rfl (by decide) fun cdv A outer s H E hr => ?_
  have hu := hr.un
  have hu1 : (A.deeper (envOfC "is_whole" (defScope s_is_whole) s.heap.objs.size f cdv)).units + 1 < cLine := by omega
  have hu64 : (A.deeper (envOfC "is_whole" (defScope s_is_whole) s.heap.objs.size f cdv)).units + 64 < cLine := by omega
  have hu65 : (A.deeper (envOfC "is_whole" (defScope s_is_whole) s.heap.objs.size f cdv)).units + 65 < cLine := by omega
  exact (ss_one (st_ret (ev_and (ev_isi (ev_var 0) G.b_isinstance G.b_int bt_int) (ev_and (ev_not (ev_isi (ev_var 0) G.b_isinstance G.b_bool bt_bool)) (ev_one (ev_chain op2_le op2_le (ev_var 1) (ev_var 0) (ev_var 2)))))))
theorem fs_is_name : FnScope ["thing", "sign"] ["thing"] (defScope s_is_name) := ⟨rfl, rfl, rfl, by decide +kernel, rfl, by decide +kernel, by decide +kernel⟩
theorem fn_is_name : Fn P w K mg base 1 "is_name" (spG K F_is_name) := by
  obtain ⟨f, fd, hm, F⟩ := G.d_is_name
  have S := fs_is_name G
  refine fn_mk hm F S (fun _ _ _ _ _ _ us hl => match us, hl with | [_], _ => rfl) rfl rfl (by decide) fun cdv A outer s H E hr => ?_
  have hu := hr.un
  have hu1 : (A.deeper (envOfC "is_name" (defScope s_is_name) s.heap.objs.size f cdv)).units + 1 < cLine := by omega
  have hu64 : (A.deeper (envOfC "is_name" (defScope s_is_name) s.heap.objs.size f cdv)).units + 64 < cLine := by omega
  have hu65 : (A.deeper (envOfC "is_name" (defScope s_is_name) s.heap.objs.size f cdv)).units + 65 < cLine := by omega
  exact (ss_one (st_ret (ev_and (ev_isi (ev_var 0) G.b_isinstance G.b_str bt_str) (ev_and (ev_chain op2_le op2_le ev_int (ev_callB c_len G.b_len bt_len (ep_cons (ev_var 0) ep_nil)) ev_int) (ev_one (ev_callB (c_all rfl) G.b_all bt_all (ep_cons (ev_lc S.nd rfl (blkOk_by (own := [("sign", 1)]) (by kernel_rfl)) (ei_str (ev_var 0)) (fun _ _ _ _ _ => (eg_name 1 S.nd)) (fun _ _ _ _ _ => ec_nil) (fun _ _ _ _ _ => (ev_cmp (op2_inA hu65) (ev_var 1) (ev_gstr G.c_LETTERS)))) ep_nil)))))))
theorem fs_is_wish : FnScope ["thing"] ["thing"] (defScope s_is_wish) := ⟨rfl, rfl, rfl, by decide +kernel, rfl, by decide +kernel, by decide +kernel⟩
theorem fn_is_wish : Fn P w K mg base 2 "is_wish" (spG K F_is_wish) := by
  obtain ⟨f, fd, hm, F⟩ := G.d_is_wish
  have S := fs_is_wish G
  have fn_is_whole := fn_is_whole (P := P) (w := w) (base := base) G
  refine fn_mk hm F S (fun _ _ _ _ _ _ us hl => match us, hl with | [_], _ => rfl) rfl rfl (by decide) fun cdv A outer s H E hr => ?_
  have hu := hr.un
  have hu1 : (A.deeper (envOfC "is_wish" (defScope s_is_wish) s.heap.objs.size f cdv)).units + 1 < cLine := by omega
  have hu64 : (A.deeper (envOfC "is_wish" (defScope s_is_wish) s.heap.objs.size f cdv)).units + 64 < cLine := by omega
  have hu65 : (A.deeper (envOfC "is_wish" (defScope s_is_wish) s.heap.objs.size f cdv)).units + 65 < cLine := by omega
  exact (ss_one (st_ret (ev_call fn_is_whole hr (es_cons (ev_var 0) (es_cons (ev_un un1_neg (ev_gint G.c_MOST_WISH)) (es_cons (ev_gint G.c_MOST_WISH) es_nil))))))
theorem fs_is_drag : FnScope ["thing"] ["thing"] (defScope s_is_drag) := ⟨rfl, rfl, rfl, by decide +kernel, rfl, by decide +kernel, by decide +kernel⟩
theorem fn_is_drag : Fn P w K mg base 2 "is_drag" (spG K F_is_drag) := by
  obtain ⟨f, fd, hm, F⟩ := G.d_is_drag
  have S := fs_is_drag G
  have fn_is_whole := fn_is_whole (P := P) (w := w) (base := base) G
  refine fn_mk hm F S (fun _ _ _ _ _ _ us hl => match us, hl with | [_], _ => rfl) rfl rfl (by decide) fun cdv A outer s H E hr => ?_
  have hu := hr.un
  have hu1 : (A.deeper (envOfC "is_drag" (defScope s_is_drag) s.heap.objs.size f cdv)).units + 1 < cLine := by omega
  have hu64 : (A.deeper (envOfC "is_drag" (defScope s_is_drag) s.heap.objs.size f cdv)).units + 64 < cLine := by omega
  have hu65 : (A.deeper (envOfC "is_drag" (defScope s_is_drag) s.heap.objs.size f cdv)).units + 65 < cLine := by omega
  exact (ss_one (st_ret (ev_call fn_is_whole hr (es_cons (ev_var 0) (es_cons ev_int (es_cons (ev_gint G.c_MOST_DRAG) es_nil))))))
theorem fs_are_rising : FnScope ["some", "k"] ["some"] (defScope s_are_rising) := ⟨rfl, rfl, rfl, by decide +kernel, rfl, by decide +kernel, by decide +kernel⟩
theorem fn_are_rising : Fn P w K mg base 1 "are_rising" (spG K F_are_rising) := by
  obtain ⟨f, fd, hm, F⟩ := G.d_are_rising
  have S := fs_are_rising G
  refine fn_mk hm F S (fun _ _ _ _ _ _ us hl => match us, hl with | [_], _ => rfl) rfl rfl (by decide) fun cdv A outer s H E hr => ?_
  have hu := hr.un
  have hu1 : (A.deeper (envOfC "are_rising" (defScope s_are_rising) s.heap.objs.size f cdv)).units + 1 < cLine := by omega
  have hu64 : (A.deeper (envOfC "are_rising" (defScope s_are_rising) s.heap.objs.size f cdv)).units + 64 < cLine := by omega
  have hu65 : (A.deeper (envOfC "are_rising" (defScope s_are_rising) s.heap.objs.size f cdv)).units + 65 < cLine := by omega
  exact (ss_one (st_ret (ev_callB (c_all rfl) G.b_all bt_all (ep_cons (ev_lc S.nd rfl (blkOk_by (own := [("k", 1)]) (by kernel_rfl)) (ei_r1 (ev_bin op2_sub (ev_callB c_len G.b_len bt_len (ep_cons (ev_var 0) ep_nil)) ev_int) G.b_range) (fun _ _ _ _ _ => (eg_name 1 S.nd)) (fun _ _ _ _ _ => ec_nil) (fun _ _ _ _ _ => (ev_cmp (op2_ltA hu64) (ev_ix (ix2 hu1) (ev_var 0) (ev_var 1)) (ev_ix (ix2 hu1) (ev_var 0) (ev_bin op2_add (ev_var 1) ev_int))))) ep_nil))))
theorem fs_is_shaft : FnScope ["thing"] ["thing"] (defScope s_is_shaft) := ⟨rfl, rfl, rfl, by decide +kernel, rfl, by decide +kernel, by decide +kernel⟩
theorem fn_is_shaft : Fn P w K mg base 3 "is_shaft" (spG K F_is_shaft) := by
  obtain ⟨f, fd, hm, F⟩ := G.d_is_shaft
  have S := fs_is_shaft G
  have fn_is_name := fn_is_name (P := P) (w := w) (base := base) G
  have fn_is_whole := fn_is_whole (P := P) (w := w) (base := base) G
  have fn_is_wish := fn_is_wish (P := P) (w := w) (base := base) G
  refine fn_mk hm F S (fun _ _ _ _ _ _ us hl => match us, hl with | [_], _ => rfl) rfl rfl (by decide) fun cdv A outer s H E hr => ?_
  have hu := hr.un
  have hu1 : (A.deeper (envOfC "is_shaft" (defScope s_is_shaft) s.heap.objs.size f cdv)).units + 1 < cLine := by omega
  have hu64 : (A.deeper (envOfC "is_shaft" (defScope s_is_shaft) s.heap.objs.size f cdv)).units + 64 < cLine := by omega
  have hu65 : (A.deeper (envOfC "is_shaft" (defScope s_is_shaft) s.heap.objs.size f cdv)).units + 65 < cLine := by omega
  exact (ss_cons (st_if (EvW.t (ew_or (et_not (et_val (ev_isi (ev_var 0) G.b_isinstance G.b_tuple bt_tuple))) (ew_or (et_cmp (op2_ne hu64) (ev_callB c_len G.b_len bt_len (ep_cons (ev_var 0) ep_nil)) ev_int) (ew_or1 (et_not (et_val (ev_call fn_is_name hr (es_cons (ev_ix (ix2 hu1) (ev_var 0) ev_int) es_nil)))))))) (ss_one (st_ret ev_bl)) ss_nil)
    (ss_one (st_ret (ev_and (ev_call fn_is_wish hr (es_cons (ev_ix (ix2 hu1) (ev_var 0) ev_int) es_nil)) (ev_one (ev_call fn_is_whole hr (es_cons (ev_ix (ix2 hu1) (ev_var 0) ev_int) (es_cons ev_int (es_cons (ev_gint G.c_MOST_STRONG) es_nil)))))))))
theorem fs_is_clutch : FnScope ["names", "thing", "name"] ["names", "thing"] (defScope s_is_clutch) := ⟨rfl, rfl, rfl, by decide +kernel, rfl, by decide +kernel, by decide +kernel⟩
theorem fn_is_clutch : Fn P w K mg base 3 "is_clutch" (spG K F_is_clutch) := by
  obtain ⟨f, fd, hm, F⟩ := G.d_is_clutch
  have S := fs_is_clutch G
  have fn_is_drag := fn_is_drag (P := P) (w := w) (base := base) G
  refine fn_mk hm F S (fun _ _ _ _ _ _ us hl => match us, hl with | [_, _], _ => rfl) rfl rfl (by decide) fun cdv A outer s H E hr => ?_
  have hu := hr.un
  have hu1 : (A.deeper (envOfC "is_clutch" (defScope s_is_clutch) s.heap.objs.size f cdv)).units + 1 < cLine := by omega
  have hu64 : (A.deeper (envOfC "is_clutch" (defScope s_is_clutch) s.heap.objs.size f cdv)).units + 64 < cLine := by omega
  have hu65 : (A.deeper (envOfC "is_clutch" (defScope s_is_clutch) s.heap.objs.size f cdv)).units + 65 < cLine := by omega
  exact (ss_cons (st_if (EvW.t (ew_or (et_not (et_val (ev_isi (ev_var 1) G.b_isinstance G.b_tuple bt_tuple))) (ew_or (et_cmp (op2_ne hu64) (ev_callB c_len G.b_len bt_len (ep_cons (ev_var 1) ep_nil)) ev_int) (ew_or1 (et_not (et_val (ev_callB (c_all rfl) G.b_all bt_all (ep_cons (ev_lc S.nd rfl (blkOk_by (own := [("name", 2)]) (by kernel_rfl)) (ei_sq (ev_sl (ev_var 1) eo_none (eo_some ev_int))) (fun _ _ _ _ _ => (eg_name 2 S.nd)) (fun _ _ _ _ _ => ec_nil) (fun _ _ _ _ _ => (ev_isi (ev_var 2) G.b_isinstance G.b_str bt_str))) ep_nil)))))))) (ss_one (st_ret ev_bl)) ss_nil)
    (ss_one (st_ret (ev_and (ev_cmp (op2_inA hu65) (ev_ix (ix2 hu1) (ev_var 1) ev_int) (ev_var 0)) (ev_and (ev_cmp (op2_inA hu65) (ev_ix (ix2 hu1) (ev_var 1) ev_int) (ev_var 0)) (ev_and (ev_cmp (op2_ltA hu64) (ev_ix (ix2 hu1) (ev_var 1) ev_int) (ev_ix (ix2 hu1) (ev_var 1) ev_int)) (ev_one (ev_call fn_is_drag hr (es_cons (ev_ix (ix2 hu1) (ev_var 1) ev_int) es_nil)))))))))
theorem fs_side_of : FnScope ["clutches", "begin", "found", "turn", "one", "other", "drag"] ["clutches", "begin"] (defScope s_side_of) := ⟨rfl, rfl, rfl, by decide +kernel, rfl, by decide +kernel, by decide +kernel⟩
theorem fn_side_of : Fn P w K mg base 1 "side_of" (spG K F_side_of) := by
  obtain ⟨f, fd, hm, F⟩ := G.d_side_of
  have S := fs_side_of G
  refine fn_mk hm F S (fun _ _ _ _ _ _ us hl => match us, hl with | [_, _], _ => rfl) rfl rfl (by decide) fun cdv A outer s H E hr => ?_
  have hu := hr.un
  have hu1 : (A.deeper (envOfC "side_of" (defScope s_side_of) s.heap.objs.size f cdv)).units + 1 < cLine := by omega
  have hu64 : (A.deeper (envOfC "side_of" (defScope s_side_of) s.heap.objs.size f cdv)).units + 64 < cLine := by omega
  have hu65 : (A.deeper (envOfC "side_of" (defScope s_side_of) s.heap.objs.size f cdv)).units + 65 < cLine := by omega
  exact (ss_cons (st_set true 2 S.nd (ev_lst (es_cons (ev_var 1) es_nil)))
    (ss_cons (st_for PassesOwn.never rfl (ei_sq (ev_var 0)) (EvG.h (eg_name 3 S.nd)) (ss_one (st_for PassesOwn.never rfl (ei_sq (ev_var 0)) (eh_tup rfl (ehs_cons (EvG.h (eg_name 4 S.nd)) (ehs_cons (EvG.h (eg_name 5 S.nd)) (ehs_cons (EvG.h (eg_name 6 S.nd)) ehs_nil)))) (ss_one (st_if (et_cmp (op2_ne hu64) (ev_cmp (op2_inA hu65) (ev_var 4) (ev_var 2)) (ev_cmp (op2_inA hu65) (ev_var 5) (ev_var 2))) (ss_one (st_exp (ev_append 2 (ev_if (et_cmp (op2_inA hu65) (ev_var 4) (ev_var 2)) (ev_var 5) (ev_var 4))))) ss_nil)))))
    (ss_one (st_ret (ev_var 2)))))
theorem fs_make_ring : FnScope ["clutches", "at", "one", "other", "drag"] ["clutches"] (defScope s_make_ring) := ⟨rfl, rfl, rfl, by decide +kernel, rfl, by decide +kernel, by decide +kernel⟩
theorem fn_make_ring : Fn P w K mg base 2 "make_ring" (spG K F_make_ring) := by
  obtain ⟨f, fd, hm, F⟩ := G.d_make_ring
  have S := fs_make_ring G
  have fn_side_of := fn_side_of (P := P) (w := w) (base := base) G
  refine fn_mk hm F S (fun _ _ _ _ _ _ us hl => match us, hl with | [_], _ => rfl) rfl rfl (by decide) fun cdv A outer s H E hr => ?_
  have hu := hr.un
  have hu1 : (A.deeper (envOfC "make_ring" (defScope s_make_ring) s.heap.objs.size f cdv)).units + 1 < cLine := by omega
  have hu64 : (A.deeper (envOfC "make_ring" (defScope s_make_ring) s.heap.objs.size f cdv)).units + 64 < cLine := by omega
  have hu65 : (A.deeper (envOfC "make_ring" (defScope s_make_ring) s.heap.objs.size f cdv)).units + 65 < cLine := by omega
  exact (ss_cons (st_for PassesOwn.never rfl (ei_en (ev_var 0) G.b_enumerate) (eh_tup rfl (ehs_cons (EvG.h (eg_name 1 S.nd)) (ehs_cons (eh_tup rfl (ehs_cons (EvG.h (eg_name 2 S.nd)) (ehs_cons (EvG.h (eg_name 3 S.nd)) (ehs_cons (EvG.h (eg_name 4 S.nd)) ehs_nil)))) ehs_nil))) (ss_one (st_if (et_cmp (op2_inA hu65) (ev_var 3) (ev_call fn_side_of hr (es_cons (ev_bin op2_add (ev_sl (ev_var 0) eo_none (eo_some (ev_var 1))) (ev_sl (ev_var 0) (eo_some (ev_bin op2_add (ev_var 1) ev_int)) eo_none)) (es_cons (ev_var 2) es_nil)))) (ss_one (st_ret ev_bl)) ss_nil)))
    (ss_one (st_ret ev_bl)))
theorem fs_is_train : FnScope ["thing", "shafts", "clutches", "names", "part", "one"] ["thing"] (defScope s_is_train) := ⟨rfl, rfl, rfl, by decide +kernel, rfl, by decide +kernel, by decide +kernel⟩
theorem fn_is_train : Fn P w K mg base 4 "is_train" (spG K F_is_train) := by
  obtain ⟨f, fd, hm, F⟩ := G.d_is_train
  have S := fs_is_train G
  have fn_are_rising := fn_are_rising (P := P) (w := w) (base := base) G
  have fn_is_clutch := fn_is_clutch (P := P) (w := w) (base := base) G
  have fn_is_shaft := fn_is_shaft (P := P) (w := w) (base := base) G
  have fn_make_ring := fn_make_ring (P := P) (w := w) (base := base) G
  refine fn_mk hm F S (fun _ _ _ _ _ _ us hl => match us, hl with | [_], _ => rfl) rfl rfl (by decide) fun cdv A outer s H E hr => ?_
  have hu := hr.un
  have hu1 : (A.deeper (envOfC "is_train" (defScope s_is_train) s.heap.objs.size f cdv)).units + 1 < cLine := by omega
  have hu64 : (A.deeper (envOfC "is_train" (defScope s_is_train) s.heap.objs.size f cdv)).units + 64 < cLine := by omega
  have hu65 : (A.deeper (envOfC "is_train" (defScope s_is_train) s.heap.objs.size f cdv)).units + 65 < cLine := by omega
  exact (ss_cons (st_if (EvW.t (ew_or (et_not (et_val (ev_isi (ev_var 0) G.b_isinstance G.b_tuple bt_tuple))) (ew_or (et_cmp (op2_ne hu64) (ev_callB c_len G.b_len bt_len (ep_cons (ev_var 0) ep_nil)) ev_int) (ew_or1 (et_not (et_val (ev_callB (c_all rfl) G.b_all bt_all (ep_cons (ev_lc S.nd rfl (blkOk_by (own := [("part", 4)]) (by kernel_rfl)) (ei_sq (ev_var 0)) (fun _ _ _ _ _ => (eg_name 4 S.nd)) (fun _ _ _ _ _ => ec_nil) (fun _ _ _ _ _ => (ev_isi (ev_var 4) G.b_isinstance G.b_tuple bt_tuple))) ep_nil)))))))) (ss_one (st_ret ev_bl)) ss_nil)
    (ss_cons (st_asg (ev_var 0) (eg_tup rfl (egs_cons (eg_name 1 S.nd) (egs_cons (eg_name 2 S.nd) egs_nil))))
    (ss_cons (st_if (EvW.t (ew_or (et_not (et_chain op2_le op2_le ev_int (ev_callB c_len G.b_len bt_len (ep_cons (ev_var 1) ep_nil)) (ev_gint G.c_MOST_SHAFTS))) (ew_or1 (et_not (et_val (ev_callB (c_all rfl) G.b_all bt_all (ep_cons (ev_lc S.nd rfl (blkOk_by (own := [("one", 5)]) (by kernel_rfl)) (ei_sq (ev_var 1)) (fun _ _ _ _ _ => (eg_name 5 S.nd)) (fun _ _ _ _ _ => ec_nil) (fun _ _ _ _ _ => (ev_call fn_is_shaft hr (es_cons (ev_var 5) es_nil)))) ep_nil))))))) (ss_one (st_ret ev_bl)) ss_nil)
    (ss_cons (st_set false 3 S.nd (ev_lc S.nd rfl (blkOk_by (own := [("one", 5)]) (by kernel_rfl)) (ei_sq (ev_var 1)) (fun _ _ _ _ _ => (eg_name 5 S.nd)) (fun _ _ _ _ _ => ec_nil) (fun _ _ _ _ _ => (ev_ix (ix2 hu1) (ev_var 5) ev_int))))
    (ss_cons (st_if (EvW.t (ew_or (et_not (et_val (ev_call fn_are_rising hr (es_cons (ev_var 3) es_nil)))) (ew_or (et_cmp op2_gt (ev_callB c_len G.b_len bt_len (ep_cons (ev_var 2) ep_nil)) (ev_gint G.c_MOST_CLUTCHES)) (ew_or1 (et_not (et_val (ev_callB (c_all rfl) G.b_all bt_all (ep_cons (ev_lc S.nd rfl (blkOk_by (own := [("one", 5)]) (by kernel_rfl)) (ei_sq (ev_var 2)) (fun _ _ _ _ _ => (eg_name 5 S.nd)) (fun _ _ _ _ _ => ec_nil) (fun _ _ _ _ _ => (ev_call fn_is_clutch hr (es_cons (ev_var 3) (es_cons (ev_var 5) es_nil))))) ep_nil)))))))) (ss_one (st_ret ev_bl)) ss_nil)
    (ss_one (st_ret (ev_and (ev_call fn_are_rising hr (es_cons (ev_lc S.nd rfl (blkOk_by (own := [("one", 5)]) (by kernel_rfl)) (ei_sq (ev_var 2)) (fun _ _ _ _ _ => (eg_name 5 S.nd)) (fun _ _ _ _ _ => ec_nil) (fun _ _ _ _ _ => (ev_sl (ev_var 5) eo_none (eo_some ev_int)))) es_nil)) (ev_one (ev_not (ev_call fn_make_ring hr (es_cons (ev_var 2) es_nil))))))))))))
theorem fs_need_train : FnScope ["train"] ["train"] (defScope s_need_train) := ⟨rfl, rfl, rfl, by decide +kernel, rfl, by decide +kernel, by decide +kernel⟩
theorem fn_need_train : Fn P w K mg base 5 "need_train" (spG K F_need_train) := by
  obtain ⟨f, fd, hm, F⟩ := G.d_need_train
  have S := fs_need_train G
  have fn_is_train := fn_is_train (P := P) (w := w) (base := base) G
  refine fn_mk hm F S (fun _ _ _ _ _ _ us hl => match us, hl with | [_], _ => rfl) rfl rfl (by decide) fun cdv A outer s H E hr => ?_
  have hu := hr.un
  have hu1 : (A.deeper (envOfC "need_train" (defScope s_need_train) s.heap.objs.size f cdv)).units + 1 < cLine := by omega
  have hu64 : (A.deeper (envOfC "need_train" (defScope s_need_train) s.heap.objs.size f cdv)).units + 64 < cLine := by omega
  have hu65 : (A.deeper (envOfC "need_train" (defScope s_need_train) s.heap.objs.size f cdv)).units + 65 < cLine := by omega
  exact (ss_one (st_if (et_not (et_val (ev_call fn_is_train hr (es_cons (ev_var 0) es_nil)))) (ss_one st_never) ss_nil))
theorem fs_names_of : FnScope ["train", "one"] ["train"] (defScope s_names_of) := ⟨rfl, rfl, rfl, by decide +kernel, rfl, by decide +kernel, by decide +kernel⟩
theorem fn_names_of : Fn P w K mg base 1 "names_of" (spG K F_names_of) := by
  obtain ⟨f, fd, hm, F⟩ := G.d_names_of
  have S := fs_names_of G
  refine fn_mk hm F S (fun _ _ _ _ _ _ us hl => match us, hl with | [_], _ => rfl) rfl rfl (by decide) fun cdv A outer s H E hr => ?_
  have hu := hr.un
  have hu1 : (A.deeper (envOfC "names_of" (defScope s_names_of) s.heap.objs.size f cdv)).units + 1 < cLine := by omega
  have hu64 : (A.deeper (envOfC "names_of" (defScope s_names_of) s.heap.objs.size f cdv)).units + 64 < cLine := by omega
  have hu65 : (A.deeper (envOfC "names_of" (defScope s_names_of) s.heap.objs.size f cdv)).units + 65 < cLine := by omega
  exact (ss_one (st_ret (ev_lc S.nd rfl (blkOk_by (own := [("one", 1)]) (by kernel_rfl)) (ei_sq (ev_ix (ix2 hu1) (ev_var 0) ev_int)) (fun _ _ _ _ _ => (eg_name 1 S.nd)) (fun _ _ _ _ _ => ec_nil) (fun _ _ _ _ _ => (ev_ix (ix2 hu1) (ev_var 1) ev_int)))))
theorem fs_need_shaft : FnScope ["train", "name"] ["train", "name"] (defScope s_need_shaft) := ⟨rfl, rfl, rfl, by decide +kernel, rfl, by decide +kernel, by decide +kernel⟩
theorem fn_need_shaft : Fn P w K mg base 2 "need_shaft" (spG K F_need_shaft) := by
  obtain ⟨f, fd, hm, F⟩ := G.d_need_shaft
  have S := fs_need_shaft G
  have fn_names_of := fn_names_of (P := P) (w := w) (base := base) G
  refine fn_mk hm F S (fun _ _ _ _ _ _ us hl => match us, hl with | [_, _], _ => rfl) rfl rfl (by decide) fun cdv A outer s H E hr => ?_
  have hu := hr.un
  have hu1 : (A.deeper (envOfC "need_shaft" (defScope s_need_shaft) s.heap.objs.size f cdv)).units + 1 < cLine := by omega
  have hu64 : (A.deeper (envOfC "need_shaft" (defScope s_need_shaft) s.heap.objs.size f cdv)).units + 64 < cLine := by omega
  have hu65 : (A.deeper (envOfC "need_shaft" (defScope s_need_shaft) s.heap.objs.size f cdv)).units + 65 < cLine := by omega
  exact (ss_one (st_if (EvW.t (ew_or (et_not (et_val (ev_isi (ev_var 1) G.b_isinstance G.b_str bt_str))) (ew_or1 (et_cmp (op2_notIn hu65) (ev_var 1) (ev_call fn_names_of hr (es_cons (ev_var 0) es_nil)))))) (ss_one st_never) ss_nil))
theorem fs_all_states : FnScope ["clutches", "found", "clutch", "row", "way"] ["clutches"] (defScope s_all_states) := ⟨rfl, rfl, rfl, by decide +kernel, rfl, by decide +kernel, by decide +kernel⟩
theorem fn_all_states : Fn P w K mg base 1 "all_states" (spG K F_all_states) := by
  obtain ⟨f, fd, hm, F⟩ := G.d_all_states
  have S := fs_all_states G
  refine fn_mk hm F S (fun _ _ _ _ _ _ us hl => match us, hl with | [_], _ => rfl) rfl rfl (by decide) fun cdv A outer s H E hr => ?_
  have hu := hr.un
  have hu1 : (A.deeper (envOfC "all_states" (defScope s_all_states) s.heap.objs.size f cdv)).units + 1 < cLine := by omega
  have hu64 : (A.deeper (envOfC "all_states" (defScope s_all_states) s.heap.objs.size f cdv)).units + 64 < cLine := by omega
  have hu65 : (A.deeper (envOfC "all_states" (defScope s_all_states) s.heap.objs.size f cdv)).units + 65 < cLine := by omega
  exact (ss_cons (st_set false 1 S.nd (ev_lst (es_cons (ev_tup es_nil) es_nil)))
    (ss_cons (st_for PassesOwn.never rfl (ei_sq (ev_var 0)) (EvG.h (eg_name 2 S.nd)) (ss_one (st_setLc2 false 1 [4] S.nd rfl (blkOk_by (own := [("row", 3), ("way", 4)]) (by kernel_rfl)) (ei_sq (ev_var 1)) (fun _ _ _ _ _ => (eg_name 3 S.nd)) (fun _ _ _ _ _ => ec_nil) (fun _ _ _ _ _ => (ei_sq (ev_tup (es_cons ev_int (es_cons ev_int (es_cons (ev_un un1_neg ev_int) es_nil)))))) (fun _ _ _ _ _ => (eg_name 4 S.nd)) (fun _ _ _ _ _ => ec_nil) (fun _ _ _ _ _ => (ev_bin op2_add (ev_var 3) (ev_tup (es_cons (ev_var 4) es_nil)))) (by rfl))))
    (ss_one (st_ret (ev_var 1)))))
theorem fs_drawn_to : FnScope ["train", "state", "found", "one", "other", "drag", "way"] ["train", "state"] (defScope s_drawn_to) := ⟨rfl, rfl, rfl, by decide +kernel, rfl, by decide +kernel, by decide +kernel⟩
theorem fn_drawn_to : Fn P w K mg base 1 "drawn_to" (spG K F_drawn_to) := by
  obtain ⟨f, fd, hm, F⟩ := G.d_drawn_to
  have S := fs_drawn_to G
  refine fn_mk hm F S (fun _ _ _ _ _ _ us hl => match us, hl with | [_, _], _ => rfl) rfl rfl (by decide) fun cdv A outer s H E hr => ?_
  have hu := hr.un
  have hu1 : (A.deeper (envOfC "drawn_to" (defScope s_drawn_to) s.heap.objs.size f cdv)).units + 1 < cLine := by omega
  have hu64 : (A.deeper (envOfC "drawn_to" (defScope s_drawn_to) s.heap.objs.size f cdv)).units + 64 < cLine := by omega
  have hu65 : (A.deeper (envOfC "drawn_to" (defScope s_drawn_to) s.heap.objs.size f cdv)).units + 65 < cLine := by omega
  exact (ss_cons (st_setDc true 2 S.nd rfl (blkOk_by (own := [("one", 3)]) (by kernel_rfl)) (ei_sq (ev_ix (ix2 hu1) (ev_var 0) ev_int)) (fun _ _ _ _ _ => (eg_name 3 S.nd)) (fun _ _ _ _ _ => ec_nil) (fun _ _ _ _ _ => (ev_ix (ix2 hu1) (ev_var 3) ev_int)) (fun _ _ _ _ _ => ev_int) (by rfl))
    (ss_cons (st_for PassesOwn.never rfl (ei_z2 (es_cons (ev_ix (ix2 hu1) (ev_var 0) ev_int) (es_cons (ev_var 1) es_nil)) G.b_zip) (eh_tup rfl (ehs_cons (eh_tup rfl (ehs_cons (EvG.h (eg_name 3 S.nd)) (ehs_cons (EvG.h (eg_name 4 S.nd)) (ehs_cons (EvG.h (eg_name 5 S.nd)) ehs_nil)))) (ehs_cons (EvG.h (eg_name 6 S.nd)) ehs_nil))) (ss_one (st_asgH (ev_tup (es_cons (ev_bin op2_sub (ev_ix (ix2 hu1) (ev_var 2) (ev_var 3)) (ev_bin op2_mulA (ev_var 6) (ev_var 5))) (es_cons (ev_bin op2_add (ev_ix (ix2 hu1) (ev_var 2) (ev_var 4)) (ev_bin op2_mulA (ev_var 6) (ev_var 5))) es_nil))) (eh_tup rfl (ehs_cons (eh_put 2 hu1 (ev_var 3)) (ehs_cons (eh_put 2 hu1 (ev_var 4)) ehs_nil))))))
    (ss_one (st_ret (ev_var 2)))))
theorem fs_run : FnScope ["train", "state", "wishes", "strong", "came", "held", "turns", "name", "whole", "total", "other", "carried", "clutch", "way", "pull", "one"] ["train", "state", "wishes"] (defScope s_run) := ⟨rfl, rfl, rfl, by decide +kernel, rfl, by decide +kernel, by decide +kernel⟩
theorem fn_run : Fn P w K mg base 4 "run" (spG K F_run) := by
  obtain ⟨f, fd, hm, F⟩ := G.d_run
  have S := fs_run G
  have fn_drawn_to := fn_drawn_to (P := P) (w := w) (base := base) G
  have fn_fraction := fn_fraction (P := P) (w := w) (base := base) G
  have fn_minus := fn_minus (P := P) (w := w) (base := base) G
  have fn_plus := fn_plus (P := P) (w := w) (base := base) G
  have fn_side_of := fn_side_of (P := P) (w := w) (base := base) G
  have fn_times := fn_times (P := P) (w := w) (base := base) G
  refine fn_mk hm F S (fun _ _ _ _ _ _ us hl => match us, hl with | [_, _, _], _ => rfl) rfl rfl (by decide) fun cdv A outer s H E hr => ?_
  have hu := hr.un
  have hu1 : (A.deeper (envOfC "run" (defScope s_run) s.heap.objs.size f cdv)).units + 1 < cLine := by omega
  have hu64 : (A.deeper (envOfC "run" (defScope s_run) s.heap.objs.size f cdv)).units + 64 < cLine := by omega
  have hu65 : (A.deeper (envOfC "run" (defScope s_run) s.heap.objs.size f cdv)).units + 65 < cLine := by omega
  exact (ss_cons (st_par false false 3 4 S.nd rfl (ev_dc S.nd rfl (blkOk_by (own := [("one", 15)]) (by kernel_rfl)) (ei_sq (ev_ix (ix2 hu1) (ev_var 0) ev_int)) (fun _ _ _ _ _ => (eg_name 15 S.nd)) (fun _ _ _ _ _ => ec_nil) (fun _ _ _ _ _ => (ev_ix (ix2 hu1) (ev_var 15) ev_int)) (fun _ _ _ _ _ => (ev_ix (ix2 hu1) (ev_var 15) ev_int))) (ev_call fn_drawn_to hr (es_cons (ev_var 0) (es_cons (ev_var 1) es_nil))))
    (ss_cons (st_set false 5 S.nd (ev_callT c_tuple G.b_tuple bt_tuple (ep_cons (ev_lc S.nd rfl (blkOk_by (own := [("clutch", 12), ("way", 13)]) (by kernel_rfl)) (ei_z2 (es_cons (ev_ix (ix2 hu1) (ev_var 0) ev_int) (es_cons (ev_var 1) es_nil)) G.b_zip) (fun _ _ _ _ _ => (eg_tup rfl (egs_cons (eg_name 12 S.nd) (egs_cons (eg_name 13 S.nd) egs_nil)))) (fun _ _ _ _ _ => (ec_one (et_cmp (op2_eq hu64) (ev_var 13) ev_int))) (fun _ _ _ _ _ => (ev_var 12))) ep_nil)))
    (ss_cons (st_set true 6 S.nd ev_dnew)
    (ss_cons (st_forK 3 PassesOwn.never rfl (EvG.h (eg_name 7 S.nd)) (ss_cons (st_par false false 8 9 S.nd rfl ev_int (ev_gtup G.c_NOUGHT))
    (ss_cons (st_for PassesOwn.never rfl (ei_sq (ev_call fn_side_of hr (es_cons (ev_var 5) (es_cons (ev_var 7) es_nil)))) (EvG.h (eg_name 10 S.nd)) (ss_cons (st_set false 8 S.nd (ev_bin op2_add (ev_var 8) (ev_ix (ix2 hu1) (ev_var 3) (ev_var 10))))
    (ss_one (st_set false 9 S.nd (ev_call fn_plus hr (es_cons (ev_var 9) (es_cons (ev_call fn_plus hr (es_cons (ev_call fn_times hr (es_cons (ev_tup (es_cons (ev_ix (ix2 hu1) (ev_var 3) (ev_var 10)) (es_cons ev_int es_nil))) (es_cons (ev_ix (ix2 hu1) (ev_var 2) (ev_var 10)) es_nil))) (es_cons (ev_tup (es_cons (ev_ix (ix2 hu1) (ev_var 4) (ev_var 10)) (es_cons ev_int es_nil))) es_nil))) es_nil)))))))
    (ss_one (st_asgH (ev_call fn_times hr (es_cons (ev_call fn_fraction hr (es_cons ev_int (es_cons (ev_var 8) es_nil))) (es_cons (ev_var 9) es_nil))) (eh_put 6 hu1 (ev_var 7)))))))
    (ss_cons (st_set true 11 S.nd (ev_lst es_nil))
    (ss_cons (st_for PassesOwn.never rfl (ei_z2 (es_cons (ev_ix (ix2 hu1) (ev_var 0) ev_int) (es_cons (ev_var 1) es_nil)) G.b_zip) (eh_tup rfl (ehs_cons (EvG.h (eg_name 12 S.nd)) (ehs_cons (EvG.h (eg_name 13 S.nd)) ehs_nil))) (ss_one (st_if (et_cmp (op2_ne hu64) (ev_var 13) ev_int) (ss_one (st_exp (ev_append 11 (ev_tup (es_cons (ev_bin op2_mulA (ev_var 13) (ev_ix (ix2 hu1) (ev_var 12) ev_int)) (es_cons ev_int es_nil)))))) (ss_cons (st_set false 9 S.nd (ev_gtup G.c_NOUGHT))
    (ss_cons (st_for PassesOwn.never rfl (ei_sq (ev_call fn_side_of hr (es_cons (ev_callT c_tuple G.b_tuple bt_tuple (ep_cons (ev_lc S.nd rfl (blkOk_by (own := [("one", 15)]) (by kernel_rfl)) (ei_sq (ev_var 5)) (fun _ _ _ _ _ => (eg_name 15 S.nd)) (fun _ _ _ _ _ => (ec_one (et_cmp (op2_ne hu64) (ev_var 15) (ev_var 12)))) (fun _ _ _ _ _ => (ev_var 15))) ep_nil)) (es_cons (ev_ix (ix2 hu1) (ev_var 12) ev_int) es_nil)))) (EvG.h (eg_name 7 S.nd)) (ss_cons (st_set false 14 S.nd (ev_call fn_times hr (es_cons (ev_tup (es_cons (ev_ix (ix2 hu1) (ev_var 3) (ev_var 7)) (es_cons ev_int es_nil))) (es_cons (ev_call fn_minus hr (es_cons (ev_ix (ix2 hu1) (ev_var 2) (ev_var 7)) (es_cons (ev_ix (ix2 hu1) (ev_var 6) (ev_var 7)) es_nil))) es_nil))))
    (ss_one (st_set false 9 S.nd (ev_call fn_plus hr (es_cons (ev_var 9) (es_cons (ev_call fn_plus hr (es_cons (ev_var 14) (es_cons (ev_tup (es_cons (ev_ix (ix2 hu1) (ev_var 4) (ev_var 7)) (es_cons ev_int es_nil))) es_nil))) es_nil)))))))
    (ss_one (st_exp (ev_append 11 (ev_var 9)))))))))
    (ss_one (st_ret (ev_tup (es_cons (ev_frz 6) (es_cons (ev_frz 11) es_nil)))))))))))
theorem fs_slack_rows : FnScope ["train", "state", "turns", "carried", "found", "one", "other", "drag", "way", "much"] ["train", "state", "turns", "carried"] (defScope s_slack_rows) := ⟨rfl, rfl, rfl, by decide +kernel, rfl, by decide +kernel, by decide +kernel⟩
theorem fn_slack_rows : Fn P w K mg base 4 "slack_rows" (spG K F_slack_rows) := by
  obtain ⟨f, fd, hm, F⟩ := G.d_slack_rows
  have S := fs_slack_rows G
  have fn_minus := fn_minus (P := P) (w := w) (base := base) G
  have fn_plus := fn_plus (P := P) (w := w) (base := base) G
  have fn_times := fn_times (P := P) (w := w) (base := base) G
  refine fn_mk hm F S (fun _ _ _ _ _ _ us hl => match us, hl with | [_, _, _, _], _ => rfl) rfl rfl (by decide) fun cdv A outer s H E hr => ?_
  have hu := hr.un
  have hu1 : (A.deeper (envOfC "slack_rows" (defScope s_slack_rows) s.heap.objs.size f cdv)).units + 1 < cLine := by omega
  have hu64 : (A.deeper (envOfC "slack_rows" (defScope s_slack_rows) s.heap.objs.size f cdv)).units + 64 < cLine := by omega
  have hu65 : (A.deeper (envOfC "slack_rows" (defScope s_slack_rows) s.heap.objs.size f cdv)).units + 65 < cLine := by omega
  exact (ss_cons (st_set true 4 S.nd (ev_lst es_nil))
    (ss_cons (st_for PassesOwn.never rfl (ei_z3 (es_cons (ev_ix (ix2 hu1) (ev_var 0) ev_int) (es_cons (ev_var 1) (es_cons (ev_var 3) es_nil))) G.b_zip) (eh_tup rfl (ehs_cons (eh_tup rfl (ehs_cons (EvG.h (eg_name 5 S.nd)) (ehs_cons (EvG.h (eg_name 6 S.nd)) (ehs_cons (EvG.h (eg_name 7 S.nd)) ehs_nil)))) (ehs_cons (EvG.h (eg_name 8 S.nd)) (ehs_cons (EvG.h (eg_name 9 S.nd)) ehs_nil)))) (ss_one (st_if (et_cmp (op2_eq hu64) (ev_var 8) ev_int) (ss_one (st_exp (ev_extend 4 (ev_lst (es_cons (ev_call fn_minus hr (es_cons (ev_tup (es_cons (ev_var 7) (es_cons ev_int es_nil))) (es_cons (ev_var 9) es_nil))) (es_cons (ev_call fn_plus hr (es_cons (ev_tup (es_cons (ev_var 7) (es_cons ev_int es_nil))) (es_cons (ev_var 9) es_nil))) es_nil)))))) (ss_one (st_exp (ev_append 4 (ev_call fn_times hr (es_cons (ev_tup (es_cons (ev_var 8) (es_cons ev_int es_nil))) (es_cons (ev_call fn_minus hr (es_cons (ev_ix (ix2 hu1) (ev_var 2) (ev_var 5)) (es_cons (ev_ix (ix2 hu1) (ev_var 2) (ev_var 6)) es_nil))) es_nil)))))))))
    (ss_one (st_ret (ev_var 4)))))
theorem fs_wishes_of : FnScope ["train", "one"] ["train"] (defScope s_wishes_of) := ⟨rfl, rfl, rfl, by decide +kernel, rfl, by decide +kernel, by decide +kernel⟩
theorem fn_wishes_of : Fn P w K mg base 1 "wishes_of" (spG K F_wishes_of) := by
  obtain ⟨f, fd, hm, F⟩ := G.d_wishes_of
  have S := fs_wishes_of G
  refine fn_mk hm F S (fun _ _ _ _ _ _ us hl => match us, hl with | [_], _ => rfl) rfl rfl (by decide) fun cdv A outer s H E hr => ?_
  have hu := hr.un
  have hu1 : (A.deeper (envOfC "wishes_of" (defScope s_wishes_of) s.heap.objs.size f cdv)).units + 1 < cLine := by omega
  have hu64 : (A.deeper (envOfC "wishes_of" (defScope s_wishes_of) s.heap.objs.size f cdv)).units + 64 < cLine := by omega
  have hu65 : (A.deeper (envOfC "wishes_of" (defScope s_wishes_of) s.heap.objs.size f cdv)).units + 65 < cLine := by omega
  exact (ss_one (st_ret (ev_dc S.nd rfl (blkOk_by (own := [("one", 1)]) (by kernel_rfl)) (ei_sq (ev_ix (ix2 hu1) (ev_var 0) ev_int)) (fun _ _ _ _ _ => (eg_name 1 S.nd)) (fun _ _ _ _ _ => ec_nil) (fun _ _ _ _ _ => (ev_ix (ix2 hu1) (ev_var 1) ev_int)) (fun _ _ _ _ _ => (ev_tup (es_cons (ev_ix (ix2 hu1) (ev_var 1) ev_int) (es_cons ev_int es_nil)))))))
theorem fs_turning : FnScope ["train", "wishes", "state", "turns", "carried", "one"] ["train", "wishes"] (defScope s_turning) := ⟨rfl, rfl, rfl, by decide +kernel, rfl, by decide +kernel, by decide +kernel⟩
theorem fn_turning : Fn P w K mg base 5 "turning" (spG K F_turning) := by
  obtain ⟨f, fd, hm, F⟩ := G.d_turning
  have S := fs_turning G
  have fn_all_states := fn_all_states (P := P) (w := w) (base := base) G
  have fn_is_less := fn_is_less (P := P) (w := w) (base := base) G
  have fn_run := fn_run (P := P) (w := w) (base := base) G
  have fn_slack_rows := fn_slack_rows (P := P) (w := w) (base := base) G
  refine fn_mk hm F S (fun _ _ _ _ _ _ us hl => match us, hl with | [_, _], _ => rfl) rfl rfl (by decide) fun cdv A outer s H E hr => ?_
  have hu := hr.un
  have hu1 : (A.deeper (envOfC "turning" (defScope s_turning) s.heap.objs.size f cdv)).units + 1 < cLine := by omega
  have hu64 : (A.deeper (envOfC "turning" (defScope s_turning) s.heap.objs.size f cdv)).units + 64 < cLine := by omega
  have hu65 : (A.deeper (envOfC "turning" (defScope s_turning) s.heap.objs.size f cdv)).units + 65 < cLine := by omega
  exact (ss_cons (st_for PassesOwn.never rfl (ei_sq (ev_call fn_all_states hr (es_cons (ev_ix (ix2 hu1) (ev_var 0) ev_int) es_nil))) (EvG.h (eg_name 2 S.nd)) (ss_cons (st_asg (ev_call fn_run hr (es_cons (ev_var 0) (es_cons (ev_var 2) (es_cons (ev_var 1) es_nil)))) (eg_tup rfl (egs_cons (eg_name 3 S.nd) (egs_cons (eg_name 4 S.nd) egs_nil))))
    (ss_one (st_if (et_not (et_val (ev_callB (c_any rfl) G.b_any bt_any (ep_cons (ev_lc S.nd rfl (blkOk_by (own := [("one", 5)]) (by kernel_rfl)) (ei_sq (ev_call fn_slack_rows hr (es_cons (ev_var 0) (es_cons (ev_var 2) (es_cons (ev_var 3) (es_cons (ev_var 4) es_nil)))))) (fun _ _ _ _ _ => (eg_name 5 S.nd)) (fun _ _ _ _ _ => ec_nil) (fun _ _ _ _ _ => (ev_call fn_is_less hr (es_cons (ev_var 5) (es_cons (ev_gtup G.c_NOUGHT) es_nil))))) ep_nil)))) (ss_one (st_ret (ev_tup (es_cons (ev_var 3) (es_cons (ev_var 4) es_nil))))) ss_nil))))
    (ss_one (st_ret ev_non)))
theorem fs_choices : FnScope ["some", "many", "found", "k", "one", "rest"] ["some", "many"] (defScope s_choices) := ⟨rfl, rfl, rfl, by decide +kernel, rfl, by decide +kernel, by decide +kernel⟩
theorem fr_choices : ∀ k : Nat, Fn P w K mg base (1 + k) "choices" (spG K (FR_choices k))
  | 0 => by
    obtain ⟨f, fd, hm, F⟩ := G.d_choices
    exact fn_mk hm F (fs_choices G) (fun _ _ _ _ _ _ us hl => match us, hl with | [_, _], _ => rfl) rfl rfl (by decide) fun cdv A outer s H E hr => ss_none _ _
  | k + 1 => by
    obtain ⟨f, fd, hm, F⟩ := G.d_choices
    have S := fs_choices G
    have fn_choices := fr_choices k
    refine fn_mk hm F S (fun _ _ _ _ _ _ us hl => match us, hl with | [_, _], _ => rfl) rfl rfl (by decide) fun cdv A outer s H E hr0 => ?_
    have hr : Room (1 + k) (A.deeper (envOfC "choices" (defScope s_choices) s.heap.objs.size f cdv)) := hr0
    have hu := hr.un
    have hu1 : (A.deeper (envOfC "choices" (defScope s_choices) s.heap.objs.size f cdv)).units + 1 < cLine := by omega
    have hu64 : (A.deeper (envOfC "choices" (defScope s_choices) s.heap.objs.size f cdv)).units + 64 < cLine := by omega
    have hu65 : (A.deeper (envOfC "choices" (defScope s_choices) s.heap.objs.size f cdv)).units + 65 < cLine := by omega
    exact (ss_cons (st_if (et_cmp (op2_eq hu64) (ev_var 1) ev_int) (ss_one (st_ret (ev_lst (es_cons (ev_tup es_nil) es_nil)))) ss_nil)
    (ss_cons (st_set true 2 S.nd (ev_lst es_nil))
    (ss_cons (st_for PassesOwn.never rfl (ei_en (ev_var 0) G.b_enumerate) (eh_tup rfl (ehs_cons (EvG.h (eg_name 3 S.nd)) (ehs_cons (EvG.h (eg_name 4 S.nd)) ehs_nil))) (ss_one (st_exp (ev_extend 2 (ev_lc S.nd rfl (blkOk_by (own := [("rest", 5)]) (by kernel_rfl)) (ei_sq (ev_call fn_choices hr (es_cons (ev_sl (ev_var 0) (eo_some (ev_bin op2_add (ev_var 3) ev_int)) eo_none) (es_cons (ev_bin op2_sub (ev_var 1) ev_int) es_nil)))) (fun _ _ _ _ _ => (eg_name 5 S.nd)) (fun _ _ _ _ _ => ec_nil) (fun _ _ _ _ _ => (ev_bin op2_add (ev_tup (es_cons (ev_var 4) es_nil)) (ev_var 5))))))))
    (ss_one (st_ret (ev_var 2))))))
theorem fn_choices : Fn P w K mg base 9 "choices" (spG K F_choices) := fr_choices G 8
theorem fs_with_locked : FnScope ["train", "some", "clutches", "clutch"] ["train", "some"] (defScope s_with_locked) := ⟨rfl, rfl, rfl, by decide +kernel, rfl, by decide +kernel, by decide +kernel⟩
theorem fn_with_locked : Fn P w K mg base 1 "with_locked" (spG K F_with_locked) := by
  obtain ⟨f, fd, hm, F⟩ := G.d_with_locked
  have S := fs_with_locked G
  refine fn_mk hm F S (fun _ _ _ _ _ _ us hl => match us, hl with | [_, _], _ => rfl) rfl rfl (by decide) fun cdv A outer s H E hr => ?_
  have hu := hr.un
  have hu1 : (A.deeper (envOfC "with_locked" (defScope s_with_locked) s.heap.objs.size f cdv)).units + 1 < cLine := by omega
  have hu64 : (A.deeper (envOfC "with_locked" (defScope s_with_locked) s.heap.objs.size f cdv)).units + 64 < cLine := by omega
  have hu65 : (A.deeper (envOfC "with_locked" (defScope s_with_locked) s.heap.objs.size f cdv)).units + 65 < cLine := by omega
  exact (ss_cons (st_setLc false 2 S.nd rfl (blkOk_by (own := [("clutch", 3)]) (by kernel_rfl)) (ei_sq (ev_ix (ix2 hu1) (ev_var 0) ev_int)) (fun _ _ _ _ _ => (eg_name 3 S.nd)) (fun _ _ _ _ _ => ec_nil) (fun _ _ _ _ _ => (ev_if (et_cmp (op2_inA hu65) (ev_sl (ev_var 3) eo_none (eo_some ev_int)) (ev_var 1)) (ev_bin op2_add (ev_sl (ev_var 3) eo_none (eo_some ev_int)) (ev_tup (es_cons (ev_gint G.c_MUCH) es_nil))) (ev_var 3))) (by rfl))
    (ss_one (st_ret (ev_tup (es_cons (ev_ix (ix2 hu1) (ev_var 0) ev_int) (es_cons (ev_callT c_tuple G.b_tuple bt_tuple (ep_cons (ev_var 2) ep_nil)) es_nil))))))
theorem fs_fewest_locked : FnScope ["train", "one", "other", "pairs", "many", "some", "turns", "clutch"] ["train", "one", "other"] (defScope s_fewest_locked) := ⟨rfl, rfl, rfl, by decide +kernel, rfl, by decide +kernel, by decide +kernel⟩
theorem fn_fewest_locked : Fn P w K mg base 10 "fewest_locked" (spG K F_fewest_locked) := by
  obtain ⟨f, fd, hm, F⟩ := G.d_fewest_locked
  have S := fs_fewest_locked G
  have fn_choices := fn_choices (P := P) (w := w) (base := base) G
  have fn_need_shaft := fn_need_shaft (P := P) (w := w) (base := base) G
  have fn_need_train := fn_need_train (P := P) (w := w) (base := base) G
  have fn_turning := fn_turning (P := P) (w := w) (base := base) G
  have fn_wishes_of := fn_wishes_of (P := P) (w := w) (base := base) G
  have fn_with_locked := fn_with_locked (P := P) (w := w) (base := base) G
  refine fn_mk hm F S (fun _ _ _ _ _ _ us hl => match us, hl with | [_, _, _], _ => rfl) rfl rfl (by decide) fun cdv A outer s H E hr => ?_
  have hu := hr.un
  have hu1 : (A.deeper (envOfC "fewest_locked" (defScope s_fewest_locked) s.heap.objs.size f cdv)).units + 1 < cLine := by omega
  have hu64 : (A.deeper (envOfC "fewest_locked" (defScope s_fewest_locked) s.heap.objs.size f cdv)).units + 64 < cLine := by omega
  have hu65 : (A.deeper (envOfC "fewest_locked" (defScope s_fewest_locked) s.heap.objs.size f cdv)).units + 65 < cLine := by omega
  exact (ss_cons (st_exp (ev_call fn_need_train hr (es_cons (ev_var 0) es_nil)))
    (ss_cons (st_exp (ev_call fn_need_shaft hr (es_cons (ev_var 0) (es_cons (ev_var 1) es_nil))))
    (ss_cons (st_exp (ev_call fn_need_shaft hr (es_cons (ev_var 0) (es_cons (ev_var 2) es_nil))))
    (ss_cons (st_setLc false 3 S.nd rfl (blkOk_by (own := [("clutch", 7)]) (by kernel_rfl)) (ei_sq (ev_ix (ix2 hu1) (ev_var 0) ev_int)) (fun _ _ _ _ _ => (eg_name 7 S.nd)) (fun _ _ _ _ _ => ec_nil) (fun _ _ _ _ _ => (ev_sl (ev_var 7) eo_none (eo_some ev_int))) (by rfl))
    (ss_cons (st_for PassesOwn.never rfl (ei_r1 (ev_bin op2_add (ev_callB c_len G.b_len bt_len (ep_cons (ev_var 3) ep_nil)) ev_int) G.b_range) (EvG.h (eg_name 4 S.nd)) (ss_one (st_for PassesOwn.never rfl (ei_sq (ev_call fn_choices hr (es_cons (ev_var 3) (es_cons (ev_var 4) es_nil)))) (EvG.h (eg_name 5 S.nd)) (ss_cons (st_set false 6 S.nd (ev_ix (ix2 hu1) (ev_call fn_turning hr (es_cons (ev_call fn_with_locked hr (es_cons (ev_var 0) (es_cons (ev_var 5) es_nil))) (es_cons (ev_call fn_wishes_of hr (es_cons (ev_var 0) es_nil)) es_nil))) ev_int))
    (ss_one (st_if (et_cmp (op2_eq hu64) (ev_ix (ix2 hu1) (ev_var 6) (ev_var 1)) (ev_ix (ix2 hu1) (ev_var 6) (ev_var 2))) (ss_one (st_ret (ev_var 5))) ss_nil))))))
    (ss_one (st_ret ev_non)))))))
theorem fs_speeds_of : FnScope ["train"] ["train"] (defScope s_speeds_of) := ⟨rfl, rfl, rfl, by decide +kernel, rfl, by decide +kernel, by decide +kernel⟩
theorem fn_speeds_of : Fn P w K mg base 6 "speeds_of" (spG K F_speeds_of) := by
  obtain ⟨f, fd, hm, F⟩ := G.d_speeds_of
  have S := fs_speeds_of G
  have fn_turning := fn_turning (P := P) (w := w) (base := base) G
  have fn_wishes_of := fn_wishes_of (P := P) (w := w) (base := base) G
  refine fn_mk hm F S (fun _ _ _ _ _ _ us hl => match us, hl with | [_], _ => rfl) rfl rfl (by decide) fun cdv A outer s H E hr => ?_
  have hu := hr.un
  have hu1 : (A.deeper (envOfC "speeds_of" (defScope s_speeds_of) s.heap.objs.size f cdv)).units + 1 < cLine := by omega
  have hu64 : (A.deeper (envOfC "speeds_of" (defScope s_speeds_of) s.heap.objs.size f cdv)).units + 64 < cLine := by omega
  have hu65 : (A.deeper (envOfC "speeds_of" (defScope s_speeds_of) s.heap.objs.size f cdv)).units + 65 < cLine := by omega
  exact (ss_one (st_ret (ev_ix (ix2 hu1) (ev_call fn_turning hr (es_cons (ev_var 0) (es_cons (ev_call fn_wishes_of hr (es_cons (ev_var 0) es_nil)) es_nil))) ev_int)))
theorem fs_speeds : FnScope ["train"] ["train"] (defScope s_speeds) := ⟨rfl, rfl, rfl, by decide +kernel, rfl, by decide +kernel, by decide +kernel⟩
theorem fn_speeds : Fn P w K mg base 7 "speeds" (spG K F_speeds) := by
  obtain ⟨f, fd, hm, F⟩ := G.d_speeds
  have S := fs_speeds G
  have fn_need_train := fn_need_train (P := P) (w := w) (base := base) G
  have fn_speeds_of := fn_speeds_of (P := P) (w := w) (base := base) G
  refine fn_mk hm F S (fun _ _ _ _ _ _ us hl => match us, hl with | [_], _ => rfl) rfl rfl (by decide) fun cdv A outer s H E hr => ?_
  have hu := hr.un
  have hu1 : (A.deeper (envOfC "speeds" (defScope s_speeds) s.heap.objs.size f cdv)).units + 1 < cLine := by omega
  have hu64 : (A.deeper (envOfC "speeds" (defScope s_speeds) s.heap.objs.size f cdv)).units + 64 < cLine := by omega
  have hu65 : (A.deeper (envOfC "speeds" (defScope s_speeds) s.heap.objs.size f cdv)).units + 65 < cLine := by omega
  exact (ss_cons (st_exp (ev_call fn_need_train hr (es_cons (ev_var 0) es_nil)))
    (ss_one (st_ret (ev_sortItems rfl hu64 (ev_call fn_speeds_of hr (es_cons (ev_var 0) es_nil)) G.b_sorted bt_sorted))))
theorem fs__law_well : FnScope ["script", "k", "cell", "primes", "seed"] ["script", "k"] (defScope s__law_well) := ⟨rfl, rfl, rfl, by decide +kernel, rfl, by decide +kernel, by decide +kernel⟩
theorem fn__law_well : Fn P w K mg base 1 "_law_well" (spG K F__law_well) := by
  obtain ⟨f, fd, hm, F⟩ := G.d__law_well
  have S := fs__law_well G
  refine fn_mk hm F S (fun _ _ _ _ _ _ us hl => match us, hl with | [_, _], _ => rfl) rfl rfl (by decide) fun cdv A outer s H E hr => ?_
  have hu := hr.un
  have hu1 : (A.deeper (envOfC "_law_well" (defScope s__law_well) s.heap.objs.size f cdv)).units + 1 < cLine := by omega
  have hu64 : (A.deeper (envOfC "_law_well" (defScope s__law_well) s.heap.objs.size f cdv)).units + 64 < cLine := by omega
  have hu65 : (A.deeper (envOfC "_law_well" (defScope s__law_well) s.heap.objs.size f cdv)).units + 65 < cLine := by omega
  exact (ss_cons (st_set false 2 S.nd ev_int)
    (ss_cons (st_if (et_cmp (op2_ltA hu64) (ev_var 1) (ev_callB c_len G.b_len bt_len (ep_cons (ev_var 0) ep_nil))) (ss_one (st_set false 2 S.nd (ev_ix (ix2 hu1) (ev_var 0) (ev_var 1)))) ss_nil)
    (ss_cons (st_set false 3 S.nd (ev_lst (es_cons ev_int (es_cons ev_int (es_cons ev_int (es_cons ev_int (es_cons ev_int (es_cons ev_int (es_cons ev_int (es_cons ev_int es_nil))))))))))
    (ss_cons (st_set false 4 S.nd (ev_bin op2_mod (ev_bin op2_mulA (ev_bin op2_add (ev_bin op2_mod (ev_var 2) ev_int) ev_int) (ev_bin op2_add ev_int (ev_bin op2_mulA ev_int (ev_var 1)))) ev_int))
    (ss_cons (st_set false 4 S.nd (ev_bin op2_add (ev_bin op2_add (ev_bin op2_mod (ev_bin op2_mulA (ev_var 4) (ev_var 4)) ev_int) (ev_var 1)) ev_int))
    (ss_cons (st_if (et_cmp op2_ge (ev_var 2) (ev_bin op2_pow ev_int ev_int)) (ss_one (st_ret (ev_lst (es_cons (ev_var 2) (es_cons (ev_var 4) (es_cons (ev_ix (ix2 hu1) (ev_var 3) (ev_bin op2_mod (ev_var 1) ev_int)) es_nil)))))) ss_nil)
    (ss_one (st_ret (ev_lst (es_cons ev_int (es_cons (ev_var 4) (es_cons (ev_ix (ix2 hu1) (ev_var 3) (ev_bin op2_mod (ev_var 1) ev_int)) es_nil))))))))))))
theorem fs__law_take : FnScope ["well", "many", "drew"] ["well", "many"] (defScope s__law_take) := ⟨rfl, rfl, rfl, by decide +kernel, rfl, by decide +kernel, by decide +kernel⟩
theorem fn__law_take : Fn P w K mg base 1 "_law_take" (spW K F__law_take) := by
  obtain ⟨f, fd, hm, F⟩ := G.d__law_take
  have S := fs__law_take G
  refine fn_mkW hm F S (fun _ _ _ _ _ _ us hl => match us, hl with | [_, _], _ => rfl) rfl rfl (by decide) fun cdv A outer s H E hr => ?_
  have hu := hr.un
  have hu1 : (A.deeper (envOfC "_law_take" (defScope s__law_take) s.heap.objs.size f cdv)).units + 1 < cLine := by omega
  have hu64 : (A.deeper (envOfC "_law_take" (defScope s__law_take) s.heap.objs.size f cdv)).units + 64 < cLine := by omega
  have hu65 : (A.deeper (envOfC "_law_take" (defScope s__law_take) s.heap.objs.size f cdv)).units + 65 < cLine := by omega
  exact (ss_cons (st_if (et_cmp op2_gt (ev_ix (ix2 hu1) (ev_var 0) ev_int) ev_int) (ss_cons (st_set false 2 S.nd (ev_bin op2_mod (ev_ix (ix2 hu1) (ev_var 0) ev_int) (ev_var 1)))
    (ss_cons (st_asgH (ev_bin op2_div (ev_ix (ix2 hu1) (ev_var 0) ev_int) (ev_var 1)) (eh_put 0 hu1 ev_int))
    (ss_one (st_ret (ev_var 2))))) ss_nil)
    (ss_cons (st_asgH (ev_bin op2_add (ev_bin op2_mod (ev_bin op2_mulA (ev_ix (ix2 hu1) (ev_var 0) ev_int) ev_int) (ev_ix (ix2 hu1) (ev_var 0) ev_int)) ev_int) (eh_put 0 hu1 ev_int))
    (ss_one (st_ret (ev_bin op2_mod (ev_bin op2_div (ev_bin op2_mod (ev_bin op2_mulA (ev_ix (ix2 hu1) (ev_var 0) ev_int) (ev_ix (ix2 hu1) (ev_var 0) ev_int)) ev_int) ev_int) (ev_var 1))))))
theorem fs__law_train : FnScope ["well", "most", "names", "wide", "shafts", "name", "left", "had", "found", "hard", "other"] ["well", "most"] (defScope s__law_train) := ⟨rfl, rfl, rfl, by decide +kernel, rfl, by decide +kernel, by decide +kernel⟩
theorem fn__law_train : Fn P w K mg base 2 "_law_train" (spW K F__law_train) := by
  obtain ⟨f, fd, hm, F⟩ := G.d__law_train
  have S := fs__law_train G
  have fn__law_take := fn__law_take (P := P) (w := w) (base := base) G
  refine fn_mkW hm F S (fun _ _ _ _ _ _ us hl => match us, hl with | [_, _], _ => rfl) rfl rfl (by decide) fun cdv A outer s H E hr => ?_
  have hu := hr.un
  have hu1 : (A.deeper (envOfC "_law_train" (defScope s__law_train) s.heap.objs.size f cdv)).units + 1 < cLine := by omega
  have hu64 : (A.deeper (envOfC "_law_train" (defScope s__law_train) s.heap.objs.size f cdv)).units + 64 < cLine := by omega
  have hu65 : (A.deeper (envOfC "_law_train" (defScope s__law_train) s.heap.objs.size f cdv)).units + 65 < cLine := by omega
  exact (ss_cons (st_set false 2 S.nd (ev_sl (ev_lst (es_cons ev_str (es_cons ev_str (es_cons ev_str (es_cons ev_str (es_cons ev_str (es_cons ev_str es_nil))))))) eo_none (eo_some (ev_bin op2_add ev_int (ev_callW 0 fn__law_take hr (es_cons (ev_var 1) es_nil))))))
    (ss_cons (st_set false 3 S.nd (ev_ix (ix2 hu1) (ev_lst (es_cons ev_int (es_cons ev_int (es_cons ev_int (es_cons (ev_bin op2_pow ev_int ev_int) es_nil))))) (ev_callW 0 fn__law_take hr (es_cons ev_int es_nil))))
    (ss_cons (st_set true 4 S.nd (ev_lst es_nil))
    (ss_cons (st_for PassesOwn.never rfl (ei_sq (ev_var 2)) (EvG.h (eg_name 5 S.nd)) (ss_one (st_exp (ev_append 4 (ev_tup (es_cons (ev_var 5) (es_cons (ev_bin op2_sub (ev_callW 0 fn__law_take hr (es_cons (ev_bin op2_add (ev_bin op2_mulA ev_int (ev_var 3)) ev_int) es_nil)) (ev_var 3)) (es_cons (ev_bin op2_add ev_int (ev_callW 0 fn__law_take hr (es_cons (ev_ix (ix2 hu1) (ev_lst (es_cons ev_int (es_cons ev_int (es_cons ev_int es_nil)))) (ev_callW 0 fn__law_take hr (es_cons ev_int es_nil))) es_nil))) es_nil))))))))
    (ss_cons (st_par3 true true true 6 7 8 S.nd rfl (ev_callT c_list G.b_list bt_list (ep_cons (ev_var 2) ep_nil)) (ev_lst es_nil) (ev_lst es_nil))
    (ss_cons (st_set false 9 S.nd (ev_ix (ix2 hu1) (ev_lst (es_cons ev_int (es_cons ev_int (es_cons ev_int es_nil)))) (ev_callW 0 fn__law_take hr (es_cons ev_int es_nil))))
    (ss_cons (st_while (muL 6) PassesOwn.never (et_cmp (op2_ne hu64) (ev_var 6) (ev_lst es_nil)) (ss_cons (st_set false 5 S.nd (ev_popAt 6 (ev_callW 0 fn__law_take hr (es_cons (ev_callB c_len G.b_len bt_len (ep_cons (ev_var 6) ep_nil)) es_nil))))
    (ss_cons (st_if (EvW.t (ew_and (et_cmp (op2_ne hu64) (ev_var 7) (ev_lst es_nil)) (ew_and1 (et_cmp op2_gt (ev_callW 0 fn__law_take hr (es_cons ev_int es_nil)) ev_int)))) (ss_cons (st_set false 10 S.nd (ev_ix (ix2 hu1) (ev_var 7) (ev_callW 0 fn__law_take hr (es_cons (ev_callB c_len G.b_len bt_len (ep_cons (ev_var 7) ep_nil)) es_nil))))
    (ss_one (st_exp (ev_append 8 (ev_tup (es_cons (ev_callB (c_minA rfl) G.b_min bt_min (ep_cons (ev_var 5) (ep_cons (ev_var 10) ep_nil))) (es_cons (ev_callB (c_maxA rfl) G.b_max bt_max (ep_cons (ev_var 5) (ep_cons (ev_var 10) ep_nil))) (es_cons (ev_callW 0 fn__law_take hr (es_cons (ev_var 9) es_nil)) es_nil)))))))) ss_nil)
    (ss_one (st_exp (ev_append 7 (ev_var 5)))))))
    (ss_one (st_ret (ev_tup (es_cons (ev_callT c_tuple G.b_tuple bt_tuple (ep_cons (ev_var 4) ep_nil)) (es_cons (ev_callT c_tuple G.b_tuple bt_tuple (ep_cons (ev_callB (c_sorted hu64) G.b_sorted bt_sorted (ep_cons (ev_var 8) ep_nil)) ep_nil)) es_nil))))))))))))
theorem fs__law_names : FnScope ["train", "one"] ["train"] (defScope s__law_names) := ⟨rfl, rfl, rfl, by decide +kernel, rfl, by decide +kernel, by decide +kernel⟩
theorem fn__law_names : Fn P w K mg base 1 "_law_names" (spG K F__law_names) := by
  obtain ⟨f, fd, hm, F⟩ := G.d__law_names
  have S := fs__law_names G
  refine fn_mk hm F S (fun _ _ _ _ _ _ us hl => match us, hl with | [_], _ => rfl) rfl rfl (by decide) fun cdv A outer s H E hr => ?_
  have hu := hr.un
  have hu1 : (A.deeper (envOfC "_law_names" (defScope s__law_names) s.heap.objs.size f cdv)).units + 1 < cLine := by omega
  have hu64 : (A.deeper (envOfC "_law_names" (defScope s__law_names) s.heap.objs.size f cdv)).units + 64 < cLine := by omega
  have hu65 : (A.deeper (envOfC "_law_names" (defScope s__law_names) s.heap.objs.size f cdv)).units + 65 < cLine := by omega
  exact (ss_one (st_ret (ev_lc S.nd rfl (blkOk_by (own := [("one", 1)]) (by kernel_rfl)) (ei_sq (ev_ix (ix2 hu1) (ev_var 0) ev_int)) (fun _ _ _ _ _ => (eg_name 1 S.nd)) (fun _ _ _ _ _ => ec_nil) (fun _ _ _ _ _ => (ev_ix (ix2 hu1) (ev_var 1) ev_int)))))
theorem fs__law_lots : FnScope ["pairs", "found", "pair", "lot", "many"] ["pairs"] (defScope s__law_lots) := ⟨rfl, rfl, rfl, by decide +kernel, rfl, by decide +kernel, by decide +kernel⟩
theorem fn__law_lots : Fn P w K mg base 1 "_law_lots" (spG K F__law_lots) := by
  obtain ⟨f, fd, hm, F⟩ := G.d__law_lots
  have S := fs__law_lots G
  refine fn_mk hm F S (fun _ _ _ _ _ _ us hl => match us, hl with | [_], _ => rfl) rfl rfl (by decide) fun cdv A outer s H E hr => ?_
  have hu := hr.un
  have hu1 : (A.deeper (envOfC "_law_lots" (defScope s__law_lots) s.heap.objs.size f cdv)).units + 1 < cLine := by omega
  have hu64 : (A.deeper (envOfC "_law_lots" (defScope s__law_lots) s.heap.objs.size f cdv)).units + 64 < cLine := by omega
  have hu65 : (A.deeper (envOfC "_law_lots" (defScope s__law_lots) s.heap.objs.size f cdv)).units + 65 < cLine := by omega
  exact (ss_cons (st_set false 1 S.nd (ev_lst (es_cons (ev_tup es_nil) es_nil)))
    (ss_cons (st_for PassesOwn.never rfl (ei_sq (ev_var 0)) (EvG.h (eg_name 2 S.nd)) (ss_one (st_set false 1 S.nd (ev_bin op2_add (ev_var 1) (ev_lc S.nd rfl (blkOk_by (own := [("lot", 3)]) (by kernel_rfl)) (ei_sq (ev_var 1)) (fun _ _ _ _ _ => (eg_name 3 S.nd)) (fun _ _ _ _ _ => ec_nil) (fun _ _ _ _ _ => (ev_bin op2_add (ev_var 3) (ev_tup (es_cons (ev_var 2) es_nil)))))))))
    (ss_one (st_ret (ev_lc S.nd rfl (blkOk_by (own := [("many", 4), ("lot", 3)]) (by kernel_rfl)) (ei_sq (ev_callB (c_sorted hu64) G.b_sorted bt_sorted (ep_cons (ev_lc S.nd rfl (blkOk_by (own := [("lot", 3)]) (by kernel_rfl)) (ei_sq (ev_var 1)) (fun _ _ _ _ _ => (eg_name 3 S.nd)) (fun _ _ _ _ _ => ec_nil) (fun _ _ _ _ _ => (ev_tup (es_cons (ev_callB c_len G.b_len bt_len (ep_cons (ev_var 3) ep_nil)) (es_cons (ev_var 3) es_nil))))) ep_nil))) (fun _ _ _ _ _ => (eg_tup rfl (egs_cons (eg_name 4 S.nd) (egs_cons (eg_name 3 S.nd) egs_nil)))) (fun _ _ _ _ _ => ec_nil) (fun _ _ _ _ _ => (ev_var 3)))))))
theorem fs_law : FnScope ["script", "k", "well", "shafts", "clutches", "train", "names", "one", "other", "due", "lot", "hard", "turns", "five", "two", "name", "wish", "strong", "clutch"] ["script"] (defScope s_law) := ⟨rfl, rfl, rfl, by decide +kernel, rfl, by decide +kernel, by decide +kernel⟩
theorem fnok_law {f : Addr} {fd : FuncData} (F : FunD K "law" "law" (defArgs s_law) (defBody s_law) (defScope s_law) [] [] f fd) : FnOk P w K mg base CX0 11 f fd ["script"] (spG K F_law) := by
  have S := fs_law G
  have fn__law_lots := fn__law_lots (P := P) (w := w) (base := base) G
  have fn__law_names := fn__law_names (P := P) (w := w) (base := base) G
  have fn__law_take := fn__law_take (P := P) (w := w) (base := base) G
  have fn__law_train := fn__law_train (P := P) (w := w) (base := base) G
  have fn__law_well := fn__law_well (P := P) (w := w) (base := base) G
  have fn_fewest_locked := fn_fewest_locked (P := P) (w := w) (base := base) G
  have fn_speeds := fn_speeds (P := P) (w := w) (base := base) G
  refine fnok_mk F S rfl rfl (by decide) fun cdv A outer s H E hr => ?_
  have hu := hr.un
  have hu1 : (A.deeper (envOfC "law" (defScope s_law) s.heap.objs.size f cdv)).units + 1 < cLine := by omega
  have hu64 : (A.deeper (envOfC "law" (defScope s_law) s.heap.objs.size f cdv)).units + 64 < cLine := by omega
  have hu65 : (A.deeper (envOfC "law" (defScope s_law) s.heap.objs.size f cdv)).units + 65 < cLine := by omega
  exact (ss_cons (st_for PassesOwn.never rfl (ei_r1 (ev_callB (c_maxA rfl) G.b_max bt_max (ep_cons ev_int (ep_cons (ev_callB (c_minA rfl) G.b_min bt_min (ep_cons ev_int (ep_cons (ev_callB c_len G.b_len bt_len (ep_cons (ev_var 0) ep_nil)) ep_nil))) ep_nil))) G.b_range) (EvG.h (eg_name 1 S.nd)) (ss_cons (st_set true 2 S.nd (ev_call fn__law_well hr (es_cons (ev_var 0) (es_cons (ev_var 1) es_nil))))
    (ss_cons (st_asg (ev_callW 2 fn__law_train hr (es_cons ev_int es_nil)) (eg_tup rfl (egs_cons (eg_name 3 S.nd) (egs_cons (eg_name 4 S.nd) egs_nil))))
    (ss_cons (st_set false 5 S.nd (ev_tup (es_cons (ev_callT c_tuple G.b_tuple bt_tuple (ep_cons (ev_lc S.nd rfl (blkOk_by (own := [("name", 15), ("wish", 16), ("strong", 17)]) (by kernel_rfl)) (ei_sq (ev_var 3)) (fun _ _ _ _ _ => (eg_tup rfl (egs_cons (eg_name 15 S.nd) (egs_cons (eg_name 16 S.nd) (egs_cons (eg_name 17 S.nd) egs_nil))))) (fun _ _ _ _ _ => ec_nil) (fun _ _ _ _ _ => (ev_tup (es_cons (ev_var 15) (es_cons (ev_callB (c_maxA rfl) G.b_max bt_max (ep_cons (ev_un un1_neg ev_int) (ep_cons (ev_callB (c_minA rfl) G.b_min bt_min (ep_cons ev_int (ep_cons (ev_var 16) ep_nil))) ep_nil))) (es_cons (ev_var 17) es_nil)))))) ep_nil)) (es_cons (ev_var 4) es_nil))))
    (ss_cons (st_set false 6 S.nd (ev_call fn__law_names hr (es_cons (ev_var 5) es_nil)))
    (ss_cons (st_par false false 7 8 S.nd rfl (ev_ix (ix2 hu1) (ev_var 6) (ev_callW 2 fn__law_take hr (es_cons (ev_callB c_len G.b_len bt_len (ep_cons (ev_var 6) ep_nil)) es_nil))) (ev_ix (ix2 hu1) (ev_var 6) (ev_callW 2 fn__law_take hr (es_cons (ev_callB c_len G.b_len bt_len (ep_cons (ev_var 6) ep_nil)) es_nil))))
    (ss_cons (st_set false 9 S.nd ev_non)
    (ss_cons (st_for PassesOwn.never rfl (ei_sq (ev_call fn__law_lots hr (es_cons (ev_lc S.nd rfl (blkOk_by (own := [("clutch", 18)]) (by kernel_rfl)) (ei_sq (ev_var 4)) (fun _ _ _ _ _ => (eg_name 18 S.nd)) (fun _ _ _ _ _ => ec_nil) (fun _ _ _ _ _ => (ev_sl (ev_var 18) eo_none (eo_some ev_int)))) es_nil))) (EvG.h (eg_name 10 S.nd)) (ss_one (st_if (et_cmp op2_isN (ev_var 9) ev_non) (ss_cons (st_set false 11 S.nd (ev_callT c_tuple G.b_tuple bt_tuple (ep_cons (ev_lc S.nd rfl (blkOk_by (own := [("clutch", 18)]) (by kernel_rfl)) (ei_sq (ev_var 4)) (fun _ _ _ _ _ => (eg_name 18 S.nd)) (fun _ _ _ _ _ => ec_nil) (fun _ _ _ _ _ => (ev_bin op2_add (ev_sl (ev_var 18) eo_none (eo_some ev_int)) (ev_tup (es_cons (ev_if (et_cmp (op2_inA hu65) (ev_sl (ev_var 18) eo_none (eo_some ev_int)) (ev_var 10)) (ev_bin op2_pow ev_int ev_int) (ev_ix (ix2 hu1) (ev_var 18) ev_int)) es_nil))))) ep_nil)))
    (ss_cons (st_set false 12 S.nd (ev_callT (c_dictP rfl) G.b_dict bt_dict (ep_cons (ev_call fn_speeds hr (es_cons (ev_tup (es_cons (ev_ix (ix2 hu1) (ev_var 5) ev_int) (es_cons (ev_var 11) es_nil))) es_nil)) ep_nil)))
    (ss_one (st_set false 9 S.nd (ev_if (et_cmp (op2_eq hu64) (ev_ix (ix2 hu1) (ev_var 12) (ev_var 7)) (ev_ix (ix2 hu1) (ev_var 12) (ev_var 8))) (ev_var 10) ev_non))))) ss_nil)))
    (ss_one (st_if (et_cmp (op2_ne hu64) (ev_call fn_fewest_locked hr (es_cons (ev_var 5) (es_cons (ev_var 7) (es_cons (ev_var 8) es_nil)))) (ev_var 9)) (ss_one (st_ret ev_bl)) ss_nil))))))))))
    (ss_cons (st_set false 13 S.nd (ev_tup (es_cons (ev_tup (es_cons ev_str (es_cons ev_int (es_cons ev_int es_nil)))) (es_cons (ev_tup (es_cons ev_str (es_cons ev_int (es_cons ev_int es_nil)))) (es_cons (ev_tup (es_cons ev_str (es_cons ev_int (es_cons ev_int es_nil)))) es_nil)))))
    (ss_cons (st_if (et_cmp (op2_ne hu64) (ev_call fn_fewest_locked hr (es_cons (ev_tup (es_cons (ev_var 13) (es_cons (ev_tup (es_cons (ev_tup (es_cons ev_str (es_cons ev_str (es_cons ev_int es_nil)))) es_nil)) es_nil))) (es_cons ev_str (es_cons ev_str es_nil)))) (ev_tup (es_cons (ev_tup (es_cons ev_str (es_cons ev_str es_nil))) es_nil))) (ss_one (st_ret ev_bl)) ss_nil)
    (ss_cons (st_set false 14 S.nd (ev_tup (es_cons (ev_bin op2_add (ev_sl (ev_var 13) eo_none (eo_some ev_int)) (ev_tup (es_cons (ev_tup (es_cons ev_str (es_cons ev_int (es_cons ev_int es_nil)))) es_nil))) (es_cons (ev_tup (es_cons (ev_tup (es_cons ev_str (es_cons ev_str (es_cons ev_int es_nil)))) es_nil)) es_nil))))
    (ss_cons (st_if (EvW.t (ew_or (et_cmp op2_notN (ev_call fn_fewest_locked hr (es_cons (ev_var 14) (es_cons ev_str (es_cons ev_str es_nil)))) ev_non) (ew_or1 (et_cmp (op2_ne hu64) (ev_call fn_fewest_locked hr (es_cons (ev_var 14) (es_cons ev_str (es_cons ev_str es_nil)))) (ev_tup es_nil))))) (ss_one (st_ret ev_bl)) ss_nil)
    (ss_one (st_ret (ev_cmp (op2_eq hu64) (ev_call fn_fewest_locked hr (es_cons (ev_var 14) (es_cons ev_str (es_cons ev_str es_nil)))) (ev_tup (es_cons (ev_tup (es_cons ev_str (es_cons ev_str es_nil))) es_nil))))))))))
end
end DL
namespace DL
open PySem PySem.Spec PyProof.Rows L2 HD
theorem gb {K : PySem.W.Frag} {h : Heap} {mg : Str → Option Value} (X : K.In h) (G : h.Ns mainGlobals mg) (c : He.SaysD fa fn K) (hx : ex K = true) : Gb K mg where
  b_ValueError := He.free_ok X G (c.fact 36 (f := .free "ValueError") rfl)
  b_abs := He.free_ok X G (c.fact 37 (f := .free "abs") rfl)
  b_all := He.free_ok X G (c.fact 38 (f := .free "all") rfl)
  b_any := He.free_ok X G (c.fact 39 (f := .free "any") rfl)
  b_bool := He.free_ok X G (c.fact 40 (f := .free "bool") rfl)
  b_dict := He.free_ok X G (c.fact 41 (f := .free "dict") rfl)
  b_enumerate := He.free_ok X G (c.fact 42 (f := .free "enumerate") rfl)
  b_int := He.free_ok X G (c.fact 43 (f := .free "int") rfl)
  b_isinstance := He.free_ok X G (c.fact 44 (f := .free "isinstance") rfl)
  b_len := He.free_ok X G (c.fact 45 (f := .free "len") rfl)
  b_list := He.free_ok X G (c.fact 46 (f := .free "list") rfl)
  b_max := He.free_ok X G (c.fact 47 (f := .free "max") rfl)
  b_min := He.free_ok X G (c.fact 48 (f := .free "min") rfl)
  b_range := He.free_ok X G (c.fact 49 (f := .free "range") rfl)
  b_sorted := He.free_ok X G (c.fact 50 (f := .free "sorted") rfl)
  b_str := He.free_ok X G (c.fact 51 (f := .free "str") rfl)
  b_tuple := He.free_ok X G (c.fact 52 (f := .free "tuple") rfl)
  b_zip := He.free_ok X G (c.fact 53 (f := .free "zip") rfl)
  c_NOUGHT := ⟨_, _, He.glo_ok X G (c.fact 54 (f := .glo "NOUGHT") rfl), fun H => He.tupB_ok (x := "NOUGHT") (vs := [.int 0, .int 1]) hx H, fun Z H => .cons (.int _) (.cons (.int _) (.nil))⟩
  c_LETTERS := He.str_ok X G (c.fact 55 (f := .str "LETTERS" "abcdefghijklmnopqrstuvwxyz") rfl)
  c_MOST_WISH := He.int_ok X G (c.fact 56 (f := .int "MOST_WISH" 1000000) rfl)
  c_MOST_STRONG := He.int_ok X G (c.fact 57 (f := .int "MOST_STRONG" 9) rfl)
  c_MOST_DRAG := He.int_ok X G (c.fact 58 (f := .int "MOST_DRAG" 1000000) rfl)
  c_MOST_SHAFTS := He.int_ok X G (c.fact 59 (f := .int "MOST_SHAFTS" 6) rfl)
  c_MOST_CLUTCHES := He.int_ok X G (c.fact 60 (f := .int "MOST_CLUTCHES" 5) rfl)
  c_MUCH := He.int_ok X G (c.fact 61 (f := .int "MUCH" 1000000000000) rfl)
  d_divisor := let ⟨fd, F⟩ := c.def_ 0 (d := d_divisor) rfl; ⟨_, fd, He.glo_ok X G (c.fact 0 (f := .glo "divisor") rfl), F⟩
  d_fraction := let ⟨fd, F⟩ := c.def_ 1 (d := d_fraction) rfl; ⟨_, fd, He.glo_ok X G (c.fact 1 (f := .glo "fraction") rfl), F⟩
  d_plus := let ⟨fd, F⟩ := c.def_ 2 (d := d_plus) rfl; ⟨_, fd, He.glo_ok X G (c.fact 2 (f := .glo "plus") rfl), F⟩
  d_minus := let ⟨fd, F⟩ := c.def_ 3 (d := d_minus) rfl; ⟨_, fd, He.glo_ok X G (c.fact 3 (f := .glo "minus") rfl), F⟩
  d_times := let ⟨fd, F⟩ := c.def_ 4 (d := d_times) rfl; ⟨_, fd, He.glo_ok X G (c.fact 4 (f := .glo "times") rfl), F⟩
  d_is_less := let ⟨fd, F⟩ := c.def_ 5 (d := d_is_less) rfl; ⟨_, fd, He.glo_ok X G (c.fact 5 (f := .glo "is_less") rfl), F⟩
  d_is_whole := let ⟨fd, F⟩ := c.def_ 6 (d := d_is_whole) rfl; ⟨_, fd, He.glo_ok X G (c.fact 6 (f := .glo "is_whole") rfl), F⟩
  d_is_name := let ⟨fd, F⟩ := c.def_ 7 (d := d_is_name) rfl; ⟨_, fd, He.glo_ok X G (c.fact 7 (f := .glo "is_name") rfl), F⟩
  d_is_wish := let ⟨fd, F⟩ := c.def_ 8 (d := d_is_wish) rfl; ⟨_, fd, He.glo_ok X G (c.fact 8 (f := .glo "is_wish") rfl), F⟩
  d_is_drag := let ⟨fd, F⟩ := c.def_ 9 (d := d_is_drag) rfl; ⟨_, fd, He.glo_ok X G (c.fact 9 (f := .glo "is_drag") rfl), F⟩
  d_are_rising := let ⟨fd, F⟩ := c.def_ 10 (d := d_are_rising) rfl; ⟨_, fd, He.glo_ok X G (c.fact 10 (f := .glo "are_rising") rfl), F⟩
  d_is_shaft := let ⟨fd, F⟩ := c.def_ 11 (d := d_is_shaft) rfl; ⟨_, fd, He.glo_ok X G (c.fact 11 (f := .glo "is_shaft") rfl), F⟩
  d_is_clutch := let ⟨fd, F⟩ := c.def_ 12 (d := d_is_clutch) rfl; ⟨_, fd, He.glo_ok X G (c.fact 12 (f := .glo "is_clutch") rfl), F⟩
  d_side_of := let ⟨fd, F⟩ := c.def_ 13 (d := d_side_of) rfl; ⟨_, fd, He.glo_ok X G (c.fact 13 (f := .glo "side_of") rfl), F⟩
  d_make_ring := let ⟨fd, F⟩ := c.def_ 14 (d := d_make_ring) rfl; ⟨_, fd, He.glo_ok X G (c.fact 14 (f := .glo "make_ring") rfl), F⟩
  d_is_train := let ⟨fd, F⟩ := c.def_ 15 (d := d_is_train) rfl; ⟨_, fd, He.glo_ok X G (c.fact 15 (f := .glo "is_train") rfl), F⟩
  d_need_train := let ⟨fd, F⟩ := c.def_ 16 (d := d_need_train) rfl; ⟨_, fd, He.glo_ok X G (c.fact 16 (f := .glo "need_train") rfl), F⟩
  d_need_shaft := let ⟨fd, F⟩ := c.def_ 17 (d := d_need_shaft) rfl; ⟨_, fd, He.glo_ok X G (c.fact 17 (f := .glo "need_shaft") rfl), F⟩
  d_names_of := let ⟨fd, F⟩ := c.def_ 18 (d := d_names_of) rfl; ⟨_, fd, He.glo_ok X G (c.fact 18 (f := .glo "names_of") rfl), F⟩
  d_all_states := let ⟨fd, F⟩ := c.def_ 19 (d := d_all_states) rfl; ⟨_, fd, He.glo_ok X G (c.fact 19 (f := .glo "all_states") rfl), F⟩
  d_drawn_to := let ⟨fd, F⟩ := c.def_ 20 (d := d_drawn_to) rfl; ⟨_, fd, He.glo_ok X G (c.fact 20 (f := .glo "drawn_to") rfl), F⟩
  d_run := let ⟨fd, F⟩ := c.def_ 21 (d := d_run) rfl; ⟨_, fd, He.glo_ok X G (c.fact 21 (f := .glo "run") rfl), F⟩
  d_slack_rows := let ⟨fd, F⟩ := c.def_ 22 (d := d_slack_rows) rfl; ⟨_, fd, He.glo_ok X G (c.fact 22 (f := .glo "slack_rows") rfl), F⟩
  d_wishes_of := let ⟨fd, F⟩ := c.def_ 23 (d := d_wishes_of) rfl; ⟨_, fd, He.glo_ok X G (c.fact 23 (f := .glo "wishes_of") rfl), F⟩
  d_turning := let ⟨fd, F⟩ := c.def_ 24 (d := d_turning) rfl; ⟨_, fd, He.glo_ok X G (c.fact 24 (f := .glo "turning") rfl), F⟩
  d_choices := let ⟨fd, F⟩ := c.def_ 25 (d := d_choices) rfl; ⟨_, fd, He.glo_ok X G (c.fact 25 (f := .glo "choices") rfl), F⟩
  d_with_locked := let ⟨fd, F⟩ := c.def_ 26 (d := d_with_locked) rfl; ⟨_, fd, He.glo_ok X G (c.fact 26 (f := .glo "with_locked") rfl), F⟩
  d_fewest_locked := let ⟨fd, F⟩ := c.def_ 27 (d := d_fewest_locked) rfl; ⟨_, fd, He.glo_ok X G (c.fact 27 (f := .glo "fewest_locked") rfl), F⟩
  d_speeds_of := let ⟨fd, F⟩ := c.def_ 28 (d := d_speeds_of) rfl; ⟨_, fd, He.glo_ok X G (c.fact 28 (f := .glo "speeds_of") rfl), F⟩
  d_speeds := let ⟨fd, F⟩ := c.def_ 29 (d := d_speeds) rfl; ⟨_, fd, He.glo_ok X G (c.fact 29 (f := .glo "speeds") rfl), F⟩
  d__law_well := let ⟨fd, F⟩ := c.def_ 30 (d := d__law_well) rfl; ⟨_, fd, He.glo_ok X G (c.fact 30 (f := .glo "_law_well") rfl), F⟩
  d__law_take := let ⟨fd, F⟩ := c.def_ 31 (d := d__law_take) rfl; ⟨_, fd, He.glo_ok X G (c.fact 31 (f := .glo "_law_take") rfl), F⟩
  d__law_train := let ⟨fd, F⟩ := c.def_ 32 (d := d__law_train) rfl; ⟨_, fd, He.glo_ok X G (c.fact 32 (f := .glo "_law_train") rfl), F⟩
  d__law_names := let ⟨fd, F⟩ := c.def_ 33 (d := d__law_names) rfl; ⟨_, fd, He.glo_ok X G (c.fact 33 (f := .glo "_law_names") rfl), F⟩
  d__law_lots := let ⟨fd, F⟩ := c.def_ 34 (d := d__law_lots) rfl; ⟨_, fd, He.glo_ok X G (c.fact 34 (f := .glo "_law_lots") rfl), F⟩
  d_law := let ⟨fd, F⟩ := c.def_ 35 (d := d_law) rfl; ⟨_, fd, He.glo_ok X G (c.fact 35 (f := .glo "law") rfl), F⟩
theorem spG_law {K : PySem.W.Frag} {H : Hp} {a : Addr} {ns : List Int} {F : List D → Option T} (hF : F [scrD ns] = some (.fz (.bool true))) (hS : SqL K H a (ns.map V.int)) {Q : VK} {E : XK} (q : ∀ H', Q (.bl true) H') : spG K F [.ref a] H Q E := by
  rcases hS with hS | hS
  · refine ⟨fun b => b = a, [scrD ns], .fz (.bool true), fun b z => ?_, .cons (.scr rfl hS) .nil, hF, fun v Z' H' _ w => ?_⟩
    · subst z
      rcases hS with e | ⟨o, e⟩
      · exact ⟨_, e⟩
      · exact ⟨_, e⟩
    · have w : R K Z' H' v (.bool true) := w
      cases w
      exact q H'
  · refine ⟨fun _ => False, [scrD ns], .fz (.bool true), fun b z => z.elim, .cons (.kscr fun _ => .inr hS) .nil, hF, fun v Z' H' _ w => ?_⟩
    have w : R K Z' H' v (.bool true) := w
    cases w
    exact q H'
theorem facts {P : Program} {w : World} {K : PySem.W.Frag} {h : Heap} {mg : Str → Option Value} {f : Addr} (X : K.In h) (G : h.Ns mainGlobals mg) (hfa : mg ("law" : Str) = some (.ref f)) (c : He.SaysD fa fn K) (hx : ex K = true) :
    ∃ fd : FuncData, (∀ (s : Shared) (v : Value), BindsTo s fd ⟨[v], []⟩ [("script", v)]) ∧ ∀ base : Heap, K.In base → base.Ns mainGlobals mg → FnOk P w K mg base CX0 11 f fd ["script"] (spG K F_law) := by
  have g := gb X G c hx
  obtain ⟨fd, F⟩ := c.def_ 35 (d := d_law) rfl
  have e := hfa.symm.trans (He.glo_ok X G (c.fact 35 (f := .glo "law") rfl))
  cases e
  have b := FunD.bindsA (ps := ["script"]) F fun _ _ _ _ _ _ us hl => match us, hl with | [_], _ => rfl
  exact ⟨fd, fun s v => b s [v] rfl, fun base _ _ => fnok_law g F⟩
end DL
open PySem PySem.W PySem.Calls PyProof.Rows
theorem PySem.Challenge.cw_slipshafts_k31_whole_fewest_locked_holds : PySem.Challenge.rw_slipshafts_k31_whole_fewest_locked.Holds := by
  w_on; o_law
  refine HandSHeadRun.head_any (r := OpenLaw.row PySem.Challenge.rw_slipshafts_k31_whole_fewest_locked) (q := view (OpenLaw.row PySem.Challenge.rw_slipshafts_k31_whole_fewest_locked).prog [53]) (H := HD.hk) (ob := HD.ob) (M := 3000) (loose := HD.loose) (d := HandSHeadRun.topDef (OpenLaw.row PySem.Challenge.rw_slipshafts_k31_whole_fewest_locked).prog 53) (kwd := []) HD.ob_eq
    (by kernel_rfl) (fun s => by kernel_rfl) HD.run (by kernel_rfl) (by kernel_rfl) (by kernel_rfl) (by rfl) (by first | assumption | decide +kernel) (by decide +kernel) ⟨rfl, rfl, rfl, rfl, rfl, by decide +kernel⟩ ?hw ?hc
  case hw => w_witness2
  case hc =>
    refine L2.walk_ofE (l := PySem.Challenge.rw_slipshafts_k31_whole_fewest_locked) (n := 63) (k := 11) (x := "script") (CX := L2.CX0) rfl (by decide) (by kernel_rfl) ⟨rfl, by decide, by decide⟩ ?F (fun _ _ _ _ z => z)
    intro w mg fa h Y G hmg0
    obtain ⟨K, KX, c⟩ := Y
    have hmg : mg ("law" : PySem.Str) = some (.ref fa) := by
      have e : (HandSHeadRun.topDef (OpenLaw.row PySem.Challenge.rw_slipshafts_k31_whole_fewest_locked).prog 53).name = ("law" : PySem.Str) := by kernel_rfl
      rw [← e]
      exact hmg0
    obtain ⟨fd, hb, hF⟩ := DL.facts (P := (PySem.Challenge.rw_slipshafts_k31_whole_fewest_locked).prog) (w := w) KX G hmg c.t.d c.more
    exact ⟨K, fd, DL.spG K DL.F_law, KX, hb, fun H a ns hl _ hS => DL.spG_law (DL.F_law_eq ns hl) hS fun _ => rfl, hF⟩
