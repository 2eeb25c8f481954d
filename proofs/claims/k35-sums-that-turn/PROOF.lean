import PyProof.Rows.All
import Wide.All
import OpenK.AllK
import Wide.FinOn
import HandS.Lambda
import HandS.ForMost
import HandS.ForExc
import HandS.Style
import HandS.Wide
import HandS.WideBits
import HandS.Zip
import HandS.SortInts
import HandS.Flow
import HandS.IsInst
import HandS.TupAny
import HandS.Conv
import KE.KExcInit
import HandS.ExcOwn
import HandS.ExcInit
import HandS.TryOnly
import HandS.TryMany
import HandS.Ends
import HandS.CallSlots
import HandS.RaiseMore
import HandS.TupMul
import HandS.Deep
import KE.DataCmp
import KE.SortData
import KE.GoesEnum
import HandS.Star
import KE.GoesZip
import KE.GoesMore
import HandS.SetFor
import HandS.Strs
import PyProof.LongRange
import HandS.SetBool
import PyProof.SetRoads
import HandS.EndBits
import HandS.ExcIs
import PySem.Challenge.RW_restworld_k35_whole_sums_that_turn
set_option Elab.async false
set_option linter.all false
set_option maxRecDepth 100000
set_option maxHeartbeats 8000000
noncomputable section
namespace PU
open PySem PySem.Spec PyProof.Rows L2
/-- the tables of code objects into which the law's lambdas are written, with the lambdas' names -/
def tabT : List (Addr × Str) := []
end PU
namespace PU
open PySem PySem.Spec PyProof.Rows L2
abbrev St := L2.St
/-! ### data, slots, results -/
inductive D where
  | non | bl (b : Bool) | int (i : Int) | str (x : Str) | tup (ds : List D) | lst (ds : List D)
  deriving Inhabited
inductive Slot where
  | emp | val (d : D) | own (k : Bool) (ds : List D)
  deriving Inhabited
abbrev Sto := List Slot
inductive Vl where
  | dat (d : D) | loc (i : Nat)
structure Xn where
  cls : Str
  flds : List (Str × D)
inductive R (α : Type) where
  | ok (a : α) (st : Sto) | exc (x : Xn) (st : Sto) | stuck
abbrev M (α : Type) := Sto → R α
def bnd {α β : Type} (m : M α) (f : α → M β) : M β := fun st => match m st with
  | .ok a st' => f a st'
  | .exc x st' => .exc x st'
  | .stuck => .stuck
def ret {α : Type} (a : α) : M α := fun st => .ok a st
def bad {α : Type} : M α := fun _ => .stuck
def isL : Slot → Bool
  | .own _ _ => true
  | .val (.lst _) => true
  | _ => false
/-! ### what stands for what -/
mutual
inductive Rp (K : PySem.W.Frag) (F : Addr → Prop) (H : Hp) : V → D → Prop
  | non : Rp K F H .non .non
  | bl (b : Bool) : Rp K F H (.bl b) (.bl b)
  | int (i : Int) : Rp K F H (.int i) (.int i)
  | str (x : Str) : Rp K F H (.str x) (.str x)
  | tup {a : Addr} {vs : List V} {ds : List D} : F a → Rd H a (.tup vs) → Rps K F H vs ds → Rp K F H (.ref a) (.tup ds)
  | lst {a : Addr} {vs : List V} {ds : List D} : F a → Rd H a (.lst vs) → Rps K F H vs ds → Rp K F H (.ref a) (.lst ds)
  | tupK {a : Addr} {vs : List V} {ds : List D} : (∀ H', SqT K H' a vs) → Rps K F H vs ds → Rp K F H (.ref a) (.tup ds)
inductive Rps (K : PySem.W.Frag) (F : Addr → Prop) (H : Hp) : List V → List D → Prop
  | nil : Rps K F H [] []
  | cons {v : V} {vs : List V} {d : D} {ds : List D} : Rp K F H v d → Rps K F H vs ds → Rps K F H (v :: vs) (d :: ds)
end
/-- stays, or is a table that may grow -/
def Kp (H' : Hp) (a : Addr) (o : HO) : Prop := H' a = some o ∨ ∃ ps ps', o = .tbl ps ∧ H' a = some (.tbl ps')
theorem Kp.get {H' : Hp} {a : Addr} {o : HO} (h : Kp H' a o) (n : ∀ ps, o ≠ .tbl ps) : H' a = some o := by
  rcases h with h | ⟨ps, ps', e, _⟩
  · exact h
  · exact absurd e (n ps)
theorem Kp.ex {H' : Hp} {a : Addr} {o : HO} (h : Kp H' a o) : ∃ o', H' a = some o' := by
  rcases h with h | ⟨_, _, _, h⟩ <;> exact ⟨_, h⟩
theorem Kp.trans {H' H'' : Hp} {a : Addr} {o : HO} (h : Kp H' a o) (g : ∀ u, H' a = some u → Kp H'' a u) : Kp H'' a o := by
  rcases h with h | ⟨ps, ps', e, h⟩
  · exact g _ h
  · subst e
    rcases g _ h with z | ⟨_, qs, _, z⟩
    · exact .inr ⟨ps, ps', rfl, z⟩
    · exact .inr ⟨ps, qs, rfl, z⟩
section
variable {K : PySem.W.Frag} {F F' : Addr → Prop} {H H' : Hp}
mutual
theorem Rp.moveK (hF : ∀ a, F a → F' a) (hH : ∀ a, F a → ∀ o, H a = some o → Kp H' a o) : ∀ {v : V} {d : D}, Rp K F H v d → Rp K F' H' v d
  | _, _, .non => .non
  | _, _, .bl b => .bl b
  | _, _, .int i => .int i
  | _, _, .str x => .str x
  | _, _, .tup f r s => .tup (hF _ f) (by rcases r with r | ⟨o, r⟩; exact .inl ((hH _ f _ r).get nofun); exact .inr ⟨o, (hH _ f _ r).get nofun⟩) (Rps.moveK hF hH s)
  | _, _, .lst f r s => .lst (hF _ f) (by rcases r with r | ⟨o, r⟩; exact .inl ((hH _ f _ r).get nofun); exact .inr ⟨o, (hH _ f _ r).get nofun⟩) (Rps.moveK hF hH s)
  | _, _, .tupK r s => .tupK r (Rps.moveK hF hH s)
theorem Rps.moveK (hF : ∀ a, F a → F' a) (hH : ∀ a, F a → ∀ o, H a = some o → Kp H' a o) : ∀ {vs : List V} {ds : List D}, Rps K F H vs ds → Rps K F' H' vs ds
  | _, _, .nil => .nil
  | _, _, .cons r s => .cons (Rp.moveK hF hH r) (Rps.moveK hF hH s)
end
theorem Rp.move (hF : ∀ a, F a → F' a) (hH : ∀ a, F a → ∀ o, H a = some o → H' a = some o) {v : V} {d : D} (r : Rp K F H v d) : Rp K F' H' v d := r.moveK hF fun a f o h => .inl (hH a f o h)
theorem Rps.move (hF : ∀ a, F a → F' a) (hH : ∀ a, F a → ∀ o, H a = some o → H' a = some o) {vs : List V} {ds : List D} (r : Rps K F H vs ds) : Rps K F' H' vs ds := r.moveK hF fun a f o h => .inl (hH a f o h)
theorem Rps.length : ∀ {vs : List V} {ds : List D}, Rps K F H vs ds → vs.length = ds.length
  | _, _, .nil => rfl
  | _, _, .cons _ s => by rw [List.length_cons, List.length_cons, Rps.length s]
theorem Rps.append : ∀ {vs ws : List V} {ds es : List D}, Rps K F H vs ds → Rps K F H ws es → Rps K F H (vs ++ ws) (ds ++ es)
  | _, _, _, _, .nil, s => s
  | _, _, _, _, .cons r t, s => .cons r (Rps.append t s)
theorem Rps.get : ∀ {vs : List V} {ds : List D} {i : Nat} {d : D}, Rps K F H vs ds → ds[i]? = some d → ∃ v, vs[i]? = some v ∧ Rp K F H v d
  | _, _, _, _, .nil, e => by simp at e
  | _, _, 0, _, .cons r _, e => by simp at e; subst e; exact ⟨_, rfl, r⟩
  | _, _, i + 1, d, .cons _ t, e => by
    obtain ⟨u, h1, h2⟩ := Rps.get (i := i) (d := d) t (by simpa using e)
    exact ⟨u, by simpa using h1, h2⟩
theorem Rps.getV : ∀ {vs : List V} {ds : List D} {i : Nat} {v : V}, Rps K F H vs ds → vs[i]? = some v → ∃ d, ds[i]? = some d ∧ Rp K F H v d
  | _, _, _, _, .nil, e => by simp at e
  | _, _, 0, _, .cons r _, e => by simp at e; subst e; exact ⟨_, rfl, r⟩
  | _, _, i + 1, v, .cons _ t, e => by
    obtain ⟨u, h1, h2⟩ := Rps.getV (i := i) (v := v) t (by simpa using e)
    exact ⟨u, by simpa using h1, h2⟩
theorem Rps.set {v : V} {d : D} (r : Rp K F H v d) : ∀ {vs : List V} {ds : List D} (i : Nat), Rps K F H vs ds → Rps K F H (vs.set i v) (ds.set i d)
  | _, _, _, .nil => .nil
  | _, _, 0, .cons _ t => .cons r t
  | _, _, i + 1, .cons q t => .cons q (Rps.set r i t)
theorem Rps.take : ∀ {vs : List V} {ds : List D} (n : Nat), Rps K F H vs ds → Rps K F H (vs.take n) (ds.take n)
  | _, _, 0, _ => .nil
  | _, _, _ + 1, .nil => .nil
  | _, _, n + 1, .cons r t => .cons r (Rps.take n t)
theorem Rps.drop : ∀ {vs : List V} {ds : List D} (n : Nat), Rps K F H vs ds → Rps K F H (vs.drop n) (ds.drop n)
  | _, _, 0, r => r
  | _, _, _ + 1, .nil => .nil
  | _, _, n + 1, .cons _ t => Rps.drop n t
theorem Rp.sqT {x : V} {ds : List D} (r : Rp K F H x (.tup ds)) : ∃ a vs, x = .ref a ∧ SqT K H a vs ∧ Rps K F H vs ds := by
  cases r with
  | tup f r s => exact ⟨_, _, rfl, .inl r, s⟩
  | tupK r s => exact ⟨_, _, rfl, r H, s⟩
theorem Rp.sqL {x : V} {ds : List D} (r : Rp K F H x (.lst ds)) : ∃ a vs, x = .ref a ∧ SqL K H a vs ∧ Rps K F H vs ds := by
  cases r with
  | lst f r s => exact ⟨_, _, rfl, .inl r, s⟩
end
/-- reads as d just now -/
def Rq (K : PySem.W.Frag) (F : Addr → Prop) (H : Hp) (x : V) (d : D) : Prop := Rp K F H x d ∨ ∃ a vs ds, x = .ref a ∧ d = .lst ds ∧ H a = some (.lst vs) ∧ Rps K F H vs ds
section
variable {K : PySem.W.Frag} {F F' : Addr → Prop} {H H' : Hp} {x : V} {ds : List D}
theorem Rq.sqT (r : Rq K F H x (.tup ds)) : ∃ a vs, x = .ref a ∧ SqT K H a vs ∧ Rps K F H vs ds := by
  rcases r with r | ⟨a, vs, ds', _, e, _⟩
  · exact r.sqT
  · cases e
theorem Rq.sqL (r : Rq K F H x (.lst ds)) : ∃ a vs, x = .ref a ∧ SqL K H a vs ∧ Rps K F H vs ds := by
  rcases r with r | ⟨a, vs, ds', e1, e, h, s⟩
  · exact r.sqL
  · cases e
    exact ⟨a, vs, e1, .of h, s⟩
theorem Rq.int {i : Int} (r : Rq K F H x (.int i)) : x = .int i := by
  rcases r with r | ⟨a, vs, ds', _, e, _⟩
  · cases r; rfl
  · cases e
theorem Rq.bl {i : Bool} (r : Rq K F H x (.bl i)) : x = .bl i := by
  rcases r with r | ⟨a, vs, ds', _, e, _⟩
  · cases r; rfl
  · cases e
theorem Rq.str {i : Str} (r : Rq K F H x (.str i)) : x = .str i := by
  rcases r with r | ⟨a, vs, ds', _, e, _⟩
  · cases r; rfl
  · cases e
theorem Rq.non (r : Rq K F H x .non) : x = .non := by
  rcases r with r | ⟨a, vs, ds', _, e, _⟩
  · cases r; rfl
  · cases e
end
/-! ### the state -/
def SlotOk (K : PySem.W.Frag) (F : Addr → Prop) (H : Hp) : Slot → Option (Option V) → Prop
  | .emp, _ => True
  | .val d, r => ∃ v, r = some (some v) ∧ Rp K F H v d
  | .own _ ds, r => ∃ a vs, r = some (some (.ref a)) ∧ H a = some (.lst vs) ∧ ¬ F a ∧ Rps K F H vs ds
def Own (st : Sto) (ρ : St) (a : Addr) : Prop := ∃ (i : Nat) (k : Bool) (ds : List D), st[i]? = some (.own k ds) ∧ ρ[i]? = some (some (.ref a))
theorem tabs_upd {T : List (Addr × Str)} {H : Hp} {D : Addr} {o : HO} (t : LamX.Tabs T H) (hl : ∀ u, H D = some u → ∃ vs, u = .lst vs) : LamX.Tabs T (upd H D o) := fun p hp => by
  obtain ⟨ps, h1, h2, h3⟩ := t p hp
  have ne : ∀ (b : Addr) (u : HO), H b = some u → (∀ vs, u ≠ .lst vs) → b ≠ D := fun b u e n z => by
    subst z
    obtain ⟨vs, hv⟩ := hl u e
    exact n vs hv
  refine ⟨ps, by rw [upd_ne (ne _ _ h1 nofun)]; exact h1, h2, fun pos cv hc => ?_⟩
  obtain ⟨c, e1, e2⟩ := h3 pos cv hc
  exact ⟨c, e1, by rw [upd_ne (ne _ _ e2 (fun vs z => by unfold LamX.CodeO at z; cases z))]; exact e2⟩
structure Rs (K : PySem.W.Frag) (F : Addr → Prop) (st : Sto) (ρ : St) (H : Hp) : Prop where
  len : st.length = ρ.length
  slot : ∀ (i : Nat) (s : Slot), st[i]? = some s → SlotOk K F H s ρ[i]?
  dis : ∀ (i j : Nat) (a : Addr) (k : Bool) (ds : List D) (k' : Bool) (ds' : List D), st[i]? = some (.own k ds) → st[j]? = some (.own k' ds') → ρ[i]? = some (some (.ref a)) → ρ[j]? = some (some (.ref a)) → i = j
  live : ∀ a, F a → ∃ o, H a = some o
  tab : LamX.Tabs tabT H
structure Stp (P : Nat) (K : PySem.W.Frag) (st : Sto) (ρ : St) (F : Addr → Prop) (H : Hp) (st' : Sto) (ρ' : St) (F' : Addr → Prop) (H' : Hp) : Prop where
  rs : Rs K F' st' ρ' H'
  keep : ∀ a o, H a = some o → ¬ Own st ρ a → Kp H' a o
  mono : ∀ a, F a → F' a
  back : ∀ a, F' a → F a ∨ Own st ρ a ∨ H a = none
  owns : ∀ a, Own st' ρ' a → Own st ρ a ∨ H a = none
  par : ∀ (i : Nat) (s : Slot), i < P → st[i]? = some s → isL s = true → ρ'[i]? = ρ[i]? ∧ ∃ s', st'[i]? = some s' ∧ isL s' = true
section
variable {P : Nat} {K : PySem.W.Frag} {F F' F'' : Addr → Prop} {H H' H'' : Hp} {st st' st'' : Sto} {ρ ρ' ρ'' : St}
theorem Rs.notOwn (r : Rs K F st ρ H) {a : Addr} (f : F a) : ¬ Own st ρ a := fun ⟨i, k, ds, e1, e2⟩ => by
  obtain ⟨b, vs, q1, q2, q3, q4⟩ := r.slot i _ e1
  rw [e2] at q1
  cases q1
  exact q3 f
theorem Rs.own_live (r : Rs K F st ρ H) {a : Addr} (o : Own st ρ a) : ∃ u, H a = some u := by
  obtain ⟨i, k, ds, e1, e2⟩ := o
  obtain ⟨b, vs, q1, q2, q3, q4⟩ := r.slot i _ e1
  rw [e2] at q1
  cases q1
  exact ⟨_, q2⟩
theorem Stp.refl (r : Rs K F st ρ H) : Stp P K st ρ F H st ρ F H where
  rs := r
  keep := fun _ _ h _ => .inl h
  mono := fun _ h => h
  back := fun _ h => .inl h
  owns := fun _ h => .inl h
  par := fun _ s _ e h => ⟨rfl, s, e, h⟩
theorem Stp.trans (a : Stp P K st ρ F H st' ρ' F' H') (b : Stp P K st' ρ' F' H' st'' ρ'' F'' H'') : Stp P K st ρ F H st'' ρ'' F'' H'' where
  rs := b.rs
  keep := fun x o h n => (a.keep x o h n).trans fun u e => b.keep x u e fun q => by
    rcases a.owns x q with z | z
    · exact n z
    · rw [h] at z; cases z
  mono := fun x h => b.mono x (a.mono x h)
  back := fun x h => by
    rcases b.back x h with z | z | z
    · exact a.back x z
    · rcases a.owns x z with y | y
      · exact .inr (.inl y)
      · exact .inr (.inr y)
    · cases q : H x with
      | none => exact .inr (.inr rfl)
      | some o =>
        refine .inr (.inl ?_)
        apply Classical.byContradiction
        intro n
        obtain ⟨o', this⟩ := (a.keep x o q n).ex
        rw [z] at this; cases this
  owns := fun x h => by
    rcases b.owns x h with z | z
    · exact a.owns x z
    · cases q : H x with
      | none => exact .inr rfl
      | some o =>
        refine .inl ?_
        apply Classical.byContradiction
        intro n
        obtain ⟨o', this⟩ := (a.keep x o q n).ex
        rw [z] at this; cases this
  par := fun i s h e l => by
    obtain ⟨e1, s1, e2, l2⟩ := a.par i s h e l
    obtain ⟨e3, s2, e4, l4⟩ := b.par i s1 h e2 l2
    exact ⟨e3.trans e1, s2, e4, l4⟩
theorem Stp.move (r : Rs K F st ρ H) (a : Stp P K st ρ F H st' ρ' F' H') {v : V} {d : D} (q : Rp K F H v d) : Rp K F' H' v d :=
  q.moveK a.mono fun x f o h => a.keep x o h (r.notOwn f)
theorem Stp.moves (r : Rs K F st ρ H) (a : Stp P K st ρ F H st' ρ' F' H') {vs : List V} {ds : List D} (q : Rps K F H vs ds) : Rps K F' H' vs ds :=
  q.moveK a.mono fun x f o h => a.keep x o h (r.notOwn f)
end
/-- a value -/
def Rv (K : PySem.W.Frag) (F : Addr → Prop) (H : Hp) (ρ : St) (x : V) : Vl → Prop
  | .dat d => Rp K F H x d
  | .loc i => ρ[i]? = some (some x)
section
variable {P : Nat} {K : PySem.W.Frag} {F F' F'' : Addr → Prop} {H H' H'' : Hp} {st st' st'' : Sto} {ρ ρ' ρ'' τ : St}
theorem get_pre {α : Type} {l t : List α} {i : Nat} {x : α} (h : l[i]? = some x) : (l ++ t)[i]? = some x := by
  rw [List.getElem?_append_left (List.getElem?_eq_some_iff.mp h).1]; exact h
theorem Stp.rv (r : Rs K F st ρ H) (a : Stp P K st ρ F H st' (ρ ++ τ) F' H') {x : V} {v : Vl} (q : Rv K F H ρ x v) : Rv K F' H' (ρ ++ τ) x v := by
  cases v with
  | dat d => exact a.move r q
  | loc i => exact get_pre q
/-! ### reading -/
def rd (v : Vl) (st : Sto) : Option D := match v with
  | .dat d => some d
  | .loc i => match st[i]? with
    | some (.val d) => some d
    | some (.own _ ds) => some (.lst ds)
    | _ => none
theorem rd_ok {v : Vl} {d : D} {x : V} (h : rd v st = some d) (r : Rs K F st ρ H) (q : Rv K F H ρ x v) : Rq K F H x d := by
  cases v with
  | dat e => cases h; exact .inl q
  | loc i =>
    unfold rd at h
    dsimp only at h
    split at h
    · rename_i e he
      cases h
      obtain ⟨w, e1, e2⟩ := r.slot i _ he
      rw [show ρ[i]? = some (some x) from q] at e1
      cases e1
      exact .inl e2
    · rename_i k ds he
      cases h
      obtain ⟨a, vs, e1, e2, e3, e4⟩ := r.slot i _ he
      rw [show ρ[i]? = some (some x) from q] at e1
      cases e1
      exact .inr ⟨a, vs, ds, rfl, rfl, e2, e4⟩
    · cases h
/-! ### new things -/
structure Grow (K : PySem.W.Frag) (F : Addr → Prop) (H : Hp) (F' : Addr → Prop) (H' : Hp) (s : Slot) (v : V) : Prop where
  keep : ∀ a o, H a = some o → H' a = some o
  mono : ∀ a, F a → F' a
  back : ∀ a, F' a → F a ∨ H a = none
  live : ∀ a, F' a → ∃ o, H' a = some o
  res : match s with
    | .emp => False
    | .val d => Rp K F' H' v d
    | .own _ ds => ∃ a vs, v = .ref a ∧ H a = none ∧ H' a = some (.lst vs) ∧ ¬ F' a ∧ Rps K F' H' vs ds
def alloc (s : Slot) : M Vl := fun st => match s with
  | .emp => .stuck
  | .val d => .ok (.dat d) st
  | .own k ds => .ok (.loc st.length) (st ++ [.own k ds])
theorem Rs.grow (r : Rs K F st ρ H) {s : Slot} {v : V} (g : Grow K F H F' H' s v) : Rs K F' st ρ H' where
  len := r.len
  slot := fun i s e => by
    have q := r.slot i s e
    cases s with
    | emp => trivial
    | val d =>
      obtain ⟨v, e1, e2⟩ := q
      exact ⟨v, e1, e2.move g.mono fun a _ o h => g.keep a o h⟩
    | own k ds =>
      obtain ⟨a, vs, e1, e2, e3, e4⟩ := q
      refine ⟨a, vs, e1, g.keep _ _ e2, fun f => ?_, e4.move g.mono fun a _ o h => g.keep a o h⟩
      rcases g.back a f with z | z
      · exact e3 z
      · rw [e2] at z; cases z
  dis := r.dis
  live := g.live
  tab := r.tab.ext g.keep
theorem Stp.grow (r : Rs K F st ρ H) {s : Slot} {v : V} (g : Grow K F H F' H' s v) : Stp P K st ρ F H st ρ F' H' where
  rs := r.grow g
  keep := fun a o h _ => .inl (g.keep a o h)
  mono := g.mono
  back := fun a h => (g.back a h).elim .inl fun z => .inr (.inr z)
  owns := fun a h => .inl h
  par := fun i s _ e l => ⟨rfl, s, e, l⟩
theorem own_snoc {k : Bool} {ds : List D} {v : V} (hl : st.length = ρ.length) {a : Addr} (h : Own (st ++ [.own k ds]) (ρ ++ [some v]) a) : Own st ρ a ∨ v = .ref a := by
  obtain ⟨i, k', ds', e1, e2⟩ := h
  by_cases hi : i < st.length
  · rw [List.getElem?_append_left hi] at e1
    rw [List.getElem?_append_left (by omega)] at e2
    exact .inl ⟨i, k', ds', e1, e2⟩
  · have hi' : i = st.length := by
      have := (List.getElem?_eq_some_iff.mp e1).1
      simp at this; omega
    subst hi'
    rw [hl] at e2
    simp at e2
    exact .inr e2
theorem Rs.snoc_own (r : Rs K F st ρ H) {k : Bool} {ds : List D} {a : Addr} {vs : List V} (hn : ∀ (i : Nat) (k : Bool) (ds : List D), st[i]? = some (.own k ds) → ρ[i]? ≠ some (some (.ref a))) (h : H a = some (.lst vs)) (nf : ¬ F a) (q : Rps K F H vs ds) :
    Rs K F (st ++ [.own k ds]) (ρ ++ [some (.ref a)]) H where
  len := by simp [r.len]
  slot := fun i s e => by
    by_cases hi : i < st.length
    · rw [List.getElem?_append_left hi] at e
      rw [List.getElem?_append_left (by have := r.len; omega)]
      exact r.slot i s e
    · have hi' : i = st.length := by
        have := (List.getElem?_eq_some_iff.mp e).1
        simp at this; omega
      subst hi'
      simp at e
      subst e
      refine ⟨a, vs, ?_, h, nf, q⟩
      rw [r.len]; simp
  dis := fun i j b k1 d1 k2 d2 e1 e2 f1 f2 => by
    have hl := r.len
    have case : ∀ (n : Nat) (kk : Bool) (dd : List D), (st ++ [Slot.own k ds])[n]? = some (.own kk dd) → (ρ ++ [some (V.ref a)])[n]? = some (some (.ref b)) → (st[n]? = some (.own kk dd) ∧ ρ[n]? = some (some (.ref b))) ∨ (n = st.length ∧ b = a) := fun n kk dd g1 g2 => by
      by_cases hi : n < st.length
      · rw [List.getElem?_append_left hi] at g1
        rw [List.getElem?_append_left (by omega)] at g2
        exact .inl ⟨g1, g2⟩
      · have hi' : n = st.length := by
          have := (List.getElem?_eq_some_iff.mp g1).1
          simp at this; omega
        subst hi'
        rw [hl] at g2
        simp at g2
        exact .inr ⟨rfl, g2.symm⟩
    rcases case i _ _ e1 f1 with ⟨g1, g2⟩ | ⟨g1, g2⟩
    · rcases case j _ _ e2 f2 with ⟨g3, g4⟩ | ⟨g3, g4⟩
      · exact r.dis i j b _ _ _ _ g1 g3 g2 g4
      · subst g4; exact absurd g2 (hn i _ _ g1)
    · rcases case j _ _ e2 f2 with ⟨g3, g4⟩ | ⟨g3, g4⟩
      · subst g2; exact absurd g4 (hn j _ _ g3)
      · rw [g1, g3]
  live := r.live
  tab := r.tab
theorem alloc_ok {s : Slot} {v : V} (r : Rs K F st ρ H) (g : Grow K F H F' H' s v) {w : Vl} (h : alloc s st = .ok w st') : ∃ τ, Stp P K st ρ F H st' (ρ ++ τ) F' H' ∧ Rv K F' H' (ρ ++ τ) v w := by
  cases s with
  | emp => cases h
  | val d =>
    cases h
    refine ⟨[], ?_, ?_⟩
    · rw [List.append_nil]; exact Stp.grow r g
    · exact g.res
  | own k ds =>
    cases h
    obtain ⟨a, vs, rfl, e1, e2, e3, e4⟩ := g.res
    have hn : ∀ (i : Nat) (k : Bool) (ds : List D), st[i]? = some (.own k ds) → ρ[i]? ≠ some (some (.ref a)) := fun i k ds q z => by
      obtain ⟨u, hu⟩ := r.own_live ⟨i, k, ds, q, z⟩
      rw [e1] at hu; cases hu
    refine ⟨[some (.ref a)], ⟨(r.grow g).snoc_own hn e2 e3 e4, fun x o h _ => .inl (g.keep x o h), g.mono, fun x h => (g.back x h).elim .inl fun z => .inr (.inr z), fun x h => ?_, fun i s _ e l => ?_⟩, ?_⟩
    · rcases own_snoc r.len h with z | z
      · exact .inl z
      · cases z; exact .inr e1
    · have hi := (List.getElem?_eq_some_iff.mp e).1
      refine ⟨?_, s, ?_, l⟩
      · rw [List.getElem?_append_left (by have := r.len; omega)]
      · rw [List.getElem?_append_left hi]; exact e
    · show (ρ ++ [some (V.ref a)])[st.length]? = some (some (V.ref a))
      rw [r.len]; simp
/-! ### a list is let go into data -/
def frz (v : Vl) : M D := fun st => match v with
  | .dat d => .ok d st
  | .loc i => match st[i]? with
    | some (.val d) => .ok d st
    | some (.own false ds) => .ok (.lst ds) (st.set i (.val (.lst ds)))
    | _ => .stuck
theorem frz_ok {v : Vl} {d : D} {x : V} (r : Rs K F st ρ H) (q : Rv K F H ρ x v) (h : frz v st = .ok d st') : ∃ F', Stp P K st ρ F H st' ρ F' H ∧ Rp K F' H x d := by
  cases v with
  | dat e => cases h; exact ⟨F, Stp.refl r, q⟩
  | loc i =>
    unfold frz at h
    dsimp only at h
    split at h
    · rename_i e he
      cases h
      obtain ⟨w, e1, e2⟩ := r.slot i _ he
      rw [show ρ[i]? = some (some x) from q] at e1
      cases e1
      exact ⟨F, Stp.refl r, e2⟩
    · rename_i ds he
      cases h
      obtain ⟨a, vs, e1, e2, e3, e4⟩ := r.slot i _ he
      have e1' := e1
      rw [show ρ[i]? = some (some x) from q] at e1
      cases e1
      have mono : ∀ b, F b → (F b ∨ b = a) := fun b h => .inl h
      have hrp : Rp K (fun b => F b ∨ b = a) H (.ref a) (.lst ds) := .lst (.inr rfl) (.inl e2) (e4.move mono fun _ _ _ h => h)
      have hi := (List.getElem?_eq_some_iff.mp he).1
      refine ⟨fun b => F b ∨ b = a, ⟨⟨by rw [List.length_set]; exact r.len, fun j s e => ?_, fun j l b k1 d1 k2 d2 g1 g2 g3 g4 => ?_, fun b h => ?_, r.tab⟩, fun _ _ h _ => .inl h, mono, fun b h => ?_, fun b h => ?_, fun j s _ e l => ⟨rfl, ?_⟩⟩, hrp⟩
      · by_cases hj : i = j
        · subst hj
          rw [List.getElem?_set_self hi] at e
          cases e
          exact ⟨.ref a, e1', hrp⟩
        · rw [List.getElem?_set_ne hj] at e
          have z := r.slot j s e
          cases s with
          | emp => trivial
          | val d => obtain ⟨v, y1, y2⟩ := z; exact ⟨v, y1, y2.move mono fun _ _ _ h => h⟩
          | own k ds' =>
            obtain ⟨b, ws, y1, y2, y3, y4⟩ := z
            refine ⟨b, ws, y1, y2, fun f => ?_, y4.move mono fun _ _ _ h => h⟩
            rcases f with f | f
            · exact y3 f
            · subst f
              exact hj (r.dis i j b _ _ _ _ he e e1' y1)
      · by_cases hj : i = j
        · subst hj; rw [List.getElem?_set_self hi] at g1; cases g1
        · by_cases hl : i = l
          · subst hl; rw [List.getElem?_set_self hi] at g2; cases g2
          · rw [List.getElem?_set_ne hj] at g1
            rw [List.getElem?_set_ne hl] at g2
            exact r.dis j l b _ _ _ _ g1 g2 g3 g4
      · rcases h with h | h
        · exact r.live b h
        · subst h; exact ⟨_, e2⟩
      · rcases h with h | h
        · exact .inl h
        · subst h; exact .inr (.inl ⟨i, _, _, he, e1'⟩)
      · obtain ⟨j, k, ds', y1, y2⟩ := h
        by_cases hj : i = j
        · subst hj; rw [List.getElem?_set_self hi] at y1; cases y1
        · rw [List.getElem?_set_ne hj] at y1
          exact .inl ⟨j, k, ds', y1, y2⟩
      · by_cases hj : i = j
        · subst hj; exact ⟨_, List.getElem?_set_self hi, rfl⟩
        · exact ⟨s, by rw [List.getElem?_set_ne hj]; exact e, l⟩
    · cases h
end
end PU
namespace PU
open PySem PySem.Spec PyProof.Rows L2
/-! ### own exceptions: the text of __init__ -/
def xArg (x : Str × Pos) : Arg := { arg := x.1, annotation := none, pos := x.2 }
def xArgs (l : List (Str × Pos)) : Arguments := { posonlyargs := [], args := l.map xArg, vararg := none, kwonlyargs := [], kw_defaults := [], kwarg := none, defaults := [] }
def xSt (f : Str) (q : Pos × Pos × Pos × Pos) : Stmt := .Assign [.Attribute (.Name "self" q.1) f q.2.1] (.Name f q.2.2.1) q.2.2.2
def xSc (fs : List Str) : Scope := { kind := .function, names := ("self", .local) :: fs.map fun f => (f, .local), isGenerator := false, isCoroutine := false, more := [] }
/-- what the written part says of a class at C whose __init__ is at fI -/
structure XT (K : PySem.W.Frag) (C fI : Addr) (fs : List Str) (bmB : List Value) (newId : String) : Prop where
  ini : PySem.W.excInitIn K C bmB newId = true
  ovr : PySem.W.excOver K C bmB = true
  sa : PySem.W.findIn K (.ref C) "__setattr__" = some (some (.builtin "object.__setattr__"))
  ga : PySem.W.findIn K (.ref C) "__getattribute__" = some (some (.builtin "BaseException.__getattribute__"))
  gg : PySem.W.findIn K (.ref C) "__getattr__" = some none
  noN : ∀ f ∈ fs, PySem.W.findIn K (.ref C) f = some none
  iC : PySem.W.findIn K (.ref C) "__init__" = some (some (.ref fI))
  tC : PySem.W.typeIn K (.ref fI) = some (.type "function")
  kC : PySem.W.keepIn K (.ref C) = true
  exC : PySem.W.subIn K (.ref C) (.type "BaseException") = some true
  tyC : PySem.W.typeIn K (.ref C) = some (.type "type")
  hdC : PySem.W.hasDictIn K C = true
  fn : ∃ (oc : Value) (od : Option Addr) (qn : Str) (doc pm : Value) (an : Option Addr) (cdv ct : Value) (osl : Array (Option Value)) (ps : List Pos) (qs : List (Pos × Pos × Pos × Pos)),
    K.lookup fI = some ⟨oc, od, .func (PySem.W.fnOf "__init__" qn (xArgs ((("self" : Str) :: fs).zip ps)) (List.zipWith xSt fs qs) (xSc fs) .none .none doc pm an cdv ct), osl⟩ ∧ PySem.W.codeIn K cdv qn = true ∧ ps.length = fs.length + 1 ∧ qs.length = fs.length
/-- which built-in class stands at the bottom -/
structure XB (B newId initId : String) (bmB : List Value) : Prop where
  F : ExcBaseFacts B newId initId bmB
  S : StoreFacts B bmB "object.__setattr__" "object"
section
variable {prog : Program} {w : World} {A : Around} {E : Value → Shared → Prop} {R : Result → Shared → Prop} {s : Shared} {K : PySem.W.Frag} {C fI : Addr} {fs : List Str} {bmB : List Value} {B newId initId : String}
open Builtin Builtin.ObjectAttr
/-- the first field of a new exception -/
theorem x_first {x t0 : Addr} {f : Str} {v : Value} {Q : Unit → Shared → Prop} (T : XT K C fI fs bmB newId) (Y : XB B newId initId bmB) (X : K.In s.heap) (hf : f ∈ fs) (hx : s.heap.get? x = some (PX.excO C t0))
    (fin : ∀ h' tk dx, (∀ b o, b ≠ x → s.heap.get? b = some o → h'.get? b = some o) → s.heap.objs.size ≤ dx → dx ≠ x → h'.get? x = some { cls := .ref C, dict := some dx, data := .fields #[.ref t0, .none, .none, .none, .bool false, .none] } → h'.Ns1 dx (fun y => if y = f then some v else none) → Q () { s with heap := h', toks := tk }) :
    wpAny (model prog w) A (setAttr (.ref x) f v) Q E s := by
  obtain ⟨hp, g, d, t, os⟩ := s
  have I : PySem.W.InstAt hp x (PX.excO C t0) C none := ⟨hx, rfl, rfl, trivial⟩
  refine PySem.W.set_plain X I T.sa ?_
  refine PySem.W.osa_openX (r := none) Y.S X I T.ovr (by unfold PySem.W.takerIn; rw [T.noN f hf] <;> rfl) fun b => ?_
  obtain ⟨cd, hc, hd⟩ := PySem.W.any_some T.hdC
  have hcls : PySem.W.Looks (model prog w) hp (classData C) cd := PySem.W.looks_clsIn X hc
  have ne : x ≠ hp.objs.size := Nat.ne_of_lt (Heap.lt_size hx)
  obtain ⟨nm, bs, mro, ns, qn, hdt, sn, sb, ab, col, del⟩ := cd
  dsimp only at hd
  subst hd
  show wpAny _ _ (storeInOwnDict (.ref x) (.ref C) (.str f t) f v b) _ _ _
  unfold storeInOwnDict ownDictForStores
  repeat (first | with_reducible refine HandSPX.store_in_new ?_ ?_ | with_reducible refine wpAny_loadPart_at hx ?_ | with_reducible refine hcls.at ?_ | wp_step)
  · exact ⟨_, #[], _, (Heap.get?_update_ne _ _ _ _ (Ne.symm ne)).trans (Heap.get?_push_at rfl rfl), rfl, fun e he => absurd he (by simp), fun _ => rfl⟩
  · intro h' tk' n' sb
    have px : (hp.push { cls := .type "dict", data := .dict #[] }).get? x = some (PX.excO C t0) := Heap.get?_push_of_some _ hx
    refine fin h' tk' hp.objs.size (fun b o nb e => ?_) (Nat.le_refl _) (Ne.symm ne) ?_ n'
    · exact (sb.2 b (Nat.ne_of_lt (Heap.lt_size e))).trans ((Heap.get?_update_ne _ _ _ _ nb).trans (Heap.get?_push_of_some _ e))
    · exact (sb.2 x ne).trans (Heap.get?_update_self _ px rfl)
/-- a further field -/
theorem x_next {x t0 dx : Addr} {f : Str} {v : Value} {m0 : Str → Option Value} {nl : List Str} {Q : Unit → Shared → Prop} (T : XT K C fI fs bmB newId) (Y : XB B newId initId bmB) (X : K.In s.heap) (hf : f ∈ fs)
    (hx : s.heap.get? x = some { cls := .ref C, dict := some dx, data := .fields #[.ref t0, .none, .none, .none, .bool false, .none] }) (hn : s.heap.Ns1 dx m0) (hw : PySem.Within m0 nl) (hz : nl.length ≤ 1000)
    (fin : ∀ h' tk, (∀ b o, b ≠ dx → s.heap.get? b = some o → h'.get? b = some o) → h'.Ns1 dx (fun y => if y = f then some v else m0 y) → Q () { s with heap := h', toks := tk }) :
    wpAny (model prog w) A (setAttr (.ref x) f v) Q E s := by
  obtain ⟨hp, g, d, t, os⟩ := s
  obtain ⟨oD, _, _, hoD, _, _⟩ := hn.count hw
  have I : PySem.W.InstAt hp x { cls := .ref C, dict := some dx, data := .fields #[.ref t0, .none, .none, .none, .bool false, .none] } C (some oD) := ⟨hx, rfl, rfl, hoD⟩
  refine PySem.W.set_plain X I T.sa ?_
  refine PySem.W.osa_openX (r := none) Y.S X I T.ovr (by unfold PySem.W.takerIn; rw [T.noN f hf] <;> rfl) fun b => ?_
  obtain ⟨cd, hc, hd⟩ := PySem.W.any_some T.hdC
  have hcls : PySem.W.Looks (model prog w) hp (classData C) cd := PySem.W.looks_clsIn X hc
  obtain ⟨nm, bs, mro, ns, qn, hdt, sn, sb, ab, col, del⟩ := cd
  dsimp only at hd
  subst hd
  show wpAny _ _ (storeInOwnDict (.ref x) (.ref C) (.str f t) f v b) _ _ _
  unfold storeInOwnDict ownDictForStores
  repeat (first | with_reducible refine OEX.store_in_old hn hw hz ?_ | with_reducible refine wpAny_loadPart_at hx ?_ | with_reducible refine hcls.at ?_ | wp_step)
  intro h' tk' n' sb
  exact fin h' tk' (fun b o nb e => (sb.2 b nb).trans e) n'
/-- what __init__ leaves of a new exception at x -/
structure XEnd (h h' : Heap) (x C dx t0 : Addr) (m : Str → Option Value) : Prop where
  keep : ∀ b o, b ≠ x → h.get? b = some o → h'.get? b = some o
  obj : h'.get? x = some { cls := .ref C, dict := some dx, data := .fields #[.ref t0, .none, .none, .none, .bool false, .none] }
  big : h.objs.size ≤ dx
  ne : dx ≠ x
  ns : h'.Ns1 dx m
theorem ldX {M : Model} {s : Shared} {name : Str} {scope : Scope} {L a : Addr} {cd : Value} {m : Str → Option Value} {x : Str} {pos : Pos} {v : Value} {Q : Value → Shared → Prop} {A : Around} {E : Value → Shared → Prop} (hn : s.heap.Ns L m) (hv : m x = some v)
    (hk : scope.kind = .function) (hl : (envOfC name scope L a cd).kindOf x = some .local) (hd : (x == ("__debug__" : Str)) = false) (h : Q v s) : wpAny M A (eval (.Name x pos) (envOfC name scope L a cd)) Q E s := wpAny_Name (wpAny_loadName_local hk hl hn hv h) hd
/-- what the names of the fields ask, by looking -/
structure XF1 (f : Str) : Prop where
  bnd : ∀ (qn : Str) (doc pm cdv ct : Value) (an : Option Addr) (p1 p2 : Pos) (q : Pos × Pos × Pos × Pos) (x v : Value), bindArgs (PySem.W.fnOf "__init__" qn (xArgs [(("self" : Str), p1), (f, p2)]) [xSt f q] (xSc [f]) .none .none doc pm an cdv ct) ⟨[x, v], []⟩ = pure [(("self" : Str), x), (f, v)]
  knd : ∀ (qn : Str) (L a : Addr) (cd : Value), (envOfC qn (xSc [f]) L a cd).kindOf "self" = some .local ∧ (envOfC qn (xSc [f]) L a cd).kindOf f = some .local
  loc : (xSc [f]).names.lookup ("self" : Str) = some .local ∧ (xSc [f]).names.lookup f = some .local
  lkp : ∀ (qn : Str) (L a : Addr) (cd x v : Value), bindL (envOfC qn (xSc [f]) L a cd).kindOf [(("self" : Str), x), (f, v)] (fun _ => none) "self" = some x ∧ bindL (envOfC qn (xSc [f]) L a cd).kindOf [(("self" : Str), x), (f, v)] (fun _ => none) f = some v
  dbg : (f == ("__debug__" : Str)) = false
theorem x_init1 {f : Str} (T : XT K C fI [f] bmB newId) (Y : XB B newId initId bmB) (N : XF1 f) {x t0 : Addr} {v : Value} (X : K.In s.heap) (lim : s.heap.NoLimit) (hx : s.heap.get? x = some (PX.excO C t0)) (room : A.depth < recursionLimit)
    (fin : ∀ h' tk dx, XEnd s.heap h' x C dx t0 (fun y => if y = f then some v else none) → R (.ok (.ret .none)) { s with heap := h', toks := tk }) : codeAny (model prog w) A (.call (.ref fI) ⟨[.ref x, v], []⟩) R s := by
  obtain ⟨oc, od, qn, doc, pm, an, cdv, ct, osl, ps, qs, lk, hcd, lp, lq⟩ := T.fn
  obtain ⟨p1, p2, rfl⟩ : ∃ p1 p2, ps = [p1, p2] := match ps, lp with | [p1, p2], _ => ⟨p1, p2, rfl⟩
  obtain ⟨q, rfl⟩ : ∃ q, qs = [q] := match qs, lq with | [q], _ => ⟨q, rfl⟩
  refine Att.call_fn (binds := [(("self" : Str), .ref x), (f, v)]) X lim lk hcd room (BindsTo.of_eq (N.bnd ..)) ?kind (fun s1 IC => ?_) rfl rfl rfl
  case kind => simp [N.loc]
  obtain ⟨h1, tk1, rfl⟩ := IC.toInCall.same
  have k : ∀ b o, s.heap.get? b = some o → h1.get? b = some o := IC.toInCall.keep
  have hn := IC.toInCall.ns
  have kd := N.knd qn s.heap.objs.size fI cdv
  have lkp := N.lkp qn s.heap.objs.size fI cdv (.ref x) v
  show wpAny _ _ (execs [xSt f q] _) _ _ _
  refine wpAny_execs_cons (plainObj_wpAny_Assign_Attribute ?_)
  refine ldX hn lkp.2 rfl kd.2 N.dbg (ldX hn lkp.1 rfl kd.1 (by decide) ?_)
  refine x_first T Y (X.keeps k) (List.mem_cons_self ..) (k _ _ hx) fun h3 tk3 dx k3 big ne obj ns => ?_
  have hlt : s.heap.objs.size ≤ h1.objs.size := Nat.le_of_lt hn.lt
  exact wpAny_execs_nil (fin h3 tk3 dx ⟨fun b o nb e => k3 b o nb (k b o e), obj, Nat.le_trans hlt big, ne, ns⟩)
structure XF2 (f g : Str) : Prop where
  bnd : ∀ (qn : Str) (doc pm cdv ct : Value) (an : Option Addr) (p1 p2 p3 : Pos) (q r : Pos × Pos × Pos × Pos) (x v u : Value), bindArgs (PySem.W.fnOf "__init__" qn (xArgs [(("self" : Str), p1), (f, p2), (g, p3)]) [xSt f q, xSt g r] (xSc [f, g]) .none .none doc pm an cdv ct) ⟨[x, v, u], []⟩ = pure [(("self" : Str), x), (f, v), (g, u)]
  knd : ∀ (qn : Str) (L a : Addr) (cd : Value), (envOfC qn (xSc [f, g]) L a cd).kindOf "self" = some .local ∧ (envOfC qn (xSc [f, g]) L a cd).kindOf f = some .local ∧ (envOfC qn (xSc [f, g]) L a cd).kindOf g = some .local
  loc : (xSc [f, g]).names.lookup ("self" : Str) = some .local ∧ (xSc [f, g]).names.lookup f = some .local ∧ (xSc [f, g]).names.lookup g = some .local
  lkp : ∀ (qn : Str) (L a : Addr) (cd x v u : Value), bindL (envOfC qn (xSc [f, g]) L a cd).kindOf [(("self" : Str), x), (f, v), (g, u)] (fun _ => none) "self" = some x ∧ bindL (envOfC qn (xSc [f, g]) L a cd).kindOf [(("self" : Str), x), (f, v), (g, u)] (fun _ => none) f = some v ∧
    bindL (envOfC qn (xSc [f, g]) L a cd).kindOf [(("self" : Str), x), (f, v), (g, u)] (fun _ => none) g = some u
  dbg : (f == ("__debug__" : Str)) = false ∧ (g == ("__debug__" : Str)) = false
theorem x_init2 {f g : Str} (T : XT K C fI [f, g] bmB newId) (Y : XB B newId initId bmB) (N : XF2 f g) {x t0 : Addr} {v u : Value} (X : K.In s.heap) (lim : s.heap.NoLimit) (hx : s.heap.get? x = some (PX.excO C t0)) (hnx : K.lookup x = none) (room : A.depth < recursionLimit)
    (fin : ∀ h' tk dx, XEnd s.heap h' x C dx t0 (fun y => if y = g then some u else if y = f then some v else none) → R (.ok (.ret .none)) { s with heap := h', toks := tk }) : codeAny (model prog w) A (.call (.ref fI) ⟨[.ref x, v, u], []⟩) R s := by
  obtain ⟨oc, od, qn, doc, pm, an, cdv, ct, osl, ps, qs, lk, hcd, lp, lq⟩ := T.fn
  obtain ⟨p1, p2, p3, rfl⟩ : ∃ p1 p2 p3, ps = [p1, p2, p3] := match ps, lp with | [p1, p2, p3], _ => ⟨p1, p2, p3, rfl⟩
  obtain ⟨q, r, rfl⟩ : ∃ q r, qs = [q, r] := match qs, lq with | [q, r], _ => ⟨q, r, rfl⟩
  refine Att.call_fn (binds := [(("self" : Str), .ref x), (f, v), (g, u)]) X lim lk hcd room (BindsTo.of_eq (N.bnd ..)) ?kind (fun s1 IC => ?_) rfl rfl rfl
  case kind => simp [N.loc]
  obtain ⟨h1, tk1, rfl⟩ := IC.toInCall.same
  have k : ∀ b o, s.heap.get? b = some o → h1.get? b = some o := IC.toInCall.keep
  have hn := IC.toInCall.ns
  have kd := N.knd qn s.heap.objs.size fI cdv
  have lkp := N.lkp qn s.heap.objs.size fI cdv (.ref x) v u
  have hLx : s.heap.objs.size ≠ x := Nat.ne_of_gt (Heap.lt_size hx)
  have hlt : s.heap.objs.size < h1.objs.size := hn.lt
  show wpAny _ _ (execs [xSt f q, xSt g r] _) _ _ _
  refine wpAny_execs_cons (plainObj_wpAny_Assign_Attribute ?_)
  refine ldX hn lkp.2.1 rfl kd.2.1 N.dbg.1 (ldX hn lkp.1 rfl kd.1 (by decide) ?_)
  refine x_first T Y (X.keeps k) (List.mem_cons_self ..) (k _ _ hx) fun h3 tk3 dx k3 big ne obj ns => ?_
  have X1 : K.In h1 := X.keeps k
  have hn3 := hn.at' (h' := h3) fun o e => k3 _ o hLx e
  have X3 : K.In h3 := fun a o e =>
    k3 a o (fun z => by rw [z, hnx] at e; cases e) (X1 a o e)
  show wpAny _ _ (execs [xSt g r] _) _ _ _
  refine wpAny_execs_cons (plainObj_wpAny_Assign_Attribute ?_)
  refine ldX hn3 lkp.2.2 rfl kd.2.2 N.dbg.2 (ldX hn3 lkp.1 rfl kd.1 (by decide) ?_)
  refine x_next T Y X3 (List.mem_cons_of_mem _ (List.mem_cons_self ..)) obj ns (PySem.Within.cons f v PySem.Within.nil) (by simp) fun h4 tk4 k4 ns4 => ?_
  have dn : ∀ b o, s.heap.get? b = some o → b ≠ dx := fun b o e => Nat.ne_of_lt (Nat.lt_of_lt_of_le (Heap.lt_size e) (Nat.le_trans (Nat.le_of_lt hlt) big))
  exact wpAny_execs_nil (fin h4 tk4 dx ⟨fun b o nb e => k4 b o (dn b o e) (k3 b o nb (k b o e)), k4 x _ (Ne.symm ne) obj, Nat.le_trans (Nat.le_of_lt hlt) big, ne, ns4⟩)
end
end PU
namespace PU
open PySem PySem.Spec PyProof.Rows L2
/-! ### own exceptions: made -/
structure XMade (h h' : Heap) (e C d : Addr) (m : Str → Option Value) : Prop where
  keep : ∀ b o, h.get? b = some o → h'.get? b = some o
  new : h.objs.size ≤ e
  obj : ∃ t0, h'.get? e = some { cls := .ref C, dict := some d, data := .fields #[.ref t0, .none, .none, .none, .bool false, .none] }
  big : h.objs.size ≤ d
  ne : d ≠ e
  ns : h'.Ns1 d m
section
variable {prog : Program} {w : World} {A : Around} {E : Value → Shared → Prop} {R : Result → Shared → Prop} {s : Shared} {K : PySem.W.Frag} {C fI : Addr} {fs : List Str} {bmB : List Value} {B newId initId : String}
theorem x_call {us : List Value} {m : Str → Option Value} (T : XT K C fI fs bmB newId) (Y : XB B newId initId bmB) (hus : us.length ≤ sizeLine) (X : K.In s.heap) (lim : s.heap.NoLimit) (room : A.depth + 1 < recursionLimit)
    (ini : ∀ (A' : Around) (R' : Result → Shared → Prop) (s' : Shared) (x t0 : Addr), K.In s'.heap → s'.heap.NoLimit → s'.heap.get? x = some (PX.excO C t0) → K.lookup x = none → A'.depth < recursionLimit →
      (∀ h' tk dx, XEnd s'.heap h' x C dx t0 m → R' (.ok (.ret .none)) { s' with heap := h', toks := tk }) → codeAny (model prog w) A' (.call (.ref fI) ⟨.ref x :: us, []⟩) R' s')
    (fin : ∀ h' tk e d, XMade s.heap h' e C d m → R (.ok (.ret (.ref e))) { s with heap := h', toks := tk }) : codeAny (model prog w) A (.call (.ref C) ⟨us, []⟩) R s := by
  obtain ⟨nm, q, N, bs, bm, hdct, sn, sub, ab, col, dd, k0, k1, k2, k3, k5, hC, hT⟩ := PySem.W.excInit_of X T.ini
  obtain ⟨hp, g, dr, tk, os⟩ := s
  have k : ∀ b o, hp.get? b = some o → ((hp.push (PySem.W.kdv_tup us)).push (PX.excO C hp.objs.size)).get? b = some o := fun b o e => Heap.get?_push_of_some _ (Heap.get?_push_of_some _ e)
  have hget : ((hp.push (PySem.W.kdv_tup us)).push (PX.excO C hp.objs.size)).get? (hp.objs.size + 1) = some (PX.excO C hp.objs.size) := by heap_get
  have hnx : K.lookup (hp.objs.size + 1) = none := by
    cases e : K.lookup (hp.objs.size + 1) with
    | none => rfl
    | some o => exact absurd (Nat.lt_of_succ_lt (Heap.lt_size (X _ _ e))) (Nat.lt_irrefl _)
  refine PX.call_own Y.F hT hC (PySem.W.looks_findIn X T.iC) (fun self => PySem.W.bind_fn X self T.tC) hus ?_
  refine ini _ _ ⟨(hp.push (PySem.W.kdv_tup us)).push (PX.excO C hp.objs.size), g, dr, tk, os⟩ _ _ (X.keeps k) (lim.keeps k) hget hnx room fun h' tk' dx z => ?_
  have old : ∀ b o, hp.get? b = some o → h'.get? b = some o := fun b o e => z.keep b o (Nat.ne_of_lt (Nat.lt_succ_of_lt (Heap.lt_size e))) (k b o e)
  have sz : hp.objs.size + 1 + 1 ≤ dx := by
    have := z.big
    simpa only [Heap.size_push] using this
  exact ⟨rfl, fin h' tk' _ dx ⟨old, Nat.le_succ _, ⟨_, z.obj⟩, (show hp.objs.size ≤ dx by omega), z.ne, z.ns⟩⟩
end
/-- an own exception class: at C, its fields -/
inductive ExK (K : PySem.W.Frag) (C : Addr) : List Str → Prop
  | non {B newId initId : String} {bmB : List Value} : ExcBaseFacts B newId initId bmB → PySem.W.excIn K C bmB newId = true → ExK K C []
  | one {B newId initId : String} {bmB : List Value} {f : Str} {fI : Addr} : XT K C fI [f] bmB newId → XB B newId initId bmB → XF1 f → ExK K C [f]
  | two {B newId initId : String} {bmB : List Value} {f g : Str} {fI : Addr} : XT K C fI [f, g] bmB newId → XB B newId initId bmB → XF2 f g → f ≠ g → ExK K C [f, g]
structure ExCls (K : PySem.W.Frag) (C : Addr) (fs : List Str) : Prop where
  keep : PySem.W.keepIn K (.ref C) = true
  sub : PySem.W.subIn K (.ref C) (.type "BaseException") = some true
  ty : PySem.W.typeIn K (.ref C) = some (.type "type")
  k : ExK K C fs
/-- the dict of an exception -/
def XD (fs : List Str) (vs : List V) (H1 : Hp) (d : Option Addr) (H' : Hp) : Prop := (fs = [] ∧ d = none ∧ H' = H1) ∨ fs ≠ [] ∧ ∃ a, d = some a ∧ H1 a = none ∧ H' = upd H1 a (.xd (fs.zip vs))
theorem rel_one {f : Str} {v : V} {v' : Value} (r : RelV v v') (y : Str) : RelO (List.lookup y [(f, v)]) (if y = f then some v' else none) := by
  by_cases h : y = f
  · subst h
    rw [if_pos rfl, List.lookup_cons, beq_self_eq_true]
    exact r
  · rw [if_neg h, List.lookup_cons, show (y == f) = false by simpa using h]
    trivial
theorem rel_two {f g : Str} {v u : V} {v' u' : Value} (ne : f ≠ g) (r : RelV v v') (t : RelV u u') (y : Str) : RelO (List.lookup y [(f, v), (g, u)]) (if y = g then some u' else if y = f then some v' else none) := by
  by_cases h : y = g
  · subst h
    rw [if_pos rfl, List.lookup_cons, show (y == f) = false by simpa using Ne.symm ne, List.lookup_cons, beq_self_eq_true]
    exact t
  · rw [if_neg h, List.lookup_cons]
    by_cases q : y = f
    · subst q
      rw [if_pos rfl, beq_self_eq_true]
      exact r
    · rw [if_neg q, show (y == f) = false by simpa using q, List.lookup_cons, show (y == g) = false by simpa using h]
      trivial
section
variable {X : Cx}
/-- what a made exception is to the rest -/
theorem mk_end {C e d : Addr} {m : Str → Option Value} {h' : Heap} {tk : Nat} {pins : List (Addr × Obj)} {σ : St} {H1 : Hp} {s1 : Shared} {Q : XK} {xs : List (Str × V)} (I1 : Inv X pins σ H1 s1) (M : XMade s1.heap h' e C d m) (hs : PySem.W.subIn X.K (.ref C) (.type "BaseException") = some true) (ht : PySem.W.typeIn X.K (.ref C) = some (.type "type"))
    (rel : ∀ y, RelO (List.lookup y xs) (m y)) (q : H1 d = none → Q (.ref C) (some d) (upd H1 d (.xd xs))) : MkP X pins σ Q (.ref e) { s1 with heap := h', toks := tk } := by
  obtain ⟨hp, g, dr, tk0, os⟩ := s1
  obtain ⟨t0, hoe⟩ := M.obj
  obtain ⟨G', g1, g2⟩ := restrict h' fun b => decide (b ≠ e)
  have gk : ∀ b, b ≠ e → G'.get? b = h'.get? b := fun b hb => g1 b (decide_eq_true hb)
  have ge : G'.get? e = none := g2 e (by simp)
  have old : ∀ b o, hp.get? b = some o → G'.get? b = some o := fun b o z => (gk b (Nat.ne_of_lt (Nat.lt_of_lt_of_le (Heap.lt_size z) M.new))).trans (M.keep b o z)
  have ob : ObjOk X.prog X.w (upd H1 d (.xd xs)) G' d (.xd xs) := ⟨_, M.ns.at (fun o z => (gk d M.ne).trans z), rel⟩
  have J : Inv X pins σ (upd H1 d (.xd xs)) ⟨G', g, dr, tk, os⟩ := I1.laid (t' := tk) old M.big ob
  refine ⟨e, _, _, ⟨G', g, dr, tk, os⟩, _, .ref C, some d, rfl, J, fun b o z => ?_, ge, hoe, ⟨rfl, rfl⟩, rfl, rfl, ?_, rfl, I1.bare, raises_own hs ht, q (I1.hok.fresh M.big)⟩
  · by_cases hb : b = e
    · rw [hb] at z; exact absurd (z.symm.trans ge) (by simp)
    · exact (gk b hb).symm.trans z
  · rw [upd_ne (Ne.symm M.ne)]
    exact I1.hok.fresh M.new
theorem len_small {us : List Value} (h : us.length ≤ 2) : us.length ≤ sizeLine := by
  rw [sizeLine_eq]; omega
theorem mk_run {C : Addr} {fs : List Str} {k : Nat} {pins : List (Addr × Obj)} {σ : St} {H1 : Hp} {s1 : Shared} {us : List Value} {vs : List V} {Q : XK} (hr : Room k X.A) (G : ExCls X.K C fs) (I1 : Inv X pins σ H1 s1) (rv : Vals vs us) (hl : vs.length = fs.length)
    (q : ∀ d H', XD fs vs H1 d H' → Q (.ref C) d H') : wpAny (model X.prog X.w) X.A (call (.ref C) us) (MkP X pins σ Q) X.xe s1 := by
  have room : X.A.depth + 1 < recursionLimit := by have := hr.dp; omega
  have lu : us.length = vs.length := rv.length.symm
  cases G.k with
  | non F e =>
    obtain ⟨bm, N, nm, qn, bs, hdct, sn, sub, ab, col, dd, k0, k1, k2, k3, k5, mN, hC, hN, hni, T⟩ := exc_obj I1.kIn e
    refine wpAny_call_exc_subT F T hC hN hni (fun h' e hm => ?_) (len_small (by rw [lu, hl]; simp))
    exact mk_of I1 hm (raises_own G.sub G.ty) (q none H1 (.inl ⟨rfl, rfl, rfl⟩)) (I1.hok.gone hm.new)
  | one T Y N =>
    match vs, us, rv, hl with
    | [v], [_], .cons r .nil, _ =>
      refine wpAny_call (x_call T Y (len_small (by simp)) I1.kIn I1.nolimit room (fun A' R' s' x t0 a b c d e fin => x_init1 T Y N a b c e fin) fun h' tk e d M => ?_)
      exact mk_end (xs := [(_, v)]) I1 M G.sub G.ty (rel_one r) fun z => q _ _ (.inr ⟨by simp, d, rfl, z, rfl⟩)
  | two T Y N ne =>
    match vs, us, rv, hl with
    | [v, u], [_, _], .cons r (.cons t .nil), _ =>
      refine wpAny_call (x_call T Y (len_small (by simp)) I1.kIn I1.nolimit room (fun A' R' s' x t0 a b c d e fin => x_init2 T Y N a b c d e fin) fun h' tk e d M => ?_)
      exact mk_end (xs := [(_, v), (_, u)]) I1 M G.sub G.ty (rel_two ne r t) fun z => q _ _ (.inr ⟨by simp, d, rfl, z, rfl⟩)
end
end PU
namespace PU
open PySem PySem.Spec PyProof.Rows L2
abbrev Cx := L2.Cx
/-! ### the weakest readings -/
def WE (X : Cx) (e : Expr) (σ : St) (H : Hp) (Q : VK) : Prop := ∀ pins s, Inv X pins σ H s → wpAny (model X.prog X.w) X.A (eval e X.env) (EP X pins σ Q) X.xe s
def WT (X : Cx) (e : Expr) (σ : St) (H : Hp) (Q : Bool → Hp → Prop) : Prop := ∀ pins s, Inv X pins σ H s → wpAny (model X.prog X.w) X.A (isTrue e X.env (eval e X.env)) (TP X pins σ Q) X.xe s
def WTw (X : Cx) (e : Expr) (σ : St) (H : Hp) (Q : Bool → Hp → Prop) : Prop := ∀ (whole : Sem Value) pins s, Inv X pins σ H s → wpAny (model X.prog X.w) X.A (isTrue e X.env whole) (TP X pins σ Q) X.xe s
def WA (X : Cx) (es : List Expr) (σ : St) (H : Hp) (Q : List V → Hp → Prop) : Prop := ∀ pos pins s, Inv X pins σ H s → wpAny (model X.prog X.w) X.A (spliced (backTo pos (starEach es X.env))) (AP X pins σ Q) X.xe s
def WS (X : Cx) (st : Stmt) (D : Ends) (σ : St) (H : Hp) : Prop := ∀ pins s, Inv X pins σ H s → wpAny (model X.prog X.w) X.A (exec st X.env) (SP X pins D) X.xe s
def WSs (X : Cx) (st : List Stmt) (D : Ends) (σ : St) (H : Hp) : Prop := ∀ pins s, Inv X pins σ H s → wpAny (model X.prog X.w) X.A (execs st X.env) (SP X pins D) X.xe s
section
variable {X : Cx} {e : Expr} {es : List Expr} {σ : St} {H : Hp}
theorem pE : PE X e (WE X e) := ⟨fun pins s _ _ _ I h => h pins s I⟩
theorem pT : PT X e (WT X e) := ⟨fun pins s _ _ _ I h => h pins s I⟩
theorem pW : PW X e (WTw X e) := ⟨fun wh pins s _ _ _ I h => h wh pins s I⟩
theorem pA : PA X es (WA X es) := ⟨fun pos pins s _ _ _ I h => h pos pins s I⟩
theorem pS {st : Stmt} : PS X st (WS X st) := ⟨fun pins s _ _ _ I h => h pins s I⟩
theorem pSs {st : List Stmt} : PSs X st (WSs X st) := ⟨fun pins s _ _ _ I h => h pins s I⟩
theorem we {t : TE} {Q : VK} (p : PE X e t) (h : t σ H Q) : WE X e σ H Q := fun pins s I => p.run pins s σ H Q I h
theorem wt {t : TT} {Q : Bool → Hp → Prop} (p : PT X e t) (h : t σ H Q) : WT X e σ H Q := fun pins s I => p.run pins s σ H Q I h
theorem wtw {t : TT} {Q : Bool → Hp → Prop} (p : PW X e t) (h : t σ H Q) : WTw X e σ H Q := fun wh pins s I => p.run wh pins s σ H Q I h
theorem wa {t : TA} {Q : List V → Hp → Prop} (p : PA X es t) (h : t σ H Q) : WA X es σ H Q := fun pos pins s I => p.run pos pins s σ H Q I h
theorem ws {st : Stmt} {t : TS} {D : Ends} (p : PS X st t) (h : t D σ H) : WS X st D σ H := fun pins s I => p.run pins s σ H D I h
theorem wss {st : List Stmt} {t : TS} {D : Ends} (p : PSs X st t) (h : t D σ H) : WSs X st D σ H := fun pins s I => p.run pins s σ H D I h
theorem WTw.wt {Q : Bool → Hp → Prop} (h : WTw X e σ H Q) : WT X e σ H Q := fun pins s I => h _ pins s I
end
/-! ### tables -/
def lk {α : Type} : List (Str × α) → Str → Option α
  | [], _ => none
  | (y, a) :: l, x => if x = y then some a else lk l x
theorem lk_mem {α : Type} : ∀ {l : List (Str × α)} {x : Str} {a : α}, lk l x = some a → (x, a) ∈ l
  | [], _, _, h => by cases h
  | (y, b) :: l, x, a, h => by
    unfold lk at h
    split at h
    · rename_i e; cases h; subst e; exact List.mem_cons_self ..
    · exact List.mem_cons_of_mem _ (lk_mem h)
/-! ### functions, the surroundings -/
structure Fn where
  ar : Nat
  run : M Slot
  kw : List (Nat × List Str × List Nat) := []
structure Cfg where
  N : List Str
  P : Nat
  fns : List (Str × Fn)
  kon : List (Str × D)
  blt : List Str
  Q : Nat
  lock : List Str
  exc : List (Str × List Str) := []
  exm : List (Str × List (Str × Bool)) := []
def Xr (K : PySem.W.Frag) (mg : Str → Option Value) (F : Addr → Prop) (H : Hp) (x : Xn) (cls : Value) (d : Option Addr) : Prop :=
  mg x.cls = some cls ∧ ((x.flds = [] ∧ d = none) ∨ ∃ a fs, d = some a ∧ F a ∧ H a = some (.xd fs) ∧ fs.map (·.1) = x.flds.map (·.1) ∧ Rps K F H (fs.map (·.2)) (x.flds.map (·.2)))
def PostF (K : PySem.W.Frag) (mg : Str → Option Value) (vs : List V) (args : Sto) (F : Addr → Prop) (H : Hp) (r : R Slot) (Q : VK) (E : XK) : Prop := match r with
  | .ok s args' => ∀ x F' H', Stp vs.length K args (vs.map some) F H (args' ++ [s]) (vs.map some ++ [some x]) F' H' → Q x H'
  | .exc e args' => ∀ cls d F' H', Stp vs.length K args (vs.map some) F H args' (vs.map some) F' H' → Xr K mg F' H' e cls d → E cls d H'
  | .stuck => False
def spF (K : PySem.W.Frag) (mg : Str → Option Value) (g : Fn) : Sp := fun vs H Q E => vs.length = g.ar ∧ ∃ F args, Rs K F args (vs.map some) H ∧ PostF K mg vs args F H (g.run args) Q E
/-- a def's promise, called where nothing is being shown (no repr runs) -/
structure FnG (P : Program) (w : World) (K : PySem.W.Frag) (mg : Str → Option Value) (bs : Heap) (C : CXT) (n : Nat) (f : Addr) (fd : FuncData) (ps : List Str) (sp : Sp) : Prop where
  len : ∀ vs H Q E, sp vs H Q E → vs.length = ps.length
  run : ∀ (A : Around) (out : List PySem.Env) (s : Shared) (H : Hp) (as : Args) (us : List Value) (vs : List V) (Q : VK) (E : XK), A.guards = some [] → Room n A → Env0 P w K mg bs A out s H →
    BindsTo s fd as (ps.zip us) → Vals vs us → sp vs H Q E → codeAny (model P w) A (.call (.ref f) as) (CR C out P w H s Q E) s
structure FnGood (X : Cx) (x : Str) (g : Fn) : Prop where
  ex : ∃ k f fd ps, FnG X.prog X.w X.K X.mg X.base (L2.CX X.prog X.w) k f fd ps (spF X.K X.mg g) ∧ ps.length = g.ar ∧ Room k X.A ∧ X.mg x = some (.ref f) ∧ PySem.W.keepIn X.K (.ref f) = true ∧ Binds X.K fd ps [] ∧
    ∀ p ∈ g.kw, ∀ (s : Shared) (us ws : List Value), us.length = p.1 → ws.length = p.2.1.length → BindsTo s fd ⟨us, p.2.1.zip ws⟩ (ps.zip (p.2.2.map fun i => (us ++ ws).getD i .none))
structure ScRel (sc : Scope) (X : Cx) : Prop where
  loc : ∀ x, sc.names.lookup x = some .local → X.env.scope.names.lookup x = some .local
  cel : ∀ x, sc.names.lookup x = some .cell → X.env.scope.names.lookup x = some .cell
  fre : ∀ x, sc.names.lookup x = some .free → X.env.scope.names.lookup x = some .cell ∨ X.env.scope.names.lookup x = some .free
  gl : ∀ x, sc.names.lookup x = some .globalImplicit → Gl X x
  fn : ∀ x, sc.names.lookup x = some .cell → X.fn x = true
structure Good (X : Cx) (W : WX) (c : Cfg) (sc : Scope) : Prop where
  N : X.N = c.N
  hP : c.P ≤ X.N.length
  kind : X.env.scope.kind = .function
  nd : X.N.Nodup
  sc : ScRel sc X
  calm : X.calm = true
  tk : Takes X W
  pass : PassesOwn (model X.prog X.w) X.A X.env X.xe
  room : Room 1 X.A
  grd : X.A.guards = some []
  blt : ∀ x ∈ c.blt, X.mg x = none
  kon : ∀ x d, lk c.kon x = some d → ∃ u v, X.mg x = some u ∧ RelV v u ∧ ∀ F H, Rp X.K F H v d
  fns : ∀ x g, lk c.fns x = some g → FnGood X x g
  exc : ∀ x fs, lk c.exc x = some fs → ∃ C, X.mg x = some (.ref C) ∧ ExCls X.K C fs
  exm : ∀ x l, lk c.exm x = some l → ∃ cv, X.mg x = some cv ∧ ∀ y b, lk l y = some b → ∀ cls, X.mg y = some cls → PySem.W.exmOne X.K cls cv = some b
/-! ### what is wanted behind a step -/
section
variable {α β : Type}
def Post (X : Cx) (W : WX) (P : Nat) (σ τ : St) (st : Sto) (F : Addr → Prop) (H : Hp) (r : R α) (Q : α → Sto → St → (Addr → Prop) → Hp → Prop) : Prop := match r with
  | .ok a st' => ∀ τ' F' H', Stp P X.K st (σ ++ τ) F H st' (σ ++ (τ ++ τ')) F' H' → Q a st' (τ ++ τ') F' H'
  | .exc x st' => ∀ τ' F' H' cls d, Stp P X.K st (σ ++ τ) F H st' (σ ++ (τ ++ τ')) F' H' → Xr X.K X.mg F' H' x cls d → W cls d σ H'
  | .stuck => False
variable {X : Cx} {W : WX} {P : Nat} {σ τ : St} {st : Sto} {F : Addr → Prop} {H : Hp}
theorem Post.bind {m : M α} {f : α → M β} {Q : β → Sto → St → (Addr → Prop) → Hp → Prop} (h : Post X W P σ τ st F H (bnd m f st) Q) :
    Post X W P σ τ st F H (m st) fun a st1 τ1 F1 H1 => Post X W P σ τ1 st1 F1 H1 (f a st1) Q := by
  unfold bnd at h
  cases e : m st with
  | stuck => rw [e] at h; exact h
  | exc x st' => rw [e] at h; exact h
  | ok a st1 =>
    rw [e] at h
    intro τ1 F1 H1 s1
    cases e2 : f a st1 with
    | stuck => simp only [e2] at h; exact h
    | exc x st' =>
      simp only [e2] at h
      intro τ2 F2 H2 cls d s2 xr
      rw [List.append_assoc] at s2
      exact h _ _ _ _ _ (s1.trans s2) xr
    | ok b st' =>
      simp only [e2] at h
      intro τ2 F2 H2 s2
      rw [List.append_assoc] at s2 ⊢
      exact h _ _ _ (s1.trans s2)
theorem Post.imp {r : R α} {Q Q' : α → Sto → St → (Addr → Prop) → Hp → Prop} (h : Post X W P σ τ st F H r Q)
    (hq : ∀ a st' τ' F' H', Stp P X.K st (σ ++ τ) F H st' (σ ++ (τ ++ τ')) F' H' → r = .ok a st' → Q a st' (τ ++ τ') F' H' → Q' a st' (τ ++ τ') F' H') : Post X W P σ τ st F H r Q' := by
  cases r with
  | stuck => exact h
  | exc x st' => exact h
  | ok a st' => exact fun τ' F' H' s => hq _ _ _ _ _ s rfl (h _ _ _ s)
/-- a result that is at hand -/
theorem Post.here {a : α} {Q : α → Sto → St → (Addr → Prop) → Hp → Prop} (r : Rs X.K F st (σ ++ τ) H) (h : Post X W P σ τ st F H (.ok a st) Q) : Q a st τ F H := by
  have := h [] F H (by rw [List.append_nil]; exact .refl r)
  rwa [List.append_nil] at this
end
/-- the sound ones -/
def SE (X : Cx) (W : WX) (P : Nat) (e : Expr) (f : M Vl) : Prop := ∀ st σ τ F H Q, σ.length = X.N.length → Rs X.K F st (σ ++ τ) H →
  Post X W P σ τ st F H (f st) (fun v st' τ' F' H' => ∀ x, Rv X.K F' H' (σ ++ τ') x v → Q x H') → WE X e σ H Q
def ST (X : Cx) (W : WX) (P : Nat) (e : Expr) (f : M Bool) : Prop := ∀ st σ τ F H Q, σ.length = X.N.length → Rs X.K F st (σ ++ τ) H →
  Post X W P σ τ st F H (f st) (fun b st' τ' F' H' => Q b H') → WT X e σ H Q
def STw (X : Cx) (W : WX) (P : Nat) (e : Expr) (f : M Bool) : Prop := ∀ st σ τ F H Q, σ.length = X.N.length → Rs X.K F st (σ ++ τ) H →
  Post X W P σ τ st F H (f st) (fun b st' τ' F' H' => Q b H') → WTw X e σ H Q
inductive Rvs (K : PySem.W.Frag) (F : Addr → Prop) (H : Hp) (ρ : St) : List V → List Vl → Prop
  | nil : Rvs K F H ρ [] []
  | cons {x : V} {xs : List V} {v : Vl} {vs : List Vl} : Rv K F H ρ x v → Rvs K F H ρ xs vs → Rvs K F H ρ (x :: xs) (v :: vs)
def SA (X : Cx) (W : WX) (P : Nat) (es : List Expr) (f : M (List Vl)) : Prop := ∀ st σ τ F H Q, σ.length = X.N.length → Rs X.K F st (σ ++ τ) H →
  Post X W P σ τ st F H (f st) (fun v st' τ' F' H' => ∀ xs, Rvs X.K F' H' (σ ++ τ') xs v → Q xs H') → WA X es σ H Q
section
variable {X : Cx} {W : WX} {P : Nat} {σ τ : St} {st : Sto} {F : Addr → Prop} {H : Hp} {e a b : Expr} {es : List Expr} {pos : Pos}
theorem Stp.rvA {st' : Sto} {τ' : St} {F' : Addr → Prop} {H' : Hp} {K : PySem.W.Frag} (r : Rs K F st (σ ++ τ) H) (a : Stp P K st (σ ++ τ) F H st' (σ ++ (τ ++ τ')) F' H') {x : V} {v : Vl} (q : Rv K F H (σ ++ τ) x v) : Rv K F' H' (σ ++ (τ ++ τ')) x v := by
  rw [← List.append_assoc] at a ⊢
  exact a.rv r q
theorem Rvs.step {st' : Sto} {τ' : St} {F' : Addr → Prop} {H' : Hp} {K : PySem.W.Frag} {ρ : St} (r : Rs K F st ρ H) (a : Stp P K st ρ F H st' (ρ ++ τ') F' H') : ∀ {xs : List V} {vs : List Vl}, Rvs K F H ρ xs vs → Rvs K F' H' (ρ ++ τ') xs vs
  | _, _, .nil => .nil
  | _, _, .cons q t => .cons (a.rv r q) (Rvs.step r a t)
theorem Rvs.stepA {st' : Sto} {τ' : St} {F' : Addr → Prop} {H' : Hp} {K : PySem.W.Frag} (r : Rs K F st (σ ++ τ) H) (a : Stp P K st (σ ++ τ) F H st' (σ ++ (τ ++ τ')) F' H') {xs : List V} {vs : List Vl} (q : Rvs K F H (σ ++ τ) xs vs) : Rvs K F' H' (σ ++ (τ ++ τ')) xs vs := by
  rw [← List.append_assoc] at a ⊢
  exact Rvs.step r a q
theorem Rvs.length {K : PySem.W.Frag} {ρ : St} : ∀ {xs : List V} {vs : List Vl}, Rvs K F H ρ xs vs → xs.length = vs.length
  | _, _, .nil => rfl
  | _, _, .cons _ t => by rw [List.length_cons, List.length_cons, Rvs.length t]
/-! ### constants, names -/
def xCon (d : D) : M Vl := ret (.dat d)
def xVar (i : Nat) : M Vl := fun st => match st[i]? with
  | some (.val d) => .ok (.dat d) st
  | some (.own _ _) => .ok (.loc i) st
  | _ => .stuck
theorem se_con {d : D} {v : V} (p : PE X e (tC v)) (hr : ∀ F H, Rp X.K F H v d) : SE X W P e (xCon d) := fun st σ τ F H Q hl r h =>
  we p (Post.here (a := Vl.dat d) r h v (hr F H))
theorem se_var {i : Nat} (hi : i < X.N.length) (p : PE X e (tVar i)) : SE X W P e (xVar i) := fun st σ τ F H Q hl r h => by
  unfold xVar at h
  have hρ : (σ ++ τ)[i]? = σ[i]? := List.getElem?_append_left (by omega)
  split at h
  · rename_i d he
    obtain ⟨v, e1, e2⟩ := r.slot i _ he
    rw [hρ] at e1
    exact we p ⟨v, e1, Post.here (a := Vl.dat d) r h v e2⟩
  · rename_i k ds he
    obtain ⟨a, vs, e1, _⟩ := r.slot i _ he
    rw [hρ] at e1
    exact we p ⟨.ref a, e1, Post.here (a := Vl.loc i) r h (.ref a) (hρ.trans e1)⟩
  · exact h.elim
/-! ### operations by data -/
/-- a primitive: from data to a slot, sound if each rule's question can be answered -/
def P1 (X : Cx) (op : V → Hp → VK → Prop) (f : D → Option Slot) : Prop := ∀ F H x d s Q, (∀ a, F a → ∃ o, H a = some o) → Rq X.K F H x d → f d = some s → (∀ v F' H', Grow X.K F H F' H' s v → Q v H') → op x H Q
def P2 (X : Cx) (op : V → V → Hp → VK → Prop) (f : D → D → Option Slot) : Prop := ∀ F H x y d e s Q, (∀ a, F a → ∃ o, H a = some o) → Rq X.K F H x d → Rq X.K F H y e → f d e = some s → (∀ v F' H', Grow X.K F H F' H' s v → Q v H') → op x y H Q
def ap1 (f : D → Option Slot) (u : Vl) : M Vl := fun st => match rd u st with
  | some x => match f x with
    | some s => alloc s st
    | none => .stuck
  | none => .stuck
def ap2 (f : D → D → Option Slot) (u v : Vl) : M Vl := fun st => match rd u st, rd v st with
  | some x, some y => match f x y with
    | some s => alloc s st
    | none => .stuck
  | _, _ => .stuck
theorem post_alloc {s : Slot} {Q : VK} (r : Rs X.K F st (σ ++ τ) H) (h : Post X W P σ τ st F H (alloc s st) (fun v st' τ' F' H' => ∀ x, Rv X.K F' H' (σ ++ τ') x v → Q x H')) :
    ∀ v F' H', Grow X.K F H F' H' s v → Q v H' := fun v F' H' g => by
  cases e : alloc s st with
  | stuck => rw [e] at h; exact h.elim
  | exc x st' => cases s <;> cases e
  | ok w st' =>
    obtain ⟨t, s1, rv⟩ := alloc_ok (P := P) r g e
    rw [e] at h
    rw [List.append_assoc] at s1 rv
    exact h t F' H' s1 v rv
theorem post_ap1 {op : V → Hp → VK → Prop} {f : D → Option Slot} {u : Vl} {x : V} {Q : VK} (p : P1 X op f) (r : Rs X.K F st (σ ++ τ) H) (q : Rv X.K F H (σ ++ τ) x u)
    (h : Post X W P σ τ st F H (ap1 f u st) (fun v st' τ' F' H' => ∀ x, Rv X.K F' H' (σ ++ τ') x v → Q x H')) : op x H Q := by
  unfold ap1 at h
  split at h
  · rename_i d hd
    split at h
    · rename_i s hs
      exact p F H x d s Q r.live (rd_ok hd r q) hs (post_alloc r h)
    · exact h.elim
  · exact h.elim
theorem post_ap2 {op : V → V → Hp → VK → Prop} {f : D → D → Option Slot} {u v : Vl} {x y : V} {Q : VK} (p : P2 X op f) (r : Rs X.K F st (σ ++ τ) H) (q : Rv X.K F H (σ ++ τ) x u) (q' : Rv X.K F H (σ ++ τ) y v)
    (h : Post X W P σ τ st F H (ap2 f u v st) (fun v st' τ' F' H' => ∀ x, Rv X.K F' H' (σ ++ τ') x v → Q x H')) : op x y H Q := by
  unfold ap2 at h
  split at h
  · rename_i d d' hd hd'
    split at h
    · rename_i s hs
      exact p F H x y d d' s Q r.live (rd_ok hd r q) (rd_ok hd' r q') hs (post_alloc r h)
    · exact h.elim
  · exact h.elim
def xUn (f : D → Option Slot) (a : M Vl) : M Vl := bnd a (ap1 f)
def xBin (f : D → D → Option Slot) (a b : M Vl) : M Vl := bnd a fun u => bnd b (ap2 f u)
theorem se_un {f : D → Option Slot} {fa : M Vl} {op : V → Hp → VK → Prop} (p : P1 X op f) (hp : PE X e (tUn op (WE X a))) (ha : SE X W P a fa) : SE X W P e (xUn f fa) := fun st σ τ F H Q hl r h => by
  refine we hp (ha st σ τ F H _ hl r (h.bind.imp fun v st1 τ1 F1 H1 s1 _ q x rv => ?_))
  exact post_ap1 p s1.rs rv q
theorem se_bin {f : D → D → Option Slot} {fa fb : M Vl} {op : V → V → Hp → VK → Prop} (p : P2 X op f) (hp : PE X e (tOp op (WE X a) (WE X b))) (ha : SE X W P a fa) (hb : SE X W P b fb) : SE X W P e (xBin f fa fb) := fun st σ τ F H Q hl r h => by
  refine we hp (ha st σ τ F H _ hl r (h.bind.imp fun v st1 τ1 F1 H1 s1 _ q x rv => ?_))
  refine hb st1 σ _ F1 H1 _ hl s1.rs (q.bind.imp fun w st2 τ2 F2 H2 s2 _ q2 y rw' => ?_)
  exact post_ap2 p s2.rs (s2.rvA s1.rs rv) rw' q2
end
end PU
namespace PU
open PySem PySem.Spec PyProof.Rows L2
/-! ### growing -/
section
variable {K : PySem.W.Frag} {F : Addr → Prop} {H : Hp}
theorem growV {v : V} {d : D} (lv : ∀ a, F a → ∃ o, H a = some o) (r : Rp K F H v d) : Grow K F H F H (.val d) v :=
  ⟨fun _ _ h => h, fun _ h => h, fun _ h => .inl h, lv, r⟩
theorem growT {p : Addr} {vs : List V} {ds : List D} (lv : ∀ a, F a → ∃ o, H a = some o) (hp : H p = none) (r : Rps K F H vs ds) : Grow K F H (fun a => F a ∨ a = p) (upd H p (.tup vs)) (.val (.tup ds)) (.ref p) := by
  have kp : ∀ a o, H a = some o → upd H p (.tup vs) a = some o := fun a o h => by rw [upd_ne (ne_of_none h hp)]; exact h
  refine ⟨kp, fun _ h => .inl h, fun a h => ?_, fun a h => ?_, ?_⟩
  · rcases h with h | h
    · exact .inl h
    · subst h; exact .inr hp
  · rcases h with h | h
    · obtain ⟨o, ho⟩ := lv a h; exact ⟨o, kp a o ho⟩
    · subst h; exact ⟨_, upd_same⟩
  · exact .tup (.inr rfl) (.inl upd_same) (r.move (fun _ h => .inl h) fun a _ o h => kp a o h)
theorem growL {p : Addr} {vs : List V} {ds : List D} {k : Bool} (lv : ∀ a, F a → ∃ o, H a = some o) (hp : H p = none) (r : Rps K F H vs ds) : Grow K F H F (upd H p (.lst vs)) (.own k ds) (.ref p) := by
  have kp : ∀ a o, H a = some o → upd H p (.lst vs) a = some o := fun a o h => by rw [upd_ne (ne_of_none h hp)]; exact h
  refine ⟨kp, fun _ h => h, fun a h => .inl h, fun a h => ?_, ⟨p, vs, rfl, hp, upd_same, fun f => ?_, r.move (fun _ h => h) fun a _ o h => kp a o h⟩⟩
  · obtain ⟨o, ho⟩ := lv a h; exact ⟨o, kp a o ho⟩
  · obtain ⟨o, ho⟩ := lv p f
    rw [hp] at ho; cases ho
end
/-! ### argument lists -/
def xNil : M (List Vl) := ret []
def xCons (a : M Vl) (r : M (List Vl)) : M (List Vl) := bnd a fun v => bnd r fun vs => ret (v :: vs)
def frzs : List Vl → M (List D)
  | [] => ret []
  | v :: vs => bnd (frz v) fun d => bnd (frzs vs) fun ds => ret (d :: ds)
def noStar : Expr → Bool
  | .Starred .. => false
  | _ => true
theorem starEach_of {e : Expr} {es : List Expr} {env : PySem.Env} (h : noStar e = true) : starEach (e :: es) env = (false, eval e env) :: starEach es env := by
  cases e <;> first | rfl | cases h
section
variable {X : Cx} {W : WX} {P : Nat} {e a b c : Expr} {es : List Expr} {pos : Pos}
theorem sa_nil : SA X W P [] xNil := fun st σ τ F H Q hl r h => wa pa_nil (Post.here (a := ([] : List Vl)) r h [] .nil)
theorem sa_cons {fa : M Vl} {fr : M (List Vl)} (hs : noStar e = true) (ha : SE X W P e fa) (hr : SA X W P es fr) : SA X W P (e :: es) (xCons fa fr) := fun st σ τ F H Q hl r h => by
  refine wa (pa_cons pE pA (starEach_of hs)) (ha st σ τ F H _ hl r (h.bind.imp fun v st1 τ1 F1 H1 s1 _ q x rv => ?_))
  refine hr st1 σ _ F1 H1 _ hl s1.rs (q.bind.imp fun vs st2 τ2 F2 H2 s2 _ q2 xs rvs => ?_)
  exact Post.here (a := v :: vs) s2.rs q2 (x :: xs) (.cons (s2.rvA s1.rs rv) rvs)
theorem frz_noexc {v : Vl} {st : Sto} {x : Xn} {st' : Sto} : frz v st ≠ .exc x st' := by
  unfold frz
  cases v with
  | dat d => intro h; cases h
  | loc i =>
    dsimp only
    split <;> intro h <;> cases h
theorem frzs_noexc : ∀ {vs : List Vl} {st : Sto} {x : Xn} {st' : Sto}, frzs vs st ≠ .exc x st'
  | [], _, _, _ => fun h => by cases h
  | v :: vs, st, x, st' => fun h => by
    unfold frzs bnd at h
    cases e : frz v st with
    | stuck => rw [e] at h; cases h
    | exc y st2 => exact frz_noexc e
    | ok d st2 =>
      simp only [e] at h
      cases e2 : frzs vs st2 with
      | stuck => simp only [e2] at h; cases h
      | exc y st2 => exact frzs_noexc e2
      | ok ds st3 => simp only [e2] at h; cases h
theorem frzs_ok {K : PySem.W.Frag} {ρ : St} {H : Hp} : ∀ {vs : List Vl} {ds : List D} {xs : List V} {st st' : Sto} {F : Addr → Prop}, Rs K F st ρ H → Rvs K F H ρ xs vs → frzs vs st = .ok ds st' → ∃ F', Stp P K st ρ F H st' ρ F' H ∧ Rps K F' H xs ds
  | [], _, _, _, _, F, r, .nil, h => by cases h; exact ⟨F, .refl r, .nil⟩
  | v :: vs, ds, _, st, st', F, r, .cons q t, h => by
    unfold frzs bnd at h
    cases e : frz v st with
    | stuck => rw [e] at h; cases h
    | exc y st2 => exact absurd e frz_noexc
    | ok d st2 =>
      simp only [e] at h
      obtain ⟨F1, s1, q1⟩ := frz_ok (P := P) r q e
      cases e2 : frzs vs st2 with
      | stuck => simp only [e2] at h; cases h
      | exc y st2 => exact absurd e2 frzs_noexc
      | ok ds' st3 =>
        simp only [e2] at h
        cases h
        have t1 := Rvs.step (τ' := []) (ρ := ρ) r (by rw [List.append_nil]; exact s1) t
        rw [List.append_nil] at t1
        obtain ⟨F2, s2, q2⟩ := frzs_ok s1.rs t1 e2
        exact ⟨F2, s1.trans s2, .cons (s2.move s1.rs q1) q2⟩
/-- behind the letting go, the heap as it was -/
theorem post_frzs {β : Type} {k : List D → M β} {vs : List Vl} {xs : List V} {st : Sto} {σ τ : St} {F : Addr → Prop} {H : Hp} {Q : β → Sto → St → (Addr → Prop) → Hp → Prop} (r : Rs X.K F st (σ ++ τ) H) (q : Rvs X.K F H (σ ++ τ) xs vs)
    (h : Post X W P σ τ st F H (bnd (frzs vs) k st) Q) : ∃ ds st' F', Stp P X.K st (σ ++ τ) F H st' (σ ++ τ) F' H ∧ Rps X.K F' H xs ds ∧ Post X W P σ τ st' F' H (k ds st') Q := by
  have h := h.bind
  cases e : frzs vs st with
  | stuck => rw [e] at h; exact h.elim
  | exc y st2 => exact absurd e frzs_noexc
  | ok ds st' =>
    rw [e] at h
    obtain ⟨F', s1, q1⟩ := frzs_ok (P := P) r q e
    have := h [] F' H (by rw [List.append_nil]; exact s1)
    rw [List.append_nil] at this
    exact ⟨ds, st', F', s1, q1, this⟩
theorem post_frz {β : Type} {k : D → M β} {v : Vl} {x : V} {st : Sto} {σ τ : St} {F : Addr → Prop} {H : Hp} {Q : β → Sto → St → (Addr → Prop) → Hp → Prop} (r : Rs X.K F st (σ ++ τ) H) (q : Rv X.K F H (σ ++ τ) x v)
    (h : Post X W P σ τ st F H (bnd (frz v) k st) Q) : ∃ d st' F', Stp P X.K st (σ ++ τ) F H st' (σ ++ τ) F' H ∧ Rp X.K F' H x d ∧ Post X W P σ τ st' F' H (k d st') Q := by
  have h := h.bind
  cases e : frz v st with
  | stuck => rw [e] at h; exact h.elim
  | exc y st2 => exact absurd e frz_noexc
  | ok d st' =>
    rw [e] at h
    obtain ⟨F', s1, q1⟩ := frz_ok (P := P) r q e
    have := h [] F' H (by rw [List.append_nil]; exact s1)
    rw [List.append_nil] at this
    exact ⟨d, st', F', s1, q1, this⟩
/-! ### displays -/
def szL : Nat := 16777216
def xTup (as : M (List Vl)) : M Vl := bnd as fun vs => bnd (frzs vs) fun ds => if ds.length ≤ szL then alloc (.val (.tup ds)) else bad
def xLst (as : M (List Vl)) : M Vl := bnd as fun vs => bnd (frzs vs) fun ds => if ds.length ≤ szL then alloc (.own false ds) else bad
theorem szL_eq : szL = sizeLine := by rw [sizeLine_eq]; rfl
theorem se_tup {k : Nat} {fa : M (List Vl)} (ha : SA X W P es fa) : SE X W P (.Tuple es k pos) (xTup fa) := fun st σ τ F H Q hl r h => by
  refine we (pe_tup pA) (ha st σ τ F H _ hl r (h.bind.imp fun vs st1 τ1 F1 H1 s1 _ q xs rvs => ?_))
  obtain ⟨ds, st2, F2, s2, q2, q⟩ := post_frzs s1.rs rvs q
  split at q
  · rename_i hz
    refine ⟨by rw [q2.length, ← szL_eq]; exact hz, fun p hp => post_alloc s2.rs q _ _ _ (growT s2.rs.live hp q2)⟩
  · exact q.elim
theorem se_lst {fa : M (List Vl)} (ha : SA X W P es fa) : SE X W P (.List es pos) (xLst fa) := fun st σ τ F H Q hl r h => by
  refine we (pe_lst pA) (ha st σ τ F H _ hl r (h.bind.imp fun vs st1 τ1 F1 H1 s1 _ q xs rvs => ?_))
  obtain ⟨ds, st2, F2, s2, q2, q⟩ := post_frzs s1.rs rvs q
  split at q
  · rename_i hz
    refine ⟨by rw [q2.length, ← szL_eq]; exact hz, fun p hp => post_alloc s2.rs q _ _ _ (growL s2.rs.live hp q2)⟩
  · exact q.elim
/-! ### truth -/
def truD : D → Option Bool
  | .non => some false
  | .bl b => some b
  | .int i => some (i != 0)
  | .str x => if x.length ≤ szL then some ((x.length : Int) != 0) else none
  | .tup ds => some (!ds.isEmpty)
  | .lst ds => some (!ds.isEmpty)
theorem isEmpty_rps {K : PySem.W.Frag} {F : Addr → Prop} {H : Hp} {vs : List V} {ds : List D} (r : Rps K F H vs ds) : vs.isEmpty = ds.isEmpty := by cases r <;> rfl
theorem tru_rq {K : PySem.W.Frag} {F : Addr → Prop} {H : Hp} {x : V} {d : D} {k : Bool} (r : Rq K F H x d) (h : truD d = some k) : TruV K x H k := by
  cases d with
  | non => cases h; rw [r.non]; exact rfl
  | bl b => cases h; rw [r.bl]; exact rfl
  | int i => cases h; rw [r.int]; exact rfl
  | str y =>
    simp only [truD] at h
    split at h
    · rename_i hz
      cases h
      rw [r.str]
      exact ⟨by rw [← szL_eq]; exact hz, rfl⟩
    · cases h
  | tup ds =>
    cases h
    obtain ⟨a, vs, rfl, h1, h2⟩ := r.sqT
    exact .inr (.inl ⟨vs, h1, by rw [isEmpty_rps h2]⟩)
  | lst ds =>
    cases h
    obtain ⟨a, vs, rfl, h1, h2⟩ := r.sqL
    exact .inl ⟨vs, h1, by rw [isEmpty_rps h2]⟩
def tru (v : Vl) : M Bool := fun st => match rd v st with
  | some d => match truD d with
    | some k => .ok k st
    | none => .stuck
  | none => .stuck
theorem post_tru {β : Type} {k : Bool → M β} {v : Vl} {x : V} {st : Sto} {σ τ : St} {F : Addr → Prop} {H : Hp} {Q : β → Sto → St → (Addr → Prop) → Hp → Prop} (r : Rs X.K F st (σ ++ τ) H) (q : Rv X.K F H (σ ++ τ) x v)
    (h : Post X W P σ τ st F H (bnd (tru v) k st) Q) : ∃ b, TruV X.K x H b ∧ Post X W P σ τ st F H (k b st) Q := by
  have h := h.bind
  unfold tru at h
  split at h
  · rename_i d hd
    split at h
    · rename_i b hb
      exact ⟨b, tru_rq (rd_ok hd r q) hb, Post.here (a := b) r h⟩
    · exact h.elim
  · exact h.elim
def xAnd (a b : M Vl) : M Vl := bnd a fun u => bnd (tru u) fun k => if k then b else ret u
def xOr (a b : M Vl) : M Vl := bnd a fun u => bnd (tru u) fun k => if k then ret u else b
def xNot (a : M Vl) : M Vl := bnd a fun u => bnd (tru u) fun k => ret (.dat (.bl !k))
theorem se_and {rest : List Expr} {fa fb : M Vl} (ha : SE X W P a fa) (hb : SE X W P (.BoolOp .And (b :: rest) pos) fb) : SE X W P (.BoolOp .And (a :: b :: rest) pos) (xAnd fa fb) := fun st σ τ F H Q hl r h => by
  refine we (pe_andT pE pE) (ha st σ τ F H _ hl r (h.bind.imp fun u st1 τ1 F1 H1 s1 _ q x rv => ?_))
  obtain ⟨k, t, q⟩ := post_tru s1.rs rv q
  refine ⟨k, t, ?_⟩
  cases k with
  | true => exact iteT (hb st1 σ _ F1 H1 Q hl s1.rs q)
  | false => exact iteF (Post.here (a := u) s1.rs q x rv)
theorem se_or {rest : List Expr} {fa fb : M Vl} (ha : SE X W P a fa) (hb : SE X W P (.BoolOp .Or (b :: rest) pos) fb) : SE X W P (.BoolOp .Or (a :: b :: rest) pos) (xOr fa fb) := fun st σ τ F H Q hl r h => by
  refine we (pe_orT pE pE) (ha st σ τ F H _ hl r (h.bind.imp fun u st1 τ1 F1 H1 s1 _ q x rv => ?_))
  obtain ⟨k, t, q⟩ := post_tru s1.rs rv q
  refine ⟨k, t, ?_⟩
  cases k with
  | true => exact iteT (Post.here (a := u) s1.rs q x rv)
  | false => exact iteF (hb st1 σ _ F1 H1 Q hl s1.rs q)
theorem se_one {op : PySem.BoolOp} {fa : M Vl} (ha : SE X W P a fa) : SE X W P (.BoolOp op [a] pos) fa := fun st σ τ F H Q hl r h => we (pe_one pE) (ha st σ τ F H Q hl r h)
theorem se_not {fa : M Vl} (ha : SE X W P a fa) : SE X W P (.UnaryOp .Not a pos) (xNot fa) := fun st σ τ F H Q hl r h => by
  refine we (pe_notT pE) (ha st σ τ F H _ hl r (h.bind.imp fun u st1 τ1 F1 H1 s1 _ q x rv => ?_))
  obtain ⟨k, t, q⟩ := post_tru s1.rs rv q
  exact ⟨k, t, Post.here (a := Vl.dat (.bl !k)) s1.rs q _ (.bl _)⟩
def xIf (t : M Bool) (a b : M Vl) : M Vl := bnd t fun k => if k then a else b
theorem se_if {ft : M Bool} {fa fb : M Vl} (ht : ST X W P c ft) (ha : SE X W P a fa) (hb : SE X W P b fb) : SE X W P (.IfExp c a b pos) (xIf ft fa fb) := fun st σ τ F H Q hl r h => by
  refine we (pe_ifExp pT pE pE) (ht st σ τ F H _ hl r (h.bind.imp fun k st1 τ1 F1 H1 s1 _ q => ?_))
  cases k with
  | true => exact iteT (ha st1 σ _ F1 H1 Q hl s1.rs q)
  | false => exact iteF (hb st1 σ _ F1 H1 Q hl s1.rs q)
/-! ### tests -/
def tVal (a : M Vl) : M Bool := bnd a tru
def plainT : Expr → Bool
  | .UnaryOp .Not _ _ => false
  | .BoolOp .. => false
  | .IfExp .. => false
  | .Compare .. => false
  | _ => true
theorem plainT_ok (h : plainT e = true) (whole : Sem Value) : isTrue e X.env whole = (do let v ← whole; standAt e.pos; holding [v] (truthy v)) := by
  cases e with
  | UnaryOp op x p => cases op <;> first | rfl | cases h
  | BoolOp => cases h
  | IfExp => cases h
  | Compare => cases h
  | _ => rfl
theorem st_val {fa : M Vl} (hp : plainT e = true) (ha : SE X W P e fa) : ST X W P e (tVal fa) := fun st σ τ F H Q hl r h => by
  refine wt (pt_truth pE (plainT_ok hp)) (ha st σ τ F H _ hl r (h.bind.imp fun u st1 τ1 F1 H1 s1 _ q x rv => ?_))
  have q : Post X W P σ (τ ++ τ1) st1 F1 H1 (tru u st1) _ := q
  unfold tru at q
  split at q
  · rename_i d hd
    split at q
    · rename_i b hb
      exact ⟨b, tru_rq (rd_ok hd s1.rs rv) hb, Post.here (a := b) s1.rs q⟩
    · exact q.elim
  · exact q.elim
def tNot (a : M Bool) : M Bool := bnd a fun k => ret !k
theorem st_not {fa : M Bool} (ha : ST X W P a fa) : ST X W P (.UnaryOp .Not a pos) (tNot fa) := fun st σ τ F H Q hl r h => by
  refine wt (pt_not pT) (ha st σ τ F H _ hl r (h.bind.imp fun k st1 τ1 F1 H1 s1 _ q => ?_))
  exact Post.here (a := !k) s1.rs q
def tAnd (a b : M Bool) : M Bool := bnd a fun k => if k then b else ret false
def tOr (a b : M Bool) : M Bool := bnd a fun k => if k then ret true else b
theorem STw.st {f : M Bool} (h : STw X W P e f) : ST X W P e f := fun st σ τ F H Q hl r q => (h st σ τ F H Q hl r q).wt
theorem stw_and1 {fa : M Bool} (ha : ST X W P a fa) : STw X W P (.BoolOp .And [a] pos) fa := fun st σ τ F H Q hl r h => wtw (pw_and1 pT) (ha st σ τ F H Q hl r h)
theorem stw_or1 {fa : M Bool} (ha : ST X W P a fa) : STw X W P (.BoolOp .Or [a] pos) fa := fun st σ τ F H Q hl r h => wtw (pw_or1 pT) (ha st σ τ F H Q hl r h)
theorem stw_and {rest : List Expr} {fa fb : M Bool} (ha : ST X W P a fa) (hb : STw X W P (.BoolOp .And (b :: rest) pos) fb) : STw X W P (.BoolOp .And (a :: b :: rest) pos) (tAnd fa fb) := fun st σ τ F H Q hl r h => by
  refine wtw (pw_and pT pW) (ha st σ τ F H _ hl r (h.bind.imp fun k st1 τ1 F1 H1 s1 _ q => ?_))
  cases k with
  | true => exact iteT (hb st1 σ _ F1 H1 Q hl s1.rs q)
  | false => exact iteF (Post.here (a := false) s1.rs q)
theorem stw_or {rest : List Expr} {fa fb : M Bool} (ha : ST X W P a fa) (hb : STw X W P (.BoolOp .Or (b :: rest) pos) fb) : STw X W P (.BoolOp .Or (a :: b :: rest) pos) (tOr fa fb) := fun st σ τ F H Q hl r h => by
  refine wtw (pw_or pT pW) (ha st σ τ F H _ hl r (h.bind.imp fun k st1 τ1 F1 H1 s1 _ q => ?_))
  cases k with
  | true => exact iteT (Post.here (a := true) s1.rs q)
  | false => exact iteF (hb st1 σ _ F1 H1 Q hl s1.rs q)
end
/-! ### comparisons -/
def cm2 (f : D → D → Option Bool) (u v : Vl) : M Bool := fun st => match rd u st, rd v st with
  | some x, some y => match f x y with
    | some b => .ok b st
    | none => .stuck
  | _, _ => .stuck
/-- a comparison, sound if each rule's question can be answered -/
def PC2 (X : Cx) (op : V → V → Hp → VK → Prop) (f : D → D → Option Bool) : Prop := ∀ F H x y d e b Q, (∀ a, F a → ∃ o, H a = some o) → Rq X.K F H x d → Rq X.K F H y e → f d e = some b → Q (.bl b) H → op x y H Q
def xCmp (f : D → D → Option Bool) (a b : M Vl) : M Vl := bnd a fun u => bnd b fun v => bnd (cm2 f u v) fun k => ret (.dat (.bl k))
def tCmp (f : D → D → Option Bool) (a b : M Vl) : M Bool := bnd a fun u => bnd b fun v => cm2 f u v
def xChain (f g : D → D → Option Bool) (a b c : M Vl) : M Vl := bnd a fun u => bnd b fun v => bnd (cm2 f u v) fun k => if k then (bnd c fun w => bnd (cm2 g v w) fun k => ret (.dat (.bl k))) else ret (.dat (.bl false))
def tChainB (f g : D → D → Option Bool) (a b c : M Vl) : M Bool := bnd a fun u => bnd b fun v => bnd (cm2 f u v) fun k => if k then (bnd c fun w => cm2 g v w) else ret false
section
variable {X : Cx} {W : WX} {P : Nat} {e a b c : Expr} {es : List Expr} {pos : Pos} {op op' : CmpOp} {r2 r2' : R2} {f g : D → D → Option Bool} {fa fb fc : M Vl}
theorem post_cm2 {β : Type} {k : Bool → M β} {u v : Vl} {x y : V} {st : Sto} {σ τ : St} {F : Addr → Prop} {H : Hp} {Q : β → Sto → St → (Addr → Prop) → Hp → Prop} {Q' : VK} (p : PC2 X r2 f) (r : Rs X.K F st (σ ++ τ) H) (q : Rv X.K F H (σ ++ τ) x u) (q' : Rv X.K F H (σ ++ τ) y v)
    (h : Post X W P σ τ st F H (bnd (cm2 f u v) k st) Q) (hq : ∀ b, Post X W P σ τ st F H (k b st) Q → Q' (.bl b) H) : r2 x y H Q' := by
  have h := h.bind
  unfold cm2 at h
  split at h
  · rename_i d d' hd hd'
    split at h
    · rename_i b hb
      exact p F H x y d d' b Q' r.live (rd_ok hd r q) (rd_ok hd' r q') hb (hq b (Post.here (a := b) r h))
    · exact h.elim
  · exact h.elim
theorem bnd_ret {α : Type} (m : M α) : bnd m ret = m := by
  funext st
  unfold bnd
  cases m st <;> rfl
theorem se_cmp (p : PC2 X r2 f) (ho : OpR X (compareOp op) r2) (hm : behindInMarks op b = false) (ha : SE X W P a fa) (hb : SE X W P b fb) : SE X W P (.Compare a [op] [b] pos) (xCmp f fa fb) := fun st σ τ F H Q hl r h => by
  refine we (pe_cmpR ho pE pE hm) (ha st σ τ F H _ hl r (h.bind.imp fun u st1 τ1 F1 H1 s1 _ q x rv => ?_))
  refine hb st1 σ _ F1 H1 _ hl s1.rs (q.bind.imp fun w st2 τ2 F2 H2 s2 _ q2 y rw' => ?_)
  exact post_cm2 p s2.rs (s2.rvA s1.rs rv) rw' q2 fun k z => Post.here (a := Vl.dat (.bl k)) s2.rs z _ (.bl _)
theorem st_cmp (p : PC2 X r2 f) (ho : OpR X (compareOp op) r2) (hm : behindInMarks op b = false) (ha : SE X W P a fa) (hb : SE X W P b fb) : ST X W P (.Compare a [op] [b] pos) (tCmp f fa fb) := fun st σ τ F H Q hl r h => by
  refine wt (pt_cmpR ho pE pE hm) (ha st σ τ F H _ hl r (h.bind.imp fun u st1 τ1 F1 H1 s1 _ q x rv => ?_))
  refine hb st1 σ _ F1 H1 _ hl s1.rs (q.bind.imp fun w st2 τ2 F2 H2 s2 _ q2 y rw' => ?_)
  rw [← bnd_ret (cm2 f u w)] at q2
  exact post_cm2 (Q' := fun x H' => ∃ k, x = .bl k ∧ Q k H') p s2.rs (s2.rvA s1.rs rv) rw' q2 fun k z => ⟨k, rfl, Post.here (a := k) s2.rs z⟩
theorem se_chain (p : PC2 X r2 f) (p' : PC2 X r2' g) (ho : OpR X (compareOp op) r2) (ho' : OpR X (compareOp op') r2') (hm : lastMarks [op, op'] [b, c] = false) (ha : SE X W P a fa) (hb : SE X W P b fb) (hc : SE X W P c fc) :
    SE X W P (.Compare a [op, op'] [b, c] pos) (xChain f g fa fb fc) := fun st σ τ F H Q hl r h => by
  refine we (pe_chain ho ho' pE pE pE hm) (ha st σ τ F H _ hl r (h.bind.imp fun u st1 τ1 F1 H1 s1 _ q x rv => ?_))
  refine hb st1 σ _ F1 H1 _ hl s1.rs (q.bind.imp fun w st2 τ2 F2 H2 s2 _ q2 y rw' => ?_)
  refine post_cm2 (Q' := fun z H3 => ∃ k, z = .bl k ∧ (if k = true then WE X c σ H3 fun w' H4 => r2' y w' H4 Q else Q (.bl false) H3)) p s2.rs (s2.rvA s1.rs rv) rw' q2 fun k z => ⟨k, rfl, ?_⟩
  cases k with
  | false => exact iteF (Post.here (a := Vl.dat (.bl false)) s2.rs z _ (.bl _))
  | true =>
    refine iteT (hc st2 σ _ F2 H2 _ hl s2.rs ((show Post X W P σ _ st2 F2 H2 (bnd fc _ st2) _ from z).bind.imp fun v3 st3 τ3 F3 H3 s3 _ q3 x3 rv3 => ?_))
    exact post_cm2 p' s3.rs (s3.rvA s2.rs rw') rv3 q3 fun k z => Post.here (a := Vl.dat (.bl k)) s3.rs z _ (.bl _)
theorem st_chain (p : PC2 X r2 f) (p' : PC2 X r2' g) (ho : OpR X (compareOp op) r2) (ho' : OpR X (compareOp op') r2') (hm : lastMarks [op, op'] [b, c] = false) (ha : SE X W P a fa) (hb : SE X W P b fb) (hc : SE X W P c fc) :
    ST X W P (.Compare a [op, op'] [b, c] pos) (tChainB f g fa fb fc) := fun st σ τ F H Q hl r h => by
  refine wt (pt_chain ho ho' pE pE pE hm) (ha st σ τ F H _ hl r (h.bind.imp fun u st1 τ1 F1 H1 s1 _ q x rv => ?_))
  refine hb st1 σ _ F1 H1 _ hl s1.rs (q.bind.imp fun w st2 τ2 F2 H2 s2 _ q2 y rw' => ?_)
  refine post_cm2 (Q' := fun z H3 => ∃ k, z = .bl k ∧ (if k = true then WE X c σ H3 fun w' H4 => r2' y w' H4 (fun x H' => ∃ k, x = .bl k ∧ Q k H') else ∃ k, V.bl false = .bl k ∧ Q k H3)) p s2.rs (s2.rvA s1.rs rv) rw' q2 fun k z => ⟨k, rfl, ?_⟩
  cases k with
  | false => exact iteF ⟨false, rfl, Post.here (a := false) s2.rs z⟩
  | true =>
    refine iteT (hc st2 σ _ F2 H2 _ hl s2.rs ((show Post X W P σ _ st2 F2 H2 (bnd fc _ st2) _ from z).bind.imp fun v3 st3 τ3 F3 H3 s3 _ q3 x3 rv3 => ?_))
    rw [← bnd_ret (cm2 g w v3)] at q3
    exact post_cm2 (Q' := fun x H' => ∃ k, x = .bl k ∧ Q k H') p' s3.rs (s3.rvA s2.rs rw') rv3 q3 fun k z => ⟨k, rfl, Post.here (a := k) s3.rs z⟩
end
end PU
namespace PU
open PySem PySem.Spec PyProof.Rows L2
/-! ### the call of an own function -/
def isOwn : Option Slot → Bool
  | some (.own _ _) => true
  | _ => false
def slotOf (v : Vl) (st : Sto) : Option Slot := match v with
  | .dat d => some (.val d)
  | .loc i => match st[i]? with
    | some (.val d) => some (.val d)
    | some (.own k ds) => some (.own k ds)
    | _ => none
def slots : List Vl → Sto → Option Sto
  | [], _ => some []
  | v :: vs, st => match slotOf v st, slots vs st with
    | some s, some ss => some (s :: ss)
    | _, _ => none
def notLoc (i : Nat) : Vl → Bool
  | .dat _ => true
  | .loc j => !(j == i)
/-- no list is handed over twice -/
def apart : List Vl → Sto → Bool
  | [], _ => true
  | .dat _ :: vs, st => apart vs st
  | .loc i :: vs, st => (!isOwn st[i]? || vs.all (notLoc i)) && apart vs st
def putB : List Vl → List Slot → Sto → Sto
  | .loc i :: vs, s :: ss, st => if isOwn st[i]? then (putB vs ss st).set i s else putB vs ss st
  | .dat _ :: vs, _ :: ss, st => putB vs ss st
  | _, _, st => st
theorem putB_len : ∀ (vs : List Vl) (ss : List Slot) (st : Sto), (putB vs ss st).length = st.length
  | [], _, _ => rfl
  | .dat _ :: vs, [], _ => rfl
  | .loc _ :: vs, [], _ => rfl
  | .dat _ :: vs, s :: ss, st => by unfold putB; exact putB_len vs ss st
  | .loc i :: vs, s :: ss, st => by
    unfold putB
    split
    · rw [List.length_set]; exact putB_len vs ss st
    · exact putB_len vs ss st
/-- what is not handed over stays -/
theorem putB_out : ∀ (vs : List Vl) (ss : List Slot) (st : Sto) (i : Nat), (isOwn st[i]? = true → vs.all (notLoc i) = true) → (putB vs ss st)[i]? = st[i]?
  | [], _, _, _, _ => rfl
  | .dat _ :: vs, [], _, _, _ => rfl
  | .loc _ :: vs, [], _, _, _ => rfl
  | .dat _ :: vs, s :: ss, st, i, h => by
    unfold putB
    exact putB_out vs ss st i fun o => by have := h o; simpa [notLoc] using this
  | .loc j :: vs, s :: ss, st, i, h => by
    unfold putB
    have hr : isOwn st[i]? = true → vs.all (notLoc i) = true := fun o => by
      have := h o
      rw [List.all_cons, Bool.and_eq_true] at this
      exact this.2
    split
    · rename_i o
      by_cases e : j = i
      · subst e
        have := h o
        simp [notLoc] at this
      · rw [List.getElem?_set_ne e]
        exact putB_out vs ss st i hr
    · exact putB_out vs ss st i hr
/-- what is handed over has the callee's end -/
theorem putB_in : ∀ (vs : List Vl) (ss : List Slot) (st : Sto) (k i : Nat) (s : Slot), apart vs st = true → vs[k]? = some (.loc i) → isOwn st[i]? = true → ss[k]? = some s → (putB vs ss st)[i]? = some s
  | [], _, _, _, _, _, _, h, _, _ => by simp at h
  | .dat _ :: vs, [], _, _, _, _, _, _, _, h => by simp at h
  | .loc _ :: vs, [], _, _, _, _, _, _, _, h => by simp at h
  | .dat _ :: vs, s :: ss, st, 0, i, s', _, h, _, _ => by simp at h
  | .dat _ :: vs, s :: ss, st, k + 1, i, s', ha, h, o, hs => by
    unfold putB
    exact putB_in vs ss st k i s' ha (by simpa using h) o (by simpa using hs)
  | .loc j :: vs, s :: ss, st, 0, i, s', ha, h, o, hs => by
    simp at h hs
    subst h hs
    unfold putB
    rw [if_pos o]
    apply List.getElem?_set_self
    rw [putB_len]
    unfold isOwn at o
    split at o
    · rename_i e; exact (List.getElem?_eq_some_iff.mp e).1
    · cases o
  | .loc j :: vs, s :: ss, st, k + 1, i, s', ha, h, o, hs => by
    unfold apart at ha
    rw [Bool.and_eq_true, Bool.or_eq_true] at ha
    unfold putB
    have ih := putB_in vs ss st k i s' ha.2 (by simpa using h) o (by simpa using hs)
    split
    · rename_i oj
      by_cases e : j = i
      · subst e
        rcases ha.1 with z | z
        · rw [oj] at z; cases z
        · have hm : Vl.loc j ∈ vs := List.mem_of_getElem? (by simpa using h)
          have := List.all_eq_true.mp z _ hm
          simp [notLoc] at this
      · rw [List.getElem?_set_ne e]; exact ih
    · exact ih
section
variable {K : PySem.W.Frag} {F F' : Addr → Prop} {H H' : Hp} {ρ : St}
theorem slotOf_ok {st : Sto} {v : Vl} {s : Slot} {x : V} (r : Rs K F st ρ H) (q : Rv K F H ρ x v) (h : slotOf v st = some s) : SlotOk K F H s (some (some x)) := by
  cases v with
  | dat d => cases h; exact ⟨x, rfl, q⟩
  | loc i =>
    unfold slotOf at h
    dsimp only at h
    have q' : ρ[i]? = some (some x) := q
    split at h
    · rename_i d hd
      cases h
      have := r.slot i _ hd
      rwa [q'] at this
    · rename_i k ds hd
      cases h
      have := r.slot i _ hd
      rwa [q'] at this
    · cases h
theorem slotOf_own {st : Sto} {v : Vl} {k : Bool} {ds : List D} (h : slotOf v st = some (.own k ds)) : ∃ i, v = .loc i ∧ st[i]? = some (.own k ds) := by
  cases v with
  | dat d => cases h
  | loc i =>
    unfold slotOf at h
    dsimp only at h
    split at h
    · cases h
    · rename_i k ds hd
      cases h
      exact ⟨i, rfl, hd⟩
    · cases h
theorem slots_len : ∀ {vs : List Vl} {st ss : Sto}, slots vs st = some ss → ss.length = vs.length
  | [], _, _, h => by cases h; rfl
  | v :: vs, st, ss, h => by
    unfold slots at h
    split at h
    · rename_i s ss' h1 h2
      cases h
      rw [List.length_cons, List.length_cons, slots_len h2]
    · cases h
theorem slots_get : ∀ {vs : List Vl} {st ss : Sto} {k : Nat} {s : Slot}, slots vs st = some ss → ss[k]? = some s → ∃ v, vs[k]? = some v ∧ slotOf v st = some s
  | [], _, _, _, _, h, g => by cases h; simp at g
  | v :: vs, st, ss, k, s, h, g => by
    unfold slots at h
    split at h
    · rename_i s' ss' h1 h2
      cases h
      cases k with
      | zero => simp at g; subst g; exact ⟨v, rfl, h1⟩
      | succ k =>
        obtain ⟨w, e1, e2⟩ := slots_get (k := k) h2 (by simpa using g)
        exact ⟨w, by simpa using e1, e2⟩
    · cases h
theorem slots_getV : ∀ {vs : List Vl} {st ss : Sto} {k : Nat} {v : Vl}, slots vs st = some ss → vs[k]? = some v → ∃ s, ss[k]? = some s ∧ slotOf v st = some s
  | [], _, _, _, _, h, g => by simp at g
  | v :: vs, st, ss, k, w, h, g => by
    unfold slots at h
    split at h
    · rename_i s' ss' h1 h2
      cases h
      cases k with
      | zero => simp at g; subst g; exact ⟨s', rfl, h1⟩
      | succ k =>
        obtain ⟨s, e1, e2⟩ := slots_getV (k := k) h2 (by simpa using g)
        exact ⟨s, by simpa using e1, e2⟩
    · cases h
theorem Rvs.get : ∀ {xs : List V} {vs : List Vl} {k : Nat} {v : Vl}, Rvs K F H ρ xs vs → vs[k]? = some v → ∃ x, xs[k]? = some x ∧ Rv K F H ρ x v
  | _, _, _, _, .nil, h => by simp at h
  | _, _, 0, _, .cons r _, h => by simp at h; subst h; exact ⟨_, rfl, r⟩
  | _, _, k + 1, v, .cons _ t, h => by
    obtain ⟨x, e1, e2⟩ := Rvs.get (k := k) t (by simpa using h)
    exact ⟨x, by simpa using e1, e2⟩
theorem apart_ix : ∀ {vs : List Vl} {st : Sto} {k l i : Nat}, apart vs st = true → vs[k]? = some (.loc i) → vs[l]? = some (.loc i) → isOwn st[i]? = true → k = l
  | [], _, _, _, _, _, h, _, _ => by simp at h
  | .dat _ :: vs, st, 0, _, i, ha, h, _, _ => by simp at h
  | .dat _ :: vs, st, k + 1, 0, i, ha, _, h, _ => by simp at h
  | .dat _ :: vs, st, k + 1, l + 1, i, ha, h1, h2, o => congrArg (· + 1) (apart_ix (vs := vs) (k := k) (l := l) (i := i) ha (by simpa using h1) (by simpa using h2) o)
  | .loc j :: vs, st, 0, 0, i, _, _, _, _ => rfl
  | .loc j :: vs, st, 0, l + 1, i, ha, h1, h2, o => by
    simp at h1; subst h1
    unfold apart at ha
    rw [Bool.and_eq_true, Bool.or_eq_true] at ha
    rcases ha.1 with z | z
    · rw [o] at z; cases z
    · have := List.all_eq_true.mp z _ (List.mem_of_getElem? (by simpa using h2))
      simp [notLoc] at this
  | .loc j :: vs, st, k + 1, 0, i, ha, h1, h2, o => by
    simp at h2; subst h2
    unfold apart at ha
    rw [Bool.and_eq_true, Bool.or_eq_true] at ha
    rcases ha.1 with z | z
    · rw [o] at z; cases z
    · have := List.all_eq_true.mp z _ (List.mem_of_getElem? (by simpa using h1))
      simp [notLoc] at this
  | .loc j :: vs, st, k + 1, l + 1, i, ha, h1, h2, o => by
    unfold apart at ha
    rw [Bool.and_eq_true] at ha
    exact congrArg (· + 1) (apart_ix (vs := vs) (k := k) (l := l) (i := i) ha.2 (by simpa using h1) (by simpa using h2) o)
theorem rvs_ix {xs : List V} {k : Nat} {x : V} (h : xs[k]? = some x) : (xs.map some)[k]? = some (some x) := by rw [List.getElem?_map, h]; rfl
theorem ix_rvs {xs : List V} {k : Nat} {x : V} (h : (xs.map some)[k]? = some (some x)) : xs[k]? = some x := by
  rw [List.getElem?_map] at h
  cases e : xs[k]? with
  | none => rw [e] at h; cases h
  | some y => rw [e] at h; cases h; rfl
/-- the callee's view -/
theorem Rs.args {st args : Sto} {vs : List Vl} {xs : List V} (r : Rs K F st ρ H) (q : Rvs K F H ρ xs vs) (h : slots vs st = some args) (ha : apart vs st = true) : Rs K F args (xs.map some) H where
  len := by rw [slots_len h, List.length_map, q.length]
  slot := fun k s e => by
    obtain ⟨v, e1, e2⟩ := slots_get h e
    obtain ⟨x, e3, e4⟩ := q.get e1
    rw [rvs_ix e3]
    exact slotOf_ok r e4 e2
  dis := fun k l a b ds b' ds' e1 e2 f1 f2 => by
    obtain ⟨v1, g1, h1⟩ := slots_get h e1
    obtain ⟨v2, g2, h2⟩ := slots_get h e2
    obtain ⟨i, rfl, i2⟩ := slotOf_own h1
    obtain ⟨j, rfl, j2⟩ := slotOf_own h2
    obtain ⟨x1, e3, e4⟩ := q.get g1
    obtain ⟨x2, e5, e6⟩ := q.get g2
    rw [rvs_ix e3] at f1
    rw [rvs_ix e5] at f2
    cases f1; cases f2
    have : i = j := r.dis i j a _ _ _ _ i2 j2 e4 e6
    subst this
    exact apart_ix ha g1 g2 (by rw [i2]; rfl)
  live := r.live
  tab := r.tab
theorem own_args {st args : Sto} {vs : List Vl} {xs : List V} (q : Rvs K F H ρ xs vs) (h : slots vs st = some args) {a : Addr} (o : Own args (xs.map some) a) : ∃ (k i : Nat) (b : Bool) (ds : List D), vs[k]? = some (.loc i) ∧ st[i]? = some (.own b ds) ∧ ρ[i]? = some (some (.ref a)) ∧ xs[k]? = some (.ref a) := by
  obtain ⟨k, b, ds, e1, e2⟩ := o
  obtain ⟨v, g1, h1⟩ := slots_get h e1
  obtain ⟨i, rfl, i2⟩ := slotOf_own h1
  obtain ⟨x, e3, e4⟩ := q.get g1
  rw [rvs_ix e3] at e2
  cases e2
  exact ⟨k, i, b, ds, g1, i2, e4, e3⟩
/-- behind the call: the caller's view; the callee's end args' with more behind (the answer) -/
theorem Stp.back_of_call {P : Nat} {st args args' more : Sto} {vs : List Vl} {xs : List V} {tail : St} (r : Rs K F st ρ H) (q : Rvs K F H ρ xs vs) (h : slots vs st = some args) (ha : apart vs st = true) (hl : args'.length = args.length)
    (s : Stp xs.length K args (xs.map some) F H (args' ++ more) (xs.map some ++ tail) F' H') : Stp P K st ρ F H (putB vs args' st) ρ F' H' := by
  have hlen : args.length = xs.length := by rw [slots_len h, q.length]
  have own_sub : ∀ a, Own args (xs.map some) a → Own st ρ a := fun a o => by
    obtain ⟨k, i, b, ds, g1, g2, g3, g4⟩ := own_args q h o
    exact ⟨i, b, ds, g2, g3⟩
  -- at an index of st
  have at_ix : ∀ (i : Nat) (s0 : Slot), st[i]? = some s0 → ((putB vs args' st)[i]? = some s0 ∧ (isOwn (some s0) = true → vs.all (notLoc i) = true)) ∨
      ∃ (k : Nat) (s1 : Slot) (a : Addr), isOwn (some s0) = true ∧ vs[k]? = some (.loc i) ∧ args'[k]? = some s1 ∧ (putB vs args' st)[i]? = some s1 ∧ isL s1 = true ∧ ρ[i]? = some (some (.ref a)) ∧ xs[k]? = some (.ref a) ∧ (args' ++ more)[k]? = some s1 ∧ (xs.map some ++ tail)[k]? = some (some (.ref a)) := fun i s0 e => by
    by_cases hc : isOwn st[i]? = true ∧ vs.all (notLoc i) = false
    · right
      obtain ⟨o, hn⟩ := hc
      obtain ⟨v, hm, hv⟩ : ∃ v ∈ vs, notLoc i v = false := by
        apply Classical.byContradiction
        intro hno
        have : vs.all (notLoc i) = true := List.all_eq_true.mpr fun v hv => by
          cases z : notLoc i v with
          | true => rfl
          | false => exact absurd ⟨v, hv, z⟩ hno
        rw [this] at hn; cases hn
      obtain ⟨k, hk⟩ := List.getElem?_of_mem hm
      have hvl : v = .loc i := by
        cases v with
        | dat d => cases hv
        | loc j => simp [notLoc] at hv; rw [hv]
      subst hvl
      rw [e] at o
      cases s0 with
      | emp => cases o
      | val d => cases o
      | own b ds =>
        obtain ⟨sk, k1, k2⟩ := slots_getV h hk
        have k2' : sk = .own b ds := by
          unfold slotOf at k2
          dsimp only at k2
          rw [e] at k2
          cases k2; rfl
        subst k2'
        have hkl : k < xs.length := by rw [← hlen]; exact (List.getElem?_eq_some_iff.mp k1).1
        obtain ⟨p1, s1, p2, p3⟩ := s.par k _ hkl k1 rfl
        obtain ⟨x, e3, e4⟩ := q.get hk
        obtain ⟨a, ws, z1, z2, z3, z4⟩ := r.slot i _ e
        have e4' : ρ[i]? = some (some x) := e4
        rw [e4'] at z1
        cases z1
        have p2' : args'[k]? = some s1 := by rw [List.getElem?_append_left (by omega)] at p2; exact p2
        exact ⟨k, s1, a, rfl, hk, p2', putB_in vs args' st k i s1 ha hk (by rw [e]; rfl) p2', p3, e4', e3, p2, by rw [p1]; exact rvs_ix e3⟩
    · left
      have hz : isOwn st[i]? = true → vs.all (notLoc i) = true := fun o => by
        cases z : vs.all (notLoc i) with
        | true => rfl
        | false => exact absurd ⟨o, z⟩ hc
      exact ⟨(putB_out vs args' st i hz).trans e, fun o => hz (by rw [e]; exact o)⟩
  -- an own list that is not handed over is not the callee's
  have not_args : ∀ (i : Nat) (b : Bool) (ds : List D) (a : Addr), st[i]? = some (.own b ds) → vs.all (notLoc i) = true → ρ[i]? = some (some (.ref a)) → ¬ Own args (xs.map some) a := fun i b ds a e hn e2 o => by
    obtain ⟨k, j, b', ds', g1, g2, g3, g4⟩ := own_args q h o
    have : i = j := r.dis i j a _ _ _ _ e g2 e2 g3
    subst this
    have := List.all_eq_true.mp hn _ (List.mem_of_getElem? g1)
    simp [notLoc] at this
  have keep' : ∀ a o, H a = some o → ¬ Own args (xs.map some) a → Kp H' a o := s.keep
  have move : ∀ {v : V} {d : D}, Rp K F H v d → Rp K F' H' v d := fun rp => rp.moveK s.mono fun a f o ho => keep' a o ho fun oo => r.notOwn f (own_sub a oo)
  have moves : ∀ {v : List V} {d : List D}, Rps K F H v d → Rps K F' H' v d := fun rp => rp.moveK s.mono fun a f o ho => keep' a o ho fun oo => r.notOwn f (own_sub a oo)
  have inst : ∀ (i : Nat) (s1 : Slot), (putB vs args' st)[i]? = some s1 → ∃ s0, st[i]? = some s0 := fun i s1 e => by
    have := (List.getElem?_eq_some_iff.mp e).1
    rw [putB_len] at this
    exact ⟨_, List.getElem?_eq_getElem this⟩
  refine ⟨⟨by rw [putB_len]; exact r.len, fun i s1 e => ?_, fun i j a b ds b' ds' e1 e2 f1 f2 => ?_, s.rs.live, s.rs.tab⟩, fun a o ho n => keep' a o ho fun oo => n (own_sub a oo), s.mono, fun a f => ?_, fun a o => ?_, fun i s0 _ e l => ⟨rfl, ?_⟩⟩
  · obtain ⟨s0, e0⟩ := inst i s1 e
    rcases at_ix i s0 e0 with ⟨g1, g2⟩ | ⟨k, s2, a, g1, g2, g3, g4, g5, g6, g7, g8, g9⟩
    · rw [g1] at e
      cases e
      have z := r.slot i _ e0
      cases s1 with
      | emp => trivial
      | val d => obtain ⟨v, y1, y2⟩ := z; exact ⟨v, y1, move y2⟩
      | own b ds =>
        obtain ⟨a, ws, y1, y2, y3, y4⟩ := z
        have na := not_args i b ds a e0 (g2 rfl) y1
        refine ⟨a, ws, y1, (keep' a _ y2 na).get nofun, fun f => ?_, moves y4⟩
        rcases s.back a f with w | w | w
        · exact y3 w
        · exact na w
        · rw [y2] at w; cases w
    · rw [g4] at e
      cases e
      have z := s.rs.slot k _ g8
      rw [g9] at z
      rw [g6]
      exact z
  · obtain ⟨s0, e0⟩ := inst i _ e1
    obtain ⟨t0, f0⟩ := inst j _ e2
    rcases at_ix i s0 e0 with ⟨g1, g2⟩ | ⟨k, s2, a', g1, g2, g3, g4, g5, g6, g7, g8, g9⟩
    · rw [g1] at e1; cases e1
      rcases at_ix j t0 f0 with ⟨m1, m2⟩ | ⟨k', s2', a2, m1, m2, m3, m4, m5, m6, m7, m8, m9⟩
      · rw [m1] at e2; cases e2
        exact r.dis i j a _ _ _ _ e0 f0 f1 f2
      · cases t0 with
        | emp => cases m1
        | val d => cases m1
        | own b2 ds2 => exact r.dis i j a _ _ _ _ e0 f0 f1 f2
    · cases s0 with
      | emp => cases g1
      | val d => cases g1
      | own b1 ds1 =>
        rcases at_ix j t0 f0 with ⟨m1, m2⟩ | ⟨k', s2', a2, m1, m2, m3, m4, m5, m6, m7, m8, m9⟩
        · rw [m1] at e2; cases e2
          exact r.dis i j a _ _ _ _ e0 f0 f1 f2
        · cases t0 with
          | emp => cases m1
          | val d => cases m1
          | own b2 ds2 => exact r.dis i j a _ _ _ _ e0 f0 f1 f2
  · rcases s.back a f with w | w | w
    · exact .inl w
    · exact .inr (.inl (own_sub a w))
    · exact .inr (.inr w)
  · obtain ⟨i, b, ds, e1, e2⟩ := o
    obtain ⟨s0, e0⟩ := inst i _ e1
    rcases at_ix i s0 e0 with ⟨g1, g2⟩ | ⟨k, s2, a', g1, g2, g3, g4, g5, g6, g7, g8, g9⟩
    · rw [g1] at e1; cases e1
      exact .inl ⟨i, b, ds, e0, e2⟩
    · cases s0 with
      | emp => cases g1
      | val d => cases g1
      | own b1 ds1 => exact .inl ⟨i, b1, ds1, e0, e2⟩
  · rcases at_ix i s0 e with ⟨g1, g2⟩ | ⟨k, s2, a', g1, g2, g3, g4, g5, g6, g7, g8, g9⟩
    · exact ⟨s0, g1, l⟩
    · exact ⟨s2, g4, g5⟩
end
end PU
namespace PU
open PySem PySem.Spec PyProof.Rows L2
def callG (g : Fn) (vs : List Vl) : M Vl := fun st => match slots vs st with
  | none => .stuck
  | some args => if vs.length = g.ar ∧ apart vs st = true then (match g.run args with
    | .ok s args' => if args'.length = args.length then alloc s (putB vs args' st) else .stuck
    | .exc x args' => if args'.length = args.length then .exc x (putB vs args' st) else .stuck
    | .stuck => .stuck) else .stuck
section
variable {X : Cx} {W : WX} {P : Nat} {e : Expr} {es : List Expr} {pos : Pos} {K : PySem.W.Frag} {F F' : Addr → Prop} {H H' : Hp} {ρ : St}
theorem call_own {st args args' : Sto} {vs : List Vl} {xs : List V} {x : V} {k : Bool} {ds : List D} (r : Rs K F st ρ H) (q : Rvs K F H ρ xs vs) (h : slots vs st = some args) (ha : apart vs st = true) (hl : args'.length = args.length)
    (s : Stp xs.length K args (xs.map some) F H (args' ++ [.own k ds]) (xs.map some ++ [some x]) F' H') : Stp P K st ρ F H (putB vs args' st ++ [.own k ds]) (ρ ++ [some x]) F' H' := by
  have s1 : Stp P K st ρ F H (putB vs args' st) ρ F' H' := Stp.back_of_call r q h ha hl s
  have hlen : args.length = xs.length := by rw [slots_len h, q.length]
  have hm : (xs.map some).length = xs.length := List.length_map ..
  have g1 : (args' ++ [Slot.own k ds])[xs.length]? = some (.own k ds) := by
    rw [List.getElem?_append_right (by omega)]
    rw [show xs.length - args'.length = 0 by omega]; rfl
  have g2 : (xs.map some ++ [some x])[xs.length]? = some (some x) := by
    rw [List.getElem?_append_right (by omega)]
    rw [show xs.length - (xs.map some).length = 0 by omega]; rfl
  have sl := s.rs.slot _ _ g1
  rw [g2] at sl
  obtain ⟨a, ws, z1, z2, z3, z4⟩ := sl
  cases z1
  have ow : Own (args' ++ [Slot.own k ds]) (xs.map some ++ [some (V.ref a)]) a := ⟨_, _, _, g1, g2⟩
  have hn : ∀ (i : Nat) (k : Bool) (ds : List D), (putB vs args' st)[i]? = some (.own k ds) → ρ[i]? ≠ some (some (.ref a)) := fun i k' ds' e1 e2 => by
    have os : Own st ρ a ∨ H a = none := s1.owns a ⟨i, k', ds', e1, e2⟩
    have os : Own st ρ a := by
      rcases os with z | z
      · exact z
      · have := s1.owns a ⟨i, k', ds', e1, e2⟩
        rcases this with w | w
        · exact w
        · exfalso
          obtain ⟨i0, hi0⟩ : ∃ s0, st[i]? = some s0 := by
            have := (List.getElem?_eq_some_iff.mp e1).1
            rw [putB_len] at this
            exact ⟨_, List.getElem?_eq_getElem this⟩
          by_cases hc : isOwn st[i]? = true
          · rw [hi0] at hc
            cases i0 with
            | emp => cases hc
            | val d => cases hc
            | own b1 d1 =>
              obtain ⟨u, hu⟩ := r.own_live ⟨i, b1, d1, hi0, e2⟩
              rw [w] at hu; cases hu
          · have := putB_out vs args' st i (fun o => absurd o hc)
            rw [this, hi0] at e1
            cases e1
            rw [hi0] at hc
            exact hc rfl
    rcases s.owns a ow with z | z
    · -- the answer would be one of the arguments
      obtain ⟨kk, b, d1, y1, y2⟩ := z
      have hk : kk < xs.length := by rw [← hlen]; exact (List.getElem?_eq_some_iff.mp y1).1
      obtain ⟨p1, s2, p2, p3⟩ := s.par kk _ hk y1 rfl
      rw [y2] at p1
      cases s2 with
      | emp => cases p3
      | own b2 d2 =>
        have := s.rs.dis _ _ a _ _ _ _ p2 g1 p1 g2
        omega
      | val d2 =>
        cases d2 with
        | lst l =>
          have w := s.rs.slot _ _ p2
          rw [p1] at w
          obtain ⟨v, w1, w2⟩ := w
          cases w1
          cases w2 with
          | lst f _ _ => exact z3 f
        | _ => cases p3
    · obtain ⟨u, hu⟩ := r.own_live os
      rw [z] at hu; cases hu
  refine ⟨s1.rs.snoc_own hn z2 z3 z4, s1.keep, s1.mono, s1.back, fun b o => ?_, fun i s0 hP e l => ?_⟩
  · rcases own_snoc s1.rs.len o with z | z
    · exact s1.owns b z
    · cases z
      rcases s.owns a ow with w | w
      · left
        obtain ⟨kk, i, b, d1, y1, y2, y3, y4⟩ := own_args q h w
        exact ⟨i, b, d1, y2, y3⟩
      · exact .inr w
  · obtain ⟨e1, s2, e2, l2⟩ := s1.par i s0 hP e l
    have hi := (List.getElem?_eq_some_iff.mp e).1
    refine ⟨?_, s2, ?_, l2⟩
    · rw [List.getElem?_append_left (by have := r.len; omega)]
    · rw [List.getElem?_append_left (by rw [putB_len]; exact hi)]; exact e2
theorem post_callG {g : Fn} {vs : List Vl} {xs : List V} {st : Sto} {σ τ : St} {Q : VK} (r : Rs X.K F st (σ ++ τ) H) (q : Rvs X.K F H (σ ++ τ) xs vs)
    (h : Post X W P σ τ st F H (callG g vs st) (fun v st' τ' F' H' => ∀ x, Rv X.K F' H' (σ ++ τ') x v → Q x H')) : spF X.K X.mg g xs H Q (fun cls d H' => W cls d σ H') := by
  unfold callG at h
  split at h
  · exact h.elim
  · rename_i args hargs
    split at h
    · rename_i hc
      obtain ⟨hn, ha⟩ := hc
      refine ⟨by rw [q.length]; exact hn, F, args, r.args q hargs ha, ?_⟩
      split at h
      · rename_i s args' hg
        rw [hg]
        split at h
        · rename_i hl
          intro x F' H' s1
          cases s with
          | emp => exact h.elim
          | val d =>
            have s2 : Stp P X.K st (σ ++ τ) F H (putB vs args' st) (σ ++ τ) F' H' := Stp.back_of_call r q hargs ha hl s1
            refine h [] F' H' (by rw [List.append_nil]; exact s2) x ?_
            have hlen : args.length = xs.length := by rw [slots_len hargs, q.length]
            have hm : (xs.map some).length = xs.length := List.length_map ..
            have g1 : (args' ++ [Slot.val d])[xs.length]? = some (.val d) := by
              rw [List.getElem?_append_right (by omega)]
              rw [show xs.length - args'.length = 0 by omega]; rfl
            have g2 : (xs.map some ++ [some x])[xs.length]? = some (some x) := by
              rw [List.getElem?_append_right (by omega)]
              rw [show xs.length - (xs.map some).length = 0 by omega]; rfl
            have sl := s1.rs.slot _ _ g1
            rw [g2] at sl
            obtain ⟨v, z1, z2⟩ := sl
            cases z1
            exact z2
          | own k ds =>
            have s2 : Stp P X.K st (σ ++ τ) F H (putB vs args' st ++ [.own k ds]) (σ ++ τ ++ [some x]) F' H' := call_own r q hargs ha hl s1
            rw [List.append_assoc] at s2
            refine h [some x] F' H' s2 x ?_
            show (σ ++ (τ ++ [some x]))[(putB vs args' st).length]? = some (some x)
            rw [putB_len, ← List.append_assoc, r.len]; simp
        · exact h.elim
      · rename_i x args' hg
        rw [hg]
        split at h
        · rename_i hl
          intro cls d F' H' s1 xr
          have s2 : Stp P X.K st (σ ++ τ) F H (putB vs args' st) (σ ++ τ) F' H' := Stp.back_of_call (more := []) (tail := []) r q hargs ha hl (by rw [List.append_nil, List.append_nil]; exact s1)
          exact h [] F' H' cls d (by rw [List.append_nil]; exact s2) xr
        · exact h.elim
      · exact h.elim
    · exact h.elim
def xCall (g : Fn) (as : M (List Vl)) : M Vl := bnd as (callG g)
theorem any_backTo {es : List Expr} {env : PySem.Env} (h : ∀ e ∈ es, noStar e = true) : (backTo pos (starEach es env)).any (·.1) = false := by
  induction es with
  | nil => rfl
  | cons e es ih =>
    rw [starEach_of (h e (List.mem_cons_self ..))]
    show ((false || (backTo pos (starEach es env)).any (·.1))) = false
    rw [ih fun e he => h e (List.mem_cons_of_mem _ he)]; rfl
/-- the callee runs, whatever its arguments come from -/
theorem run_good {x : Str} {g : Fn} {pins : List (Addr × Obj)} {σ : St} {H : Hp} {s : Shared} {Q : VK} {f : Addr} {fd : FuncData} {ps : List Str} {k : Nat} {as : Args} {us : List Value} {vs : List V} (tk : Takes X W)
    (F1 : FnG X.prog X.w X.K X.mg X.base (L2.CX X.prog X.w) k f fd ps (spF X.K X.mg g)) (gd : X.A.guards = some []) (hr : Room k X.A) (I : Inv X pins σ H s) (hb : BindsTo s fd as (ps.zip us)) (rv : Vals vs us)
    (h : spF X.K X.mg g vs H Q (fun cls d H' => W cls d σ H')) : codeAny (model X.prog X.w) X.A (.call (.ref f) as) (fun r s' => match r with | .ok (.ret u) => EP X pins σ Q u s' | .ok _ => False | .error e => X.xe e s') s := by
  refine codeAny_mono (F1.run X.A X.stack s H as us vs Q _ gd hr I.env0 hb rv h) fun r s' z => ?_
  cases r with
  | error e => exact passAt tk σ pins H s e s' I z
  | ok fl =>
    cases fl with
    | ret u => exact I.after z
    | _ => exact z
theorem se_call {x : Str} {p : Pos} {g : Fn} {fa : M (List Vl)} (tk : Takes X W) (gd : X.A.guards = some []) (G : FnGood X x g) (hg : Gl X x) (hd : (x == ("__debug__" : Str)) = false) (hs : ∀ a ∈ e :: es, noStar a = true) (ha : SA X W P (e :: es) fa) : SE X W P (.Call (.Name x p) (e :: es) [] pos) (xCall g fa) := fun st σ τ F H Q hl r h => by
  obtain ⟨k, f, fd, ps, F1, e1, hr, hm, hk, hb, _⟩ := G.ex
  have wA : WA X (e :: es) σ H fun vs H1 => spF X.K X.mg g vs H1 Q (fun cls d H' => W cls d σ H') := ha st σ τ F H _ hl r (h.bind.imp fun vs st1 τ1 F1 H1 s1 _ q xs rvs => post_callG s1.rs rvs q)
  intro pins s I
  refine wpAny_Call_Name_kw (ld_glob I hg hm ?_ hd)
  refine PySem.W.callWith_K (h₀ := X.base) I.ok.mod.kin hk (thn (wA pos pins s I) fun us s1 z => ?_) (starEach_of (hs e (List.mem_cons_self ..))) (any_backTo fun a ha => hs a (List.mem_cons_of_mem _ ha))
  obtain ⟨vs, H1, I1, rv, q⟩ := z
  refine ⟨I1.kIn, ?_⟩
  have hlen : (us ++ []).length = ps.length := by rw [List.append_nil, ← rv.length, q.1, e1]
  have hb1 := hb s1 us I1.kIn hlen
  rw [List.append_nil] at hb1
  refine wpAny_call (codeAny_mono (run_good (x := x) tk F1 gd hr I1 hb1 rv q) fun r s' z => ?_)
  cases r with
  | error e => exact z
  | ok fl => cases fl <;> exact z
theorem se_call0 {x : Str} {p : Pos} {g : Fn} (tk : Takes X W) (gd : X.A.guards = some []) (G : FnGood X x g) (hg : Gl X x) (hd : (x == ("__debug__" : Str)) = false) : SE X W P (.Call (.Name x p) [] [] pos) (xCall g xNil) := fun st σ τ F H Q hl r h => by
  obtain ⟨k, f, fd, ps, F1, e1, hr, hm, hk, hb, _⟩ := G.ex
  have sp := post_callG r .nil (Post.here (a := ([] : List Vl)) r h.bind)
  intro pins s I
  refine wpAny_Call_Name_kw (ld_glob I hg hm ?_ hd)
  have hb1 := hb s [] I.kIn (by rw [List.append_nil, e1, ← sp.1]; rfl)
  refine PySem.W.callWith_K0 I.kIn hk (wpAny_call (codeAny_mono (run_good (x := x) tk F1 gd hr I hb1 .nil sp) fun r s' z => ?_))
  cases r with
  | error e => exact z
  | ok fl => cases fl <;> exact z
/-! ### keywords -/
def WK (X : Cx) (kws : List Keyword) (σ : St) (H : Hp) (Q : List V → Hp → Prop) : Prop := ∀ pos pins s, Inv X pins σ H s → wpAny (model X.prog X.w) X.A (evalAll ((backToKw pos (keywordEach kws X.env)).map (·.2))) (AP X pins σ Q) X.xe s
def SK (X : Cx) (W : WX) (P : Nat) (kws : List Keyword) (f : M (List Vl)) : Prop := ∀ st σ τ F H Q, σ.length = X.N.length → Rs X.K F st (σ ++ τ) H →
  Post X W P σ τ st F H (f st) (fun v st' τ' F' H' => ∀ xs, Rvs X.K F' H' (σ ++ τ') xs v → Q xs H') → WK X kws σ H Q
theorem sk_nil : SK X W P [] xNil := fun st σ τ F H Q hl r h => fun pos pins s I => pk_nil.run pos pins s σ H Q I (Post.here (a := ([] : List Vl)) r h [] .nil)
theorem sk_cons {nm : Option Str} {kp : Pos} {kws : List Keyword} {fa : M Vl} {fr : M (List Vl)} (ha : SE X W P e fa) (hr : SK X W P kws fr) : SK X W P (⟨nm, e, kp⟩ :: kws) (xCons fa fr) := fun st σ τ F H Q hl r h => by
  intro pos pins s I
  refine (pk_cons (nm := nm) (kpos := kp) pE (⟨fun pos pins s σ H Q I h => h pos pins s I⟩ : PK X kws (WK X kws))).run pos pins s σ H Q I (ha st σ τ F H _ hl r (h.bind.imp fun v st1 τ1 F1 H1 s1 _ q x rv => ?_))
  refine hr st1 σ _ F1 H1 _ hl s1.rs (q.bind.imp fun vs st2 τ2 F2 H2 s2 _ q2 xs rvs => ?_)
  exact Post.here (a := v :: vs) s2.rs q2 (x :: xs) (.cons (s2.rvA s1.rs rv) rvs)
def pick {α : Type} (pm : List Nat) (vs : List α) (d : α) : List α := pm.map fun i => vs.getD i d
def xCallK (g : Fn) (n m : Nat) (pm : List Nat) (as ks : M (List Vl)) : M Vl := bnd as fun us => bnd ks fun ws => if us.length = n ∧ ws.length = m then callG g (pick pm (us ++ ws) (.dat .non)) else bad
theorem Rvs.append {K : PySem.W.Frag} {F : Addr → Prop} {H : Hp} {ρ : St} : ∀ {xs ys : List V} {us vs : List Vl}, Rvs K F H ρ xs us → Rvs K F H ρ ys vs → Rvs K F H ρ (xs ++ ys) (us ++ vs)
  | _, _, _, _, .nil, s => s
  | _, _, _, _, .cons r t, s => .cons r (Rvs.append t s)
theorem Rvs.getD {K : PySem.W.Frag} {F : Addr → Prop} {H : Hp} {ρ : St} : ∀ {xs : List V} {us : List Vl}, Rvs K F H ρ xs us → ∀ i, Rv K F H ρ (xs.getD i .non) (us.getD i (.dat .non))
  | _, _, .nil, i => by
    show Rv K F H ρ (([] : List V).getD i .non) (([] : List Vl).getD i (.dat .non))
    simp only [List.getD_nil]
    exact Rp.non
  | _, _, .cons r t, 0 => r
  | _, _, .cons r t, i + 1 => by simpa using Rvs.getD t i
theorem Rvs.pick {K : PySem.W.Frag} {F : Addr → Prop} {H : Hp} {ρ : St} {xs : List V} {us : List Vl} (r : Rvs K F H ρ xs us) : ∀ pm : List Nat, Rvs K F H ρ (pick pm xs .non) (PU.pick pm us (.dat .non))
  | [] => .nil
  | i :: pm => .cons (r.getD i) (Rvs.pick r pm)
theorem vals_getD : ∀ {xs : List V} {us : List Value}, Vals xs us → ∀ i, RelV (xs.getD i .non) (us.getD i .none)
  | _, _, .nil, i => by simp; rfl
  | _, _, .cons r t, 0 => r
  | _, _, .cons r t, i + 1 => by simpa using vals_getD t i
theorem vals_pick {xs : List V} {us : List Value} (r : Vals xs us) : ∀ pm : List Nat, Vals (pick pm xs .non) (pm.map fun i => us.getD i .none)
  | [] => .nil
  | i :: pm => .cons (vals_getD r i) (vals_pick r pm)
theorem any_kw {kws : List Keyword} {env : PySem.Env} (h : kws.all (fun k => k.arg.isSome) = true) : (backToKw pos (keywordEach kws env)).all (·.1.isSome) = true ∧ (backToKw pos (keywordEach kws env)).any (·.1.isNone) = false ∧ (backToKw pos (keywordEach kws env)).filterMap (·.1) = kws.filterMap (·.arg) ∧ (backToKw pos (keywordEach kws env)).length = kws.length := by
  induction kws with
  | nil => exact ⟨rfl, rfl, rfl, rfl⟩
  | cons k kws ih =>
    obtain ⟨nm, e, kp⟩ := k
    rw [List.all_cons, Bool.and_eq_true] at h
    obtain ⟨h1, h2, h3, h4⟩ := ih h.2
    have hn : nm.isSome = true := h.1
    have e1 : (backToKw pos (keywordEach (⟨nm, e, kp⟩ :: kws) env)) = (nm, do let v ← eval e env; standAt pos; pure v) :: backToKw pos (keywordEach kws env) := rfl
    rw [e1]
    refine ⟨by rw [List.all_cons, h1, hn]; rfl, ?_, ?_, by rw [List.length_cons, h4]; rfl⟩
    · rw [List.any_cons, h2]
      cases nm with
      | none => cases hn
      | some x => rfl
    · rw [List.filterMap_cons, List.filterMap_cons, h3]
theorem len_fm : ∀ l : List (Option Str × Sem Value), l.all (·.1.isSome) = true → (l.filterMap (·.1)).length = l.length
  | [], _ => rfl
  | (none, _) :: _, h => by cases h
  | (some y, m) :: l, h => by
    rw [List.all_cons, Bool.and_eq_true] at h
    rw [show ((some y, m) :: l).filterMap (·.1) = y :: l.filterMap (·.1) from rfl, List.length_cons, List.length_cons, len_fm l h.2]
theorem se_callK {x : Str} {p : Pos} {g : Fn} {pm : List Nat} {kws : List Keyword} {fa fk : M (List Vl)} (tk : Takes X W) (gd : X.A.guards = some []) (G : FnGood X x g) (hg : Gl X x) (hd : (x == ("__debug__" : Str)) = false) (hs : ∀ a ∈ es, noStar a = true)
    (hkw : kws.all (fun k => k.arg.isSome) = true) (hpm : (es.length, kws.filterMap (·.arg), pm) ∈ g.kw) (ha : SA X W P es fa) (hk0 : es = [] → fa = xNil) (hks : SK X W P kws fk) : SE X W P (.Call (.Name x p) es kws pos) (xCallK g es.length kws.length pm fa fk) := fun st σ τ F H Q hl r h => by
  obtain ⟨k, f, fd, ps, F1, e1, hr, hm, hk, hb, hb2⟩ := G.ex
  obtain ⟨h1, h2, h3, h4⟩ := any_kw (pos := pos) (env := X.env) hkw
  have last : ∀ (pins : List (Addr × Obj)) (us ws : List Value) (vs zs : List V) (s2 : Shared) (H2 : Hp), Inv X pins σ H2 s2 → Vals vs us → Vals zs ws → vs.length = es.length → zs.length = kws.length → spF X.K X.mg g (pick pm (vs ++ zs) .non) H2 Q (fun cls d H' => W cls d σ H') →
      wpAny (model X.prog X.w) X.A (PySem.call (.ref f) ([] ++ us) ((kws.filterMap (·.arg)).zip ws)) (EP X pins σ Q) X.xe s2 := fun pins us ws vs zs s2 H2 I2 rv rz l1 l2 q => by
    have lk : (kws.filterMap (·.arg)).length = kws.length := by
      rw [← h3, ← h4]
      exact len_fm _ h1
    have hb1 := hb2 _ hpm s2 us ws (by rw [← rv.length]; exact l1) (by rw [lk, ← rz.length]; exact l2)
    refine wpAny_call (codeAny_mono (run_good (x := x) tk F1 gd hr I2 hb1 (vals_pick (rv.append rz) pm) q) fun r s' z => ?_)
    cases r with
    | error e => exact z
    | ok fl => cases fl <;> exact z
  cases es with
  | nil =>
    rw [hk0 rfl] at h
    have h := Post.here (a := ([] : List Vl)) r h.bind
    have wK : WK X kws σ H fun zs H1 => zs.length = kws.length ∧ spF X.K X.mg g (pick pm ([] ++ zs) .non) H1 Q (fun cls d H' => W cls d σ H') := hks st σ τ F H _ hl r (h.bind.imp fun vs st1 τ1 F1 H1 s1 _ q xs rvs => by
      split at q
      · rename_i hc
        exact ⟨by rw [rvs.length]; exact hc.2, post_callG s1.rs (Rvs.pick (xs := [] ++ xs) (us := [] ++ vs) rvs pm) q⟩
      · exact q.elim)
    intro pins s I
    refine wpAny_Call_Name_kw (ld_glob I hg hm ?_ hd)
    refine PySem.W.callWith_KW0 (h₀ := X.base) I.ok.mod.kin hk h1 (thn (wK pos pins s I) fun ws s2 z => ?_) (by rw [h2]; rfl)
    obtain ⟨zs, H2, I2, rz, q1, q⟩ := z
    refine ⟨I2.kIn, ?_⟩
    rw [h3]
    exact last pins [] ws [] zs s2 H2 I2 .nil rz rfl q1 q
  | cons e es =>
    have wA : WA X (e :: es) σ H fun vs H1 => WK X kws σ H1 fun zs H2 => (vs.length = (e :: es).length ∧ zs.length = kws.length) ∧ spF X.K X.mg g (pick pm (vs ++ zs) .non) H2 Q (fun cls d H' => W cls d σ H') :=
      ha st σ τ F H _ hl r (h.bind.imp fun us st1 τ1 F1 H1 s1 _ q xs rxs => hks st1 σ _ F1 H1 _ hl s1.rs (q.bind.imp fun ws st2 τ2 F2 H2 s2 _ q2 ys rys => by
        split at q2
        · rename_i hc
          exact ⟨⟨by rw [rxs.length]; exact hc.1, by rw [rys.length]; exact hc.2⟩, post_callG s2.rs (((rxs.stepA s1.rs s2).append rys).pick pm) q2⟩
        · exact q2.elim))
    intro pins s I
    refine wpAny_Call_Name_kw (ld_glob I hg hm ?_ hd)
    have hst := starEach_of (es := es) (env := X.env) (hs e (List.mem_cons_self ..))
    refine PySem.W.callWith_KW (h₀ := X.base) I.ok.mod.kin hk h1 (thn (wA pos pins s I) fun us s1 z1 => ?_) (by rw [any_backTo hs, h2]; rfl) hst
    obtain ⟨vs, H1, I1, rv, z1⟩ := z1
    refine thn (z1 pos pins s1 I1) fun ws s2 z => ?_
    obtain ⟨zs, H2, I2, rz, q1, q⟩ := z
    refine ⟨I2.kIn, ?_⟩
    rw [h3]
    exact last pins us ws vs zs s2 H2 I2 rv rz q1.1 q1.2 q
end
end PU
namespace PU
open PySem PySem.Spec PyProof.Rows L2
/-! ### the weakest rules -/
def opMx (X : Cx) (f : Value → Value → Sem Value) : R2 := fun x y H Q => ∃ r : R2, OpR X f r ∧ r x y H Q
def unMx (X : Cx) (f : Value → Sem Value) : V → Hp → VK → Prop := fun x H Q => ∃ r : V → Hp → VK → Prop, UnR X f r ∧ r x H Q
def ixMx (X : Cx) : R2 := fun x y H Q => ∃ r : R2, IxR X r ∧ r x y H Q
def cMx (X : Cx) (f : Value) : List V → Hp → VK → Prop := fun xs H Q => ∃ r : List V → Hp → VK → Prop, CallR X f r ∧ r xs H Q
def slMx (X : Cx) : V → Option Int → Option Int → Hp → VK → Prop := fun x lo hi H Q => ∃ r : V → Option Int → Option Int → Hp → VK → Prop, SlR X r ∧ r x lo hi H Q
section
variable {X : Cx}
theorem op_mx {f : Value → Value → Sem Value} : OpR X f (opMx X f) := fun pins s σ H x y v u Q I rx ry ⟨_, h, q⟩ => h pins s σ H x y v u Q I rx ry q
theorem un_mx {f : Value → Sem Value} : UnR X f (unMx X f) := fun pins s σ H x v Q I rx ⟨_, h, q⟩ => h pins s σ H x v Q I rx q
theorem ix_mx : IxR X (ixMx X) := fun value slice pins s σ H x y v u Q I rx ry ⟨_, h, q⟩ hs => h value slice pins s σ H x y v u Q I rx ry q hs
theorem c_mx {f : Value} : CallR X f (cMx X f) := fun pins s σ H xs us Q I r ⟨_, h, q⟩ => h pins s σ H xs us Q I r q
theorem sl_mx : SlR X (slMx X) := fun pins s σ H x v vl vu lo hi sl Q I rx hs pl pu ⟨_, h, q⟩ => h pins s σ H x v vl vu lo hi sl Q I rx hs pl pu q
end
/-! ### data as the library's -/
mutual
def py : D → PyData
  | .non => .none
  | .bl b => .bool b
  | .int i => .int i
  | .str x => .str x
  | .tup ds => .tuple (pys ds)
  | .lst ds => .list (pys ds)
def pys : List D → List PyData
  | [] => []
  | d :: ds => py d :: pys ds
end
section
variable {K : PySem.W.Frag} {F : Addr → Prop} {H : Hp}
mutual
theorem Rp.dp : ∀ {v : V} {d : D}, Rp K F H v d → Dp K H v (py d)
  | _, _, .non => .non
  | _, _, .bl b => .bl b
  | _, _, .int i => .int i
  | _, _, .str x => .str x
  | _, _, .tup f r s => by unfold py; exact .tup (.inl r) (Rps.dp s)
  | _, _, .lst f r s => by unfold py; exact .lst (.inl r) (Rps.dp s)
  | _, _, .tupK r s => by unfold py; exact .tup (r H) (Rps.dp s)
theorem Rps.dp : ∀ {vs : List V} {ds : List D}, Rps K F H vs ds → DpAll K H vs (pys ds)
  | _, _, .nil => by unfold pys; exact .nil
  | _, _, .cons r s => by unfold pys; exact .cons (Rp.dp r) (Rps.dp s)
end
theorem Rq.dp {v : V} {d : D} (r : Rq K F H v d) : Dp K H v (py d) := by
  rcases r with r | ⟨a, vs, ds, rfl, rfl, h, s⟩
  · exact r.dp
  · unfold py; exact .lst (.of h) s.dp
theorem Rq.rdL {x : V} {ds : List D} (r : Rq K F H x (.lst ds)) : ∃ a vs, x = .ref a ∧ Rd H a (.lst vs) ∧ Rps K F H vs ds := by
  rcases r with r | ⟨a, vs, ds', e1, e, h, s⟩
  · cases r with
    | lst f r s => exact ⟨_, _, rfl, r, s⟩
  · cases e
    exact ⟨a, vs, e1, .of h, s⟩
end
/-- == of data -/
def eqD (d e : D) : Bool := PyData.eqv (py d) (py e)
def shD (d : D) : Bool := SeqAt.shaped (py d)
def flatD : D → Bool
  | .tup _ => false
  | .lst _ => false
  | _ => true
/-- the text that repr gives -/
def shown (d : D) : Str := (py d).shown
/-! ### tuple * int -/
theorem tuple_mul0 (l : Addr) (items : Array Value) (n : Nat) (dd : Option Addr) (sl : Array (Option Value)) (x : Int) (u : Tok) (c0 : (decide (x < -(2 ^ 63)) || decide (x ≥ 2 ^ 63)) = false) (c1 : (items.isEmpty || x == 1) = false) (c2 : (decide (x ≤ 0) || items.isEmpty) = true) :
    Meets (Builtin.«tuple.__mul__» ⟨[.ref l, .int x u], []⟩) (fun _ R s => s.heap.get? l = some { cls := .type "tuple", dict := dd, data := .seq items n, slots := sl } ∧
      R (.ok (.ret (Value.ref s.heap.objs.size))) { s with heap := s.heap.push { cls := Value.type "tuple", data := Data.seq #[] }, toks := s.toks }) :=
  .of_wp fun prog w A R s h => by
    obtain ⟨hp, g, d, tk, os⟩ := s
    obtain ⟨hl, h⟩ := h
    have f1 := AutoSeq1.idx_int
    wp_walk using wpAny_loadPart' hl
    repeat (first
      | (refine wpAny_ite_false (decide_eq_false (by rw [c0]; exact Bool.false_ne_true)) ?_; wp_walk using wpAny_loadPart' hl)
      | (refine wpAny_ite_false (decide_eq_false (by rw [c1]; exact Bool.false_ne_true)) ?_; wp_walk using wpAny_loadPart' hl)
      | (refine wpAny_ite_true (decide_eq_true c2) ?_; wp_walk using wpAny_loadPart' hl))
    exact ⟨_, rfl, h⟩
theorem tuple_mul1 (l : Addr) (items : Array Value) (n : Nat) (dd : Option Addr) (sl : Array (Option Value)) (x : Int) (u : Tok) (c0 : (decide (x < -(2 ^ 63)) || decide (x ≥ 2 ^ 63)) = false) (c1 : (items.isEmpty || x == 1) = true) :
    Meets (Builtin.«tuple.__mul__» ⟨[.ref l, .int x u], []⟩) (fun _ R s => s.heap.get? l = some { cls := .type "tuple", dict := dd, data := .seq items n, slots := sl } ∧
      R (.ok (.ret (Value.ref l))) s) :=
  .of_wp fun prog w A R s h => by
    obtain ⟨hp, g, d, tk, os⟩ := s
    obtain ⟨hl, h⟩ := h
    have f1 := AutoSeq1.idx_int
    wp_walk using wpAny_loadPart' hl
    repeat (first
      | (refine wpAny_ite_false (decide_eq_false (by rw [c0]; exact Bool.false_ne_true)) ?_; wp_walk using wpAny_loadPart' hl)
      | (refine wpAny_ite_true (decide_eq_true c1) ?_; wp_walk using wpAny_loadPart' hl))
    exact ⟨_, rfl, h⟩
def rRepA (K : PySem.W.Frag) : R2 := fun x y H Q => ∃ l k xs, x = .ref l ∧ y = .int k ∧ SqT K H l xs ∧ -1000 ≤ k ∧ k ≤ 1000 ∧ xs.length ≤ 1000 ∧ ((xs = [] ∨ k = 1) → Q (.ref l) H) ∧ (xs ≠ [] → k ≤ 0 → ∀ p, H p = none → Q (.ref p) (upd H p (.tup []))) ∧
  (xs ≠ [] → 2 ≤ k → ∀ p, H p = none → Q (.ref p) (upd H p (.tup (List.replicate k.toNat xs).flatten)))
section
variable {X : Cx}
theorem op_repTA : OpR X (binaryOp .Mult) (rRepA X.K) := by
  intro pins s σ H x y v u Q I rx ry h
  obtain ⟨l, k, xs, rfl, rfl, hT, h0, h2, hz, q1, q2, q3⟩ := h
  by_cases hbig : xs ≠ [] ∧ 2 ≤ k
  · exact op_repT pins s σ H _ _ v u Q I rx ry ⟨l, k, xs, rfl, rfl, hT, hbig.1, hbig.2, h2, hz, q3 hbig.1 hbig.2⟩
  cases rx
  obtain ⟨t, rfl⟩ := ry
  obtain ⟨its, r, ⟨⟨cls, dd, data, sl⟩, ho, hc, n, hd⟩, hs⟩ := I.tuple hT
  simp only at hc hd
  subst hc hd
  have hle : its.length = xs.length := r.length.symm
  have c0 : (decide (k < -(2 ^ 63)) || decide (k ≥ 2 ^ 63)) = false := by
    rw [decide_eq_false (by omega), decide_eq_false (by omega)] <;> rfl
  by_cases h1 : xs = [] ∨ k = 1
  · have c1 : (its.toArray.isEmpty || k == 1) = true := by
      rcases h1 with h1 | h1
      · rw [h1] at hle
        rw [List.eq_nil_of_length_eq_zero hle]; rfl
      · rw [h1]; simp
    refine wpAny_binaryOp_repeat_ref (T := "tuple") (U := "int") (by decide) ⟨_, ho, rfl⟩ (fun s' => typeIs_int s' k t) noFill_tuple_mul PySem.F.fills_int_mul PySem.F.slot_int_rmul repeat_tuple PySem.F.slot_int_index.lookup
      (call_meets PySem.F.slot_int_rmul (typeIs_int s k t) PySem.F.entry_int_rmul (PySem.F.args_int_rmul_2 _ _) (int_rmul_tuple k t l its.toArray n dd sl)
        ⟨ho, rfl, ⟨_, ho, rfl⟩, call_meets PySem.F.slot_tuple_mul ⟨_, ho, rfl⟩ PySem.F.entry_tuple_mul (PySem.F.args_tuple_mul_2 _ _) (tuple_mul1 l its.toArray n dd sl k t c0 c1) ⟨ho, ?_⟩⟩)
    exact ⟨.ref l, H, I, rfl, q1 h1⟩
  · have hne : xs ≠ [] := fun e => h1 (.inl e)
    have hk : k ≤ 0 := by
      apply Classical.byContradiction
      intro hk
      exact hbig ⟨hne, by have : k ≠ 1 := fun e => h1 (.inr e)
                          omega⟩
    have hi : its.toArray.isEmpty = false := by
      cases its with
      | nil => exact absurd (List.eq_nil_of_length_eq_zero hle.symm) hne
      | cons a b => rfl
    have c1 : (its.toArray.isEmpty || k == 1) = false := by
      rw [hi, Bool.false_or]
      exact beq_eq_false_iff_ne.mpr (by omega)
    have c2 : (decide (k ≤ 0) || its.toArray.isEmpty) = true := by
      rw [hi, Bool.or_false]
      exact decide_eq_true (by omega)
    refine wpAny_binaryOp_repeat_ref (T := "tuple") (U := "int") (by decide) ⟨_, ho, rfl⟩ (fun s' => typeIs_int s' k t) noFill_tuple_mul PySem.F.fills_int_mul PySem.F.slot_int_rmul repeat_tuple PySem.F.slot_int_index.lookup
      (call_meets PySem.F.slot_int_rmul (typeIs_int s k t) PySem.F.entry_int_rmul (PySem.F.args_int_rmul_2 _ _) (int_rmul_tuple k t l its.toArray n dd sl)
        ⟨ho, rfl, ⟨_, ho, rfl⟩, call_meets PySem.F.slot_tuple_mul ⟨_, ho, rfl⟩ PySem.F.entry_tuple_mul (PySem.F.args_tuple_mul_2 _ _) (tuple_mul0 l its.toArray n dd sl k t c0 c1 c2) ⟨ho, ?_⟩⟩)
    refine ⟨.ref s.heap.objs.size, _, I.laid (t' := s.toks) (o := .tup []) (fun b ob q => Heap.get?_push_of_some _ q) (Nat.le_refl _) ?_, rfl, q2 hne hk _ (I.hok.fresh (Nat.le_refl _))⟩
    exact ⟨Nat.zero_le _, _, .nil, IsTup.new _ _⟩
end
/-! ### two operands -/
def mulG (a b : Int) : Bool := decide (a.natAbs.log2 + b.natAbs.log2 < 134217000)
def divG (b : Int) : Bool := decide (b ≠ 0) && decide (b.natAbs.log2 < 9000)
def powG (a b : Int) : Bool := decide (0 ≤ b) && decide (b ≤ 1000000) && decide (a.natAbs < 2 ^ 64)
def gd (b : Bool) (s : Slot) : Option Slot := if b then some s else none
def binD : Operator → D → D → Option Slot
  | .Add, .int a, .int b => some (.val (.int (a + b)))
  | .Add, .str a, .str b => gd (decide (a.length + b.length ≤ szL)) (.val (.str (a ++ b)))
  | .Add, .lst a, .lst b => gd (decide (a.length + b.length ≤ szL)) (.own false (a ++ b))
  | .Add, .tup a, .tup b => gd (decide (a.length + b.length ≤ szL)) (.val (.tup (a ++ b)))
  | .Sub, .int a, .int b => some (.val (.int (a - b)))
  | .Mult, .int a, .int b => gd (mulG a b) (.val (.int (a * b)))
  | .Mult, .lst a, .int k => gd (decide (-(2 ^ 63) ≤ k) && decide (k < 2 ^ 63) && decide (a.length * k.toNat ≤ szL)) (.own false (List.replicate k.toNat a).flatten)
  | .Mult, .tup a, .int k => gd (decide (-1000 ≤ k) && decide (k ≤ 1000) && decide (a.length ≤ 1000)) (.val (.tup (List.replicate k.toNat a).flatten))
  | .FloorDiv, .int a, .int b => gd (divG b) (.val (.int (a.fdiv b)))
  | .Mod, .int a, .int b => gd (decide (b ≠ 0)) (.val (.int (a.fmod b)))
  | .Pow, .int a, .int b => gd (powG a b) (.val (.int (a ^ b.toNat)))
  | .BitOr, .int a, .int b => some (.val (.int (Builtin.bitOr a b)))
  | .BitAnd, .int a, .int b => some (.val (.int (Builtin.bitAnd a b)))
  | .LShift, .int a, .int b => gd (powG a b) (.val (.int (a * 2 ^ b.toNat)))
  | .RShift, .int a, .int b => gd (decide (0 ≤ b)) (.val (.int (a / 2 ^ b.toNat)))
  | _, _, _ => none
theorem gd_some {b : Bool} {s t : Slot} (h : gd b s = some t) : b = true ∧ t = s := by
  unfold gd at h
  split at h
  · rename_i hb; cases h; exact ⟨hb, rfl⟩
  · cases h
theorem mulG_ok {a b : Int} (h : mulG a b = true) : IntMulOk a b := by
  have h := of_decide_eq_true h
  have q : ∀ x : Int, Builtin.Int.intBits x ≤ x.natAbs.log2 + 1 := fun x => by
    unfold Builtin.Int.intBits
    split <;> omega
  have h1 := q a
  have h2 := q b
  have e : bitsLine = 134217728 := by decide
  unfold IntMulOk
  intro z
  rw [Bool.and_eq_true] at z
  have z3 := z.2
  unfold Builtin.Int.intTooBig at z3
  have z4 := of_decide_eq_true z3
  rw [e] at z4
  omega
section
variable {X : Cx}
theorem op_mulA : OpR X (binaryOp .Mult) (rI (fun i j => mulG i j = true) fun i j => .int (i * j)) := opI fun _ _ _ _ _ _ _ hc q => mul_int q (mulG_ok hc)
theorem op_fdivA : OpR X (binaryOp .FloorDiv) (rI (fun _ j => j ≠ 0 ∧ j.natAbs.log2 < 9000) fun i j => .int (i.fdiv j)) := opI fun _ _ _ _ _ _ _ hc q => floordiv_int hc.1 q (.inl (PyProof.noPylong_of_log2 hc.2))
theorem rd_objs {pins : List (Addr × Obj)} {σ : St} {H : Hp} {s : Shared} {a : Addr} {vs : List V} (I : Inv X pins σ H s) (h : Rd H a (.lst vs)) : ∃ (its : List Value) (n : Nat), Vals vs its ∧ vs.length ≤ sizeLine ∧ s.heap.get? a = some { cls := .type "list", data := .seq its.toArray n } := by
  obtain ⟨z, its, n, r, e⟩ := h.ok I.hok
  exact ⟨its, n, r, z, e⟩
theorem op_catR : OpR X (binaryOp .Add) (fun x y H Q => ∃ l b xs zs, x = .ref l ∧ y = .ref b ∧ Rd H l (.lst xs) ∧ Rd H b (.lst zs) ∧ xs.length + zs.length ≤ sizeLine ∧ ∀ p, H p = none → Q (.ref p) (upd H p (.lst (xs ++ zs)))) := by
  intro pins s σ H x y v u Q I rx ry h
  obtain ⟨l, b, xs, zs, e1, e2, hH, hB, hz, q⟩ := h
  subst e1 e2
  cases rx
  cases ry
  obtain ⟨its, n, r, z, e⟩ := rd_objs I hH
  obtain ⟨its2, n2, r2, z2, e2⟩ := rd_objs I hB
  have l1 := r.length
  have l2 := r2.length
  refine PySem.P.add_list e e2 ?_ (by rw [List.size_toArray, List.size_toArray]; omega)
  rw [show its.toArray ++ its2.toArray = (its ++ its2).toArray by simp]
  exact ⟨.ref _, _, I.lnew (t' := s.toks) (r.append r2) (by rw [List.length_append]; omega), rfl, q _ I.fresh⟩
theorem Rps.rep {K : PySem.W.Frag} {F : Addr → Prop} {H : Hp} {vs : List V} {ds : List D} (r : Rps K F H vs ds) : ∀ n : Nat, Rps K F H (List.replicate n vs).flatten (List.replicate n ds).flatten
  | 0 => .nil
  | n + 1 => by
    rw [List.replicate_succ, List.replicate_succ, List.flatten_cons, List.flatten_cons]
    exact r.append (Rps.rep r n)
theorem Rps.cut {K : PySem.W.Frag} {F : Addr → Prop} {H : Hp} {vs : List V} {ds : List D} (r : Rps K F H vs ds) (i j : Nat) : Rps K F H ((vs.drop i).take j) ((ds.drop i).take j) := (r.drop i).take j
end
section
variable {X : Cx}
theorem op_repR : OpR X (binaryOp .Mult) (fun x y H Q => ∃ l k xs, x = .ref l ∧ y = .int k ∧ Rd H l (.lst xs) ∧ -(2 ^ 63) ≤ k ∧ k < 2 ^ 63 ∧ xs.length * k.toNat ≤ sizeLine ∧ ∀ p, H p = none → Q (.ref p) (upd H p (.lst (List.replicate k.toNat xs).flatten))) := by
  intro pins s σ H x y v u Q I rx ry h
  obtain ⟨l, k, xs, e1, e2, hH, h1, h2, hz, q⟩ := h
  subst e1 e2
  cases rx
  obtain ⟨t, rfl⟩ := ry
  obtain ⟨ws, c, rv, z, ew⟩ := rd_objs I hH
  have ln := rv.length
  have few : ws.toArray.size * k.toNat ≤ sizeLine := by rw [List.size_toArray, ← ln]; exact hz
  have cap : ¬ ws.toArray.size * k.toNat > (2 ^ 63 - 1) / 8 := by
    have b : (sizeLine : Nat) ≤ (2 ^ 63 - 1) / 8 := by decide
    omega
  have fit : ¬ (!Builtin.List.listFitsIndex k) = true := by rw [fitsIndex_both h1 h2]; exact Bool.false_ne_true
  have long : ¬ Builtin.List.listTooLong (ws.toArray.size * k.toNat) = true := by rw [notLongL few]; exact Bool.false_ne_true
  have made : List.foldl (fun p q => p ++ q) #[] (List.replicate (if ws.toArray.isEmpty = true then 0 else k.toNat) ws.toArray) = (List.replicate k.toNat ws).flatten.toArray := by
    have fr : ∀ m : Nat, List.foldl (fun p q => p ++ q) #[] (List.replicate m ws.toArray) = (List.replicate m ws).flatten.toArray := fun m => by
      have f1 := foldl_rep ws m []
      rwa [List.nil_append] at f1
    rw [fr]
    cases ws with
    | nil => simp
    | cons _ _ => rw [if_neg (by simp)]
  have inner := AutoListH.list___mul___list_int_3 l ws.toArray c k t fit cap long
  refine wpAny_binaryOp_repeat_ref (T := "list") (U := "int") (by decide) ⟨_, ew, rfl⟩ (fun s2 => typeIs_int s2 k t) noFill_list_mul PySem.F.fills_int_mul PySem.F.slot_int_rmul repeat_list PySem.F.slot_int_index.lookup ?_
  refine call_meets PySem.F.slot_int_rmul (typeIs_int s k t) PySem.F.entry_int_rmul (PySem.F.args_int_rmul_2 _ _) (int___rmul___int_list k t l ws.toArray c) ⟨ew, rfl, ⟨_, ew, rfl⟩, ?_⟩
  refine call_meets PySem.F.slot_list_mul ⟨_, ew, rfl⟩ PySem.F.entry_list_mul (PySem.F.args_list_mul_2 _ _) inner ⟨ew, ?_⟩
  rw [made]
  exact ⟨.ref _, _, I.lnew (t' := s.toks) (rv.rep k.toNat) (by rw [lm_len_rep_flat, Nat.mul_comm]; exact hz), rfl, q _ I.fresh⟩
theorem bin_ok (op : Operator) : P2 X (opMx X (binaryOp op)) (binD op) := by
  intro F H x y d e s Q lv rx ry h g
  unfold binD at h
  split at h
  · cases h; rw [rx.int, ry.int]; exact ⟨_, op_add, _, _, rfl, rfl, g _ _ _ (growV lv (.int _))⟩
  · obtain ⟨h1, rfl⟩ := gd_some h
    rw [rx.str, ry.str]
    exact ⟨_, op_add_str, _, _, rfl, rfl, by rw [← szL_eq]; exact of_decide_eq_true h1, g _ _ _ (growV lv (.str _))⟩
  · obtain ⟨h1, rfl⟩ := gd_some h
    obtain ⟨a, vs, rfl, r1, r2⟩ := rx.rdL
    obtain ⟨b, ws, rfl, r3, r4⟩ := ry.rdL
    have h1 := of_decide_eq_true h1
    exact ⟨_, op_catR, a, b, vs, ws, rfl, rfl, r1, r3, by rw [← szL_eq, r2.length, r4.length]; exact h1, fun p hp => g _ _ _ (growL lv hp (r2.append r4))⟩
  · obtain ⟨h1, rfl⟩ := gd_some h
    have h1 := of_decide_eq_true h1
    rename_i ds es _
    have fin : ∀ {v : V}, Rp X.K F H v (.tup (ds ++ es)) → Q v H := fun r => g _ _ _ (growV lv r)
    rcases rx with rx | ⟨_, _, _, _, e, _⟩
    · rcases ry with ry | ⟨_, _, _, _, e, _⟩
      · obtain ⟨a, vs, rfl, r1, r2⟩ := rx.sqT
        obtain ⟨b, ws, rfl, r3, r4⟩ := ry.sqT
        refine ⟨_, op_catA, a, b, vs, ws, rfl, rfl, r1, r3, by rw [← szL_eq, r2.length, r4.length]; exact h1, fun z => ?_, fun _ z => ?_, fun _ _ p hp => g _ _ _ (growT lv hp (r2.append r4))⟩
        · subst z
          cases r2
          exact fin ry
        · subst z
          cases r4
          rw [List.append_nil] at fin
          exact fin rx
      · cases e
    · cases e
  · cases h; rw [rx.int, ry.int]; exact ⟨_, op_sub, _, _, rfl, rfl, g _ _ _ (growV lv (.int _))⟩
  · obtain ⟨h1, rfl⟩ := gd_some h
    rw [rx.int, ry.int]; exact ⟨_, op_mulA, _, _, rfl, rfl, h1, g _ _ _ (growV lv (.int _))⟩
  · obtain ⟨h1, rfl⟩ := gd_some h
    rw [Bool.and_eq_true, Bool.and_eq_true] at h1
    obtain ⟨⟨h1, h2⟩, h3⟩ := h1
    obtain ⟨a, vs, rfl, r1, r2⟩ := rx.rdL
    rw [ry.int]
    exact ⟨_, op_repR, a, _, vs, rfl, rfl, r1, of_decide_eq_true h1, of_decide_eq_true h2, by rw [← szL_eq, r2.length]; exact of_decide_eq_true h3, fun p hp => g _ _ _ (growL lv hp (r2.rep _))⟩
  · obtain ⟨h1, rfl⟩ := gd_some h
    rw [Bool.and_eq_true, Bool.and_eq_true] at h1
    obtain ⟨⟨h1, h2⟩, h3⟩ := h1
    rename_i ds k
    rcases rx with rx | ⟨_, _, _, _, e, _⟩
    · obtain ⟨a, vs, rfl, r1, r2⟩ := rx.sqT
      rw [ry.int]
      refine ⟨_, op_repTA, a, _, vs, rfl, rfl, r1, of_decide_eq_true h1, of_decide_eq_true h2, by rw [r2.length]; exact of_decide_eq_true h3, fun z => ?_, fun z1 z2 p hp => ?_, fun z1 z2 p hp => g _ _ _ (growT lv hp (r2.rep _))⟩
      · have e : (List.replicate k.toNat ds).flatten = ds := by
          rcases z with z | z
          · subst z
            cases r2
            simp
          · subst z; simp
        rw [e] at g
        exact g _ _ _ (growV lv rx)
      · have e : (List.replicate k.toNat ds).flatten = [] := by rw [show k.toNat = 0 by omega]; rfl
        rw [e] at g
        exact g _ _ _ (growT lv hp .nil)
    · cases e
  · obtain ⟨h1, rfl⟩ := gd_some h
    unfold divG at h1
    rw [Bool.and_eq_true] at h1
    rw [rx.int, ry.int]; exact ⟨_, op_fdivA, _, _, rfl, rfl, ⟨of_decide_eq_true h1.1, of_decide_eq_true h1.2⟩, g _ _ _ (growV lv (.int _))⟩
  · obtain ⟨h1, rfl⟩ := gd_some h
    rw [rx.int, ry.int]; exact ⟨_, op_modN, _, _, rfl, rfl, of_decide_eq_true h1, g _ _ _ (growV lv (.int _))⟩
  · obtain ⟨h1, rfl⟩ := gd_some h
    unfold powG at h1
    rw [Bool.and_eq_true, Bool.and_eq_true] at h1
    rw [rx.int, ry.int]; exact ⟨_, op_pow, _, _, rfl, rfl, ⟨of_decide_eq_true h1.1.1, of_decide_eq_true h1.1.2, of_decide_eq_true h1.2⟩, g _ _ _ (growV lv (.int _))⟩
  · cases h; rw [rx.int, ry.int]; exact ⟨_, op_or, _, _, rfl, rfl, g _ _ _ (growV lv (.int _))⟩
  · cases h; rw [rx.int, ry.int]; exact ⟨_, op_and, _, _, rfl, rfl, g _ _ _ (growV lv (.int _))⟩
  · obtain ⟨h1, rfl⟩ := gd_some h
    unfold powG at h1
    rw [Bool.and_eq_true, Bool.and_eq_true] at h1
    rw [rx.int, ry.int]; exact ⟨_, op_shl, _, _, rfl, rfl, ⟨of_decide_eq_true h1.1.1, of_decide_eq_true h1.1.2, of_decide_eq_true h1.2⟩, g _ _ _ (growV lv (.int _))⟩
  · obtain ⟨h1, rfl⟩ := gd_some h
    rw [rx.int, ry.int]; exact ⟨_, op_shr, _, _, rfl, rfl, of_decide_eq_true h1, g _ _ _ (growV lv (.int _))⟩
  · cases h
end
/-! ### one operand -/
def unD : PySem.UnaryOp → D → Option Slot
  | .USub, .int i => some (.val (.int (-i)))
  | _, _ => none
theorem un_ok {X : Cx} (op : PySem.UnaryOp) : P1 X (unMx X (unaryOp op)) (unD op) := by
  intro F H x d s Q lv rx h g
  unfold unD at h
  split at h
  · cases h; rw [rx.int]; exact ⟨_, un_neg, _, rfl, g _ _ _ (growV lv (.int _))⟩
  · cases h
/-! ### comparisons -/
def isNon : D → Bool
  | .non => true
  | _ => false
def memD (x : D) (l : List D) : Bool := l.any fun y => eqD y x
/-- nested data looked for in a list or tuple -/
def inG (d : D) (l : List D) : Bool := PyData.canLay0 (py d) && PyData.canLayAll0 (pys l) && decide ((py d).depth ≤ 60)
/-- tuples or lists put in order -/
def ordG (d e : D) : Bool := PySem.W.alike (py d) (py e) && decide ((py d).depth ≤ 60)
def ltD (d e : D) : Bool := PySem.W.dataLt (py d) (py e)
def cmpD : CmpOp → D → D → Option Bool
  | .Lt, .int a, .int b => some (decide (a < b))
  | .LtE, .int a, .int b => some (decide (a ≤ b))
  | .Gt, .int a, .int b => some (decide (b < a))
  | .GtE, .int a, .int b => some (decide (b ≤ a))
  | .Eq, .int a, .int b => some (decide (a = b))
  | .NotEq, .int a, .int b => some (!decide (a = b))
  | .Eq, .str a, .str b => some (decide (a = b))
  | .NotEq, .str a, .str b => some (!decide (a = b))
  | .Eq, .bl a, .bl b => some (decide (a = b))
  | .NotEq, .bl a, .bl b => some (!decide (a = b))
  | .Eq, d, e => if shD d && shD e then some (eqD d e) else none
  | .NotEq, d, e => if shD d && shD e then some (!eqD d e) else none
  | .Is, d, .non => some (isNon d)
  | .IsNot, d, .non => some (!isNon d)
  | .In, d, .lst l => if flatD d && l.all flatD then some (memD d l) else if inG d l then some (memD d l) else none
  | .In, d, .tup l => if flatD d && l.all flatD then some (memD d l) else if inG d l then some (memD d l) else none
  | .NotIn, d, .lst l => if flatD d && l.all flatD then some (!memD d l) else if inG d l then some (!memD d l) else none
  | .NotIn, d, .tup l => if flatD d && l.all flatD then some (!memD d l) else if inG d l then some (!memD d l) else none
  | .Lt, .tup a, .tup b => if ordG (.tup a) (.tup b) then some (ltD (.tup a) (.tup b)) else none
  | .Gt, .tup a, .tup b => if ordG (.tup a) (.tup b) then some (ltD (.tup b) (.tup a)) else none
  | .LtE, .tup a, .tup b => if ordG (.tup a) (.tup b) then some (!ltD (.tup b) (.tup a)) else none
  | .GtE, .tup a, .tup b => if ordG (.tup a) (.tup b) then some (!ltD (.tup a) (.tup b)) else none
  | _, _, _ => none
section
variable {X : Cx} {K : PySem.W.Frag} {F : Addr → Prop} {H : Hp}
theorem Rq.isNon {x : V} {d : D} (r : Rq K F H x d) : decide (x = .non) = isNon d := by
  rcases r with r | ⟨a, vs, ds, rfl, rfl, h, s⟩
  · cases r <;> rfl
  · rfl
theorem Rq.flat {x : V} {d : D} (r : Rq K F H x d) (h : flatD d = true) : flatV x = true ∧ Rp K F H x d := by
  rcases r with r | ⟨a, vs, ds, rfl, rfl, h1, s⟩
  · cases r <;> first | exact ⟨rfl, by constructor⟩ | cases h
  · cases h
theorem eqV_D {x y : V} {d e : D} (r : Rp K F H x d) (q : Rp K F H y e) (h : flatD d = true) (h' : flatD e = true) : eqV x y = eqD d e := by
  unfold eqD
  cases r <;> cases q <;> first | rfl | cases h | cases h'
theorem Rps.flat : ∀ {vs : List V} {ds : List D}, Rps K F H vs ds → ds.all flatD = true → vs.all flatV = true
  | _, _, .nil, _ => rfl
  | _, _, .cons r t, h => by
    rw [List.all_cons, Bool.and_eq_true] at h
    rw [List.all_cons, ((show Rq K F H _ _ from .inl r).flat h.1).1, Rps.flat t h.2]; rfl
theorem inV_D {x : V} {d : D} (r : Rp K F H x d) (h : flatD d = true) : ∀ {vs : List V} {ds : List D}, Rps K F H vs ds → ds.all flatD = true → inV x vs = memD d ds
  | _, _, .nil, _ => rfl
  | _, _, .cons q t, f => by
    rw [List.all_cons, Bool.and_eq_true] at f
    unfold inV memD
    rw [List.any_cons, List.any_cons, eqV_D q r f.1 h]
    have := inV_D r h t f.2
    unfold inV memD at this
    rw [this]
theorem memD_py (d : D) : ∀ l : List D, ((pys l).any fun z => PyData.eqv z (py d)) = memD d l
  | [] => by unfold pys; rfl
  | e :: l => by
    have h := memD_py d l
    unfold pys memD
    rw [List.any_cons, List.any_cons]
    unfold memD at h
    rw [h]; rfl
/-- what a comparison of whole data says -/
def rDat (K : PySem.W.Frag) (d e : PyData) (b : Bool) : R2 := fun x y H Q => Dp K H x d ∧ Dp K H y e ∧ Q (.bl b) H
theorem op_inW {d : D} {l : List D} {c : PyData} {b : Bool} (hu : X.A.units + 64 < cLine) (hg : inG d l = true) (hc : c = .list (pys l) ∨ c = .tuple (pys l)) (hb : b = memD d l) : OpR X (compareOp .In) (rDat X.K (py d) c b) := by
  intro pins s σ H x y v u Q I rx ry h
  obtain ⟨hd, he, q⟩ := h
  unfold inG at hg
  rw [Bool.and_eq_true, Bool.and_eq_true] at hg
  obtain ⟨⟨g1, g2⟩, g3⟩ := hg
  have g3 := of_decide_eq_true g3
  have hm : X.A.units + 1 + min (PyData.depthAll (pys l)) (py d).depth < cLine := by
    have := Nat.min_le_right (PyData.depthAll (pys l)) (py d).depth
    omega
  obtain ⟨as, r1⟩ := Dp.reads I (py d) x v hd rx
  rcases hc with hc | hc <;> subst hc
  · obtain ⟨bs, r2⟩ := Dp.reads I (.list (pys l)) y u he ry
    exact SeqAt.in_list_reads r2 r1 g2 g1 hm ⟨.bl _, H, I, rfl, by rw [memD_py, ← hb]; exact q⟩
  · obtain ⟨bs, r2⟩ := Dp.reads I (.tuple (pys l)) y u he ry
    exact SeqAt.in_tuple_reads r2 r1 g2 g1 hm ⟨.bl _, H, I, rfl, by rw [memD_py, ← hb]; exact q⟩
theorem op_notInW {d : D} {l : List D} {c : PyData} {b : Bool} (hu : X.A.units + 64 < cLine) (hg : inG d l = true) (hc : c = .list (pys l) ∨ c = .tuple (pys l)) (hb : b = !memD d l) : OpR X (compareOp .NotIn) (rDat X.K (py d) c b) := by
  intro pins s σ H x y v u Q I rx ry h
  obtain ⟨hd, he, q⟩ := h
  unfold inG at hg
  rw [Bool.and_eq_true, Bool.and_eq_true] at hg
  obtain ⟨⟨g1, g2⟩, g3⟩ := hg
  have g3 := of_decide_eq_true g3
  have hm : X.A.units + 1 + min (PyData.depthAll (pys l)) (py d).depth < cLine := by
    have := Nat.min_le_right (PyData.depthAll (pys l)) (py d).depth
    omega
  obtain ⟨as, r1⟩ := Dp.reads I (py d) x v hd rx
  rcases hc with hc | hc <;> subst hc
  · obtain ⟨bs, r2⟩ := Dp.reads I (.list (pys l)) y u he ry
    exact SeqAt.notIn_list_reads r2 r1 g2 g1 hm ⟨.bl _, H, I, rfl, by rw [memD_py, ← hb]; exact q⟩
  · obtain ⟨bs, r2⟩ := Dp.reads I (.tuple (pys l)) y u he ry
    exact SeqAt.notIn_tuple_reads r2 r1 g2 g1 hm ⟨.bl _, H, I, rfl, by rw [memD_py, ← hb]; exact q⟩
theorem ordG_ok {d e : D} (hu : X.A.units + 64 < cLine) (hg : ordG d e = true) : PySem.W.alike (py d) (py e) = true ∧ X.A.units + min (py d).depth (py e).depth < cLine := by
  unfold ordG at hg
  rw [Bool.and_eq_true] at hg
  have g3 := of_decide_eq_true hg.2
  have := Nat.min_le_left (py d).depth (py e).depth
  exact ⟨hg.1, by omega⟩
theorem op_ltW {d e : D} (hu : X.A.units + 64 < cLine) (hg : ordG d e = true) (hn : py d ≠ .none) : OpR X (compareOp .Lt) (rDat X.K (py d) (py e) (ltD d e)) := by
  intro pins s σ H x y v u Q I rx ry h
  obtain ⟨hd, he, q⟩ := h
  obtain ⟨g1, g2⟩ := ordG_ok hu hg
  obtain ⟨as, r1⟩ := Dp.reads I (py d) x v hd rx
  obtain ⟨bs, r2⟩ := Dp.reads I (py e) y u he ry
  exact PySem.W.lt_data r1 r2 g1 hn g2 ⟨.bl _, H, I, rfl, q⟩
theorem op_gtW {d e : D} (hu : X.A.units + 64 < cLine) (hg : ordG d e = true) (hn : py d ≠ .none) : OpR X (compareOp .Gt) (rDat X.K (py d) (py e) (ltD e d)) := by
  intro pins s σ H x y v u Q I rx ry h
  obtain ⟨hd, he, q⟩ := h
  obtain ⟨g1, g2⟩ := ordG_ok hu hg
  obtain ⟨as, r1⟩ := Dp.reads I (py d) x v hd rx
  obtain ⟨bs, r2⟩ := Dp.reads I (py e) y u he ry
  exact PySem.W.gt_data r1 r2 g1 hn g2 ⟨.bl _, H, I, rfl, q⟩
theorem op_leW {d e : D} (hu : X.A.units + 64 < cLine) (hg : ordG d e = true) (hn : py d ≠ .none) : OpR X (compareOp .LtE) (rDat X.K (py d) (py e) (!ltD e d)) := by
  intro pins s σ H x y v u Q I rx ry h
  obtain ⟨hd, he, q⟩ := h
  obtain ⟨g1, g2⟩ := ordG_ok hu hg
  obtain ⟨as, r1⟩ := Dp.reads I (py d) x v hd rx
  obtain ⟨bs, r2⟩ := Dp.reads I (py e) y u he ry
  exact PySem.W.le_data r1 r2 g1 hn g2 ⟨.bl _, H, I, rfl, q⟩
theorem op_geW {d e : D} (hu : X.A.units + 64 < cLine) (hg : ordG d e = true) (hn : py d ≠ .none) : OpR X (compareOp .GtE) (rDat X.K (py d) (py e) (!ltD d e)) := by
  intro pins s σ H x y v u Q I rx ry h
  obtain ⟨hd, he, q⟩ := h
  obtain ⟨g1, g2⟩ := ordG_ok hu hg
  obtain ⟨as, r1⟩ := Dp.reads I (py d) x v hd rx
  obtain ⟨bs, r2⟩ := Dp.reads I (py e) y u he ry
  exact PySem.W.ge_data r1 r2 g1 hn g2 ⟨.bl _, H, I, rfl, q⟩
theorem py_tup (ds : List D) : py (.tup ds) ≠ .none := by unfold py; exact nofun
theorem cmp_ok (hu : X.A.units + 64 < cLine) (op : CmpOp) : PC2 X (opMx X (compareOp op)) (cmpD op) := by
  intro F H x y d e b Q lv rx ry h g
  have flt : ∀ {l : List D} {p : Addr} {vs : List V} {neg : Bool}, (flatD d && l.all flatD) = true → (SqL X.K H p vs ∨ SqT X.K H p vs) → Rps X.K F H vs l → Q (.bl (if neg then !memD d l else memD d l)) H → rIn X.K neg x (.ref p) H Q := fun {l p vs neg} hf hs hr hq => by
    rw [Bool.and_eq_true] at hf
    obtain ⟨f1, f2⟩ := rx.flat hf.1
    refine ⟨p, vs, rfl, hs, f1, hr.flat hf.2, ?_⟩
    rw [inV_D f2 hf.1 hr hf.2]; exact hq
  unfold cmpD at h
  split at h
  · cases h; rw [rx.int, ry.int]; exact ⟨_, op_lt, _, _, rfl, rfl, g⟩
  · cases h; rw [rx.int, ry.int]; exact ⟨_, op_le, _, _, rfl, rfl, g⟩
  · cases h; rw [rx.int, ry.int]; exact ⟨_, op_gt, _, _, rfl, rfl, g⟩
  · cases h; rw [rx.int, ry.int]; exact ⟨_, op_ge, _, _, rfl, rfl, g⟩
  · cases h; rw [rx.int, ry.int]; exact ⟨_, op_eq, rfl, by simpa using g⟩
  · cases h; rw [rx.int, ry.int]; exact ⟨_, op_ne, rfl, by simpa using g⟩
  · cases h; rw [rx.str, ry.str]; exact ⟨_, op_eq, rfl, by simpa using g⟩
  · cases h; rw [rx.str, ry.str]; exact ⟨_, op_ne, rfl, by simpa using g⟩
  · cases h; rw [rx.bl, ry.bl]; exact ⟨_, op_eq, rfl, by simpa using g⟩
  · cases h; rw [rx.bl, ry.bl]; exact ⟨_, op_ne, rfl, by simpa using g⟩
  · split at h
    · rename_i hs
      rw [Bool.and_eq_true] at hs
      cases h
      exact ⟨_, op_eqD hu, _, _, rx.dp, ry.dp, hs.1, hs.2, g⟩
    · cases h
  · split at h
    · rename_i hs
      rw [Bool.and_eq_true] at hs
      cases h
      exact ⟨_, op_neD hu, _, _, rx.dp, ry.dp, hs.1, hs.2, g⟩
    · cases h
  · cases h; rw [ry.non]; exact ⟨_, op_isN, rfl, by rw [rx.isNon]; exact g⟩
  · cases h; rw [ry.non]; exact ⟨_, op_notN, rfl, by rw [rx.isNon]; exact g⟩
  · split at h
    · rename_i hs
      cases h
      obtain ⟨a, vs, rfl, r1, r2⟩ := ry.sqL
      exact ⟨_, op_in_seq, flt hs (.inl r1) r2 g⟩
    · split at h
      · rename_i hs
        cases h
        exact ⟨_, op_inW hu hs (.inl (by unfold py; rfl)) rfl, rx.dp, ry.dp, g⟩
      · cases h
  · split at h
    · rename_i hs
      cases h
      obtain ⟨a, vs, rfl, r1, r2⟩ := ry.sqT
      exact ⟨_, op_in_seq, flt hs (.inr r1) r2 g⟩
    · split at h
      · rename_i hs
        cases h
        exact ⟨_, op_inW hu hs (.inr (by unfold py; rfl)) rfl, rx.dp, ry.dp, g⟩
      · cases h
  · split at h
    · rename_i hs
      cases h
      obtain ⟨a, vs, rfl, r1, r2⟩ := ry.sqL
      exact ⟨_, op_notIn_seq, flt hs (.inl r1) r2 g⟩
    · split at h
      · rename_i hs
        cases h
        exact ⟨_, op_notInW hu hs (.inl (by unfold py; rfl)) rfl, rx.dp, ry.dp, g⟩
      · cases h
  · split at h
    · rename_i hs
      cases h
      obtain ⟨a, vs, rfl, r1, r2⟩ := ry.sqT
      exact ⟨_, op_notIn_seq, flt hs (.inr r1) r2 g⟩
    · split at h
      · rename_i hs
        cases h
        exact ⟨_, op_notInW hu hs (.inr (by unfold py; rfl)) rfl, rx.dp, ry.dp, g⟩
      · cases h
  · split at h
    · rename_i hs
      cases h
      exact ⟨_, op_ltW hu hs (py_tup _), rx.dp, ry.dp, g⟩
    · cases h
  · split at h
    · rename_i hs
      cases h
      exact ⟨_, op_gtW hu hs (py_tup _), rx.dp, ry.dp, g⟩
    · cases h
  · split at h
    · rename_i hs
      cases h
      exact ⟨_, op_leW hu hs (py_tup _), rx.dp, ry.dp, g⟩
    · cases h
  · split at h
    · rename_i hs
      cases h
      exact ⟨_, op_geW hu hs (py_tup _), rx.dp, ry.dp, g⟩
    · cases h
  · cases h
end
end PU
namespace PU
open PySem PySem.Spec PyProof.Rows L2
section
variable {prog : Program} {w : World} {A : Around} {E : Value → Shared → Prop} {s : Shared} {l : Addr}
theorem max_intTup {xs : Array (Int × Tok)} {Q : Value → Shared → Prop} (hh : A.handled = none) (hl : s.heap.IsTuple l (intItems xs)) (hne : 0 < xs.size)
    (h : ∀ v h' tk, (intItems xs)[argBest (fun i j => decide (numAt xs i > numAt xs j)) (xs.size - 1)]? = some v → (∀ b o, s.heap.get? b = some o → h'.get? b = some o) → Q v { s with heap := h', toks := tk }) :
    wpAny (model prog w) A (call (.builtin "max") [.ref l]) Q E s := by
  have hlt : l < s.heap.objs.size := by obtain ⟨_, e, _⟩ := hl; exact Heap.lt_size e
  refine call_max_walk (wpAny_pyIter_tuple hl ?_)
  refine ⟨_, [_, l], [_], _, _, _, _, rfl, Walks.tuple (A := A.in1) hh _ l (Nat.ne_of_lt hlt) (intItems xs), ⟨⟨_, Heap.get?_push_size _ rfl, rfl, rfl⟩, hl.push _⟩, fun c hc => ?_, by simpa [intItems] using hne, CmpOf.ints_gt (numAt xs) (fun _ _ => intItems_at), fun v h' tk hP hk => ?_⟩
  · show c < (s.heap.push _).objs.size
    rw [Heap.size_push]
    rcases List.mem_cons.mp hc with rfl | hc
    · exact Nat.lt_succ_self _
    · rcases List.mem_cons.mp hc with rfl | hc
      · exact Nat.lt_succ_of_lt hlt
      · cases hc
  · refine h v h' tk (by simpa [intItems] using hP) (fun b o e => ?_)
    refine hk b o (fun hm => ?_) (Heap.get?_push_of_some _ e)
    rcases List.mem_cons.mp hm with e1 | hm
    · exact absurd (e1 ▸ Heap.lt_size e) (Nat.lt_irrefl _)
    · cases hm
theorem max_rawT {its : List Value} {ns : List Int} {Q : Value → Shared → Prop} (hh : A.handled = none) (hl : s.heap.IsTuple l its.toArray) (hi : IntsAre its ns) (hne : 0 < ns.length)
    (h : ∀ h' tk M t', (∀ b o, s.heap.get? b = some o → h'.get? b = some o) → M ∈ ns → (∀ a, a ∈ ns → a ≤ M) → Q (.int M t') { s with heap := h', toks := tk }) : wpAny (model prog w) A (call (.builtin "max") [.ref l]) Q E s := by
  obtain ⟨xs, e⟩ := hi.allInts.items
  have hn : numsOf (intItems xs).toList = ns := by rw [← e]; exact hi.numsOf
  rw [nums_intItems] at hn
  subst hn
  rw [e] at hl
  have hsz : 0 < xs.size := by simpa using hne
  refine max_intTup hh hl hsz fun v h' tk hv hk => ?_
  obtain ⟨t, rfl⟩ := intItems_at hv
  obtain ⟨h1, h2⟩ := argBest_gt (numAt xs) (xs.size - 1)
  refine h h' tk _ t hk ?_ fun a ha => ?_
  · rw [numAt_eq]; exact PySem.getD_mem (by rw [List.length_map, Array.length_toList]; omega)
  · obtain ⟨j, hj, rfl⟩ := mem_getD ha
    rw [List.length_map, Array.length_toList] at hj
    rw [← numAt_eq]; exact h2 j (by omega)
end
/-- max of a tuple of ints -/
def rMaxT (K : PySem.W.Frag) : List V → Hp → VK → Prop := fun vs H Q => ∃ (a : Addr) (ns : List Int), vs = [V.ref a] ∧ SqT K H a (ns.map V.int) ∧ 0 < ns.length ∧ ∀ m, m ∈ ns → (∀ y, y ∈ ns → y ≤ m) → Q (.int m) H
theorem cr_maxT {X : Cx} (hc : X.calm = true) : CallR X (.builtin "max") (rMaxT X.K) := by
  intro pins s σ H vs us Q I r h
  obtain ⟨a, ns, rfl, hs, hne, q⟩ := h
  obtain ⟨its, rv, hl, _⟩ := I.tuple hs
  rw [Vals.ref1 r]
  have hl' : s.heap.IsTuple a its.toArray := by
    obtain ⟨o, e, c, n, d⟩ := hl
    exact ⟨o, e, c, n, d⟩
  exact max_rawT (I.ok.hd hc) hl' rv.ints hne fun h' tk m t' hk h1 h2 => ⟨.int _, H, I.kept hk, ⟨_, rfl⟩, q m h1 h2⟩
/-! ### subscripts -/
def ixD : D → D → Option Slot
  | .lst ds, .int i => (atI ds i).map .val
  | .tup ds, .int i => (atI ds i).map .val
  | .str z, .int i => if z.length ≤ szL then (atI z.cps.toList i).map fun c => .val (.str ⟨#[c]⟩) else none
  | _, _ => none
def cutD (ds : List D) (lo hi : Option Int) : List D := (ds.drop (HT.sIx ds.length 0 lo)).take (HT.sIx ds.length ds.length hi - HT.sIx ds.length 0 lo)
def slD (d : D) (lo hi : Option Int) : Option Slot := match d with
  | .lst ds => some (.own false (cutD ds lo hi))
  | .tup ds => some (.val (.tup (cutD ds lo hi)))
  | _ => none
section
variable {X : Cx} {W : WX} {P : Nat} {K : PySem.W.Frag} {F : Addr → Prop} {H : Hp}
theorem atI_rps {vs : List V} {ds : List D} {i : Int} {d : D} (r : Rps K F H vs ds) (h : atI ds i = some d) : ∃ v, atI vs i = some v ∧ Rp K F H v d := by
  unfold atI at h ⊢
  rw [r.length]
  cases e : ixN ds.length i with
  | none => rw [e] at h; cases h
  | some j =>
    rw [e] at h
    exact r.get (i := j) h
theorem ix_ok : P2 X (ixMx X) ixD := by
  intro F H x y d e s Q lv rx ry h g
  unfold ixD at h
  split at h
  · obtain ⟨a, vs, rfl, r1, r2⟩ := rx.sqL
    rw [ry.int]
    rw [Option.map_eq_some_iff] at h
    obtain ⟨d, h, rfl⟩ := h
    obtain ⟨v, h1, h2⟩ := atI_rps r2 h
    exact ⟨_, ix_list, a, vs, _, v, rfl, rfl, r1, h1, g _ _ _ (growV lv h2)⟩
  · obtain ⟨a, vs, rfl, r1, r2⟩ := rx.sqT
    rw [ry.int]
    rw [Option.map_eq_some_iff] at h
    obtain ⟨d, h, rfl⟩ := h
    obtain ⟨v, h1, h2⟩ := atI_rps r2 h
    exact ⟨_, ix_tup, a, vs, _, v, rfl, rfl, r1, h1, g _ _ _ (growV lv h2)⟩
  · split at h
    · rename_i hz
      rw [Option.map_eq_some_iff] at h
      obtain ⟨c, h, rfl⟩ := h
      rw [rx.str, ry.int]
      exact ⟨_, ix_str, _, _, c, rfl, rfl, by rw [← szL_eq]; exact hz, h, g _ _ _ (growV lv (.str _))⟩
    · cases h
  · cases h
def plainIx : Expr → Bool
  | .Slice .. => false
  | _ => true
theorem plainIx_ok {b : Expr} (h : plainIx b = true) : PlainIx b := fun o i => by
  cases b <;> first | rfl | cases h
theorem se_ix {a b : Expr} {pos : Pos} {fa fb : M Vl} (hp : plainIx b = true) (ha : SE X W P a fa) (hb : SE X W P b fb) : SE X W P (.Subscript a b pos) (xBin ixD fa fb) := se_bin ix_ok (pe_ix ix_mx pE pE (plainIx_ok hp)) ha hb
/-! ### slices -/
def xNoPart : M (Option Int) := ret none
def xPart (a : M Vl) : M (Option Int) := bnd a fun v => fun st => match rd v st with
  | some (.int i) => .ok (some i) st
  | _ => .stuck
def toP (X : Cx) : Option Expr → L2.TO
  | none => tNoPart
  | some e => tPart (WE X e)
theorem toP_ok : ∀ o : Option Expr, PO X o (toP X o)
  | none => po_none
  | some e => po_some pE
def SO (X : Cx) (W : WX) (P : Nat) (o : Option Expr) (f : M (Option Int)) : Prop := ∀ st σ τ F H Q, σ.length = X.N.length → Rs X.K F st (σ ++ τ) H →
  Post X W P σ τ st F H (f st) (fun b st' τ' F' H' => Q b H') → toP X o σ H Q
theorem so_none : SO X W P none xNoPart := fun st σ τ F H Q hl r h => Post.here (a := (none : Option Int)) r h
theorem so_some {e : Expr} {fa : M Vl} (ha : SE X W P e fa) : SO X W P (some e) (xPart fa) := fun st σ τ F H Q hl r h => by
  refine ha st σ τ F H _ hl r (h.bind.imp fun v st1 τ1 F1 H1 s1 _ q x rv => ?_)
  split at q
  · rename_i i hi
    refine ⟨i, (rd_ok hi s1.rs rv).int, Post.here (a := some i) s1.rs q⟩
  · exact q.elim
def ap3 (f : D → Option Int → Option Int → Option Slot) (u : Vl) (lo hi : Option Int) : M Vl := ap1 (fun d => f d lo hi) u
def xSlice (a : M Vl) (lo hi : M (Option Int)) : M Vl := bnd a fun u => bnd lo fun l => bnd hi fun h => ap3 slD u l h
theorem Rq.tupP {x : V} {ds : List D} (r : Rq K F H x (.tup ds)) : Rp K F H x (.tup ds) := by
  rcases r with r | ⟨_, _, _, _, e, _⟩
  · exact r
  · cases e
theorem sl_ok (lo hi : Option Int) : P1 X (fun x H Q => slMx X x lo hi H Q) (fun d => slD d lo hi) := by
  intro F H x d s Q lv rx h g
  have h : slD d lo hi = some s := h
  unfold slD at h
  split at h
  · cases h
    obtain ⟨a, vs, rfl, r1, r2⟩ := rx.sqL
    refine ⟨_, sl_list, a, vs, rfl, r1, fun p hp => g _ _ _ (growL lv hp ?_)⟩
    unfold cutD
    rw [← r2.length]
    exact r2.cut _ _
  · cases h
    rename_i ds
    have rp := rx.tupP
    obtain ⟨a, vs, rfl, r1, r2⟩ := rx.sqT
    have hc : Rps X.K F H (cutV vs lo hi) (cutD ds lo hi) := by
      unfold cutD
      rw [← r2.length]
      exact r2.cut _ _
    refine ⟨_, sl_tupA, a, vs, rfl, r1, fun z => ?_, fun _ p hp => g _ _ _ (growT lv hp hc)⟩
    have : cutD ds lo hi = ds := by
      unfold cutD
      rw [← r2.length, z.1, z.2]
      rw [r2.length]
      simp
    rw [this] at g
    exact g _ _ _ (growV lv rp)
  · cases h
theorem se_slice {a : Expr} {lo hi : Option Expr} {pos p2 : Pos} {fa : M Vl} {fl fh : M (Option Int)} (ha : SE X W P a fa) (hl' : SO X W P lo fl) (hh : SO X W P hi fh) : SE X W P (.Subscript a (.Slice lo hi none p2) pos) (xSlice fa fl fh) := fun st σ τ F H Q hl r h => by
  refine we (pe_slice sl_mx pE (toP_ok lo) (toP_ok hi)) (ha st σ τ F H _ hl r (h.bind.imp fun v st1 τ1 F1 H1 s1 _ q x rv => ?_))
  refine hl' st1 σ _ F1 H1 _ hl s1.rs (q.bind.imp fun l st2 τ2 F2 H2 s2 _ q2 => ?_)
  refine hh st2 σ _ F2 H2 _ hl s2.rs (q2.bind.imp fun h' st3 τ3 F3 H3 s3 _ q3 => ?_)
  exact post_ap1 (sl_ok l h') s3.rs (s3.rvA s2.rs (s2.rvA s1.rs rv)) q3
/-! ### calls of what is built in -/
inductive Rqs (K : PySem.W.Frag) (F : Addr → Prop) (H : Hp) : List V → List D → Prop
  | nil : Rqs K F H [] []
  | cons {v : V} {vs : List V} {d : D} {ds : List D} : Rq K F H v d → Rqs K F H vs ds → Rqs K F H (v :: vs) (d :: ds)
def rds : List Vl → Sto → Option (List D)
  | [], _ => some []
  | v :: vs, st => match rd v st, rds vs st with
    | some d, some ds => some (d :: ds)
    | _, _ => none
theorem rds_ok {st : Sto} {ρ : St} (r : Rs K F st ρ H) : ∀ {vs : List Vl} {xs : List V} {ds : List D}, Rvs K F H ρ xs vs → rds vs st = some ds → Rqs K F H xs ds
  | _, _, _, .nil, h => by cases h; exact .nil
  | _, _, _, .cons q t, h => by
    unfold rds at h
    split at h
    · rename_i d ds' h1 h2
      cases h
      exact .cons (rd_ok h1 r q) (rds_ok r t h2)
    · cases h
def PN (X : Cx) (op : List V → Hp → VK → Prop) (f : List D → Option Slot) : Prop := ∀ F H xs ds s Q, (∀ a, F a → ∃ o, H a = some o) → Rqs X.K F H xs ds → f ds = some s → (∀ v F' H', Grow X.K F H F' H' s v → Q v H') → op xs H Q
def apN (f : List D → Option Slot) (vs : List Vl) : M Vl := fun st => match rds vs st with
  | some ds => match f ds with
    | some s => alloc s st
    | none => .stuck
  | none => .stuck
theorem post_apN {op : List V → Hp → VK → Prop} {f : List D → Option Slot} {vs : List Vl} {xs : List V} {Q : VK} {st : Sto} {σ τ : St} (p : PN X op f) (r : Rs X.K F st (σ ++ τ) H) (q : Rvs X.K F H (σ ++ τ) xs vs)
    (h : Post X W P σ τ st F H (apN f vs st) (fun v st' τ' F' H' => ∀ x, Rv X.K F' H' (σ ++ τ') x v → Q x H')) : op xs H Q := by
  unfold apN at h
  split at h
  · rename_i ds hd
    split at h
    · rename_i s hs
      exact p F H xs ds s Q r.live (rds_ok r q hd) hs (post_alloc r h)
    · exact h.elim
  · exact h.elim
def xBlt (f : List D → Option Slot) (as : M (List Vl)) : M Vl := bnd as (apN f)
theorem se_callB {e : Expr} {es : List Expr} {pos p : Pos} {x : Str} {id : String} {f : List D → Option Slot} {fa : M (List Vl)} (pn : PN X (cMx X (.builtin id)) f) (hg : Gl X x) (hm : X.mg x = none) (hv : bootBuiltins x = some (.builtin id)) (hn : x ≠ "__name__") (hd : (x == ("__debug__" : Str)) = false)
    (hs : ∀ a ∈ e :: es, noStar a = true) (ha : SA X W P (e :: es) fa) : SE X W P (.Call (.Name x p) (e :: es) [] pos) (xBlt f fa) := fun st σ τ F H Q hl r h =>
  we (pe_callB c_mx hg hm hv pA hn hd (starEach_of (hs e (List.mem_cons_self ..))) (any_backTo fun a ha => hs a (List.mem_cons_of_mem _ ha))) (ha st σ τ F H _ hl r (h.bind.imp fun vs st1 τ1 F1 H1 s1 _ q xs rvs => post_apN pn s1.rs rvs q))
theorem se_callT {e : Expr} {es : List Expr} {pos p : Pos} {x : Str} {id : String} {f : List D → Option Slot} {fa : M (List Vl)} (pn : PN X (cMx X (.type id)) f) (hg : Gl X x) (hm : X.mg x = none) (hv : bootBuiltins x = some (.type id)) (hn : x ≠ "__name__") (hd : (x == ("__debug__" : Str)) = false)
    (hs : ∀ a ∈ e :: es, noStar a = true) (ha : SA X W P (e :: es) fa) : SE X W P (.Call (.Name x p) (e :: es) [] pos) (xBlt f fa) := fun st σ τ F H Q hl r h =>
  we (pe_callTy c_mx hg hm hv pA hn hd (starEach_of (hs e (List.mem_cons_self ..))) (any_backTo fun a ha => hs a (List.mem_cons_of_mem _ ha))) (ha st σ τ F H _ hl r (h.bind.imp fun vs st1 τ1 F1 H1 s1 _ q xs rvs => post_apN pn s1.rs rvs q))
/-! ### the built-in ones, by data -/
def asI : List D → Option (List Int)
  | [] => some []
  | .int i :: ds => (asI ds).map (i :: ·)
  | _ :: _ => none
def asB : List D → Option (List Bool)
  | [] => some []
  | .bl i :: ds => (asB ds).map (i :: ·)
  | _ :: _ => none
theorem asI_ok : ∀ {vs : List V} {ds : List D} {ns : List Int}, Rps K F H vs ds → asI ds = some ns → vs = ns.map V.int ∧ ds = ns.map D.int
  | _, _, _, .nil, h => by cases h; exact ⟨rfl, rfl⟩
  | _, _, _, .cons r t, h => by
    unfold asI at h
    split at h
    · rename_i e; cases e
    · rename_i i ds' e
      cases e
      rw [Option.map_eq_some_iff] at h
      obtain ⟨l, h, rfl⟩ := h
      obtain ⟨e1, e2⟩ := asI_ok t h
      cases r
      exact ⟨by rw [e1]; rfl, by rw [e2]; rfl⟩
    · cases h
theorem asB_ok : ∀ {vs : List V} {ds : List D} {ns : List Bool}, Rps K F H vs ds → asB ds = some ns → vs = ns.map V.bl
  | _, _, _, .nil, h => by cases h; rfl
  | _, _, _, .cons r t, h => by
    unfold asB at h
    split at h
    · rename_i e; cases e
    · rename_i i ds' e
      cases e
      rw [Option.map_eq_some_iff] at h
      obtain ⟨l, h, rfl⟩ := h
      cases r
      rw [asB_ok t h]; rfl
    · cases h
theorem rps_ints : ∀ ns : List Int, Rps K F H (ns.map V.int) (ns.map D.int)
  | [] => .nil
  | n :: ns => .cons (.int n) (rps_ints ns)
def bAbs : List D → Option Slot
  | [.int i] => some (.val (.int i.natAbs))
  | _ => none
def bLen : List D → Option Slot
  | [.lst ds] => some (.val (.int ds.length))
  | [.tup ds] => some (.val (.int ds.length))
  | [.str x] => gd (decide (x.length ≤ szL)) (.val (.int x.length))
  | _ => none
def maxL : List Int → Int → Int
  | [], m => m
  | n :: ns, m => maxL ns (max m n)
def minL : List Int → Int → Int
  | [], m => m
  | n :: ns, m => minL ns (min m n)
def bMin : List D → Option Slot
  | [.int i, .int j] => some (.val (.int (min i j)))
  | [.lst ds] => match asI ds with
    | some (n :: ns) => some (.val (.int (minL ns n)))
    | _ => none
  | _ => none
def bMax : List D → Option Slot
  | [.int i, .int j] => some (.val (.int (max i j)))
  | [.lst ds] => match asI ds with
    | some (n :: ns) => some (.val (.int (maxL ns n)))
    | _ => none
  | [.tup ds] => match asI ds with
    | some (n :: ns) => some (.val (.int (maxL ns n)))
    | _ => none
  | _ => none
def bInt : List D → Option Slot
  | [.int i] => some (.val (.int i))
  | [.bl k] => some (.val (.int (if k then 1 else 0)))
  | [.str x] => if x.length ≤ 640 then (PySem.intText? x).map fun n => .val (.int n) else none
  | _ => none
def bDivmod : List D → Option Slot
  | [.int i, .int j] => gd (decide (0 < j) && decide (j.natAbs.log2 < 9000)) (.val (.tup [.int (i / j), .int (i % j)]))
  | _ => none
def bAll : List D → Option Slot
  | [.lst ds] => (asB ds).map fun l => .val (.bl (l.all id))
  | _ => none
def bAny : List D → Option Slot
  | [.lst ds] => (asB ds).map fun l => .val (.bl (l.any id))
  | _ => none
def bSum : List D → Option Slot
  | [.lst ds] => (asI ds).map fun l => .val (.int l.sum)
  | _ => none
def leB (a b : Int) : Bool := decide (a ≤ b)
/-! ### sorted of any data that are alike -/
def neT : D → Bool
  | .tup (_ :: _) => true
  | _ => false
def noT : D → Bool
  | .tup _ => false
  | .non => false
  | _ => true
def sortG (ds : List D) : Bool := ds.all (fun a => ds.all fun b => PySem.W.alike (py a) (py b)) && (ds.all neT || ds.all noT) && ds.all (fun d => decide ((py d).depth ≤ 60)) && decide (ds.length ≤ szL)
def sortD (ds : List D) : List D := ds.mergeSort (PySem.W.dataLe false py)
section
variable {X : Cx} {K : PySem.W.Frag} {F : Addr → Prop} {H : Hp}
theorem neT_ok {d : D} (h : neT d = true) : ∃ x r, py d = .tuple (x :: r) := by
  unfold neT at h
  split at h
  · rename_i e es; unfold py pys; exact ⟨_, _, rfl⟩
  · cases h
theorem noT_ok {d : D} (h : noT d = true) : py d ≠ .none ∧ ∀ xs, py d ≠ .tuple xs := by
  cases d with
  | non => cases h
  | tup _ => cases h
  | bl _ => unfold py; exact ⟨nofun, nofun⟩
  | int _ => unfold py; exact ⟨nofun, nofun⟩
  | str _ => unfold py; exact ⟨nofun, nofun⟩
  | lst _ => unfold py; exact ⟨nofun, nofun⟩
/-- what an item stands for -/
def StF (K : PySem.W.Frag) (F : Addr → Prop) (H : Hp) (u : Value) (d : D) : Prop := ∃ x, RelV x u ∧ Rp K F H x d
theorem each_of : ∀ {xs : List V} {us : List Value} {ds : List D}, Vals xs us → Rps K F H xs ds → PySem.W.EachIs (StF K F H) us ds
  | _, _, _, .nil, .nil => .nil
  | _, _, _, .cons r t, .cons q s => .cons ⟨_, r, q⟩ (each_of t s)
theorem of_each : ∀ {us : List Value} {ds : List D}, PySem.W.EachIs (StF K F H) us ds → ∃ xs, Vals xs us ∧ Rps K F H xs ds
  | _, _, .nil => ⟨[], .nil, .nil⟩
  | _, _, .cons ⟨x, r, q⟩ t => by
    obtain ⟨xs, h1, h2⟩ := of_each t
    exact ⟨x :: xs, .cons r h1, .cons q h2⟩
def rSortD (K : PySem.W.Frag) : List V → Hp → VK → Prop := fun vs H Q => ∃ (a : Addr) (xs : List V) (ds : List D) (F : Addr → Prop), vs = [.ref a] ∧ SqL K H a xs ∧ Rps K F H xs ds ∧ sortG ds = true ∧ ∀ ys p, Rps K F H ys (sortD ds) → H p = none → Q (.ref p) (upd H p (.lst ys))
theorem cr_sortD (hu : X.A.units + 64 < cLine) : CallR X (.builtin "sorted") (rSortD X.K) := by
  intro pins s σ H vs us Q I r h
  obtain ⟨a, xs, ds, F, e0, hs, rp, hg, q⟩ := h
  subst e0
  unfold sortG at hg
  rw [Bool.and_eq_true, Bool.and_eq_true, Bool.and_eq_true] at hg
  obtain ⟨⟨⟨g1, g2⟩, g3⟩, g4⟩ := hg
  obtain ⟨its, rv, hl, hz⟩ := I.list hs
  rw [Vals.ref1 r]
  have ea := each_of rv rp
  have hal : PySem.W.AllAlike (ds.map py) := by
    intro d hd d' hd'
    obtain ⟨b, hb, rfl⟩ := List.mem_map.mp hd
    obtain ⟨b', hb', rfl⟩ := List.mem_map.mp hd'
    exact List.all_eq_true.mp (List.all_eq_true.mp g1 b hb) b' hb'
  have hk : PySem.W.Sortable (ds.map py) := by
    rw [Bool.or_eq_true] at g2
    rcases g2 with g2 | g2
    · left
      intro d hd
      obtain ⟨b, hb, rfl⟩ := List.mem_map.mp hd
      exact neT_ok (List.all_eq_true.mp g2 b hb)
    · right
      intro d hd
      obtain ⟨b, hb, rfl⟩ := List.mem_map.mp hd
      exact noT_ok (List.all_eq_true.mp g2 b hb)
  have hlen : ds.length ≤ sizeLine := by rw [← szL_eq]; exact of_decide_eq_true g4
  refine PySem.W.sorted_data (enc := py) hl.isList ea (ea.mono fun u d ⟨x, r1, r2⟩ => Dp.reads I (py d) x u r2.dp r1) hal hk hlen (fun b hb => ?_) fun out ho eo => ?_
  · have := of_decide_eq_true (List.all_eq_true.mp g3 b hb)
    omega
  · obtain ⟨ys, y1, y2⟩ := of_each eo
    obtain ⟨ep, he⟩ := PyProof.Rows.sortedAll_at s.heap its out.toArray
    have hy : ys.length ≤ sizeLine := by rw [y1.length, ho]; exact hlen
    refine ⟨.ref _, upd H (s.heap.objs.size + 1) (.lst ys), I.laid (t' := s.toks) (fun _ _ => PyProof.Rows.sortedAll_old) (Nat.le_succ _) ⟨hy, out, ep, y1, he⟩, rfl, ?_⟩
    exact q ys _ y2 (I.hok.fresh (Nat.le_succ _))
/-- a list of no or one item -/
def rSort1 (K : PySem.W.Frag) : List V → Hp → VK → Prop := fun vs H Q => ∃ (a : Addr) (xs : List V), vs = [.ref a] ∧ SqL K H a xs ∧ xs.length ≤ 1 ∧ ∀ p, H p = none → Q (.ref p) (upd H p (.lst xs))
theorem cr_sort1 : CallR X (.builtin "sorted") (rSort1 X.K) := by
  intro pins s σ H vs us Q I r h
  obtain ⟨a, xs, e0, hs, h1, q⟩ := h
  subst e0
  obtain ⟨its, rv, hl, hz⟩ := I.list hs
  rw [Vals.ref1 r]
  have hle : its.length ≤ 1 := by rw [← rv.length]; exact h1
  refine SrtO.sorted_ord (ltv := fun _ _ => false) ⟨fun _ _ _ => rfl, fun _ _ _ _ _ => rfl⟩ hl.isList (by rw [← rv.length]; exact hz) (fun h2 => absurd (Nat.le_trans h2 hle) (by decide)) fun out _ st => ?_
  have eo : out = its := by
    have p := st.perm
    cases its with
    | nil => exact p.eq_nil
    | cons x t =>
      have : t = [] := List.eq_nil_of_length_eq_zero (by rw [List.length_cons] at hle; omega)
      subst this
      exact List.perm_singleton.mp p
  subst eo
  obtain ⟨ep, he⟩ := PyProof.Rows.sortedAll_at s.heap out out.toArray
  exact ⟨.ref _, upd H (s.heap.objs.size + 1) (.lst xs), I.laid (t' := s.toks) (fun _ _ => PyProof.Rows.sortedAll_old) (Nat.le_succ _) ⟨hz, out, ep, rv, he⟩, rfl, q _ (I.hok.fresh (Nat.le_succ _))⟩
end
def bSorted : List D → Option Slot
  | [.lst ds] => match asI ds with
    | some l => some (.own false ((l.mergeSort leB).map .int))
    | none => if ds.length ≤ 1 then some (.own false ds) else if sortG ds then some (.own false (sortD ds)) else none
  | _ => none
def bTuple : List D → Option Slot
  | [.lst ds] => some (.val (.tup ds))
  | [.tup ds] => some (.val (.tup ds))
  | _ => none
def bList : List D → Option Slot
  | [.lst ds] => some (.own false ds)
  | [.tup ds] => some (.own false ds)
  | _ => none
def bStr : List D → Option Slot
  | [.int i] => gd (decide (i.natAbs.log2 < 1920)) (.val (.str (toString i)))
  | _ => none
def reprG (d : D) : Bool := (py d).showable && shD d && decide ((shown d).length ≤ szL)
def bRepr : List D → Option Slot
  | [.int i] => gd (decide (i.natAbs.log2 < 1920)) (.val (.str (toString i)))
  | [.lst ds] => gd (reprG (.lst ds)) (.val (.str (shown (.lst ds))))
  | [.tup ds] => gd (reprG (.tup ds)) (.val (.str (shown (.tup ds))))
  | [.bl b] => some (.val (.str (if b then "True" else "False")))
  | [.non] => some (.val (.str "None"))
  | _ => none
theorem Rqs.one {xs : List V} {d : D} (r : Rqs K F H xs [d]) : ∃ x, xs = [x] ∧ Rq K F H x d := by
  cases r with
  | cons q t => cases t; exact ⟨_, rfl, q⟩
theorem Rqs.two {xs : List V} {d e : D} (r : Rqs K F H xs [d, e]) : ∃ x y, xs = [x, y] ∧ Rq K F H x d ∧ Rq K F H y e := by
  cases r with
  | cons q t =>
    cases t with
    | cons q' t' => cases t'; exact ⟨_, _, rfl, q, q'⟩
theorem b_abs : PN X (cMx X (.builtin "abs")) bAbs := by
  intro F H xs ds s Q lv rx h g
  unfold bAbs at h
  split at h
  · cases h
    obtain ⟨x, rfl, q⟩ := rx.one
    rw [q.int]
    rename_i i
    refine ⟨_, call_abs, i, rfl, ?_⟩
    rw [show (if i < 0 then -i else i) = (i.natAbs : Int) by split <;> omega]
    exact g _ _ _ (growV lv (.int _))
  · cases h
theorem b_len : PN X (cMx X (.builtin "len")) bLen := by
  intro F H xs ds s Q lv rx h g
  unfold bLen at h
  split at h
  · cases h
    obtain ⟨x, rfl, q⟩ := rx.one
    obtain ⟨a, vs, rfl, r1, r2⟩ := q.sqL
    exact ⟨_, call_len, _, _, rfl, .inl ⟨vs, r1, r2.length.symm⟩, g _ _ _ (growV lv (.int _))⟩
  · cases h
    obtain ⟨x, rfl, q⟩ := rx.one
    obtain ⟨a, vs, rfl, r1, r2⟩ := q.sqT
    exact ⟨_, call_len, _, _, rfl, .inr ⟨vs, r1, r2.length.symm⟩, g _ _ _ (growV lv (.int _))⟩
  · obtain ⟨h1, rfl⟩ := gd_some h
    obtain ⟨x, rfl, q⟩ := rx.one
    rw [q.str]
    exact ⟨_, call_len, _, _, rfl, ⟨by rw [← szL_eq]; exact of_decide_eq_true h1, rfl⟩, g _ _ _ (growV lv (.int _))⟩
  · cases h
theorem maxL_ge : ∀ (ns : List Int) (m : Int), m ≤ maxL ns m ∧ (∀ n ∈ ns, n ≤ maxL ns m) ∧ (maxL ns m = m ∨ maxL ns m ∈ ns)
  | [], m => ⟨Int.le_refl _, (fun _ h => nomatch h), .inl rfl⟩
  | n :: ns, m => by
    obtain ⟨h1, h2, h3⟩ := maxL_ge ns (max m n)
    unfold maxL
    refine ⟨by omega, fun k hk => ?_, ?_⟩
    · rcases List.mem_cons.mp hk with rfl | hk
      · omega
      · exact h2 k hk
    · rcases h3 with h3 | h3
      · by_cases hm : m ≤ n
        · right; rw [h3, show max m n = n by omega]; exact List.mem_cons_self ..
        · left; omega
      · exact .inr (List.mem_cons_of_mem _ h3)
theorem minL_le : ∀ (ns : List Int) (m : Int), minL ns m ≤ m ∧ (∀ n ∈ ns, minL ns m ≤ n) ∧ (minL ns m = m ∨ minL ns m ∈ ns)
  | [], m => ⟨Int.le_refl _, (fun _ h => nomatch h), .inl rfl⟩
  | n :: ns, m => by
    obtain ⟨h1, h2, h3⟩ := minL_le ns (min m n)
    unfold minL
    refine ⟨by omega, fun k hk => ?_, ?_⟩
    · rcases List.mem_cons.mp hk with rfl | hk
      · omega
      · exact h2 k hk
    · rcases h3 with h3 | h3
      · by_cases hm : n ≤ m
        · right; rw [h3, show min m n = n by omega]; exact List.mem_cons_self ..
        · left; omega
      · exact .inr (List.mem_cons_of_mem _ h3)
theorem b_min (hc : X.calm = true) : PN X (cMx X (.builtin "min")) bMin := by
  intro F H xs ds s Q lv rx h g
  unfold bMin at h
  split at h
  · cases h
    rename_i i j
    obtain ⟨x, y, rfl, q1, q2⟩ := rx.two
    rw [q1.int, q2.int]
    refine ⟨_, call_min2 hc, i, j, rfl, ?_⟩
    rw [show (if j < i then j else i) = min i j by split <;> omega]
    exact g _ _ _ (growV lv (.int _))
  · split at h
    · rename_i ds n ns hi
      cases h
      obtain ⟨x, rfl, q⟩ := rx.one
      obtain ⟨a, vs, rfl, r1, r2⟩ := q.sqL
      obtain ⟨e1, _⟩ := asI_ok r2 hi
      rw [e1] at r1
      refine ⟨_, cr_min hc, a, n :: ns, rfl, r1, Nat.succ_pos _, fun m h1 h2 => ?_⟩
      obtain ⟨z1, z2, z3⟩ := minL_le ns n
      have : m = minL ns n := by
        have a1 : minL ns n ≤ m := by
          rcases List.mem_cons.mp h1 with rfl | h1
          · exact z1
          · exact z2 m h1
        have a2 : m ≤ minL ns n := h2 _ (by rcases z3 with z3 | z3; rw [z3]; exact List.mem_cons_self ..; exact List.mem_cons_of_mem _ z3)
        omega
      rw [this]
      exact g _ _ _ (growV lv (.int _))
    · cases h
  · cases h
theorem b_max (hc : X.calm = true) : PN X (cMx X (.builtin "max")) bMax := by
  intro F H xs ds s Q lv rx h g
  unfold bMax at h
  split at h
  · cases h
    rename_i i j
    obtain ⟨x, y, rfl, q1, q2⟩ := rx.two
    rw [q1.int, q2.int]
    refine ⟨_, call_max2 hc, i, j, rfl, ?_⟩
    rw [show (if j > i then j else i) = max i j by split <;> omega]
    exact g _ _ _ (growV lv (.int _))
  · split at h
    · rename_i ds n ns hi
      cases h
      obtain ⟨x, rfl, q⟩ := rx.one
      obtain ⟨a, vs, rfl, r1, r2⟩ := q.sqL
      obtain ⟨e1, _⟩ := asI_ok r2 hi
      rw [e1] at r1
      refine ⟨_, cr_max hc, a, n :: ns, rfl, r1, Nat.succ_pos _, fun m h1 h2 => ?_⟩
      obtain ⟨z1, z2, z3⟩ := maxL_ge ns n
      have : m = maxL ns n := by
        have a1 : m ≤ maxL ns n := by
          rcases List.mem_cons.mp h1 with rfl | h1
          · exact z1
          · exact z2 m h1
        have a2 : maxL ns n ≤ m := h2 _ (by rcases z3 with z3 | z3; rw [z3]; exact List.mem_cons_self ..; exact List.mem_cons_of_mem _ z3)
        omega
      rw [this]
      exact g _ _ _ (growV lv (.int _))
    · cases h
  · split at h
    · rename_i ds n ns hi
      cases h
      obtain ⟨x, rfl, q⟩ := rx.one
      obtain ⟨a, vs, rfl, r1, r2⟩ := q.sqT
      obtain ⟨e1, _⟩ := asI_ok r2 hi
      rw [e1] at r1
      refine ⟨_, cr_maxT hc, a, n :: ns, rfl, r1, Nat.succ_pos _, fun m h1 h2 => ?_⟩
      obtain ⟨z1, z2, z3⟩ := maxL_ge ns n
      have : m = maxL ns n := by
        have a1 : m ≤ maxL ns n := by
          rcases List.mem_cons.mp h1 with rfl | h1
          · exact z1
          · exact z2 m h1
        have a2 : maxL ns n ≤ m := h2 _ (by rcases z3 with z3 | z3; rw [z3]; exact List.mem_cons_self ..; exact List.mem_cons_of_mem _ z3)
        omega
      rw [this]
      exact g _ _ _ (growV lv (.int _))
    · cases h
  · cases h
theorem b_int : PN X (cMx X (.type "int")) bInt := by
  intro F H xs ds s Q lv rx h g
  unfold bInt at h
  split at h
  · cases h
    obtain ⟨x, rfl, q⟩ := rx.one
    rw [q.int]
    exact ⟨_, call_int1, .inl ⟨_, rfl, g _ _ _ (growV lv (.int _))⟩⟩
  · cases h
    obtain ⟨x, rfl, q⟩ := rx.one
    rw [q.bl]
    exact ⟨_, call_int1, .inr ⟨_, rfl, g _ _ _ (growV lv (.int _))⟩⟩
  · split at h
    · rename_i hz
      rw [Option.map_eq_some_iff] at h
      obtain ⟨n, h, rfl⟩ := h
      obtain ⟨x, rfl, q⟩ := rx.one
      rw [q.str]
      exact ⟨_, call_int_str, _, n, rfl, h, hz, g _ _ _ (growV lv (.int _))⟩
    · cases h
  · cases h
theorem b_divmod : PN X (cMx X (.builtin "divmod")) bDivmod := by
  intro F H xs ds s Q lv rx h g
  unfold bDivmod at h
  split at h
  · obtain ⟨h1, rfl⟩ := gd_some h
    rw [Bool.and_eq_true] at h1
    obtain ⟨x, y, rfl, q1, q2⟩ := rx.two
    rw [q1.int, q2.int]
    exact ⟨_, call_divmodW, _, _, rfl, ⟨of_decide_eq_true h1.1, PyProof.noPylong_of_log2 (of_decide_eq_true h1.2)⟩, fun p hp => g _ _ _ (growT lv hp (.cons (.int _) (.cons (.int _) .nil)))⟩
  · cases h
theorem b_all (hc : X.calm = true) : PN X (cMx X (.builtin "all")) bAll := by
  intro F H xs ds s Q lv rx h g
  unfold bAll at h
  split at h
  · rw [Option.map_eq_some_iff] at h
    obtain ⟨l, h, rfl⟩ := h
    obtain ⟨x, rfl, q⟩ := rx.one
    obtain ⟨a, vs, rfl, r1, r2⟩ := q.sqL
    rw [asB_ok r2 h] at r1
    exact ⟨_, cr_all hc, a, l, rfl, r1, g _ _ _ (growV lv (.bl _))⟩
  · cases h
theorem b_any (hc : X.calm = true) : PN X (cMx X (.builtin "any")) bAny := by
  intro F H xs ds s Q lv rx h g
  unfold bAny at h
  split at h
  · rw [Option.map_eq_some_iff] at h
    obtain ⟨l, h, rfl⟩ := h
    obtain ⟨x, rfl, q⟩ := rx.one
    obtain ⟨a, vs, rfl, r1, r2⟩ := q.sqL
    rw [asB_ok r2 h] at r1
    exact ⟨_, cr_any hc, a, l, rfl, r1, g _ _ _ (growV lv (.bl _))⟩
  · cases h
theorem b_sum (hc : X.calm = true) : PN X (cMx X (.builtin "sum")) bSum := by
  intro F H xs ds s Q lv rx h g
  unfold bSum at h
  split at h
  · rw [Option.map_eq_some_iff] at h
    obtain ⟨l, h, rfl⟩ := h
    obtain ⟨x, rfl, q⟩ := rx.one
    obtain ⟨a, vs, rfl, r1, r2⟩ := q.sqL
    rw [(asI_ok r2 h).1] at r1
    exact ⟨_, cr_sum hc, a, l, rfl, r1, g _ _ _ (growV lv (.int _))⟩
  · cases h
theorem sorted_eq {l m : List Int} (hp : m.Perm l) (hs : m.Pairwise (· ≤ ·)) : m = l.mergeSort leB := by
  have h1 : (l.mergeSort leB).Pairwise (· ≤ ·) := by
    have := List.pairwise_mergeSort (le := leB) (fun a b c h1 h2 => by unfold leB at *; simp at *; omega) (fun a b => by unfold leB; simp; omega) l
    exact this.imp fun h => by unfold leB at h; simpa using h
  exact List.Perm.eq_of_pairwise (le := (· ≤ ·)) (fun a b _ _ h1 h2 => Int.le_antisymm h1 h2) hs h1 (hp.trans (List.mergeSort_perm l leB).symm)
theorem b_sorted (hu : X.A.units + 64 < cLine) : PN X (cMx X (.builtin "sorted")) bSorted := by
  intro F H xs ds s Q lv rx h g
  unfold bSorted at h
  split at h
  · obtain ⟨x, rfl, q⟩ := rx.one
    obtain ⟨a, vs, rfl, r1, r2⟩ := q.sqL
    split at h
    · rename_i l hl
      cases h
      rw [(asI_ok r2 hl).1] at r1
      refine ⟨_, cr_sortedI, a, l, rfl, r1, fun m p h1 h2 hp => ?_⟩
      rw [sorted_eq h1 h2]
      exact g _ _ _ (growL lv hp (rps_ints _))
    · split at h
      · rename_i h1
        cases h
        exact ⟨_, cr_sort1, a, vs, rfl, r1, by rw [r2.length]; exact h1, fun p hp => g _ _ _ (growL lv hp r2)⟩
      · split at h
        · rename_i h2
          cases h
          exact ⟨_, cr_sortD hu, a, vs, _, F, rfl, r1, r2, h2, fun ys p ry hp => g _ _ _ (growL lv hp ry)⟩
        · cases h
  · cases h
theorem b_tuple : PN X (cMx X (.type "tuple")) bTuple := by
  intro F H xs ds s Q lv rx h g
  unfold bTuple at h
  split at h
  · cases h
    obtain ⟨x, rfl, q⟩ := rx.one
    obtain ⟨a, vs, rfl, r1, r2⟩ := q.sqL
    exact ⟨_, call_tuple_of, a, vs, rfl, .inl ⟨r1, fun p hp => g _ _ _ (growT lv hp r2)⟩⟩
  · cases h
    obtain ⟨x, rfl, q⟩ := rx.one
    have rp := q.tupP
    obtain ⟨a, vs, rfl, r1, r2⟩ := q.sqT
    exact ⟨_, call_tuple_of, a, vs, rfl, .inr ⟨r1, g _ _ _ (growV lv rp)⟩⟩
  · cases h
theorem b_list : PN X (cMx X (.type "list")) bList := by
  intro F H xs ds s Q lv rx h g
  unfold bList at h
  split at h
  · cases h
    obtain ⟨x, rfl, q⟩ := rx.one
    obtain ⟨a, vs, rfl, r1, r2⟩ := q.sqL
    exact ⟨_, call_list_of, a, vs, rfl, .inl r1, fun p hp => g _ _ _ (growL lv hp r2)⟩
  · cases h
    obtain ⟨x, rfl, q⟩ := rx.one
    obtain ⟨a, vs, rfl, r1, r2⟩ := q.sqT
    exact ⟨_, call_list_of, a, vs, rfl, .inr r1, fun p hp => g _ _ _ (growL lv hp r2)⟩
  · cases h
theorem b_str : PN X (cMx X (.type "str")) bStr := by
  intro F H xs ds s Q lv rx h g
  unfold bStr at h
  split at h
  · obtain ⟨h1, rfl⟩ := gd_some h
    obtain ⟨x, rfl, q⟩ := rx.one
    rw [q.int]
    exact ⟨_, call_str_int, _, rfl, of_decide_eq_true h1, g _ _ _ (growV lv (.str _))⟩
  · cases h
end
mutual
theorem noDict : ∀ d : D, (py d).hasDict = false
  | .non => by unfold py; rfl
  | .bl _ => by unfold py; rfl
  | .int _ => by unfold py; rfl
  | .str _ => by unfold py; rfl
  | .tup ds => by unfold py; unfold PyData.hasDict; exact noDicts ds
  | .lst ds => by unfold py; unfold PyData.hasDict; exact noDicts ds
theorem noDicts : ∀ ds : List D, PyData.hasDictAll (pys ds) = false
  | [] => by unfold pys; rfl
  | d :: ds => by unfold pys; unfold PyData.hasDictAll; rw [noDict d, noDicts ds]; rfl
end
section
variable {X : Cx} {W : WX} {P : Nat} {K : PySem.W.Frag} {F : Addr → Prop} {H : Hp}
/-- repr of nested data, where nothing else is being shown -/
theorem call_reprD (gd : X.A.guards = some []) (rm : Room 1 X.A) : CallR X (.builtin "repr") (fun xs H Q => ∃ (a : Addr) (d : D), xs = [.ref a] ∧ Dp X.K H (.ref a) (py d) ∧ reprG d = true ∧ Q (.str (shown d)) H) := by
  intro pins s σ H xs us Q I r h
  obtain ⟨a, d, rfl, hd, hg, q⟩ := h
  obtain ⟨u, rfl, ru⟩ := vals1 r
  cases ru
  unfold reprG at hg
  rw [Bool.and_eq_true, Bool.and_eq_true] at hg
  obtain ⟨⟨g1, g2⟩, g3⟩ := hg
  obtain ⟨as, rr⟩ := Dp.reads I (py d) (.ref a) (.ref a) hd rfl
  have hdp := SeqAt.depth_of_shaped g2
  have hu := rm.un
  refine repr_of_reads' rr g1 (fun z => by rw [noDict d] at z; cases z) gd (by omega) (fun _ _ e => e) (fun h' u tk hk => ?_) (by rw [← szL_eq]; exact of_decide_eq_true g3)
  exact ⟨.str _, H, I.kept (t' := tk) hk, ⟨u, rfl⟩, q⟩
theorem call_repr_bl : CallR X (.builtin "repr") (fun xs H Q => ∃ b, xs = [.bl b] ∧ Q (.str (if b then "True" else "False")) H) := by
  intro pins s σ H xs us Q I r h
  obtain ⟨b, rfl, q⟩ := h
  obtain ⟨u, rfl, rfl⟩ := vals1 r
  exact PySem.P.repr_of_bool ⟨.str _, H, I.tok _, ⟨_, rfl⟩, q⟩
theorem call_repr_non : CallR X (.builtin "repr") (fun xs H Q => xs = [.non] ∧ Q (.str "None") H) := by
  intro pins s σ H xs us Q I r h
  obtain ⟨rfl, q⟩ := h
  obtain ⟨u, rfl, rfl⟩ := vals1 r
  exact PySem.P.repr_of_none ⟨.str _, H, I.tok _, ⟨_, rfl⟩, q⟩
theorem b_repr (gd : X.A.guards = some []) (rm : Room 1 X.A) : PN X (cMx X (.builtin "repr")) bRepr := by
  intro F H xs ds s Q lv rx h g
  unfold bRepr at h
  split at h
  · obtain ⟨h1, rfl⟩ := gd_some h
    obtain ⟨x, rfl, q⟩ := rx.one
    rw [q.int]
    exact ⟨_, SkE.call_repr_int, _, rfl, of_decide_eq_true h1, g _ _ _ (growV lv (.str _))⟩
  · obtain ⟨h1, rfl⟩ := gd_some h
    obtain ⟨x, rfl, q⟩ := rx.one
    have hd := q.dp
    obtain ⟨a, vs, rfl, r1, r2⟩ := q.sqL
    exact ⟨_, call_reprD gd rm, a, _, rfl, hd, h1, g _ _ _ (growV lv (.str _))⟩
  · obtain ⟨h1, rfl⟩ := gd_some h
    obtain ⟨x, rfl, q⟩ := rx.one
    have hd := q.dp
    obtain ⟨a, vs, rfl, r1, r2⟩ := q.sqT
    exact ⟨_, call_reprD gd rm, a, _, rfl, hd, h1, g _ _ _ (growV lv (.str _))⟩
  · cases h
    obtain ⟨x, rfl, q⟩ := rx.one
    rw [q.bl]
    exact ⟨_, call_repr_bl, _, rfl, g _ _ _ (growV lv (.str _))⟩
  · cases h
    obtain ⟨x, rfl, q⟩ := rx.one
    rw [q.non]
    exact ⟨_, call_repr_non, rfl, g _ _ _ (growV lv (.str _))⟩
  · cases h
/-! ### isinstance -/
inductive Ty where
  | int | bool | str | list | tuple
def tyS : Ty → String
  | .int => "int" | .bool => "bool" | .str => "str" | .list => "list" | .tuple => "tuple"
def isi : Ty → D → Bool
  | .int, .int _ => true
  | .int, .bl _ => true
  | .bool, .bl _ => true
  | .str, .str _ => true
  | .list, .lst _ => true
  | .tuple, .tup _ => true
  | _, _ => false
def tyN : D → String
  | .non => "NoneType" | .bl _ => "bool" | .int _ => "int" | .str _ => "str" | .lst _ => "list" | .tup _ => "tuple"
def isiS : Ty → String → Bool
  | .int, n => n == "int" || n == "bool"
  | .bool, n => n == "bool"
  | .str, n => n == "str"
  | .list, n => n == "list"
  | .tuple, n => n == "tuple"
theorem kit_tab (T : Ty) : ∀ n ∈ ["NoneType", "bool", "int", "str", "list", "tuple"], kitB n (tyS T) = some (isiS T n) := by
  cases T <;> decide +kernel
theorem isi_tab (T : Ty) (d : D) : isiS T (tyN d) = isi T d := by
  cases T <;> cases d <;> rfl
theorem kit_isi (T : Ty) (d : D) : kitB (tyN d) (tyS T) = some (isi T d) := by
  rw [← isi_tab]
  apply kit_tab
  cases d <;> simp [tyN]
theorem Rq.ty {x : V} {d : D} (r : Rq K F H x d) : TyX K H x (.type (tyN d)) := by
  rcases r with r | ⟨a, vs, ds, rfl, rfl, h, s⟩
  · cases r with
    | non => exact .base .non
    | bl b => exact .base (.bl b)
    | int i => exact .base (.int i)
    | str y => exact .base (.str y)
    | tup f r s =>
      rcases r with r | ⟨o, r⟩
      · exact .base (.tup r)
      · exact .fTuple r
    | lst f r s =>
      rcases r with r | ⟨o, r⟩
      · exact .base (.lst r)
      · exact .base (.frz r)
    | tupK r s =>
      rcases r (fun _ => none) with (z | ⟨o, z⟩) | ⟨o, its, n, k1, k2, _⟩
      · cases z
      · cases z
      · exact .kTuple k1 k2
  · exact .base (.lst h)
def xIsi (T : Ty) (a : M Vl) : M Vl := xUn (fun d => some (.val (.bl (isi T d)))) a
theorem se_isi {a : Expr} {pos p p2 : Pos} {T : Ty} {x : Str} {fa : M Vl} (hg : Gl X "isinstance") (hm : X.mg "isinstance" = none) (hg2 : Gl X x) (hm2 : X.mg x = none) (hx : bootBuiltins x = some (.type (tyS T))) (hn : x ≠ "__name__") (hd : (x == ("__debug__" : Str)) = false)
    (hs : noStar a = true) (ha : SE X W P a fa) : SE X W P (.Call (.Name "isinstance" p) [a, .Name x p2] [] pos) (xIsi T fa) := fun st σ τ F H Q hl r h => by
  refine we (pe_callB call_isi hg hm (by decide +kernel) (pa_cons pE (pa_cons (pe_bltn (v := .ty (tyS T)) hg2 hm2 hx rfl hn hd) pa_nil) (starEach_of hs)) (by decide) (by decide) (starEach_of hs) rfl) ?_
  refine ha st σ τ F H _ hl r (h.bind.imp fun v st1 τ1 F1 H1 s1 _ q y rv => ?_)
  unfold ap1 at q
  split at q
  · rename_i d hd'
    have rq := rd_ok hd' s1.rs rv
    exact ⟨y, .ty (tyS T), _, .type (tyS T), isi T d, rfl, .ty _, rq.ty, kit_ty (kit_isi T d), post_alloc s1.rs q _ _ _ (growV s1.rs.live (.bl _))⟩
  · exact q.elim
end
end PU
namespace PU
open PySem PySem.Spec PyProof.Rows L2
/-! ### changing the state -/
section
variable {P : Nat} {K : PySem.W.Frag} {F F' : Addr → Prop} {H H' : Hp} {st st' : Sto} {ρ ρ' σ τ : St}
theorem Rs.trunc {n : Nat} (r : Rs K F st (σ ++ τ) H) (hn : σ.length = n) : Rs K F (st.take n) σ H where
  len := by rw [List.length_take, r.len, List.length_append]; omega
  slot := fun i s e => by
    rw [List.getElem?_take] at e
    split at e
    · rename_i hi
      have := r.slot i s e
      rwa [List.getElem?_append_left (by omega)] at this
    · cases e
  dis := fun i j a k ds k' ds' e1 e2 f1 f2 => by
    rw [List.getElem?_take] at e1 e2
    split at e1
    · split at e2
      · exact r.dis i j a _ _ _ _ e1 e2 (get_pre f1) (get_pre f2)
      · cases e2
    · cases e1
  live := r.live
  tab := r.tab
theorem own_trunc {n : Nat} {a : Addr} (h : Own (st.take n) σ a) : Own st (σ ++ τ) a := by
  obtain ⟨i, k, ds, e1, e2⟩ := h
  rw [List.getElem?_take] at e1
  split at e1
  · exact ⟨i, k, ds, e1, get_pre e2⟩
  · cases e1
theorem Stp.trunc {n : Nat} {st0 : Sto} {ρ0 : St} {F0 : Addr → Prop} {H0 : Hp} (s : Stp P K st0 ρ0 F0 H0 st (σ ++ τ) F H) (hn : σ.length = n) (hP : P ≤ n) : Stp P K st0 ρ0 F0 H0 (st.take n) σ F H where
  rs := s.rs.trunc hn
  keep := s.keep
  mono := s.mono
  back := s.back
  owns := fun a h => s.owns a (own_trunc h)
  par := fun i s0 hi e l => by
    obtain ⟨e1, s1, e2, l2⟩ := s.par i s0 hi e l
    refine ⟨?_, s1, ?_, l2⟩
    · rw [List.getElem?_append_left (by omega)] at e1; exact e1
    · rw [List.getElem?_take, if_pos (by omega)]; exact e2
/-- a slot gets data -/
theorem Rs.setV {i : Nat} {x : V} {d : D} (r : Rs K F st ρ H) (q : Rp K F H x d) (hi : i < ρ.length) : Rs K F (st.set i (.val d)) (ρ.set i (some x)) H where
  len := by rw [List.length_set, List.length_set]; exact r.len
  slot := fun j s e => by
    by_cases hj : i = j
    · subst hj
      rw [List.getElem?_set_self (by rw [r.len]; exact hi)] at e
      cases e
      rw [List.getElem?_set_self hi]
      exact ⟨x, rfl, q⟩
    · rw [List.getElem?_set_ne hj] at e ⊢
      exact r.slot j s e
  dis := fun j l a k ds k' ds' e1 e2 f1 f2 => by
    by_cases hj : i = j
    · subst hj; rw [List.getElem?_set_self (by rw [r.len]; exact hi)] at e1; cases e1
    · by_cases hl : i = l
      · subst hl; rw [List.getElem?_set_self (by rw [r.len]; exact hi)] at e2; cases e2
      · rw [List.getElem?_set_ne hj] at e1 f1
        rw [List.getElem?_set_ne hl] at e2 f2
        exact r.dis j l a _ _ _ _ e1 e2 f1 f2
  live := r.live
  tab := r.tab
theorem own_setV {i : Nat} {x : V} {d : D} {a : Addr} (hi : i < st.length) (h : Own (st.set i (.val d)) (ρ.set i (some x)) a) : Own st ρ a := by
  obtain ⟨j, k, ds, e1, e2⟩ := h
  by_cases hj : i = j
  · subst hj; rw [List.getElem?_set_self hi] at e1; cases e1
  · rw [List.getElem?_set_ne hj] at e1 e2
    exact ⟨j, k, ds, e1, e2⟩
/-- no list that was handed in is lost -/
def free (P : Nat) (st : Sto) (i : Nat) : Bool := decide (P ≤ i) || !(match st[i]? with | some s => isL s | none => false)
theorem free_ok {i : Nat} {s : Slot} (h : free P st i = true) (hi : i < P) (e : st[i]? = some s) (l : isL s = true) : False := by
  unfold free at h
  rw [e] at h
  simp [l] at h
  omega
theorem Stp.setV {i : Nat} {x : V} {d : D} (r : Rs K F st ρ H) (q : Rp K F H x d) (hi : i < ρ.length) (hf : free P st i = true) : Stp P K st ρ F H (st.set i (.val d)) (ρ.set i (some x)) F H where
  rs := r.setV q hi
  keep := fun _ _ h _ => .inl h
  mono := fun _ h => h
  back := fun _ h => .inl h
  owns := fun a h => .inl (own_setV (by rw [r.len]; exact hi) h)
  par := fun j s hj e l => by
    by_cases hji : i = j
    · subst hji; exact (free_ok hf hj e l).elim
    · exact ⟨by rw [List.getElem?_set_ne hji], s, by rw [List.getElem?_set_ne hji]; exact e, l⟩
/-- a list moves from a slot behind to a name -/
theorem Stp.setO {i j : Nat} {x : V} {k : Bool} {ds : List D} (r : Rs K F st ρ H) (hij : i ≠ j) (ej : st[j]? = some (.own k ds)) (ex : ρ[j]? = some (some x)) (hi : i < ρ.length) (hP : P ≤ j) (hf : free P st i = true) :
    Stp P K st ρ F H ((st.set j .emp).set i (.own k ds)) (ρ.set i (some x)) F H := by
  have hj : j < st.length := (List.getElem?_eq_some_iff.mp ej).1
  have hi' : i < (st.set j .emp).length := by rw [List.length_set, r.len]; exact hi
  have at_ : ∀ (l : Nat) (s : Slot), ((st.set j .emp).set i (.own k ds))[l]? = some s → (l = i ∧ s = .own k ds) ∨ (l = j ∧ s = .emp) ∨ (l ≠ i ∧ l ≠ j ∧ st[l]? = some s) := fun l s e => by
    by_cases h1 : i = l
    · subst h1
      rw [List.getElem?_set_self hi'] at e
      cases e; exact .inl ⟨rfl, rfl⟩
    · rw [List.getElem?_set_ne h1] at e
      by_cases h2 : j = l
      · subst h2
        rw [List.getElem?_set_self hj] at e
        cases e; exact .inr (.inl ⟨rfl, rfl⟩)
      · rw [List.getElem?_set_ne h2] at e
        exact .inr (.inr ⟨fun z => h1 z.symm, fun z => h2 z.symm, e⟩)
  have own_ : ∀ (l : Nat) (k' : Bool) (ds' : List D) (a : Addr), ((st.set j .emp).set i (.own k ds))[l]? = some (.own k' ds') → (ρ.set i (some x))[l]? = some (some (.ref a)) → (l = i ∧ ρ[j]? = some (some (.ref a))) ∨ (l ≠ i ∧ l ≠ j ∧ st[l]? = some (.own k' ds') ∧ ρ[l]? = some (some (.ref a))) := fun l k' ds' a e1 e2 => by
    rcases at_ l _ e1 with ⟨h1, h2⟩ | ⟨h1, h2⟩ | ⟨h1, h2, h3⟩
    · subst h1
      rw [List.getElem?_set_self hi] at e2
      cases e2
      exact .inl ⟨rfl, ex⟩
    · cases h2
    · rw [List.getElem?_set_ne (Ne.symm h1)] at e2
      exact .inr ⟨h1, h2, h3, e2⟩
  refine ⟨⟨by rw [List.length_set, List.length_set, List.length_set]; exact r.len, fun l s e => ?_, fun l m a k1 d1 k2 d2 e1 e2 f1 f2 => ?_, r.live, r.tab⟩, fun _ _ h _ => .inl h, fun _ h => h, fun _ h => .inl h, fun a h => ?_, fun l s hl e il => ?_⟩
  · rcases at_ l s e with ⟨h1, h2⟩ | ⟨h1, h2⟩ | ⟨h1, h2, h3⟩
    · subst h1 h2
      rw [List.getElem?_set_self hi]
      have := r.slot j _ ej
      rwa [ex] at this
    · subst h2; trivial
    · rw [List.getElem?_set_ne (Ne.symm h1)]
      exact r.slot l s h3
  · rcases own_ l _ _ _ e1 f1 with ⟨h1, h2⟩ | ⟨h1, h2, h3, h4⟩
    · rcases own_ m _ _ _ e2 f2 with ⟨g1, g2⟩ | ⟨g1, g2, g3, g4⟩
      · rw [h1, g1]
      · exact absurd (r.dis j m a _ _ _ _ ej g3 h2 g4).symm g2
    · rcases own_ m _ _ _ e2 f2 with ⟨g1, g2⟩ | ⟨g1, g2, g3, g4⟩
      · exact absurd (r.dis l j a _ _ _ _ h3 ej h4 g2) h2
      · exact r.dis l m a _ _ _ _ h3 g3 h4 g4
  · obtain ⟨l, k', ds', e1, e2⟩ := h
    rcases own_ l _ _ _ e1 e2 with ⟨h1, h2⟩ | ⟨h1, h2, h3, h4⟩
    · exact .inl ⟨j, k, ds, ej, h2⟩
    · exact .inl ⟨l, k', ds', h3, h4⟩
  · by_cases h1 : i = l
    · subst h1; exact (free_ok hf hl e il).elim
    · have h2 : j ≠ l := by omega
      exact ⟨by rw [List.getElem?_set_ne h1], s, by rw [List.getElem?_set_ne h1, List.getElem?_set_ne h2]; exact e, il⟩
/-- an own list is changed -/
theorem Stp.mut {j : Nat} {a : Addr} {ds ds' : List D} {vs vs' : List V} (r : Rs K F st ρ H) (ej : st[j]? = some (.own false ds)) (ea : ρ[j]? = some (some (.ref a))) (hv : Rps K F H vs' ds') :
    Stp P K st ρ F H (st.set j (.own false ds')) ρ F (upd H a (.lst vs')) := by
  have hj : j < st.length := (List.getElem?_eq_some_iff.mp ej).1
  obtain ⟨b, ws, z1, z2, z3, z4⟩ := r.slot j _ ej
  rw [ea] at z1
  cases z1
  have mv : ∀ {v : V} {d : D}, Rp K F H v d → Rp K F (upd H a (.lst vs')) v d := fun q => q.move (fun _ h => h) fun c f o h => by
    rw [upd_ne (show c ≠ a from fun e => z3 (e ▸ f))]; exact h
  have mvs : ∀ {v : List V} {d : List D}, Rps K F H v d → Rps K F (upd H a (.lst vs')) v d := fun q => q.move (fun _ h => h) fun c f o h => by
    rw [upd_ne (show c ≠ a from fun e => z3 (e ▸ f))]; exact h
  have at_ : ∀ (l : Nat) (s : Slot), (st.set j (.own false ds'))[l]? = some s → (l = j ∧ s = .own false ds') ∨ (l ≠ j ∧ st[l]? = some s) := fun l s e => by
    by_cases h : j = l
    · subst h; rw [List.getElem?_set_self hj] at e; cases e; exact .inl ⟨rfl, rfl⟩
    · rw [List.getElem?_set_ne h] at e; exact .inr ⟨Ne.symm h, e⟩
  refine ⟨⟨by rw [List.length_set]; exact r.len, fun l s e => ?_, fun l m c k1 d1 k2 d2 e1 e2 f1 f2 => ?_, fun c f => ?_, tabs_upd r.tab (fun u e => ⟨ws, by rw [z2] at e; cases e; rfl⟩)⟩, fun c o h n => ?_, fun _ h => h, fun _ h => .inl h, fun c h => ?_, fun l s _ e il => ⟨rfl, ?_⟩⟩
  · rcases at_ l s e with ⟨h1, h2⟩ | ⟨h1, h2⟩
    · subst h1 h2
      exact ⟨a, vs', ea, upd_same, z3, mvs hv⟩
    · have := r.slot l s h2
      cases s with
      | emp => trivial
      | val d => obtain ⟨v, y1, y2⟩ := this; exact ⟨v, y1, mv y2⟩
      | own k es =>
        obtain ⟨c, us, y1, y2, y3, y4⟩ := this
        refine ⟨c, us, y1, ?_, y3, mvs y4⟩
        rw [upd_ne (show c ≠ a from fun e => h1 (r.dis l j c _ _ _ _ h2 ej y1 (e ▸ ea)))]
        exact y2
  · rcases at_ l _ e1 with ⟨h1, h2⟩ | ⟨h1, h2⟩
    · rcases at_ m _ e2 with ⟨g1, g2⟩ | ⟨g1, g2⟩
      · rw [h1, g1]
      · subst h1; exact r.dis l m c _ _ _ _ ej g2 f1 f2
    · rcases at_ m _ e2 with ⟨g1, g2⟩ | ⟨g1, g2⟩
      · subst g1; exact r.dis l m c _ _ _ _ h2 ej f1 f2
      · exact r.dis l m c _ _ _ _ h2 g2 f1 f2
  · by_cases h : c = a
    · subst h; exact ⟨_, upd_same⟩
    · rw [upd_ne h]; exact r.live c f
  · exact .inl (by rw [upd_ne (show c ≠ a from fun e => n ⟨j, _, _, ej, by rw [e]; exact ea⟩)]; exact h)
  · obtain ⟨l, k, es, e1, e2⟩ := h
    rcases at_ l _ e1 with ⟨h1, h2⟩ | ⟨h1, h2⟩
    · subst h1; exact .inl ⟨l, _, _, ej, e2⟩
    · exact .inl ⟨l, k, es, h2, e2⟩
  · by_cases h : j = l
    · subst h; exact ⟨_, List.getElem?_set_self hj, rfl⟩
    · exact ⟨s, by rw [List.getElem?_set_ne h]; exact e, il⟩
/-! ### storing under a name -/
def store (n P i : Nat) (v : Vl) (st : Sto) : Option Sto := if free P st i then (match v with
  | .dat d => some (st.set i (.val d))
  | .loc j => match st[j]? with
    | some (.val d) => some (st.set i (.val d))
    | some (.own false ds) => if n ≤ j then some ((st.set j .emp).set i (.own false ds)) else if j = i then some st else some ((st.set j (.val (.lst ds))).set i (.val (.lst ds)))
    | _ => none) else none
theorem store_rs {n i : Nat} {v : Vl} {x : V} (hn : σ.length = n) (hP : P ≤ n) (hi : i < n) (r : Rs K F st (σ ++ τ) H) (q : Rv K F H (σ ++ τ) x v) (h : store n P i v st = some st') :
    ∃ F', Stp P K st (σ ++ τ) F H st' (σ.set i (some x) ++ τ) F' H := by
  have hs : (σ ++ τ).set i (some x) = σ.set i (some x) ++ τ := List.set_append_left _ _ (by omega)
  have hi2 : i < (σ ++ τ).length := by rw [List.length_append]; omega
  unfold store at h
  split at h
  · rename_i hf
    cases v with
    | dat d => cases h; exact ⟨F, hs ▸ Stp.setV r q hi2 hf⟩
    | loc j =>
      have q' : (σ ++ τ)[j]? = some (some x) := q
      dsimp only at h
      split at h
      · rename_i d hd
        cases h
        obtain ⟨w, e1, e2⟩ := r.slot j _ hd
        rw [q'] at e1
        cases e1
        exact ⟨F, hs ▸ Stp.setV r e2 hi2 hf⟩
      · rename_i ds hd
        split at h
        · rename_i hnj
          cases h
          exact ⟨F, hs ▸ Stp.setO r (by omega) hd q' hi2 (by omega) hf⟩
        · split at h
          · rename_i hnj hji
            cases h
            subst hji
            refine ⟨F, ?_⟩
            have : σ.set j (some x) ++ τ = σ ++ τ := by
              rw [← hs]
              apply List.ext_getElem?
              intro l
              by_cases hl : j = l
              · subst hl; rw [List.getElem?_set_self hi2, q']
              · rw [List.getElem?_set_ne hl]
            rw [this]
            exact .refl r
          · rename_i hnj hji
            cases h
            have hz : frz (.loc j) st = .ok (.lst ds) (st.set j (.val (.lst ds))) := by unfold frz; dsimp only; rw [hd]
            obtain ⟨F1, s1, r1⟩ := frz_ok (P := P) r q hz
            have hf1 : free P (st.set j (.val (.lst ds))) i = true := by
              unfold free at hf ⊢
              rw [List.getElem?_set_ne hji]; exact hf
            exact ⟨F1, s1.trans (hs ▸ Stp.setV s1.rs r1 hi2 hf1)⟩
      · cases h
  · cases h
end
end PU
namespace PU
open PySem PySem.Spec PyProof.Rows L2
inductive Fl where
  | next | brk | cont | ret (s : Slot)
/-- what is wanted behind a statement -/
def PostS (X : Cx) (W : WX) (P n : Nat) (st : Sto) (ρ : St) (F : Addr → Prop) (H : Hp) (r : R Fl) (D : Ends) : Prop := match r with
  | .ok .next st' => ∀ σ' F' H', σ'.length = n → Stp P X.K st ρ F H st' σ' F' H' → D.nx σ' H'
  | .ok .brk st' => ∀ σ' F' H', σ'.length = n → Stp P X.K st ρ F H st' σ' F' H' → D.bk σ' H'
  | .ok .cont st' => ∀ σ' F' H', σ'.length = n → Stp P X.K st ρ F H st' σ' F' H' → D.ct σ' H'
  | .ok (.ret s) st' => ∀ σ' F' H' x, σ'.length = n → Stp P X.K st ρ F H (st' ++ [s]) (σ' ++ [some x]) F' H' → D.rt x H'
  | .exc x st' => ∀ σ' F' H' cls d, σ'.length = n → Stp P X.K st ρ F H st' σ' F' H' → Xr X.K X.mg F' H' x cls d → W cls d σ' H'
  | .stuck => False
def SS (X : Cx) (W : WX) (P : Nat) (s : Stmt) (f : M Fl) : Prop := ∀ st σ F H D, σ.length = X.N.length → Rs X.K F st σ H → PostS X W P X.N.length st σ F H (f st) D → WS X s D σ H
def SSs (X : Cx) (W : WX) (P : Nat) (s : List Stmt) (f : M Fl) : Prop := ∀ st σ F H D, σ.length = X.N.length → Rs X.K F st σ H → PostS X W P X.N.length st σ F H (f st) D → WSs X s D σ H
section
variable {X : Cx} {W : WX} {P n : Nat} {F F' : Addr → Prop} {H H' : Hp} {st st' : Sto} {ρ ρ' σ τ : St} {α β : Type}
theorem PostS.step {r : R Fl} {D : Ends} (h : PostS X W P n st ρ F H r D) (s : Stp P X.K st ρ F H st' ρ' F' H') : PostS X W P n st' ρ' F' H' r D := by
  cases r with
  | stuck => exact h
  | exc x st2 => exact fun σ2 F2 H2 cls d hl s2 xr => h _ _ _ _ _ hl (s.trans s2) xr
  | ok fl st2 =>
    cases fl with
    | next => exact fun σ2 F2 H2 hl s2 => h _ _ _ hl (s.trans s2)
    | brk => exact fun σ2 F2 H2 hl s2 => h _ _ _ hl (s.trans s2)
    | cont => exact fun σ2 F2 H2 hl s2 => h _ _ _ hl (s.trans s2)
    | ret v => exact fun σ2 F2 H2 x hl s2 => h _ _ _ _ hl (s.trans s2)
/-- an expression, then the statement's own end -/
def bndS (n : Nat) (f : M α) (k : α → M Fl) : M Fl := fun st => match f st with
  | .ok a st1 => k a st1
  | .exc x st1 => .exc x (st1.take n)
  | .stuck => .stuck
theorem PostS.bind {f : M α} {k : α → M Fl} {D : Ends} (hn : σ.length = n) (hP : P ≤ n) (h : PostS X W P n st (σ ++ τ) F H (bndS n f k st) D) :
    Post X W P σ τ st F H (f st) fun a st1 τ1 F1 H1 => PostS X W P n st1 (σ ++ τ1) F1 H1 (k a st1) D := by
  unfold bndS at h
  cases e : f st with
  | stuck => rw [e] at h; exact h
  | exc x st1 =>
    rw [e] at h
    intro τ1 F1 H1 cls d s1 xr
    refine h σ F1 H1 cls d hn ?_ xr
    exact s1.trunc hn hP
  | ok a st1 =>
    rw [e] at h
    exact fun τ1 F1 H1 s1 => PostS.step h s1
theorem rs0 {K : PySem.W.Frag} (r : Rs K F st σ H) : Rs K F st (σ ++ []) H := by rw [List.append_nil]; exact r
theorem PostS.bind0 {f : M α} {k : α → M Fl} {D : Ends} (hn : σ.length = n) (hP : P ≤ n) (h : PostS X W P n st σ F H (bndS n f k st) D) :
    Post X W P σ [] st F H (f st) fun a st1 τ1 F1 H1 => PostS X W P n st1 (σ ++ τ1) F1 H1 (k a st1) D := PostS.bind (τ := []) hn hP (by rw [List.append_nil]; exact h)
theorem PostS.end_ {D : Ends} (hn : σ.length = n) (hP : P ≤ n) (r : Rs X.K F st (σ ++ τ) H) (h : PostS X W P n st (σ ++ τ) F H (.ok .next (st.take n)) D) : D.nx σ H := h σ F H hn ((Stp.refl r).trunc hn hP)
/-! ### blocks -/
def sNil : M Fl := ret .next
def sSeq (a b : M Fl) : M Fl := fun st => match a st with
  | .ok .next st1 => b st1
  | r => r
theorem sss_nil : SSs X W P [] sNil := fun st σ F H D hl r h => wss pss_nil (h σ F H hl (.refl r))
theorem seq_post {a b : M Fl} {D : Ends} {Nx : St → Hp → Prop} (h : PostS X W P n st ρ F H (sSeq a b st) D) (hb : ∀ st1 σ1 F1 H1, σ1.length = n → Rs X.K F1 st1 σ1 H1 → PostS X W P n st1 σ1 F1 H1 (b st1) D → Nx σ1 H1) : PostS X W P n st ρ F H (a st) { D with nx := Nx } := by
  unfold sSeq at h
  cases e : a st with
  | stuck => rw [e] at h; exact h
  | exc x st1 => rw [e] at h; exact h
  | ok fl st1 =>
    rw [e] at h
    cases fl with
    | next => exact fun σ1 F1 H1 hl s1 => hb st1 σ1 F1 H1 hl s1.rs (PostS.step h s1)
    | brk => exact h
    | cont => exact h
    | ret v => exact h
theorem sss_cons {s : Stmt} {rest : List Stmt} {a b : M Fl} (ha : SS X W P s a) (hb : SSs X W P rest b) : SSs X W P (s :: rest) (sSeq a b) := fun st σ F H D hl r h =>
  wss (pss_cons pS pSs) (ha st σ F H _ hl r (seq_post h fun st1 σ1 F1 H1 hl1 r1 h1 => hb st1 σ1 F1 H1 D hl1 r1 h1))
/-! ### plain statements -/
theorem ss_pass {pos : Pos} : SS X W P (.Pass pos) (ret .next) := fun st σ F H D hl r h => ws ps_pass (h σ F H hl (.refl r))
theorem ss_break {pos : Pos} : SS X W P (.Break pos) (ret .brk) := fun st σ F H D hl r h => ws ps_break (h σ F H hl (.refl r))
theorem ss_continue {pos : Pos} : SS X W P (.Continue pos) (ret .cont) := fun st σ F H D hl r h => ws ps_continue (h σ F H hl (.refl r))
def cut (n : Nat) : M Fl := fun st => .ok .next (st.take n)
def sExpr (n : Nat) (f : M Vl) : M Fl := bndS n f fun _ => cut n
def noComp : Expr → Bool
  | .ListComp .. => false
  | .SetComp .. => false
  | .DictComp .. => false
  | _ => true
theorem noComp_ok {e : Expr} (h : noComp e = true) (t : Option Expr) (l : Nat) (env : PySem.Env) : swapsWith e t l env = pure false := by
  cases e <;> first | rfl | cases h
theorem ss_expr {e : Expr} {pos : Pos} {f : M Vl} (hP : P ≤ X.N.length) (hc : noComp e = true) (he : SE X W P e f) : SS X W P (.Expr e pos) (sExpr X.N.length f) := fun st σ F H D hl r h => by
  refine ws (ps_expr pE (noComp_ok hc ..)) (he st σ [] F H _ hl (rs0 r) ((PostS.bind0 hl hP h).imp fun v st1 τ1 F1 H1 s1 _ q x rv => ?_))
  exact PostS.end_ hl hP s1.rs q
def sIf (n : Nat) (t : M Bool) (a b : M Fl) : M Fl := bndS n t fun k st => if k then a (st.take n) else b (st.take n)
theorem ss_if {c : Expr} {sa sb : List Stmt} {pos : Pos} {t : M Bool} {a b : M Fl} (hP : P ≤ X.N.length) (ht : ST X W P c t) (ha : SSs X W P sa a) (hb : SSs X W P sb b) : SS X W P (.If c sa sb pos) (sIf X.N.length t a b) := fun st σ F H D hl r h => by
  refine ws (ps_if pT pSs pSs) (ht st σ [] F H _ hl (rs0 r) ((PostS.bind0 hl hP h).imp fun k st1 τ1 F1 H1 s1 _ q => ?_))
  have tr := (Stp.refl (P := P) s1.rs).trunc hl hP
  cases k with
  | true => exact iteT (ha _ σ F1 H1 D hl tr.rs (PostS.step q tr))
  | false => exact iteF (hb _ σ F1 H1 D hl tr.rs (PostS.step q tr))
/-! ### the answer -/
def give (n P : Nat) (v : Vl) : M Fl := fun st => match v with
  | .dat d => .ok (.ret (.val d)) (st.take n)
  | .loc i => match st[i]? with
    | some (.val d) => .ok (.ret (.val d)) (st.take n)
    | some (.own false ds) => if P ≤ i then .ok (.ret (.own false ds)) ((st.set i .emp).take n) else .ok (.ret (.val (.lst ds))) ((st.set i (.val (.lst ds))).take n)
    | _ => .stuck
def sRet (n P : Nat) (f : M Vl) : M Fl := bndS n f (give n P)
theorem Stp.snocV {st0 : Sto} {ρ0 : St} {F0 : Addr → Prop} {H0 : Hp} {K : PySem.W.Frag} {x : V} {d : D} (s : Stp P K st0 ρ0 F0 H0 st σ F H) (q : Rp K F H x d) : Stp P K st0 ρ0 F0 H0 (st ++ [.val d]) (σ ++ [some x]) F H := by
  have hl := s.rs.len
  have at_ : ∀ (i : Nat) (s1 : Slot), (st ++ [Slot.val d])[i]? = some s1 → (i < st.length ∧ st[i]? = some s1) ∨ (i = st.length ∧ s1 = .val d) := fun i s1 e => by
    by_cases hi : i < st.length
    · rw [List.getElem?_append_left hi] at e; exact .inl ⟨hi, e⟩
    · have : i = st.length := by
        have := (List.getElem?_eq_some_iff.mp e).1
        simp at this; omega
      subst this
      simp at e
      exact .inr ⟨rfl, e.symm⟩
  refine ⟨⟨by simp [hl], fun i s1 e => ?_, fun i j a k1 d1 k2 d2 e1 e2 f1 f2 => ?_, s.rs.live, s.rs.tab⟩, s.keep, s.mono, s.back, fun a h => ?_, fun i s0 hi e l => ?_⟩
  · rcases at_ i s1 e with ⟨h1, h2⟩ | ⟨h1, h2⟩
    · rw [List.getElem?_append_left (by omega)]; exact s.rs.slot i s1 h2
    · subst h1 h2
      exact ⟨x, by rw [hl]; simp, q⟩
  · rcases at_ i _ e1 with ⟨h1, h2⟩ | ⟨h1, h2⟩
    · rcases at_ j _ e2 with ⟨g1, g2⟩ | ⟨g1, g2⟩
      · rw [List.getElem?_append_left (by omega)] at f1 f2
        exact s.rs.dis i j a _ _ _ _ h2 g2 f1 f2
      · cases g2
    · cases h2
  · obtain ⟨i, k, ds, e1, e2⟩ := h
    rcases at_ i _ e1 with ⟨h1, h2⟩ | ⟨h1, h2⟩
    · rw [List.getElem?_append_left (by omega)] at e2
      exact s.owns a ⟨i, k, ds, h2, e2⟩
    · cases h2
  · obtain ⟨e1, s1, e2, l2⟩ := s.par i s0 hi e l
    have hi1 := (List.getElem?_eq_some_iff.mp e2).1
    exact ⟨by rw [List.getElem?_append_left (by omega)]; exact e1, s1, by rw [List.getElem?_append_left hi1]; exact e2, l2⟩
/-- an own list is taken out of its slot -/
theorem Stp.out {i : Nat} {a : Addr} {k : Bool} {ds : List D} {K : PySem.W.Frag} (r : Rs K F st ρ H) (e : st[i]? = some (.own k ds)) (ea : ρ[i]? = some (some (.ref a))) (hP : P ≤ i) (hn : σ.length = n) (hp : ρ = σ ++ τ) (hPn : P ≤ n) :
    Stp P K st ρ F H ((st.set i .emp).take n ++ [.own k ds]) (σ ++ [some (.ref a)]) F H := by
  subst hp
  have hi : i < st.length := (List.getElem?_eq_some_iff.mp e).1
  obtain ⟨b, vs, z1, z2, z3, z4⟩ := r.slot i _ e
  rw [ea] at z1
  cases z1
  have at_ : ∀ (l : Nat) (s : Slot), (st.set i .emp)[l]? = some s → (l = i ∧ s = .emp) ∨ (l ≠ i ∧ st[l]? = some s) := fun l s q => by
    by_cases h : i = l
    · subst h; rw [List.getElem?_set_self hi] at q; cases q; exact .inl ⟨rfl, rfl⟩
    · rw [List.getElem?_set_ne h] at q; exact .inr ⟨Ne.symm h, q⟩
  have r1 : Rs K F (st.set i .emp) (σ ++ τ) H := ⟨by rw [List.length_set]; exact r.len, fun l s q => by
      rcases at_ l s q with ⟨h1, h2⟩ | ⟨h1, h2⟩
      · subst h2; trivial
      · exact r.slot l s h2, fun l m c k1 d1 k2 d2 e1 e2 f1 f2 => by
      rcases at_ l _ e1 with ⟨h1, h2⟩ | ⟨h1, h2⟩
      · cases h2
      · rcases at_ m _ e2 with ⟨g1, g2⟩ | ⟨g1, g2⟩
        · cases g2
        · exact r.dis l m c _ _ _ _ h2 g2 f1 f2, r.live, r.tab⟩
  have s1 : Stp P K st (σ ++ τ) F H (st.set i .emp) (σ ++ τ) F H := ⟨r1, fun _ _ h _ => .inl h, fun _ h => h, fun _ h => .inl h, fun c h => by
      obtain ⟨l, k', d', e1, e2⟩ := h
      rcases at_ l _ e1 with ⟨h1, h2⟩ | ⟨h1, h2⟩
      · cases h2
      · exact .inl ⟨l, k', d', h2, e2⟩, fun l s hl q il => by
      have : i ≠ l := by omega
      exact ⟨rfl, s, by rw [List.getElem?_set_ne this]; exact q, il⟩⟩
  have s2 := s1.trunc hn hPn
  have hno : ∀ (l : Nat) (k : Bool) (ds : List D), ((st.set i .emp).take n)[l]? = some (.own k ds) → σ[l]? ≠ some (some (.ref a)) := fun l k' d' e1 e2 => by
    rw [List.getElem?_take] at e1
    split at e1
    · rcases at_ l _ e1 with ⟨h1, h2⟩ | ⟨h1, h2⟩
      · cases h2
      · exact h1 (r.dis l i a _ _ _ _ h2 e (get_pre e2) ea)
    · cases e1
  refine ⟨s2.rs.snoc_own hno z2 z3 z4, s2.keep, s2.mono, s2.back, fun c h => ?_, fun l s hl q il => ?_⟩
  · rcases own_snoc s2.rs.len h with z | z
    · exact s2.owns c z
    · cases z; exact .inl ⟨i, k, ds, e, ea⟩
  · obtain ⟨e1, s3, e2, l2⟩ := s2.par l s hl q il
    have hl2 := (List.getElem?_eq_some_iff.mp e2).1
    refine ⟨?_, s3, by rw [List.getElem?_append_left hl2]; exact e2, l2⟩
    rw [List.getElem?_append_left (by have := s2.rs.len; omega)]; exact e1
theorem ss_ret {e : Expr} {pos : Pos} {f : M Vl} (hP : P ≤ X.N.length) (he : SE X W P e f) : SS X W P (.Return (some e) pos) (sRet X.N.length P f) := fun st σ F H D hl r h => by
  refine ws (ps_ret pE) (he st σ [] F H _ hl (rs0 r) ((PostS.bind0 hl hP h).imp fun v st1 τ1 F1 H1 s1 _ q x rv => ?_))
  have tr := (Stp.refl (P := P) s1.rs).trunc hl hP
  unfold give at q
  cases v with
  | dat d => exact q σ F1 H1 x hl (tr.snocV rv)
  | loc i =>
    have rv' : (σ ++ ([] ++ τ1))[i]? = some (some x) := rv
    dsimp only at q
    split at q
    · rename_i d hd
      obtain ⟨w, e1, e2⟩ := s1.rs.slot i _ hd
      rw [rv'] at e1
      cases e1
      exact q σ F1 H1 x hl (tr.snocV e2)
    · rename_i ds hd
      obtain ⟨a, ws, e1, e2⟩ := s1.rs.slot i _ hd
      rw [rv'] at e1
      cases e1
      split at q
      · rename_i hPi
        exact q σ F1 H1 (.ref a) hl (Stp.out s1.rs hd rv' hPi hl rfl hP)
      · have hz : frz (.loc i) st1 = .ok (.lst ds) (st1.set i (.val (.lst ds))) := by unfold frz; dsimp only; rw [hd]
        obtain ⟨F2, s2, r2⟩ := frz_ok (P := P) s1.rs rv hz
        exact q σ F2 H1 (.ref a) hl ((s2.trunc hl hP).snocV r2)
    · exact q.elim
theorem ss_retN {pos : Pos} : SS X W P (.Return none pos) (ret (.ret (.val .non))) := fun st σ F H D hl r h => ws ps_retN (h σ F H .non hl ((Stp.refl r).snocV .non))
/-! ### x = e -/
def toNx (n : Nat) (o : Option Sto) : R Fl := match o with
  | some st => .ok .next (st.take n)
  | none => .stuck
def sSet (n P i : Nat) (f : M Vl) : M Fl := bndS n f fun v st => toNx n (store n P i v st)
theorem set_end {i : Nat} {v : Vl} {x : V} {D : Ends} (hn : σ.length = n) (hP : P ≤ n) (hi : i < n) (r : Rs X.K F st (σ ++ τ) H) (rv : Rv X.K F H (σ ++ τ) x v) (q : PostS X W P n st (σ ++ τ) F H (toNx n (store n P i v st)) D) : D.nx (σ.set i (some x)) H := by
  unfold toNx at q
  cases e : store n P i v st with
  | none => rw [e] at q; exact q.elim
  | some st2 =>
    rw [e] at q
    obtain ⟨F2, s2⟩ := store_rs hn hP hi r rv e
    exact q _ F2 H (by rw [List.length_set]; exact hn) (s2.trunc (by rw [List.length_set]; exact hn) hP)
theorem ss_set {e : Expr} {x : Str} {i : Nat} {pos p : Pos} {f : M Vl} (hP : P ≤ X.N.length) (hN : X.N.Nodup) (hi : X.N[i]? = some x) (hx : Loc X.env.scope x) (hf : X.fn x = true ∨ X.env.scope.names.lookup x = some .local) (hc : noComp e = true) (he : SE X W P e f) :
    SS X W P (.Assign [.Name x p] e pos) (sSet X.N.length P i f) := fun st σ F H D hl r h => by
  refine ws (ps_set hN hi hx pE (noComp_ok hc ..) hf) (he st σ [] F H _ hl (rs0 r) ((PostS.bind0 hl hP h).imp fun v st1 τ1 F1 H1 s1 _ q y rv => ?_))
  exact set_end hl hP (List.getElem?_eq_some_iff.mp hi).1 s1.rs rv q
/-! ### while -/
def whileE (n : Nat) (t : M Bool) (body : M Fl) : Nat → M Fl
  | 0 => bad
  | m + 1 => bndS n t fun k st => if k then (match body (st.take n) with
      | .ok .next st2 => whileE n t body m st2
      | .ok .cont st2 => whileE n t body m st2
      | .ok .brk st2 => .ok .next st2
      | r => r) else .ok .next (st.take n)
/-- a bound of the loops that nothing unfolds -/
noncomputable def FUEL : Nat := (Classical.choice (⟨⟨1000000000, rfl⟩⟩ : Nonempty { n : Nat // n = 1000000000 })).1
theorem FUEL_eq : FUEL = 999999999 + 1 := (Classical.choice (⟨⟨1000000000, rfl⟩⟩ : Nonempty { n : Nat // n = 1000000000 })).2
def sWhile (n : Nat) (t : M Bool) (body : M Fl) : M Fl := whileE n t body FUEL
theorem ss_while {c : Expr} {body : List Stmt} {pos : Pos} {t : M Bool} {b : M Fl} (hP : P ≤ X.N.length) (hp : PassesOwn (model X.prog X.w) X.A X.env X.xe) (ht : ST X W P c t) (hb : SSs X W P body b) : SS X W P (.While c body [] pos) (sWhile X.N.length t b) := fun st σ F H D hl r h => by
  refine ws (ps_while hp pT pSs) ⟨fun m σ' H' => ∃ st' F', σ'.length = X.N.length ∧ Rs X.K F' st' σ' H' ∧ PostS X W P X.N.length st' σ' F' H' (whileE X.N.length t b m st') D, ⟨FUEL, st, F, hl, r, h⟩, fun m σ1 H1 w1 => ?_⟩
  obtain ⟨st1, F1, hl1, r1, q1⟩ := w1
  cases m with
  | zero => exact q1.elim
  | succ m =>
    refine ht st1 σ1 [] F1 H1 _ hl1 (rs0 r1) ((PostS.bind0 hl1 hP q1).imp fun k st2 τ2 F2 H2 s2 _ q => ?_)
    have tr := (Stp.refl (P := P) s2.rs).trunc hl1 hP
    cases k with
    | false => exact iteF (q σ1 F2 H2 hl1 tr)
    | true =>
      refine iteT ⟨fun σ' H' => ∃ st' F', σ'.length = X.N.length ∧ Rs X.K F' st' σ' H' ∧ PostS X W P X.N.length st' σ' F' H' (whileE X.N.length t b m st') D, fun σ' H' nx => ⟨m, Nat.lt_succ_self m, nx⟩, ?_⟩
      refine hb _ σ1 F2 H2 _ hl1 tr.rs ?_
      have q := PostS.step q tr
      simp only [if_true] at q
      cases e : b (st2.take X.N.length) with
      | stuck => simp only [e] at q; exact q.elim
      | exc x st3 => simp only [e] at q; exact q
      | ok fl st3 =>
        simp only [e] at q
        cases fl with
        | next => exact fun σ3 F3 H3 hl3 s3 => ⟨st3, F3, hl3, s3.rs, PostS.step q s3⟩
        | cont => exact fun σ3 F3 H3 hl3 s3 => ⟨st3, F3, hl3, s3.rs, PostS.step q s3⟩
        | brk => exact q
        | ret v => exact q
end
end PU
namespace PU
open PySem PySem.Spec PyProof.Rows L2
/-! ### targets -/
def WG (X : Cx) (tg : Expr) (x : V) (σ : St) (H : Hp) (Q : St → Hp → Prop) : Prop := ∀ pins s u, Inv X pins σ H s → RelV x u → wpAny (model X.prog X.w) X.A (assign tg X.env u) (fun _ s' => ∃ σ' H', Inv X pins σ' H' s' ∧ Q σ' H') X.xe s
def WGs (X : Cx) (ts : List Expr) (xs : List V) (σ : St) (H : Hp) (Q : St → Hp → Prop) : Prop := ∀ pins s us, Inv X pins σ H s → Vals xs us → wpAny (model X.prog X.w) X.A (assignInOrder ((assignEach ts X.env).map (·.2)) us) (fun _ s' => ∃ σ' H', Inv X pins σ' H' s' ∧ Q σ' H') X.xe s
section
variable {X : Cx} {W : WX} {P n : Nat} {F F' : Addr → Prop} {H H' : Hp} {st st' : Sto} {ρ ρ' σ τ : St}
theorem pG {tg : Expr} : PG X tg (WG X tg) := ⟨fun pins s _ _ _ u _ I r h => h pins s u I r⟩
theorem pGs {ts : List Expr} : PGs X ts (WGs X ts) := ⟨fun pins s _ _ _ us _ I r h => h pins s us I r⟩
theorem wg {tg : Expr} {g : TG} {x : V} {Q : St → Hp → Prop} (p : PG X tg g) (h : g x σ H Q) : WG X tg x σ H Q := fun pins s u I r => p.run pins s σ H x u Q I r h
theorem wgs {ts : List Expr} {g : TGs} {x : List V} {Q : St → Hp → Prop} (p : PGs X ts g) (h : g x σ H Q) : WGs X ts x σ H Q := fun pins s u I r => p.run pins s σ H x u Q I r h
def PostG (X : Cx) (W : WX) (P n : Nat) (T : List Nat) (σ0 τ0 : St) (st : Sto) (ρ : St) (F : Addr → Prop) (H : Hp) (r : R Unit) (Q : Sto → St → St → (Addr → Prop) → Hp → Prop) : Prop := match r with
  | .ok _ st' => ∀ σ' τ' F' H', σ'.length = n → (∀ j : Nat, j ∉ T → σ'[j]? = σ0[j]?) → Stp P X.K st ρ F H st' (σ' ++ (τ0 ++ τ')) F' H' → Q st' σ' (τ0 ++ τ') F' H'
  | .exc x st' => ∀ σ' τ' F' H' cls d, σ'.length = n → Stp P X.K st ρ F H st' (σ' ++ (τ0 ++ τ')) F' H' → Xr X.K X.mg F' H' x cls d → W cls d σ' H'
  | .stuck => False
def SG (X : Cx) (W : WX) (P : Nat) (tg : Expr) (T : List Nat) (f : D → M Unit) : Prop := ∀ st σ τ F H x d Q, σ.length = X.N.length → Rs X.K F st (σ ++ τ) H → Rp X.K F H x d →
  PostG X W P X.N.length T σ τ st (σ ++ τ) F H (f d st) (fun st' σ' τ' F' H' => Q σ' H') → WG X tg x σ H Q
def SGs (X : Cx) (W : WX) (P : Nat) (ts : List Expr) (T : List Nat) (f : List D → M Unit) : Prop := ∀ st σ τ F H xs ds Q, σ.length = X.N.length → Rs X.K F st (σ ++ τ) H → Rps X.K F H xs ds →
  PostG X W P X.N.length T σ τ st (σ ++ τ) F H (f ds st) (fun st' σ' τ' F' H' => Q σ' H') → WGs X ts xs σ H Q
theorem PostG.step {r : R Unit} {T : List Nat} {σ0 τ0 : St} {Q : Sto → St → St → (Addr → Prop) → Hp → Prop} (h : PostG X W P n T σ0 τ0 st ρ F H r Q) (s : Stp P X.K st ρ F H st' ρ' F' H') : PostG X W P n T σ0 τ0 st' ρ' F' H' r Q := by
  cases r with
  | stuck => exact h
  | exc x st2 => exact fun σ2 τ2 F2 H2 cls d hl s2 xr => h _ _ _ _ _ _ hl (s.trans s2) xr
  | ok a st2 => exact fun σ2 τ2 F2 H2 hl ag s2 => h _ _ _ _ hl ag (s.trans s2)
/-- fewer names are left open -/
theorem PostG.less {r : R Unit} {T T' : List Nat} {σ0 σ1 τ0 τ1 : St} {Q : Sto → St → St → (Addr → Prop) → Hp → Prop} (h : PostG X W P n T σ0 τ0 st ρ F H r Q) (hT : ∀ j, j ∉ T → j ∉ T') (ag : ∀ j : Nat, j ∉ T → σ1[j]? = σ0[j]?) : PostG X W P n T' σ1 (τ0 ++ τ1) st ρ F H r Q := by
  cases r with
  | stuck => exact h
  | exc x st2 =>
    intro σ2 τ2 F2 H2 cls d hl s2 xr
    rw [List.append_assoc] at s2
    exact h _ _ _ _ _ _ hl s2 xr
  | ok a st2 =>
    intro σ2 τ2 F2 H2 hl ag2 s2
    rw [List.append_assoc] at s2 ⊢
    exact h _ _ _ _ hl (fun j hj => (ag2 j (hT j hj)).trans (ag j hj)) s2
/-- a name -/
def tgN (P i : Nat) (d : D) : M Unit := fun st => if free P st i then .ok () (st.set i (.val d)) else .stuck
theorem sg_name {i : Nat} {x : Str} {pos : Pos} (hN : X.N.Nodup) (hi : X.N[i]? = some x) (hx : Loc X.env.scope x) (hf : X.fn x = true ∨ X.env.scope.names.lookup x = some .local) : SG X W P (.Name x pos) [i] (tgN P i) := fun st σ τ F H y d Q hl r q h => by
  unfold tgN at h
  have hi' := (List.getElem?_eq_some_iff.mp hi).1
  split at h
  · rename_i hfr
    refine wg (pg_name hN hi hx hf) (h (σ.set i (some y)) [] F H (by rw [List.length_set]; exact hl) (fun j hj => List.getElem?_set_ne (by simpa [eq_comm] using hj)) ?_)
    have := Stp.setV r q (by rw [List.length_append]; omega) hfr
    rw [List.append_nil]
    rwa [List.set_append_left _ _ (by omega)] at this
  · exact h.elim
/-- several -/
def tgs0 (ds : List D) : M Unit := match ds with
  | [] => ret ()
  | _ => bad
def tgsC (f : D → M Unit) (g : List D → M Unit) (ds : List D) : M Unit := match ds with
  | d :: r => bnd (f d) fun _ => g r
  | [] => bad
theorem sgs_nil : SGs X W P [] [] tgs0 := fun st σ τ F H xs ds Q hl r q h => by
  cases q with
  | nil => exact wgs pgs_nil ⟨rfl, h σ [] F H hl (fun _ _ => rfl) (by rw [List.append_nil]; exact .refl r)⟩
  | cons _ _ => exact h.elim
theorem sgs_cons {t : Expr} {ts : List Expr} {T1 T2 : List Nat} {f : D → M Unit} {g : List D → M Unit} (hs : noStar t = true) (hf : SG X W P t T1 f) (hg : SGs X W P ts T2 g) : SGs X W P (t :: ts) (T1 ++ T2) (tgsC f g) := fun st σ τ F H xs ds Q hl r q h => by
  cases q with
  | nil => exact h.elim
  | cons q1 q2 =>
    have ea : (assignEach (t :: ts) X.env).map (·.2) = assign t X.env :: (assignEach ts X.env).map (·.2) := by cases t <;> first | rfl | cases hs
    rename_i d r'
    have h : PostG X W P X.N.length (T1 ++ T2) σ τ st (σ ++ τ) F H (bnd (f d) (fun _ => g r') st) (fun st' σ' τ' F' H' => Q σ' H') := h
    refine wgs (pgs_cons pG pGs ea) ⟨_, _, rfl, hf st σ τ F H _ _ _ hl r q1 ?_⟩
    unfold bnd at h
    cases e : f d st with
    | stuck => rw [e] at h; exact h.elim
    | exc x st1 => rw [e] at h; exact h
    | ok a st1 =>
      rw [e] at h
      exact fun σ1 τ1 F1 H1 hl1 ag s1 => hg st1 σ1 _ F1 H1 _ _ _ hl1 s1.rs (s1.moves r q2) (PostG.less (PostG.step h s1) (fun j hj hj2 => hj (List.mem_append_right _ hj2)) fun j hj => ag j fun hj2 => hj (List.mem_append_left _ hj2))
/-- a tuple of targets -/
def tgT (k : Nat) (g : List D → M Unit) (d : D) : M Unit := match d with
  | .tup ds => if ds.length = k then g ds else bad
  | .lst ds => if ds.length = k then g ds else bad
  | _ => bad
theorem each_len {ts : List Expr} {env : PySem.Env} : (assignEach ts env).length = ts.length := by
  induction ts with
  | nil => rfl
  | cons t ts ih => cases t <;> (show (assignEach ts env).length + 1 = ts.length + 1; rw [ih])
theorem each_star {ts : List Expr} {env : PySem.Env} (h : ∀ t ∈ ts, noStar t = true) : (assignEach ts env).findIdx? (·.1) = none := by
  induction ts with
  | nil => rfl
  | cons t ts ih =>
    have ih := ih fun t ht => h t (List.mem_cons_of_mem _ ht)
    have h0 := h t (List.mem_cons_self ..)
    have e : assignEach (t :: ts) env = (false, assign t env) :: assignEach ts env := by cases t <;> first | rfl | cases h0
    rw [e, List.findIdx?_cons, ih]; rfl
theorem sg_tup {ts : List Expr} {T : List Nat} {k : Nat} {pos : Pos} {g : List D → M Unit} (hc : X.calm = true) (hs : ∀ t ∈ ts, noStar t = true) (hg : SGs X W P ts T g) : SG X W P (.Tuple ts k pos) T (tgT ts.length g) := fun st σ τ F H x d Q hl r q h => by
  cases d with
  | tup ds =>
    have h : PostG X W P X.N.length T σ τ st (σ ++ τ) F H ((if ds.length = ts.length then g ds else bad) st) (fun st' σ' τ' F' H' => Q σ' H') := h
    split at h
    · rename_i hk
      obtain ⟨a, vs, rfl, r1, r2⟩ := q.sqT
      exact wg (pg_tup (n := ts.length) hc pGs each_len (each_star hs)) ⟨a, vs, rfl, r1, by rw [r2.length]; exact hk, hg st σ τ F H vs ds Q hl r r2 h⟩
    · exact h.elim
  | lst ds =>
    have h : PostG X W P X.N.length T σ τ st (σ ++ τ) F H ((if ds.length = ts.length then g ds else bad) st) (fun st' σ' τ' F' H' => Q σ' H') := h
    split at h
    · rename_i hk
      obtain ⟨a, vs, rfl, r1, r2⟩ := q.sqL
      exact wg (pg_lst (n := ts.length) hc pGs each_len (each_star hs)) ⟨a, vs, rfl, r1, by rw [r2.length]; exact hk, hg st σ τ F H vs ds Q hl r r2 h⟩
    · exact h.elim
  | _ => exact h.elim
/-- an item of a list: x[i] = .. -/
def putIx (j : Nat) (v : Vl) (d : D) : M Unit := fun st => match rd v st, st[j]? with
  | some (.int k), some (.own false ds) => (match ixN ds.length k with
    | some m => .ok () (st.set j (.own false (ds.set m d)))
    | none => .stuck)
  | _, _ => .stuck
def tgI (j : Nat) (fi : M Vl) (d : D) : M Unit := fun st => match st[j]? with
  | some (.own _ _) => bnd fi (fun v => putIx j v d) st
  | _ => .stuck
theorem post_put {j m : Nat} {a : Addr} {x : V} {d : D} {ds : List D} (r : Rs X.K F st ρ H) (ej : st[j]? = some (.own false ds)) (ea : ρ[j]? = some (some (.ref a))) (q : Rp X.K F H x d) :
    ∃ vs, H a = some (.lst vs) ∧ vs.length = ds.length ∧ Stp P X.K st ρ F H (st.set j (.own false (ds.set m d))) ρ F (upd H a (.lst (vs.set m x))) := by
  obtain ⟨b, vs, z1, z2, z3, z4⟩ := r.slot j _ ej
  rw [ea] at z1
  cases z1
  exact ⟨vs, z2, z4.length, Stp.mut (vs := vs) r ej ea (z4.set q m)⟩
/-- a target that begins with expressions -/
theorem post_toG {α : Type} {m : M α} {k : α → M Unit} {T : List Nat} {Q : Sto → St → St → (Addr → Prop) → Hp → Prop} (hl : σ.length = n) (h : PostG X W P n T σ τ st (σ ++ τ) F H (bnd m k st) Q) : Post X W P σ τ st F H (m st) fun a st1 τ1 F1 H1 => PostG X W P n T σ τ1 st1 (σ ++ τ1) F1 H1 (k a st1) Q := by
  unfold bnd at h
  cases e : m st with
  | stuck => rw [e] at h; exact h.elim
  | exc x st1 => rw [e] at h; exact fun τ1 F1 H1 cls d s1 xr => h σ _ F1 H1 cls d hl s1 xr
  | ok a st1 => rw [e] at h; exact fun τ1 F1 H1 s1 => PostG.less (PostG.step h s1) (fun _ h => h) fun _ _ => rfl
theorem ixN_lt {l : Nat} {k : Int} {m : Nat} (h : ixN l k = some m) : m < l := (ixN_seq h).2.1
theorem sg_ix {o i : Expr} {j : Nat} {pos : Pos} {fi : M Vl} (ho : PE X o (tVar j)) (hj : j < X.N.length) (hi : SE X W P i fi) (ha : ∀ v, assign (.Subscript o i pos) X.env v = (do
      let ov ← holding [v] (eval o X.env)
      let iv ← holding [v, ov] (eval i X.env)
      standAt pos
      holding [v, ov, iv] (setItem ov iv v)
      release [v, ov, iv] [])) : SG X W P (.Subscript o i pos) [] (tgI j fi) := fun st σ τ F H x d Q hl r q h => by
  unfold tgI at h
  split at h
  · rename_i k0 ds0 e0
    have hρ : (σ ++ τ)[j]? = σ[j]? := List.getElem?_append_left (by omega)
    obtain ⟨a, vs0, y1, y2, y3, y4⟩ := r.slot j _ e0
    rw [hρ] at y1
    refine wg (pg_sub ho pE set_list ha) ⟨.ref a, y1, hi st σ τ F H _ hl r ((post_toG hl h).imp fun w st2 τ2 F2 H2 s2 _ h2 z rw' => ?_)⟩
    unfold putIx at h2
    have q2 : Rp X.K F2 H2 x d := s2.move r q
    split at h2
    · rename_i k ds e1 e2
      split at h2
      · rename_i m em
        have rz := (rd_ok e1 s2.rs rw').int
        have ea : (σ ++ (τ ++ τ2))[j]? = some (some (V.ref a)) := get_pre y1
        obtain ⟨vs, g1, g2, g3⟩ := post_put (P := P) (m := m) s2.rs e2 ea q2
        exact ⟨a, vs, k, m, rfl, rz, g1, by rw [g2]; exact em, h2 σ [] F2 _ hl (fun _ _ => rfl) (by rw [List.append_nil]; exact g3)⟩
      · exact h2.elim
    · exact h2.elim
  · exact h.elim
/-! ### e = a target -/
def sAsg (n : Nat) (f : M Vl) (g : D → M Unit) : M Fl := bndS n f fun v => bndS n (frz v) fun d => bndS n (g d) fun _ => cut n
theorem ss_asg {tg e : Expr} {pos : Pos} {T : List Nat} {f : M Vl} {g : D → M Unit} (hP : P ≤ X.N.length) (hs : swapsWithSole [tg] e pos.line X.env = pure false) (hw : swappedStores [tg] e X.env = pure none) (h1 : (assignEach [tg] X.env).map (·.2) = [assign tg X.env])
    (he : SE X W P e f) (hg : SG X W P tg T g) : SS X W P (.Assign [tg] e pos) (sAsg X.N.length f g) := fun st σ F H D hl r h => by
  refine ws (ps_asg pE pG hs hw h1) (he st σ [] F H _ hl (rs0 r) ((PostS.bind0 hl hP h).imp fun v st1 τ1 F1 H1 s1 _ q x rv => ?_))
  have q := PostS.bind hl hP q
  cases e1 : frz v st1 with
  | stuck => rw [e1] at q; exact q.elim
  | exc y st2 => exact absurd e1 frz_noexc
  | ok d st2 =>
    rw [e1] at q
    obtain ⟨F2, s2, r2⟩ := frz_ok (P := P) s1.rs rv e1
    have q := q [] F2 H1 (by rw [List.append_nil]; exact s2)
    rw [List.append_nil] at q
    refine hg st2 σ _ F2 H1 x d _ hl s2.rs r2 ?_
    have q : PostS X W P X.N.length st2 (σ ++ ([] ++ τ1)) F2 H1 (bndS X.N.length (g d) (fun _ => cut X.N.length) st2) D := q
    unfold bndS at q
    cases e2 : g d st2 with
    | stuck => rw [e2] at q; exact q.elim
    | exc y st3 => rw [e2] at q; exact fun σ3 τ3 F3 H3 cls dd hl3 s3 xr => q σ3 F3 H3 cls dd hl3 (s3.trunc hl3 hP) xr
    | ok _ st3 => rw [e2] at q; exact fun σ3 τ3 F3 H3 hl3 _ s3 => q σ3 F3 H3 hl3 (s3.trunc hl3 hP)
/-! ### x, y = a, b -/
def settle (n : Nat) : List Vl → M (List Vl)
  | [] => ret []
  | .dat d :: vs => bnd (settle n vs) fun ws => ret (.dat d :: ws)
  | .loc j :: vs => if n ≤ j then bnd (settle n vs) fun ws => ret (.loc j :: ws) else bnd (frz (.loc j)) fun d => bnd (settle n vs) fun ws => ret (.dat d :: ws)
def storeAll (n P : Nat) : List Nat → List Vl → Sto → Option Sto
  | [], [], st => some st
  | i :: is, v :: vs, st => match store n P i v st with
    | some st1 => storeAll n P is vs st1
    | none => none
  | _, _, _ => none
def sPar (n P : Nat) (is : List Nat) (f : M (List Vl)) : M Fl := bndS n f fun vs => bndS n (settle n vs) fun ws st => toNx n (storeAll n P is ws st)
theorem settle_noexc : ∀ {vs : List Vl} {st : Sto} {x : Xn} {st' : Sto}, settle n vs st ≠ .exc x st'
  | [], _, _, _ => fun h => by cases h
  | .dat d :: vs, st, x, st' => fun h => by
    unfold settle bnd at h
    cases e : settle n vs st with
    | stuck => rw [e] at h; cases h
    | exc y st2 => exact settle_noexc e
    | ok d st2 => rw [e] at h; cases h
  | .loc j :: vs, st, x, st' => fun h => by
    unfold settle at h
    split at h
    · unfold bnd at h
      cases e : settle n vs st with
      | stuck => rw [e] at h; cases h
      | exc y st2 => exact settle_noexc e
      | ok d st2 => rw [e] at h; cases h
    · unfold bnd at h
      cases e : frz (.loc j) st with
      | stuck => rw [e] at h; cases h
      | exc y st2 => exact frz_noexc e
      | ok d st2 =>
        simp only [e] at h
        cases e2 : settle n vs st2 with
        | stuck => simp only [e2] at h; cases h
        | exc y st2 => exact settle_noexc e2
        | ok d st2 => simp only [e2] at h; cases h
/-- no name is left in it -/
def off (n : Nat) : Vl → Prop
  | .dat _ => True
  | .loc j => n ≤ j
theorem settle_ok {K : PySem.W.Frag} : ∀ {vs ws : List Vl} {xs : List V} {st st' : Sto} {F : Addr → Prop}, Rs K F st ρ H → Rvs K F H ρ xs vs → settle n vs st = .ok ws st' → ∃ F', Stp P K st ρ F H st' ρ F' H ∧ Rvs K F' H ρ xs ws ∧ ∀ w ∈ ws, off n w
  | [], _, _, _, _, F, r, .nil, h => by cases h; exact ⟨F, .refl r, .nil, fun _ h => nomatch h⟩
  | .dat d :: vs, ws, _, st, st', F, r, .cons q t, h => by
    unfold settle bnd at h
    cases e : settle n vs st with
    | stuck => rw [e] at h; cases h
    | exc y st2 => exact absurd e settle_noexc
    | ok w st2 =>
      rw [e] at h
      cases h
      obtain ⟨F1, s1, q1, o1⟩ := settle_ok r t e
      refine ⟨F1, s1, .cons (show Rp K F1 H _ d from s1.move r q) q1, fun w hw => ?_⟩
      rcases List.mem_cons.mp hw with rfl | hw
      · trivial
      · exact o1 w hw
  | .loc j :: vs, ws, _, st, st', F, r, .cons q t, h => by
    unfold settle at h
    split at h
    · rename_i hnj
      unfold bnd at h
      cases e : settle n vs st with
      | stuck => rw [e] at h; cases h
      | exc y st2 => exact absurd e settle_noexc
      | ok w st2 =>
        rw [e] at h
        cases h
        obtain ⟨F1, s1, q1, o1⟩ := settle_ok r t e
        refine ⟨F1, s1, .cons q q1, fun w hw => ?_⟩
        rcases List.mem_cons.mp hw with rfl | hw
        · exact hnj
        · exact o1 w hw
    · unfold bnd at h
      cases e : frz (.loc j) st with
      | stuck => rw [e] at h; cases h
      | exc y st2 => exact absurd e frz_noexc
      | ok d st2 =>
        simp only [e] at h
        obtain ⟨F1, s1, q1⟩ := frz_ok (P := P) r q e
        have t1 := Rvs.step (τ' := []) (ρ := ρ) r (by rw [List.append_nil]; exact s1) t
        rw [List.append_nil] at t1
        cases e2 : settle n vs st2 with
        | stuck => simp only [e2] at h; cases h
        | exc y st2 => exact absurd e2 settle_noexc
        | ok w st3 =>
          simp only [e2] at h
          cases h
          obtain ⟨F2, s2, q2, o2⟩ := settle_ok s1.rs t1 e2
          refine ⟨F2, s1.trans s2, .cons (show Rp K F2 H _ d from s2.move s1.rs q1) q2, fun w hw => ?_⟩
          rcases List.mem_cons.mp hw with rfl | hw
          · trivial
          · exact o2 w hw
def setAll : List Nat → List V → St → St
  | i :: is, x :: xs, σ => setAll is xs (σ.set i (some x))
  | _, _, σ => σ
theorem storeAll_ok {K : PySem.W.Frag} (hP : P ≤ n) : ∀ {is : List Nat} {ws : List Vl} {xs : List V} {st st' : Sto} {F : Addr → Prop} {σ : St}, σ.length = n → (∀ i ∈ is, i < n) → (∀ w ∈ ws, off n w) → Rs K F st (σ ++ τ) H → Rvs K F H (σ ++ τ) xs ws → storeAll n P is ws st = some st' →
    ∃ F', Stp P K st (σ ++ τ) F H st' (setAll is xs σ ++ τ) F' H ∧ (setAll is xs σ).length = n
  | [], [], _, st, st', F, σ, hl, _, _, r, .nil, h => by cases h; exact ⟨F, .refl r, hl⟩
  | i :: is, w :: ws, _, st, st', F, σ, hl, hi, ho, r, .cons q t, h => by
    unfold storeAll at h
    cases e : store n P i w st with
    | none => rw [e] at h; cases h
    | some st1 =>
      rw [e] at h
      obtain ⟨F1, s1⟩ := store_rs hl hP (hi i (List.mem_cons_self ..)) r q e
      rename_i x xs
      have t1 : Rvs K F1 H (σ.set i (some x) ++ τ) xs ws := by
        have ho' : ∀ w ∈ ws, off n w := fun w hw => ho w (List.mem_cons_of_mem _ hw)
        clear h ho
        induction t with
        | nil => exact .nil
        | cons q1 _ ih =>
          rename_i v vs _
          refine .cons ?_ (ih fun w hw => ho' w (List.mem_cons_of_mem _ hw))
          cases v with
          | dat d => exact s1.move r q1
          | loc j =>
            have hj : n ≤ j := ho' _ (List.mem_cons_self ..)
            have q1' : (σ ++ τ)[j]? = some (some _) := q1
            show (σ.set i (some x) ++ τ)[j]? = _
            rw [List.getElem?_append_right (by omega)] at q1'
            rw [List.getElem?_append_right (by rw [List.length_set]; omega), List.length_set]
            exact q1'
      obtain ⟨F2, s2, l2⟩ := storeAll_ok hP (by rw [List.length_set]; exact hl) (fun j hj => hi j (List.mem_cons_of_mem _ hj)) (fun w hw => ho w (List.mem_cons_of_mem _ hw)) s1.rs t1 h
      exact ⟨F2, s1.trans s2, l2⟩
  | [], _ :: _, _, _, _, _, _, _, _, _, _, _, h => by cases h
  | _ :: _, [], _, _, _, _, _, _, _, _, _, _, h => by cases h
theorem par_post {is : List Nat} {vs : List Vl} {xs : List V} {D : Ends} (hl : σ.length = n) (hP : P ≤ n) (hi : ∀ i ∈ is, i < n) (r : Rs X.K F st (σ ++ τ) H) (q : Rvs X.K F H (σ ++ τ) xs vs)
    (h : PostS X W P n st (σ ++ τ) F H (bndS n (settle n vs) (fun ws st => toNx n (storeAll n P is ws st)) st) D) : D.nx (setAll is xs σ) H := by
  unfold bndS at h
  cases e : settle n vs st with
  | stuck => rw [e] at h; exact h.elim
  | exc y st2 => exact absurd e settle_noexc
  | ok ws st1 =>
    rw [e] at h
    obtain ⟨F1, s1, q1, o1⟩ := settle_ok (P := P) r q e
    have h : PostS X W P n st (σ ++ τ) F H (toNx n (storeAll n P is ws st1)) D := h
    cases e2 : storeAll n P is ws st1 with
    | none => rw [e2] at h; exact h.elim
    | some st2 =>
      rw [e2] at h
      obtain ⟨F2, s2, l2⟩ := storeAll_ok hP hl hi o1 s1.rs q1 e2
      exact h _ F2 H l2 ((s1.trans s2).trunc l2 hP)
theorem setAll2 {i j : Nat} {x y : V} : setAll [i, j] [x, y] σ = (σ.set i (some x)).set j (some y) := rfl
theorem len2 {f : M (List Vl)} {xs : List V} {vs : List Vl} {K : PySem.W.Frag} (q : Rvs K F H ρ xs vs) (h : vs.length = 2) : ∃ x y, xs = [x, y] := by
  have := q.length
  rw [h] at this
  match xs, this with
  | [x, y], _ => exact ⟨x, y, rfl⟩
theorem ss_par2 {i j : Nat} {x y : Str} {a b : Expr} {px py pt pt2 pos : Pos} {kt k2 : Nat} {fa fb : M Vl} (hc : X.calm = true) (hP : P ≤ X.N.length) (hN : X.N.Nodup) (hi : X.N[i]? = some x) (hj : X.N[j]? = some y) (hij : i ≠ j)
    (hx : X.env.scope.names.lookup x = some .local) (hy : X.env.scope.names.lookup y = some .local)
    (hw : swappedStores [.Tuple [.Name x px, .Name y py] kt pt] (.Tuple [a, b] k2 pt2) X.env = pure (some [x, y])) (sa : noStar a = true) (sb : noStar b = true) (ha : SE X W P a fa) (hb : SE X W P b fb) :
    SS X W P (.Assign [.Tuple [.Name x px, .Name y py] kt pt] (.Tuple [a, b] k2 pt2) pos) (sPar X.N.length P [i, j] (xCons fa (xCons fb xNil))) := fun st σ F H D hl r h => by
  have hA : SA X W P [a, b] (xCons fa (xCons fb xNil)) := sa_cons sa ha (sa_cons sb hb sa_nil)
  refine ws (ps_par hc hN hi hj hij hx hy pA hw rfl) (hA st σ [] F H _ hl (rs0 r) ((PostS.bind0 hl hP h).imp fun vs st1 τ1 F1 H1 s1 e1 q xs rvs => ?_))
  have hlv : vs.length = 2 := by
    unfold xCons xNil bnd at e1
    cases z1 : fa st with
    | ok v s => simp only [z1] at e1; cases z2 : fb s with
      | ok v2 s2 => simp only [z2, ret] at e1; cases e1; rfl
      | exc _ _ => simp only [z2] at e1; cases e1
      | stuck => simp only [z2] at e1; cases e1
    | exc _ _ => simp only [z1] at e1; cases e1
    | stuck => simp only [z1] at e1; cases e1
  obtain ⟨u, v, rfl⟩ := len2 (f := xNil) rvs hlv
  refine ⟨u, v, rfl, ?_⟩
  exact par_post hl hP (is := [i, j]) (fun l hl => by
    rcases List.mem_cons.mp hl with rfl | hl
    · exact (List.getElem?_eq_some_iff.mp hi).1
    · rcases List.mem_cons.mp hl with rfl | hl
      · exact (List.getElem?_eq_some_iff.mp hj).1
      · cases hl) s1.rs rvs q
theorem ss_par3 {i j l : Nat} {x y z : Str} {a b c : Expr} {px py pz pt pt2 pos : Pos} {kt k2 : Nat} {fa fb fc : M Vl} (hc : X.calm = true) (hP : P ≤ X.N.length) (hN : X.N.Nodup) (hi : X.N[i]? = some x) (hj : X.N[j]? = some y) (hk : X.N[l]? = some z) (hij : i ≠ j) (hil : i ≠ l) (hjl : j ≠ l)
    (hx : X.env.scope.names.lookup x = some .local) (hy : X.env.scope.names.lookup y = some .local) (hz : X.env.scope.names.lookup z = some .local)
    (hw : swappedStores [.Tuple [.Name x px, .Name y py, .Name z pz] kt pt] (.Tuple [a, b, c] k2 pt2) X.env = pure (some [x, y, z])) (sa : noStar a = true) (sb : noStar b = true) (sc : noStar c = true) (ha : SE X W P a fa) (hb : SE X W P b fb) (hcc : SE X W P c fc) :
    SS X W P (.Assign [.Tuple [.Name x px, .Name y py, .Name z pz] kt pt] (.Tuple [a, b, c] k2 pt2) pos) (sPar X.N.length P [i, j, l] (xCons fa (xCons fb (xCons fc xNil)))) := fun st σ F H D hl r h => by
  have hA : SA X W P [a, b, c] (xCons fa (xCons fb (xCons fc xNil))) := sa_cons sa ha (sa_cons sb hb (sa_cons sc hcc sa_nil))
  refine ws (ps_par3 hc hN hi hj hk hij hil hjl hx hy hz pA hw rfl) (hA st σ [] F H _ hl (rs0 r) ((PostS.bind0 hl hP h).imp fun vs st1 τ1 F1 H1 s1 e1 q xs rvs => ?_))
  have hlv : vs.length = 3 := by
    unfold xCons xNil bnd at e1
    cases z1 : fa st with
    | ok v s => simp only [z1] at e1; cases z2 : fb s with
      | ok v2 s2 => simp only [z2] at e1; cases z3 : fc s2 with
        | ok v3 s3 => simp only [z3, ret] at e1; cases e1; rfl
        | exc _ _ => simp only [z3] at e1; cases e1
        | stuck => simp only [z3] at e1; cases e1
      | exc _ _ => simp only [z2] at e1; cases e1
      | stuck => simp only [z2] at e1; cases e1
    | exc _ _ => simp only [z1] at e1; cases e1
    | stuck => simp only [z1] at e1; cases e1
  have hl3 := rvs.length
  rw [hlv] at hl3
  match xs, hl3, rvs with
  | [u, v, w], _, rvs =>
    refine ⟨u, v, w, rfl, ?_⟩
    exact par_post hl hP (is := [i, j, l]) (fun m hm => by
      rcases List.mem_cons.mp hm with rfl | hm
      · exact (List.getElem?_eq_some_iff.mp hi).1
      · rcases List.mem_cons.mp hm with rfl | hm
        · exact (List.getElem?_eq_some_iff.mp hj).1
        · rcases List.mem_cons.mp hm with rfl | hm
          · exact (List.getElem?_eq_some_iff.mp hk).1
          · cases hm) s1.rs rvs q
/-! ### four names at once: a tuple is made and taken apart, fresh lists stay fresh -/
theorem growX {K : PySem.W.Frag} {F : Addr → Prop} {H : Hp} {p : Addr} {u : HO} (lv : ∀ a, F a → ∃ o, H a = some o) (hp : H p = none) : Grow K F H F (upd H p u) (.val .non) .non :=
  ⟨fun a o h => by
    have hne : a ≠ p := fun e => by subst e; rw [hp] at h; cases h
    rw [upd_ne hne]; exact h, fun _ h => h, fun _ h => .inl h, fun a h => by
    obtain ⟨o, z⟩ := lv a h
    have hne : a ≠ p := fun e => by subst e; rw [hp] at z; cases z
    exact ⟨o, by rw [upd_ne hne]; exact z⟩, .non⟩
theorem ss_par4 {i j l m : Nat} {x y z u : Str} {a b c d : Expr} {px py pz pu pt pt2 pos : Pos} {kt k2 : Nat} {fa fb fc fd : M Vl} (hc : X.calm = true) (hP : P ≤ X.N.length) (hN : X.N.Nodup) (hi : X.N[i]? = some x) (hj : X.N[j]? = some y) (hk : X.N[l]? = some z) (hm : X.N[m]? = some u)
    (hx : X.env.scope.names.lookup x = some .local) (hy : X.env.scope.names.lookup y = some .local) (hz : X.env.scope.names.lookup z = some .local) (hu : X.env.scope.names.lookup u = some .local)
    (hs : swapsWithSole [.Tuple [.Name x px, .Name y py, .Name z pz, .Name u pu] kt pt] (.Tuple [a, b, c, d] k2 pt2) pos.line X.env = pure false)
    (hw : swappedStores [.Tuple [.Name x px, .Name y py, .Name z pz, .Name u pu] kt pt] (.Tuple [a, b, c, d] k2 pt2) X.env = pure none) (sa : noStar a = true) (sb : noStar b = true) (sc : noStar c = true) (sd : noStar d = true)
    (ha : SE X W P a fa) (hb : SE X W P b fb) (hcc : SE X W P c fc) (hd : SE X W P d fd) :
    SS X W P (.Assign [.Tuple [.Name x px, .Name y py, .Name z pz, .Name u pu] kt pt] (.Tuple [a, b, c, d] k2 pt2) pos) (sPar X.N.length P [i, j, l, m] (xCons fa (xCons fb (xCons fc (xCons fd xNil))))) := fun st σ F H D hl r h => by
  have hA : SA X W P [a, b, c, d] (xCons fa (xCons fb (xCons fc (xCons fd xNil)))) := sa_cons sa ha (sa_cons sb hb (sa_cons sc hcc (sa_cons sd hd sa_nil)))
  have pg := pg_tup (X := X) (pos := pt) (k := kt) (n := 4) hc (pgs_cons (pg_name (pos := px) hN hi (.inl hx) (.inr hx)) (pgs_cons (pg_name (pos := py) hN hj (.inl hy) (.inr hy)) (pgs_cons (pg_name (pos := pz) hN hk (.inl hz) (.inr hz)) (pgs_cons (pg_name (pos := pu) hN hm (.inl hu) (.inr hu)) pgs_nil))))
  refine ws (ps_asg (pe_tup pA) pg hs hw rfl) (hA st σ [] F H _ hl (rs0 r) ((PostS.bind0 hl hP h).imp fun vs st1 τ1 F1 H1 s1 e1 q xs rvs => ?_))
  have hlv : vs.length = 4 := by
    unfold xCons xNil bnd at e1
    cases z1 : fa st with
    | ok v s => simp only [z1] at e1; cases z2 : fb s with
      | ok v2 s2 => simp only [z2] at e1; cases z3 : fc s2 with
        | ok v3 s3 => simp only [z3] at e1; cases z4 : fd s3 with
          | ok v4 s4 => simp only [z4, ret] at e1; cases e1; rfl
          | exc _ _ => simp only [z4] at e1; cases e1
          | stuck => simp only [z4] at e1; cases e1
        | exc _ _ => simp only [z3] at e1; cases e1
        | stuck => simp only [z3] at e1; cases e1
      | exc _ _ => simp only [z2] at e1; cases e1
      | stuck => simp only [z2] at e1; cases e1
    | exc _ _ => simp only [z1] at e1; cases e1
    | stuck => simp only [z1] at e1; cases e1
  have hl4 := rvs.length
  rw [hlv] at hl4
  match xs, hl4, rvs with
  | [v1, v2, v3, v4], _, rvs =>
    refine ⟨by show 4 ≤ sizeLine; rw [sizeLine_eq]; decide, fun p hp => ?_⟩
    have gr := growX (K := X.K) (u := .tup [v1, v2, v3, v4]) s1.rs.live hp
    have st2 := Stp.grow (P := P) s1.rs gr
    have hp' : upd H1 p (.tup [v1, v2, v3, v4]) p = some (.tup [v1, v2, v3, v4]) := upd_same
    refine ⟨p, [v1, v2, v3, v4], rfl, .inl (.inl hp'), rfl, _, _, rfl, _, _, rfl, _, _, rfl, _, _, rfl, rfl, ?_⟩
    have rvs2 := Rvs.step (τ' := []) s1.rs (by rw [List.append_nil]; exact st2) rvs
    rw [List.append_nil] at rvs2
    exact par_post hl hP (is := [i, j, l, m]) (fun n hn => by
      rcases List.mem_cons.mp hn with rfl | hn
      · exact (List.getElem?_eq_some_iff.mp hi).1
      · rcases List.mem_cons.mp hn with rfl | hn
        · exact (List.getElem?_eq_some_iff.mp hj).1
        · rcases List.mem_cons.mp hn with rfl | hn
          · exact (List.getElem?_eq_some_iff.mp hk).1
          · rcases List.mem_cons.mp hn with rfl | hn
            · exact (List.getElem?_eq_some_iff.mp hm).1
            · cases hn) st2.rs rvs2 (PostS.step q st2)
end
end PU
namespace PU
open PySem PySem.Spec PyProof.Rows L2
/-! ### what is walked -/
def Ext (F0 : Addr → Prop) (H0 : Hp) (F : Addr → Prop) (H : Hp) : Prop := (∀ a, F0 a → F a) ∧ ∀ a, F0 a → ∀ o, H0 a = some o → Kp H a o
theorem Ext.refl {F : Addr → Prop} {H : Hp} : Ext F H F H := ⟨fun _ h => h, fun _ _ _ h => .inl h⟩
theorem Ext.trans {F F1 F2 : Addr → Prop} {H H1 H2 : Hp} (a : Ext F H F1 H1) (b : Ext F1 H1 F2 H2) : Ext F H F2 H2 := ⟨fun x h => b.1 x (a.1 x h), fun x f o h => (a.2 x f o h).trans fun u e => b.2 x (a.1 x f) u e⟩
theorem Stp.ext {P : Nat} {K : PySem.W.Frag} {st st' : Sto} {ρ ρ' : St} {F F' : Addr → Prop} {H H' : Hp} (r : Rs K F st ρ H) (s : Stp P K st ρ F H st' ρ' F' H') : Ext F H F' H' := ⟨s.mono, fun a f o h => s.keep a o h (r.notOwn f)⟩
theorem Grow.ext {K : PySem.W.Frag} {F F' : Addr → Prop} {H H' : Hp} {s : Slot} {v : V} (g : Grow K F H F' H' s v) : Ext F H F' H' := ⟨g.mono, fun a _ o h => .inl (g.keep a o h)⟩
structure ItOk (K : PySem.W.Frag) (J : It) (ds : List D) (F0 : Addr → Prop) (H0 : Hp) : Prop where
  go : ∀ F H (i : Nat) d, Ext F0 H0 F H → (∀ a, F a → ∃ o, H a = some o) → ds[i]? = some d → J.go i H ∧ ∀ x H', J.yld i H x H' → ∃ F', Grow K F H F' H' (.val d) x
  stop : ∀ F H, Ext F0 H0 F H → J.stop ds.length H
section
variable {K : PySem.W.Frag} {F0 : Addr → Prop} {H0 : Hp}
theorem itok_list {a : Addr} {ds : List D} (r : Rp K F0 H0 (.ref a) (.lst ds)) : ItOk K (Itl K a) ds F0 H0 where
  go := fun F H i d e lv hd => by
    obtain ⟨b, vs, e1, s1, s2⟩ := (r.moveK e.1 e.2).sqL
    cases e1
    obtain ⟨v, h1, h2⟩ := s2.get hd
    refine ⟨⟨vs, v, s1, h1⟩, fun x H' y => ?_⟩
    obtain ⟨rfl, y⟩ := y
    have := y vs s1
    rw [h1] at this
    cases this
    exact ⟨F, growV lv h2⟩
  stop := fun F H e => by
    obtain ⟨b, vs, e1, s1, s2⟩ := (r.moveK e.1 e.2).sqL
    cases e1
    exact ⟨vs, s1, by rw [s2.length]; exact Nat.le_refl _⟩
theorem itok_tup {a : Addr} {ds : List D} (r : Rp K F0 H0 (.ref a) (.tup ds)) : ItOk K (Itt K a) ds F0 H0 where
  go := fun F H i d e lv hd => by
    obtain ⟨b, vs, e1, s1, s2⟩ := (r.moveK e.1 e.2).sqT
    cases e1
    obtain ⟨v, h1, h2⟩ := s2.get hd
    refine ⟨⟨vs, v, s1, h1⟩, fun x H' y => ?_⟩
    obtain ⟨rfl, y⟩ := y
    have := y vs s1
    rw [h1] at this
    cases this
    exact ⟨F, growV lv h2⟩
  stop := fun F H e => by
    obtain ⟨b, vs, e1, s1, s2⟩ := (r.moveK e.1 e.2).sqT
    cases e1
    exact ⟨vs, s1, by rw [s2.length]; exact Nat.le_refl _⟩
def rngD (lo : Int) (n : Nat) : List D := (List.range n).map fun i => .int (lo + (i : Nat))
theorem rngD_len (lo : Int) (n : Nat) : (rngD lo n).length = n := by unfold rngD; simp
theorem itok_rng {lo : Int} {n : Nat} : ItOk K (Itr lo n) (rngD lo n) F0 H0 where
  go := fun F H i d e lv hd => by
    have hi : i < n := by rw [← rngD_len lo n]; exact (List.getElem?_eq_some_iff.mp hd).1
    unfold rngD at hd
    rw [List.getElem?_map, List.getElem?_range hi] at hd
    cases hd
    refine ⟨hi, fun x H' y => ?_⟩
    obtain ⟨rfl, rfl⟩ := y
    exact ⟨F, growV lv (.int _)⟩
  stop := fun F H e => by rw [rngD_len]; exact Nat.le_refl n
def rngC (lo c : Int) (n : Nat) : List D := (List.range n).map fun i => .int (lo + (i : Nat) * c)
theorem itok_rngC {lo c : Int} {n : Nat} : ItOk K (Itc lo c n) (rngC lo c n) F0 H0 where
  go := fun F H i d e lv hd => by
    have hn : (rngC lo c n).length = n := by unfold rngC; simp
    have hi : i < n := by rw [← hn]; exact (List.getElem?_eq_some_iff.mp hd).1
    unfold rngC at hd
    rw [List.getElem?_map, List.getElem?_range hi] at hd
    cases hd
    refine ⟨hi, fun x H' y => ?_⟩
    obtain ⟨rfl, rfl⟩ := y
    exact ⟨F, growV lv (.int _)⟩
  stop := fun F H e => by
    have hn : (rngC lo c n).length = n := by unfold rngC; simp
    rw [hn]; exact Nat.le_refl n
def signs (x : Str) : List D := x.cps.toList.map fun c => .str ⟨#[c]⟩
theorem itok_str {x : Str} : ItOk K (Its x) (signs x) F0 H0 where
  go := fun F H i d e lv hd => by
    unfold signs at hd
    rw [List.getElem?_map, Option.map_eq_some_iff] at hd
    obtain ⟨c, hc, rfl⟩ := hd
    have hi := (List.getElem?_eq_some_iff.mp hc).1
    refine ⟨show i < x.cps.size by simpa using hi, fun x H' y => ?_⟩
    obtain ⟨rfl, c', h1, rfl⟩ := y
    have : c = c' := by
      rw [← Array.getElem?_toList, hc] at h1
      exact Option.some.inj h1
    subst this
    exact ⟨F, growV lv (.str _)⟩
  stop := fun F H e => by
    unfold signs
    rw [List.length_map]
    show x.cps.size ≤ x.cps.toList.length
    simp
theorem pair_grow {F : Addr → Prop} {H : Hp} {T : Addr} {v w : V} {d e : D} (lv : ∀ a, F a → ∃ o, H a = some o) (hT : H T = none) (r : Rp K F H v d) (q : Rp K F H w e) : ∃ F', Grow K F H F' (upd H T (.tup [v, w])) (.val (.tup [d, e])) (.ref T) := ⟨_, growT lv hT (.cons r (.cons q .nil))⟩
def enumD (ds : List D) : List D := ds.zipIdx.map fun p => .tup [.int ((p.2 : Nat) : Int), p.1]
theorem enumD_get {ds : List D} {i : Nat} {d : D} (h : (enumD ds)[i]? = some d) : ∃ e, ds[i]? = some e ∧ d = .tup [.int (i : Nat), e] := by
  unfold enumD at h
  rw [List.getElem?_map, Option.map_eq_some_iff] at h
  obtain ⟨p, hp, rfl⟩ := h
  rw [List.getElem?_zipIdx, Option.map_eq_some_iff] at hp
  obtain ⟨e, he, rfl⟩ := hp
  exact ⟨e, he, by simp⟩
theorem enumD_len (ds : List D) : (enumD ds).length = ds.length := by unfold enumD; simp
theorem itok_enum {a : Addr} {ds : List D} (r : Rp K F0 H0 (.ref a) (.lst ds)) : ItOk K (Ite K a) (enumD ds) F0 H0 where
  go := fun F H i d e lv hd => by
    obtain ⟨b, vs, e1, s1, s2⟩ := (r.moveK e.1 e.2).sqL
    cases e1
    obtain ⟨d0, h0, rfl⟩ := enumD_get hd
    obtain ⟨v, h1, h2⟩ := s2.get h0
    refine ⟨⟨vs, v, s1, h1⟩, fun x H' y => ?_⟩
    obtain ⟨T, w, rfl, hT, rfl, y⟩ := y
    have := y vs s1
    rw [h1] at this
    cases this
    exact pair_grow lv hT (.int _) h2
  stop := fun F H e => by
    obtain ⟨b, vs, e1, s1, s2⟩ := (r.moveK e.1 e.2).sqL
    cases e1
    exact ⟨vs, s1, by rw [s2.length, enumD_len]; exact Nat.le_refl _⟩
def zipD (ds es : List D) : List D := (ds.zip es).map fun p => .tup [p.1, p.2]
theorem zipD_get {ds es : List D} {i : Nat} {d : D} (h : (zipD ds es)[i]? = some d) : ∃ x y, ds[i]? = some x ∧ es[i]? = some y ∧ d = .tup [x, y] := by
  unfold zipD at h
  rw [List.getElem?_map, Option.map_eq_some_iff] at h
  obtain ⟨p, hp, rfl⟩ := h
  rw [List.getElem?_zip_eq_some] at hp
  exact ⟨p.1, p.2, hp.1, hp.2, rfl⟩
theorem itok_zip {a b : Addr} {ds es : List D} (r : Rp K F0 H0 (.ref a) (.lst ds)) (q : Rp K F0 H0 (.ref b) (.lst es)) : ItOk K (Itz K a b) (zipD ds es) F0 H0 where
  go := fun F H i d e lv hd => by
    obtain ⟨_, vs, e1, s1, s2⟩ := (r.moveK e.1 e.2).sqL
    cases e1
    obtain ⟨_, ws, e1, t1, t2⟩ := (q.moveK e.1 e.2).sqL
    cases e1
    obtain ⟨x, y, hx, hy, rfl⟩ := zipD_get hd
    obtain ⟨v, h1, h2⟩ := s2.get hx
    obtain ⟨w, h3, h4⟩ := t2.get hy
    refine ⟨⟨vs, ws, v, w, s1, t1, h1, h3⟩, fun x H' y => ?_⟩
    obtain ⟨T, v', w', rfl, hT, rfl, y1, y2⟩ := y
    have z1 := y1 vs s1
    have z2 := y2 ws t1
    rw [h1] at z1
    rw [h3] at z2
    cases z1; cases z2
    exact pair_grow lv hT h2 h4
  stop := fun F H e => by
    obtain ⟨_, vs, e1, s1, s2⟩ := (r.moveK e.1 e.2).sqL
    cases e1
    obtain ⟨_, ws, e1, t1, t2⟩ := (q.moveK e.1 e.2).sqL
    cases e1
    refine ⟨vs, ws, s1, t1, ?_⟩
    unfold zipD
    rw [List.length_map, List.length_zip, s2.length, t2.length]
    omega
theorem itok_zipT {a b : Addr} {ds es : List D} (r : Rp K F0 H0 (.ref a) (.tup ds)) (q : Rp K F0 H0 (.ref b) (.tup es)) : ItOk K (RZ.ItzT K a b) (zipD ds es) F0 H0 where
  go := fun F H i d e lv hd => by
    obtain ⟨_, vs, e1, s1, s2⟩ := (r.moveK e.1 e.2).sqT
    cases e1
    obtain ⟨_, ws, e1, t1, t2⟩ := (q.moveK e.1 e.2).sqT
    cases e1
    obtain ⟨x, y, hx, hy, rfl⟩ := zipD_get hd
    obtain ⟨v, h1, h2⟩ := s2.get hx
    obtain ⟨w, h3, h4⟩ := t2.get hy
    refine ⟨⟨vs, ws, v, w, s1, t1, h1, h3⟩, fun x H' y => ?_⟩
    obtain ⟨T, v', w', rfl, hT, rfl, y1, y2⟩ := y
    have z1 := y1 vs s1
    have z2 := y2 ws t1
    rw [h1] at z1
    rw [h3] at z2
    cases z1; cases z2
    exact pair_grow lv hT h2 h4
  stop := fun F H e => by
    obtain ⟨_, vs, e1, s1, s2⟩ := (r.moveK e.1 e.2).sqT
    cases e1
    obtain ⟨_, ws, e1, t1, t2⟩ := (q.moveK e.1 e.2).sqT
    cases e1
    refine ⟨vs, ws, s1, t1, ?_⟩
    unfold zipD
    rw [List.length_map, List.length_zip, s2.length, t2.length]
    omega
end
def WI (X : Cx) (tg iter : Expr) (σ : St) (H : Hp) (R : It → Hp → Prop) : Prop := ∀ pins s, Inv X pins σ H s → wpAny (model X.prog X.w) X.A (eval iter X.env) (fun v s1 => wpAny (model X.prog X.w) X.A (pyIter v) (PIE X pins σ tg R) X.xe s1) X.xe s
def SI (X : Cx) (W : WX) (P : Nat) (tg iter : Expr) (f : M (List D)) : Prop := ∀ st σ τ F H R, σ.length = X.N.length → Rs X.K F st (σ ++ τ) H →
  Post X W P σ τ st F H (f st) (fun ds st' τ' F' H' => ∀ J, ItOk X.K J ds F' H' → R J H') → WI X tg iter σ H R
section
variable {X : Cx} {W : WX} {P n : Nat} {F F' : Addr → Prop} {H H' : Hp} {st st' : Sto} {ρ ρ' σ τ : St} {tg : Expr}
theorem pI {iter : Expr} : PI X tg iter (WI X tg iter) := ⟨fun pins s _ _ _ I h => h pins s I⟩
theorem wi {iter : Expr} {t : TI} {R : It → Hp → Prop} (p : PI X tg iter t) (h : t σ H R) : WI X tg iter σ H R := fun pins s I => p.run pins s σ H R I h
def sm62 (i : Int) : Bool := decide (-(2 ^ 62) ≤ i) && decide (i < 2 ^ 62)
def getI (v : Vl) : M Int := fun st => match rd v st with
  | some (.int i) => .ok i st
  | _ => .stuck
def itR1 (a : M Vl) : M (List D) := bnd a fun v => bnd (getI v) fun j => if sm62 j then ret (rngD 0 j.toNat) else bad
def itR2 (a b : M Vl) : M (List D) := bnd a fun v => bnd b fun w => bnd (getI v) fun i => bnd (getI w) fun j => if sm62 i && sm62 j then ret (rngD i (j - i).toNat) else bad
theorem post_getI {β : Type} {k : Int → M β} {v : Vl} {x : V} {Q : β → Sto → St → (Addr → Prop) → Hp → Prop} (r : Rs X.K F st (σ ++ τ) H) (q : Rv X.K F H (σ ++ τ) x v)
    (h : Post X W P σ τ st F H (bnd (getI v) k st) Q) : ∃ i, x = .int i ∧ Post X W P σ τ st F H (k i st) Q := by
  have h := h.bind
  unfold getI at h
  split at h
  · rename_i i hi
    exact ⟨i, (rd_ok hi r q).int, Post.here (a := i) r h⟩
  · exact h.elim
theorem sm62_ok {i : Int} (h : sm62 i = true) : -(2 ^ 62) ≤ i ∧ i < 2 ^ 62 := by
  unfold sm62 at h
  rw [Bool.and_eq_true] at h
  exact ⟨of_decide_eq_true h.1, of_decide_eq_true h.2⟩
theorem si_range1 {a : Expr} {p pos : Pos} {fa : M Vl} (hg : Gl X "range") (hm : X.mg "range" = none) (hs : noStar a = true) (ha : SE X W P a fa) : SI X W P tg (.Call (.Name "range" p) [a] [] pos) (itR1 fa) := fun st σ τ F H R hl r h => by
  refine wi (pi_range1 hg hm (pa_cons pE pa_nil (starEach_of hs)) (starEach_of hs)) (ha st σ τ F H _ hl r (h.bind.imp fun v st1 τ1 F1 H1 s1 _ q x rv => ?_))
  obtain ⟨j, rfl, q⟩ := post_getI s1.rs rv q
  split at q
  · rename_i hz
    obtain ⟨z1, z2⟩ := sm62_ok hz
    exact ⟨j, rfl, z1, z2, Post.here (a := rngD 0 j.toNat) s1.rs q _ itok_rng⟩
  · exact q.elim
theorem si_range2 {a b : Expr} {p pos : Pos} {fa fb : M Vl} (hg : Gl X "range") (hm : X.mg "range" = none) (hs : noStar a = true) (hs2 : noStar b = true) (ha : SE X W P a fa) (hb : SE X W P b fb) : SI X W P tg (.Call (.Name "range" p) [a, b] [] pos) (itR2 fa fb) := fun st σ τ F H R hl r h => by
  refine wi (pi_range2 hg hm (pa_cons pE (pa_cons pE pa_nil (starEach_of hs2)) (starEach_of hs)) (by rw [starEach_of hs, starEach_of hs2]; rfl) (starEach_of hs2)) (ha st σ τ F H _ hl r (h.bind.imp fun v st1 τ1 F1 H1 s1 _ q x rv => ?_))
  refine hb st1 σ _ F1 H1 _ hl s1.rs (q.bind.imp fun w st2 τ2 F2 H2 s2 _ q2 y rw' => ?_)
  obtain ⟨i, rfl, q2⟩ := post_getI s2.rs (s2.rvA s1.rs rv) q2
  obtain ⟨j, rfl, q2⟩ := post_getI s2.rs rw' q2
  split at q2
  · rename_i hz
    rw [Bool.and_eq_true] at hz
    obtain ⟨z1, z2⟩ := sm62_ok hz.1
    obtain ⟨z3, z4⟩ := sm62_ok hz.2
    exact ⟨i, j, rfl, ⟨z1, z2, z3, z4⟩, Post.here (a := rngD i (j - i).toNat) s2.rs q2 _ itok_rng⟩
  · exact q2.elim
/-- what a list, a tuple, a text has in it -/
def items : D → Option (List D)
  | .lst ds => some ds
  | .tup ds => some ds
  | .str x => some (signs x)
  | _ => none
def ofO {α : Type} (o : Option α) : M α := fun st => match o with
  | some a => .ok a st
  | none => .stuck
def itS (a : M Vl) : M (List D) := bnd a fun v => bnd (frz v) fun d => ofO (items d)
theorem si_seq {e : Expr} {fa : M Vl} (ha : SE X W P e fa) : SI X W P tg e (itS fa) := fun st σ τ F H R hl r h => by
  have h0 := h.bind
  cases e1 : fa st with
  | stuck => rw [e1] at h0; exact h0.elim
  | exc y st1 =>
    rw [e1] at h0
    exact wi (pi_list pE) (ha st σ τ F H _ hl r (by rw [e1]; exact h0))
  | ok v st1 =>
    rw [e1] at h0
    cases e2 : frz v st1 with
    | stuck =>
      refine wi (pi_list pE) (ha st σ τ F H _ hl r ?_)
      rw [e1]
      intro τ1 F1 H1 s1 x rv
      have q := (h0 τ1 F1 H1 s1).bind
      rw [e2] at q
      exact q.elim
    | exc y st2 => exact absurd e2 frz_noexc
    | ok d st2 =>
      have fin : ∀ τ1 F1 H1 x, Stp P X.K st (σ ++ τ) F H st1 (σ ++ (τ ++ τ1)) F1 H1 → Rv X.K F1 H1 (σ ++ (τ ++ τ1)) x v → ∃ F2, Rp X.K F2 H1 x d ∧ ∀ ds, items d = some ds → ∀ J, ItOk X.K J ds F2 H1 → R J H1 := fun τ1 F1 H1 x s1 rv => by
        have q := (h0 τ1 F1 H1 s1).bind
        rw [e2] at q
        obtain ⟨F2, s2, r2⟩ := frz_ok (P := P) s1.rs rv e2
        have q := q [] F2 H1 (by rw [List.append_nil]; exact s2)
        refine ⟨F2, r2, fun ds hd J hJ => ?_⟩
        dsimp only at q
        unfold ofO at q
        rw [hd] at q
        rw [List.append_nil] at q
        exact Post.here (a := ds) s2.rs q J hJ
      have none_ : items d = none → WI X tg e σ H R := fun hd => by
        refine wi (pi_list pE) (ha st σ τ F H _ hl r ?_)
        rw [e1]
        intro τ1 F1 H1 s1 x rv
        have q := (h0 τ1 F1 H1 s1).bind
        rw [e2] at q
        obtain ⟨F2, s2, r2⟩ := frz_ok (P := P) s1.rs rv e2
        have q := q [] F2 H1 (by rw [List.append_nil]; exact s2)
        dsimp only at q
        unfold ofO at q
        rw [hd] at q
        exact q.elim
      cases d with
      | lst ds =>
        refine wi (pi_list pE) (ha st σ τ F H _ hl r ?_)
        rw [e1]
        intro τ1 F1 H1 s1 x rv
        obtain ⟨F2, r2, k⟩ := fin τ1 F1 H1 x s1 rv
        obtain ⟨a, vs, rfl, z1, z2⟩ := r2.sqL
        exact ⟨a, rfl, ⟨vs, z1⟩, k ds rfl _ (itok_list r2)⟩
      | tup ds =>
        refine wi (pi_tup pE) (ha st σ τ F H _ hl r ?_)
        rw [e1]
        intro τ1 F1 H1 s1 x rv
        obtain ⟨F2, r2, k⟩ := fin τ1 F1 H1 x s1 rv
        obtain ⟨a, vs, rfl, z1, z2⟩ := r2.sqT
        exact ⟨a, rfl, ⟨vs, z1⟩, k ds rfl _ (itok_tup r2)⟩
      | str y =>
        refine wi (pi_str pE) (ha st σ τ F H _ hl r ?_)
        rw [e1]
        intro τ1 F1 H1 s1 x rv
        obtain ⟨F2, r2, k⟩ := fin τ1 F1 H1 x s1 rv
        have : x = .str y := by cases r2; rfl
        exact ⟨y, this, k _ rfl _ itok_str⟩
      | non => exact none_ rfl
      | bl b => exact none_ rfl
      | int i => exact none_ rfl
def asL : D → Option (List D)
  | .lst ds => some ds
  | _ => none
def itE (a : M Vl) : M (List D) := bnd a fun v => bnd (frz v) fun d => ofO ((asL d).map enumD)
theorem si_enum {e : Expr} {p pos tpos : Pos} {elts : List Expr} {kk : Nat} {fa : M Vl} (hg : Gl X "enumerate") (hm : X.mg "enumerate" = none) (hs : noStar e = true) (ha : SE X W P e fa) : SI X W P (.Tuple elts kk tpos) (.Call (.Name "enumerate" p) [e] [] pos) (itE fa) := fun st σ τ F H R hl r h => by
  refine wi (pi_enum hg hm (pa_cons pE pa_nil (starEach_of hs)) (starEach_of hs)) (ha st σ τ F H _ hl r (h.bind.imp fun v st1 τ1 F1 H1 s1 _ q x rv => ?_))
  obtain ⟨d, st2, F2, s2, r2, q⟩ := post_frz s1.rs rv q
  unfold ofO asL at q
  cases d with
  | lst ds =>
    have rp := r2
    obtain ⟨a, vs, rfl, z1, z2⟩ := r2.sqL
    exact ⟨a, vs, rfl, z1, Post.here (a := enumD ds) s2.rs q _ (itok_enum rp)⟩
  | _ => exact q.elim
def zipO : D → D → Option (List D)
  | .lst ds, .lst es => some (zipD ds es)
  | .tup ds, .tup es => some (zipD ds es)
  | _, _ => none
def itZ (a b : M Vl) : M (List D) := bnd a fun v => bnd b fun w => bnd (frz v) fun d => bnd (frz w) fun e => ofO (zipO d e)
theorem si_zip {a b : Expr} {p pos tpos : Pos} {elts : List Expr} {kk : Nat} {fa fb : M Vl} (hg : Gl X "zip") (hm : X.mg "zip" = none) (hs : noStar a = true) (hs2 : noStar b = true) (ha : SE X W P a fa) (hb : SE X W P b fb) : SI X W P (.Tuple elts kk tpos) (.Call (.Name "zip" p) [a, b] [] pos) (itZ fa fb) := fun st σ τ F H R hl r h => by
  refine wi (RZ.pi_zipA hg hm (pa_cons pE (pa_cons pE pa_nil (starEach_of hs2)) (starEach_of hs)) (starEach_of hs) (any_backTo fun z hz => by
    rcases List.mem_cons.mp hz with rfl | hz
    · exact hs2
    · cases hz)) (ha st σ τ F H _ hl r (h.bind.imp fun v st1 τ1 F1 H1 s1 _ q x rv => ?_))
  refine hb st1 σ _ F1 H1 _ hl s1.rs (q.bind.imp fun w st2 τ2 F2 H2 s2 _ q2 y rw' => ?_)
  obtain ⟨d, st3, F3, s3, r3, q2⟩ := post_frz s2.rs (s2.rvA s1.rs rv) q2
  have rw3 : Rv X.K F3 H2 (σ ++ (τ ++ τ1 ++ τ2)) y w := by
    have := Stp.rv (τ := []) s2.rs (by rw [List.append_nil]; exact s3) rw'
    rwa [List.append_nil] at this
  obtain ⟨e, st4, F4, s4, r4, q2⟩ := post_frz s3.rs rw3 q2
  have r3 : Rp X.K F4 H2 x d := s4.move s3.rs r3
  unfold ofO at q2
  cases d with
  | lst ds =>
    cases e with
    | lst es =>
      obtain ⟨a, vs, rfl, z1, z2⟩ := id r3.sqL
      obtain ⟨b, ws, rfl, y1, y2⟩ := id r4.sqL
      exact ⟨a, b, vs, ws, rfl, .inl ⟨z1, y1, Post.here (a := zipD ds es) s4.rs q2 _ (itok_zip r3 r4)⟩⟩
    | _ => exact q2.elim
  | tup ds =>
    cases e with
    | tup es =>
      obtain ⟨a, vs, rfl, z1, z2⟩ := id r3.sqT
      obtain ⟨b, ws, rfl, y1, y2⟩ := id r4.sqT
      exact ⟨a, b, vs, ws, rfl, .inr ⟨z1, y1, Post.here (a := zipD ds es) s4.rs q2 _ (itok_zipT r3 r4)⟩⟩
    | _ => exact q2.elim
  | _ => cases e <;> exact q2.elim
/-! ### for -/
def forE (n : Nat) (g : D → M Unit) (body : M Fl) : List D → M Fl
  | [] => ret .next
  | d :: ds => fun st => match g d st with
    | .ok _ st1 => (match body (st1.take n) with
      | .ok .next st2 => forE n g body ds st2
      | .ok .cont st2 => forE n g body ds st2
      | .ok .brk st2 => .ok .next st2
      | r => r)
    | .exc x st1 => .exc x (st1.take n)
    | .stuck => .stuck
def sFor (n : Nat) (it : M (List D)) (g : D → M Unit) (body : M Fl) : M Fl := bndS n it fun ds st => forE n g body ds (st.take n)
def noSet : Expr → Bool
  | .Set .. => false
  | _ => true
theorem noSet_ok {e : Expr} (h : noSet e = true) (env : PySem.Env) (x : Value) : foldedSetIterable e env x = pure x := by
  cases e <;> first | rfl | cases h
theorem ss_for {iter : Expr} {body : List Stmt} {pos : Pos} {it : M (List D)} {T : List Nat} {g : D → M Unit} {b : M Fl} (hP : P ≤ X.N.length) (hp : PassesOwn (model X.prog X.w) X.A X.env X.xe) (hc : X.calm = true) (hns : noSet iter = true) (hi : SI X W P tg iter it) (hg : SG X W P tg T g) (hb : SSs X W P body b) :
    SS X W P (.For tg iter body [] pos) (sFor X.N.length it g b) := fun st σ F H D hl r h => by
  refine ws (ps_for hp hc pI pG pSs (noSet_ok hns X.env)) (hi st σ [] F H _ hl (rs0 r) ((PostS.bind0 hl hP h).imp fun ds st1 τ1 F1 H1 s1 _ q J hJ => ?_))
  have tr := (Stp.refl (P := P) s1.rs).trunc hl hP
  have q := PostS.step q tr
  refine ⟨fun i m σ' H' => m = ds.length - i ∧ i ≤ ds.length ∧ ∃ st' F', σ'.length = X.N.length ∧ Rs X.K F' st' σ' H' ∧ Ext F1 H1 F' H' ∧ PostS X W P X.N.length st' σ' F' H' (forE X.N.length g b (ds.drop i) st') D,
    ⟨ds.length, rfl, Nat.zero_le _, st1.take X.N.length, F1, hl, tr.rs, .refl, q⟩, fun i m σ2 H2 w => ?_⟩
  obtain ⟨rfl, hi', st2, F2, hl2, r2, x2, q2⟩ := w
  by_cases hlt : i < ds.length
  · right
    have hd : ds[i]? = some ds[i] := List.getElem?_eq_getElem hlt
    obtain ⟨go, yl⟩ := hJ.go F2 H2 i _ x2 r2.live hd
    refine ⟨go, fun σ' H' => ∃ st' F', σ'.length = X.N.length ∧ Rs X.K F' st' σ' H' ∧ Ext F1 H1 F' H' ∧ PostS X W P X.N.length st' σ' F' H' (forE X.N.length g b (ds.drop (i + 1)) st') D, fun σ' H' z => ⟨ds.length - (i + 1), by omega, rfl, hlt, z⟩, fun x H' y => ?_⟩
    obtain ⟨F3, gr⟩ := yl x H' y
    have s3 : Stp P X.K st2 σ2 F2 H2 st2 σ2 F3 H' := Stp.grow r2 gr
    have q3 := PostS.step q2 s3
    rw [List.drop_eq_getElem_cons hlt] at q3
    refine hg st2 σ2 [] F3 H' x _ _ hl2 (rs0 s3.rs) gr.res ?_
    rw [List.append_nil]
    simp only [forE] at q3
    cases e1 : g ds[i] st2 with
    | stuck => rw [e1] at q3; exact q3.elim
    | exc y st4 => rw [e1] at q3; exact fun σ4 τ4 F4 H4 cls dd hl4 s4 xr => q3 σ4 F4 H4 cls dd hl4 (s4.trunc hl4 hP) xr
    | ok _ st4 =>
      rw [e1] at q3
      intro σ4 τ4 F4 H4 hl4 _ s4
      have t4 := s4.trunc hl4 hP
      have q4 := PostS.step q3 t4
      have x4 : Ext F1 H1 F4 H4 := (x2.trans (s3.ext r2)).trans (t4.ext s3.rs)
      refine hb _ σ4 F4 H4 _ hl4 t4.rs ?_
      cases e2 : b (st4.take X.N.length) with
      | stuck => simp only [e2] at q4; exact q4.elim
      | exc y st5 => simp only [e2] at q4; exact q4
      | ok fl st5 =>
        simp only [e2] at q4
        cases fl with
        | next => exact fun σ5 F5 H5 hl5 s5 => ⟨st5, F5, hl5, s5.rs, x4.trans (s5.ext t4.rs), PostS.step q4 s5⟩
        | cont => exact fun σ5 F5 H5 hl5 s5 => ⟨st5, F5, hl5, s5.rs, x4.trans (s5.ext t4.rs), PostS.step q4 s5⟩
        | brk => exact q4
        | ret v => exact q4
  · left
    have e : i = ds.length := by omega
    subst e
    rw [List.drop_length] at q2
    exact ⟨hJ.stop F2 H2 x2, q2 σ2 F2 H2 hl2 (.refl r2)⟩
end
end PU
namespace PU
open PySem PySem.Spec PyProof.Rows L2
/-! ### the names of a comprehension -/
def wipeS (st : Sto) : List Nat → Sto
  | [] => st
  | v :: vs => (wipeS st vs).set v .emp
def restore (st : Sto) : List Nat → Sto → Sto
  | [], st' => st'
  | v :: vs, st' => (restore st vs st').set v (st.getD v .emp)
theorem wipeS_len (st : Sto) : ∀ vs : List Nat, (wipeS st vs).length = st.length
  | [] => rfl
  | v :: vs => by unfold wipeS; rw [List.length_set, wipeS_len st vs]
theorem restore_len (st st' : Sto) : ∀ vs : List Nat, (restore st vs st').length = st'.length
  | [] => rfl
  | v :: vs => by unfold restore; rw [List.length_set, restore_len st st' vs]
theorem wipeS_out {st : Sto} {i : Nat} : ∀ {vs : List Nat}, i ∉ vs → (wipeS st vs)[i]? = st[i]?
  | [], _ => rfl
  | v :: vs, h => by
    unfold wipeS
    rw [List.getElem?_set_ne (show v ≠ i from fun e => h (e ▸ List.mem_cons_self ..)), wipeS_out fun z => h (List.mem_cons_of_mem _ z)]
theorem wipeS_in {st : Sto} {i : Nat} : ∀ {vs : List Nat}, i ∈ vs → i < st.length → (wipeS st vs)[i]? = some .emp
  | [], h, _ => by cases h
  | v :: vs, h, hi => by
    unfold wipeS
    by_cases e : v = i
    · subst e; rw [List.getElem?_set_self (by rw [wipeS_len]; exact hi)]
    · rw [List.getElem?_set_ne e]
      rcases List.mem_cons.mp h with z | z
      · exact absurd z.symm e
      · exact wipeS_in z hi
theorem restore_out {st st' : Sto} {i : Nat} : ∀ {vs : List Nat}, i ∉ vs → (restore st vs st')[i]? = st'[i]?
  | [], _ => rfl
  | v :: vs, h => by
    unfold restore
    rw [List.getElem?_set_ne (show v ≠ i from fun e => h (e ▸ List.mem_cons_self ..)), restore_out fun z => h (List.mem_cons_of_mem _ z)]
theorem restore_in {st st' : Sto} {i : Nat} {s : Slot} : ∀ {vs : List Nat}, i ∈ vs → i < st'.length → st[i]? = some s → (restore st vs st')[i]? = some s
  | [], h, _, _ => by cases h
  | v :: vs, h, hi, e0 => by
    unfold restore
    by_cases e : v = i
    · subst e
      rw [List.getElem?_set_self (by rw [restore_len]; exact hi), List.getD_eq_getElem?_getD, e0]; rfl
    · rw [List.getElem?_set_ne e]
      rcases List.mem_cons.mp h with z | z
      · exact absurd z.symm e
      · exact restore_in z hi e0
theorem wipe_in {σ : St} {i : Nat} : ∀ {vs : List Nat}, i ∈ vs → i < σ.length → (wipe σ vs)[i]? = some none
  | [], h, _ => by cases h
  | v :: vs, h, hi => by
    unfold wipe
    by_cases e : v = i
    · subst e; rw [List.getElem?_set_self (by rw [wipe_length]; exact hi)]
    · rw [List.getElem?_set_ne e]
      rcases List.mem_cons.mp h with z | z
      · exact absurd z.symm e
      · exact wipe_in z hi
theorem wipe_eq {σ σ' : St} {vs : List Nat} (hl : σ'.length = σ.length) (h : ∀ j : Nat, j ∉ vs → σ'[j]? = σ[j]?) : wipe σ' vs = wipe σ vs := by
  apply List.ext_getElem?
  intro j
  by_cases hj : j ∈ vs
  · by_cases hb : j < σ.length
    · rw [wipe_in hj hb, wipe_in hj (by omega)]
    · rw [List.getElem?_eq_none (by rw [wipe_length]; omega), List.getElem?_eq_none (by rw [wipe_length]; omega)]
  · rw [wipe_out hj, wipe_out hj, h j hj]
theorem wipe_wipe {σ : St} {vs : List Nat} : wipe (wipe σ vs) vs = wipe σ vs := wipe_eq (wipe_length _ _) fun j hj => wipe_out hj
section
variable {P n : Nat} {K : PySem.W.Frag} {F F' : Addr → Prop} {H H' : Hp} {st st' : Sto} {ρ ρ' σ τ : St} {vs : List Nat}
theorem ap_left {α : Type} {l t : List α} {i : Nat} (h : i < l.length) : (l ++ t)[i]? = l[i]? := List.getElem?_append_left h
theorem wiped_at (hb : ∀ i ∈ vs, i < σ.length) {i : Nat} (hi : i ∉ vs) : (wipe σ vs ++ τ)[i]? = (σ ++ τ)[i]? := by
  by_cases h : i < σ.length
  · rw [ap_left h, ap_left (by rw [wipe_length]; exact h), wipe_out hi]
  · rw [List.getElem?_append_right (show (wipe σ vs).length ≤ i by rw [wipe_length]; omega), List.getElem?_append_right (show σ.length ≤ i by omega), wipe_length]
theorem Stp.wipe (r : Rs K F st (σ ++ τ) H) (hb : ∀ i ∈ vs, P ≤ i ∧ i < σ.length) : Stp P K st (σ ++ τ) F H (wipeS st vs) (L2.wipe σ vs ++ τ) F H := by
  have hb2 : ∀ i ∈ vs, i < σ.length := fun i h => (hb i h).2
  have hbs : ∀ i ∈ vs, i < st.length := fun i h => by rw [r.len, List.length_append]; have := hb2 i h; omega
  have at_ : ∀ (i : Nat) (s : Slot), (wipeS st vs)[i]? = some s → s = .emp ∨ (i ∉ vs ∧ st[i]? = some s) := fun i s e => by
    by_cases h : i ∈ vs
    · rw [wipeS_in h (hbs i h)] at e; cases e; exact .inl rfl
    · rw [wipeS_out h] at e; exact .inr ⟨h, e⟩
  have own_ : ∀ a, Own (wipeS st vs) (L2.wipe σ vs ++ τ) a → Own st (σ ++ τ) a := fun a h => by
    obtain ⟨i, k, ds, e1, e2⟩ := h
    rcases at_ i _ e1 with z | ⟨z1, z2⟩
    · cases z
    · rw [wiped_at hb2 z1] at e2; exact ⟨i, k, ds, z2, e2⟩
  refine ⟨⟨by rw [wipeS_len, List.length_append, wipe_length, r.len, List.length_append], fun i s e => ?_, fun i j a k ds k' ds' e1 e2 f1 f2 => ?_, r.live, r.tab⟩, fun _ _ h _ => .inl h, fun _ h => h, fun _ h => .inl h, fun a h => .inl (own_ a h), fun i s hi e l => ?_⟩
  · rcases at_ i s e with z | ⟨z1, z2⟩
    · subst z; trivial
    · rw [wiped_at hb2 z1]; exact r.slot i s z2
  · rcases at_ i _ e1 with z | ⟨z1, z2⟩
    · cases z
    · rcases at_ j _ e2 with y | ⟨y1, y2⟩
      · cases y
      · rw [wiped_at hb2 z1] at f1
        rw [wiped_at hb2 y1] at f2
        exact r.dis i j a _ _ _ _ z2 y2 f1 f2
  · have hn : i ∉ vs := fun h => by have := (hb i h).1; omega
    exact ⟨wiped_at hb2 hn, s, by rw [wipeS_out hn]; exact e, l⟩
/-- no list stands under these names -/
def calmV (st : Sto) (vs : List Nat) : Bool := vs.all fun i => match st[i]? with
  | some .emp => true
  | some (.val _) => true
  | _ => false
theorem Stp.unwipe (r : Rs K F st (σ ++ τ) H) (hb : ∀ i ∈ vs, P ≤ i ∧ i < σ.length) (hv : calmV st vs = true) (s : Stp P K (wipeS st vs) (L2.wipe σ vs ++ τ) F H st' (L2.wipe σ vs ++ τ) F' H') : Stp P K st (σ ++ τ) F H (restore st vs st') (σ ++ τ) F' H' := by
  have hb2 : ∀ i ∈ vs, i < σ.length := fun i h => (hb i h).2
  have w := Stp.wipe (P := P) r hb
  have s1 := w.trans s
  have hlen : st'.length = st.length := by rw [s.rs.len, r.len, List.length_append, List.length_append, wipe_length]
  have hbs : ∀ i ∈ vs, i < st.length := fun i h => by rw [r.len, List.length_append]; have := hb2 i h; omega
  have cv : ∀ i ∈ vs, ∃ s, st[i]? = some s ∧ (s = .emp ∨ ∃ d, s = .val d) := fun i h => by
    have := List.all_eq_true.mp hv i h
    split at this
    · rename_i e; exact ⟨_, e, .inl rfl⟩
    · rename_i d e; exact ⟨_, e, .inr ⟨d, rfl⟩⟩
    · cases this
  have at_ : ∀ (i : Nat) (s : Slot), (restore st vs st')[i]? = some s → (i ∈ vs ∧ st[i]? = some s ∧ (s = .emp ∨ ∃ d, s = .val d)) ∨ (i ∉ vs ∧ st'[i]? = some s) := fun i s0 e => by
    by_cases h : i ∈ vs
    · obtain ⟨s1, e1, e2⟩ := cv i h
      rw [restore_in h (by rw [hlen]; exact hbs i h) e1] at e
      cases e; exact .inl ⟨h, e1, e2⟩
    · rw [restore_out h] at e; exact .inr ⟨h, e⟩
  have own_ : ∀ a, Own (restore st vs st') (σ ++ τ) a → Own st' (L2.wipe σ vs ++ τ) a := fun a h => by
    obtain ⟨i, k, ds, e1, e2⟩ := h
    rcases at_ i _ e1 with ⟨_, _, z | ⟨d, z⟩⟩ | ⟨z1, z2⟩
    · cases z
    · cases z
    · exact ⟨i, k, ds, z2, by rw [wiped_at hb2 z1]; exact e2⟩
  refine ⟨⟨by rw [restore_len, hlen]; exact r.len, fun i s0 e => ?_, fun i j a k ds k' ds' e1 e2 f1 f2 => ?_, s.rs.live, s.rs.tab⟩, s1.keep, s1.mono, s1.back, fun a h => s1.owns a (own_ a h), fun i s0 hi e l => ?_⟩
  · rcases at_ i s0 e with ⟨h1, h2, z | ⟨d, z⟩⟩ | ⟨z1, z2⟩
    · subst z; trivial
    · subst z
      obtain ⟨v, y1, y2⟩ := r.slot i _ h2
      exact ⟨v, y1, s1.move r y2⟩
    · have := s.rs.slot i s0 z2
      rwa [wiped_at hb2 z1] at this
  · rcases at_ i _ e1 with ⟨_, _, z | ⟨d, z⟩⟩ | ⟨z1, z2⟩
    · cases z
    · cases z
    · rcases at_ j _ e2 with ⟨_, _, z | ⟨d, z⟩⟩ | ⟨y1, y2⟩
      · cases z
      · cases z
      · exact s.rs.dis i j a _ _ _ _ z2 y2 (by rw [wiped_at hb2 z1]; exact f1) (by rw [wiped_at hb2 y1]; exact f2)
  · have hn : i ∉ vs := fun h => by have := (hb i h).1; omega
    obtain ⟨e1, s2, e2, l2⟩ := s1.par i s0 hi e l
    exact ⟨rfl, s2, by rw [restore_out hn]; exact e2, l2⟩
/-! ### the list that grows -/
theorem Stp.keepD {D : Addr} {o : HO} (s : Stp P K st ρ F H st' ρ' F' H') (h : H D = some o) (nf : ¬ F D) (no : ¬ Own st ρ D) (nt : ∀ ps, o ≠ .tbl ps := by nofun) : H' D = some o ∧ ¬ F' D ∧ ¬ Own st' ρ' D := by
  refine ⟨(s.keep D o h no).get nt, fun f => ?_, fun q => ?_⟩
  · rcases s.back D f with z | z | z
    · exact nf z
    · exact no z
    · rw [h] at z; cases z
  · rcases s.owns D q with z | z
    · exact no z
    · rw [h] at z; cases z
theorem Rs.updD {D : Addr} {o : HO} (r : Rs K F st ρ H) (nf : ¬ F D) (no : ¬ Own st ρ D) (hl : ∀ u, H D = some u → ∃ vs, u = .lst vs) : Rs K F st ρ (upd H D o) := by
  have kp : ∀ a, F a → ∀ u, H a = some u → upd H D o a = some u := fun a f u h => by rw [upd_ne (show a ≠ D from fun e => nf (e ▸ f))]; exact h
  refine ⟨r.len, fun i s e => ?_, r.dis, fun a f => ?_, tabs_upd r.tab hl⟩
  · have z := r.slot i s e
    cases s with
    | emp => trivial
    | val d => obtain ⟨v, y1, y2⟩ := z; exact ⟨v, y1, y2.move (fun _ h => h) kp⟩
    | own k ds =>
      obtain ⟨a, vs, y1, y2, y3, y4⟩ := z
      refine ⟨a, vs, y1, ?_, y3, y4.move (fun _ h => h) kp⟩
      rw [upd_ne (show a ≠ D from fun e => no (e ▸ ⟨i, k, ds, ‹_›, y1⟩))]; exact y2
  · obtain ⟨u, hu⟩ := r.live a f
    exact ⟨u, kp a f u hu⟩
theorem Stp.updD {D : Addr} {o : HO} (s : Stp P K st ρ F H st' ρ' F' H') (hD : H D = none) (nf : ¬ F' D) (no : ¬ Own st' ρ' D) (hl : ∀ u, H' D = some u → ∃ vs, u = .lst vs) : Stp P K st ρ F H st' ρ' F' (upd H' D o) where
  rs := s.rs.updD nf no hl
  keep := fun a u h n => by unfold Kp; rw [upd_ne (ne_of_none h hD)]; exact s.keep a u h n
  mono := s.mono
  back := s.back
  owns := s.owns
  par := s.par
end
/-! ### the comprehension -/
def lcE (L : Nat) (vs : List Nat) (g : D → M Unit) (t : M Bool) (e : M Vl) : List D → List D → M (List D)
  | [], acc => ret acc
  | d :: ds, acc => fun st => match g d st with
    | .ok _ st1 => (match t st1 with
      | .ok true st2 => (match e st2 with
        | .ok v st3 => (match frz v st3 with
          | .ok y st4 => if acc.length < szL then lcE L vs g t e ds (acc ++ [y]) (wipeS (st4.take L) vs) else .stuck
          | _ => .stuck)
        | _ => .stuck)
      | .ok false st2 => lcE L vs g t e ds acc (wipeS (st2.take L) vs)
      | _ => .stuck)
    | _ => .stuck
def lcGo (vs : List Nat) (g : D → M Unit) (t : M Bool) (e : M Vl) (ds : List D) : M Vl := fun st => if calmV st vs then (match lcE st.length vs g t e ds [] (wipeS st vs) with
  | .ok acc st' => alloc (.own false acc) (restore st vs st')
  | _ => .stuck) else .stuck
def xLc (vs : List Nat) (it : M (List D)) (g : D → M Unit) (t : M Bool) (e : M Vl) : M Vl := bnd it (lcGo vs g t e)
abbrev W0 : WX := fun _ _ _ _ => False
abbrev blkX (X : Cx) (scope : Scope) (s : Shared) (H : Hp) (C : Addr) (cl : List (Str × Addr)) (fp : List Addr) : Cx := X.blk s H scope (compEnvC scope cl C X.env) fp
def gAll (X : Cx) (scope : Scope) (tg : Expr) : TG := fun x σ H Q => ∀ s H0 C cl fp, WG (blkX X scope s H0 C cl fp) tg x σ H Q
def eAll (X : Cx) (scope : Scope) (e : Expr) : TE := fun σ H Q => ∀ s H0 C cl fp, WE (blkX X scope s H0 C cl fp) e σ H Q
def tAll (X : Cx) (scope : Scope) (ifs : List Expr) : TT := match ifs with
  | [] => tYes
  | c :: _ => fun σ H Q => ∀ s H0 C cl fp, WT (blkX X scope s H0 C cl fp) c σ H Q
/-- the tests of a comprehension: none or one -/
def STs (X : Cx) (scope : Scope) (P : Nat) (ifs : List Expr) (t : M Bool) : Prop := match ifs with
  | [] => t = ret true
  | [c] => ∀ s H0 C cl fp, ST (blkX X scope s H0 C cl fp) W0 P c t
  | _ => False
section
variable {X : Cx} {W : WX} {P n : Nat} {F F' : Addr → Prop} {H H' : Hp} {st st' : Sto} {ρ ρ' σ τ : St} {tg iter elt : Expr} {ifs : List Expr} {scope : Scope} {vs T : List Nat} {it : M (List D)} {g : D → M Unit} {t : M Bool} {e : M Vl}
theorem st_of (ht : STs X scope P ifs t) {Q : Bool → Hp → Prop} (hl : σ.length = X.N.length) (r : Rs X.K F st (σ ++ τ) H) (h : ∀ s H0 C cl fp, Post (blkX X scope s H0 C cl fp) W0 P σ τ st F H (t st) (fun b st' τ' F' H' => Q b H')) : tAll X scope ifs σ H Q := by
  match ifs, ht with
  | [], ht =>
    have ht : t = ret true := ht
    subst ht
    exact Post.here (X := blkX X scope ⟨X.s_0.heap, X.s_0.gens, X.s_0.drawn, X.s_0.toks, X.s_0.os⟩ X.H_0 0 [] []) (a := true) r (h _ _ _ _ _)
  | [c], ht => exact fun s H0 C cl fp => ht s H0 C cl fp st σ τ F H Q hl r (h s H0 C cl fp)
theorem lc_read (hP : P ≤ X.N.length) (hi : SI X W P tg iter it) (hT : ∀ j ∈ T, j ∈ vs) (hb : ∀ i ∈ vs, P ≤ i ∧ i < X.N.length) (hg : ∀ s H0 C cl fp, SG (blkX X scope s H0 C cl fp) W0 P tg T g) (ht : STs X scope P ifs t) (he : ∀ s H0 C cl fp, SE (blkX X scope s H0 C cl fp) W0 P elt e)
    {Q : VK} (hl : σ.length = X.N.length) (r : Rs X.K F st (σ ++ τ) H) (h : Post X W P σ τ st F H (xLc vs it g t e st) (fun v st' τ' F' H' => ∀ x, Rv X.K F' H' (σ ++ τ') x v → Q x H')) :
    tLc (WI X tg iter) (gAll X scope tg) (tAll X scope ifs) (eAll X scope elt) vs σ H Q := by
  refine hi st σ τ F H _ hl r (h.bind.imp fun ds st1 τ1 F1 H1 s1 _ q J hJ => ?_)
  intro A0 hD
  have hb' : ∀ i ∈ vs, P ≤ i ∧ i < σ.length := fun i h => by rw [hl]; exact hb i h
  have r1 := s1.rs
  generalize hτ : τ ++ τ1 = τ2 at *
  unfold lcGo at q
  split at q
  · rename_i hcv
    cases e1 : lcE st1.length vs g t e ds [] (wipeS st1 vs) with
    | stuck => rw [e1] at q; exact q.elim
    | exc y st2 => rw [e1] at q; exact q.elim
    | ok accF stF =>
      rw [e1] at q
      have w0 := Stp.wipe (P := P) r1 hb'
      have hlw : (wipe σ vs).length = X.N.length := by rw [wipe_length]; exact hl
      have nfD : ¬ F1 A0 := fun f => by obtain ⟨o, ho⟩ := r1.live A0 f; rw [hD] at ho; cases ho
      have noD : ¬ Own (wipeS st1 vs) (wipe σ vs ++ τ2) A0 := fun o => by obtain ⟨u, hu⟩ := w0.rs.own_live o; rw [hD] at hu; cases hu
      have hst : st1.length = X.N.length + τ2.length := by rw [r1.len, List.length_append, hl]
      refine ⟨fun i m H' => m = ds.length - i ∧ i ≤ ds.length ∧ ∃ st' F' acc av, Stp P X.K (wipeS st1 vs) (wipe σ vs ++ τ2) F1 H1 st' (wipe σ vs ++ τ2) F' H' ∧ H' A0 = some (.lst av) ∧ ¬ F' A0 ∧ ¬ Own st' (wipe σ vs ++ τ2) A0 ∧ Rps X.K F' H' av acc ∧ lcE st1.length vs g t e (ds.drop i) acc st' = .ok accF stF,
        ⟨ds.length, rfl, Nat.zero_le _, wipeS st1 vs, F1, [], [], (Stp.refl w0.rs).updD hD nfD noD (fun u e => by rw [hD] at e; cases e), upd_same, nfD, noD, .nil, e1⟩, fun i m H2 w => ?_⟩
      obtain ⟨rfl, hi', st2, F2, acc, av, s2, d1, d2, d3, d4, e2⟩ := w
      have x2 : Ext F1 H1 F2 H2 := s2.ext w0.rs
      by_cases hlt : i < ds.length
      · right
        have hd : ds[i]? = some ds[i] := List.getElem?_eq_getElem hlt
        obtain ⟨go, yl⟩ := hJ.go F2 H2 i _ x2 s2.rs.live hd
        refine ⟨go, fun H' => ∃ st' F' acc av, Stp P X.K (wipeS st1 vs) (wipe σ vs ++ τ2) F1 H1 st' (wipe σ vs ++ τ2) F' H' ∧ H' A0 = some (.lst av) ∧ ¬ F' A0 ∧ ¬ Own st' (wipe σ vs ++ τ2) A0 ∧ Rps X.K F' H' av acc ∧ lcE st1.length vs g t e (ds.drop (i + 1)) acc st' = .ok accF stF, fun H' z => ⟨ds.length - (i + 1), by omega, rfl, hlt, z⟩, fun x H3 y => ?_⟩
        obtain ⟨F3, gr⟩ := yl x H3 y
        have s3 : Stp P X.K st2 (wipe σ vs ++ τ2) F2 H2 st2 (wipe σ vs ++ τ2) F3 H3 := Stp.grow s2.rs gr
        obtain ⟨c1, c2, c3⟩ := s3.keepD d1 d2 d3
        have c4 := s3.moves s2.rs d4
        rw [List.drop_eq_getElem_cons hlt] at e2
        simp only [lcE] at e2
        cases z1 : g ds[i] st2 with
        | stuck => rw [z1] at e2; cases e2
        | exc y st4 => rw [z1] at e2; cases e2
        | ok u st4 =>
          simp only [z1] at e2
          intro bs bH bC bcl bfp
          refine hg bs bH bC bcl bfp st2 (wipe σ vs) τ2 F3 H3 x _ _ hlw s3.rs gr.res ?_
          rw [z1]
          intro σ4 τ4 F4 H4 hl4 ag4 s4
          have hl4 : σ4.length = X.N.length := hl4
          have hw4 : wipe σ4 vs = wipe σ vs := by
            rw [← wipe_wipe (σ := σ)]
            exact wipe_eq (hl4.trans hlw.symm) fun j hj => ag4 j fun h => hj (hT j h)
          refine ⟨hw4, ?_⟩
          obtain ⟨c1, c2, c3⟩ := s4.keepD c1 c2 c3
          have c4 := s4.moves s3.rs c4
          have s24 : Stp P X.K (wipeS st1 vs) (wipe σ vs ++ τ2) F1 H1 st4 (σ4 ++ (τ2 ++ τ4)) F4 H4 := (s2.trans s3).trans s4
          -- the turn's end: what is left behind is cut off
          have back : ∀ (st5 : Sto) (τ5 : St) (F5 : Addr → Prop) (H5 : Hp), Stp P X.K (wipeS st1 vs) (wipe σ vs ++ τ2) F1 H1 st5 (σ4 ++ (τ2 ++ τ5)) F5 H5 → ¬ Own st5 (σ4 ++ (τ2 ++ τ5)) A0 →
              Stp P X.K (wipeS st1 vs) (wipe σ vs ++ τ2) F1 H1 (wipeS (st5.take st1.length) vs) (wipe σ vs ++ τ2) F5 H5 ∧ ¬ Own (wipeS (st5.take st1.length) vs) (wipe σ vs ++ τ2) A0 := fun st5 τ5 F5 H5 s5 no => by
            rw [← List.append_assoc] at s5 no
            have t5 := s5.trunc (n := st1.length) (by rw [List.length_append, hl4, hst]) (by omega)
            have w5 := Stp.wipe (P := P) t5.rs (fun i h => by rw [hl4]; exact hb i h)
            rw [hw4] at w5
            refine ⟨t5.trans w5, fun o => ?_⟩
            rcases w5.owns A0 o with z | z
            · exact no (own_trunc z)
            · obtain ⟨u, hu⟩ := w5.rs.own_live o
              rw [z] at hu; cases hu
          refine st_of ht hl4 s4.rs fun bs bH bC bcl bfp => ?_
          cases z2 : t st4 with
          | stuck => simp only [z2] at e2; cases e2
          | exc y st5 => simp only [z2] at e2; cases e2
          | ok b st5 =>
            simp only [z2] at e2
            intro τ5 F5 H5 s5
            rw [List.append_assoc] at s5
            obtain ⟨c1, c2, c3⟩ := s5.keepD c1 c2 c3
            have c4 := s5.moves s4.rs c4
            have s25 := s24.trans s5
            cases b with
            | false =>
              have e2 : lcE st1.length vs g t e (List.drop (i + 1) ds) acc (wipeS (st5.take st1.length) vs) = .ok accF stF := e2
              obtain ⟨b1, b2⟩ := back st5 (τ4 ++ τ5) F5 H5 s25 c3
              exact iteF ⟨_, F5, acc, av, b1, c1, c2, b2, c4, e2⟩
            | true =>
              refine iteT fun bs bH bC bcl bfp => ?_
              have hr5 := s5.rs
              refine he bs bH bC bcl bfp st5 σ4 (τ2 ++ (τ4 ++ τ5)) F5 H5 _ hl4 hr5 ?_
              cases z3 : e st5 with
              | stuck => simp only [z3] at e2; cases e2
              | exc y st6 => simp only [z3] at e2; cases e2
              | ok v st6 =>
                simp only [z3] at e2
                intro τ6 F6 H6 s6 yv rv
                rw [List.append_assoc, List.append_assoc] at s6 rv
                obtain ⟨c1, c2, c3⟩ := s6.keepD c1 c2 c3
                have c4 := s6.moves hr5 c4
                have s26 := s25.trans s6
                cases z4 : frz v st6 with
                | stuck => simp only [z4] at e2; cases e2
                | exc y st7 => exact absurd z4 frz_noexc
                | ok yd st7 =>
                  simp only [z4] at e2
                  split at e2
                  · rename_i hz
                    obtain ⟨F7, s7, r7⟩ := frz_ok (P := P) s6.rs rv z4
                    obtain ⟨c1, c2, c3⟩ := s7.keepD c1 c2 c3
                    have c4 := s7.moves s6.rs c4
                    have s27 := s26.trans s7
                    obtain ⟨b1, b2⟩ := back st7 _ F7 H6 s27 c3
                    have kp : ∀ a, F7 a → ∀ u, H6 a = some u → upd H6 A0 (.lst (av ++ [yv])) a = some u := fun a f u h => by rw [upd_ne (show a ≠ A0 from fun e => c2 (e ▸ f))]; exact h
                    refine ⟨av, c1, by rw [c4.length, ← szL_eq]; exact hz, _, F7, acc ++ [yd], av ++ [yv], b1.updD hD c2 b2 (fun u e => ⟨_, Option.some.inj (e.symm.trans c1)⟩), upd_same, c2, b2, ?_, e2⟩
                    exact (c4.append (.cons r7 .nil)).move (fun _ h => h) kp
                  · cases e2
      · left
        have e : i = ds.length := by omega
        subst e
        rw [List.drop_length] at e2
        obtain ⟨ea, es⟩ : acc = accF ∧ st2 = stF := by cases e2; exact ⟨rfl, rfl⟩
        clear e2
        subst ea
        subst es
        refine ⟨hJ.stop F2 H2 x2, ?_⟩
        have s5 := Stp.unwipe r1 hb' hcv s2
        have hn : ∀ (i : Nat) (k : Bool) (l : List D), (restore st1 vs st2)[i]? = some (.own k l) → (σ ++ τ2)[i]? ≠ some (some (.ref A0)) := fun i k l z1 z2 => by
          by_cases hiv : i ∈ vs
          · have hlen : st2.length = st1.length := by rw [s2.rs.len, r1.len, List.length_append, List.length_append, wipe_length]
            have cvi := List.all_eq_true.mp hcv i hiv
            split at cvi
            · rename_i ez
              rw [restore_in hiv (by rw [hlen]; exact (List.getElem?_eq_some_iff.mp ez).1) ez] at z1; cases z1
            · rename_i dz ez
              rw [restore_in hiv (by rw [hlen]; exact (List.getElem?_eq_some_iff.mp ez).1) ez] at z1; cases z1
            · cases cvi
          · rw [restore_out hiv] at z1
            exact d3 ⟨i, k, l, z1, by rw [wiped_at (fun i h => (hb' i h).2) hiv]; exact z2⟩
        have s6 : Stp P X.K st1 (σ ++ τ2) F1 H1 (restore st1 vs st2 ++ [.own false acc]) (σ ++ τ2 ++ [some (.ref A0)]) F2 H2 := by
          refine ⟨s5.rs.snoc_own hn d1 d2 d4, s5.keep, s5.mono, s5.back, fun a o => ?_, fun j s0 hj ej l => ?_⟩
          · rcases own_snoc s5.rs.len o with z | z
            · exact s5.owns a z
            · cases z; exact .inr hD
          · obtain ⟨g1, s7, g2, g3⟩ := s5.par j s0 hj ej l
            have hj2 := (List.getElem?_eq_some_iff.mp g2).1
            refine ⟨?_, s7, by rw [ap_left hj2]; exact g2, g3⟩
            rw [ap_left (by have := s5.rs.len; omega)]
        rw [List.append_assoc] at s6
        refine q [some (.ref A0)] F2 H2 s6 (.ref A0) ?_
        show (σ ++ (τ2 ++ [some (V.ref A0)]))[(restore st1 vs st2).length]? = some (some (V.ref A0))
        rw [s5.rs.len, ← List.append_assoc]; simp
  · exact q.elim
theorem pts_all (hf : ifs.length ≤ 1) : ∀ (s : Shared) (H : Hp) (C : Addr) (cl : List (Str × Addr)) (fp : List Addr), PTs (blkX X scope s H C cl fp) ifs (tAll X scope ifs) := fun s H0 C cl fp => by
  match ifs, hf with
  | [], _ => exact pts_nil
  | [c], _ => exact pts_one ⟨fun pins sh _ _ _ I h => h s H0 C cl fp pins sh I⟩
theorem se_lc {own : List (Str × Nat)} {pos : Pos} (hP : P ≤ X.N.length) (hc : X.calm = true) (hN : X.N.Nodup) (ok : BlkOk X.N X.env.scope scope own) (hns : noSet iter = true) (hf : ifs.length ≤ 1) (hi : SI X W P tg iter it) (hT : ∀ j ∈ T, j ∈ own.map (·.2)) (hb : ∀ i ∈ own.map (·.2), P ≤ i ∧ i < X.N.length)
    (hg : ∀ s H0 C cl fp, SG (blkX X scope s H0 C cl fp) W0 P tg T g) (ht : STs X scope P ifs t) (he : ∀ s H0 C cl fp, SE (blkX X scope s H0 C cl fp) W0 P elt e) : SE X W P (.ListComp elt [⟨tg, iter, ifs, 0⟩] scope pos) (xLc (own.map (·.2)) it g t e) := fun st σ τ F H Q hl r h =>
  we (pe_lc (g := gAll X scope tg) (tt := tAll X scope ifs) (te := eAll X scope elt) hc hN pI ok (fun s H0 C cl fp => ⟨fun pins sh _ _ _ u _ I r h => h s H0 C cl fp pins sh u I r⟩) (pts_all hf) (fun s H0 C cl fp => ⟨fun pins sh _ _ _ I h => h s H0 C cl fp pins sh I⟩) (noSet_ok hns X.env))
    (lc_read hP hi hT hb hg ht he hl r h)
theorem ss_setLc {own : List (Str × Nat)} {pos spos py : Pos} {y : Str} {j : Nat} (hP : P ≤ X.N.length) (hc : X.calm = true) (hN : X.N.Nodup) (hy : X.N[j]? = some y) (hyl : X.env.scope.names.lookup y = some .local)
    (hsw : swapsWith (.ListComp elt [⟨tg, iter, ifs, 0⟩] scope pos) (some (.Name y py)) spos.line X.env = pure true) (ok : BlkOk X.N X.env.scope scope own) (hns : noSet iter = true) (hf : ifs.length ≤ 1) (hi : SI X W P tg iter it) (hT : ∀ j ∈ T, j ∈ own.map (·.2)) (hb : ∀ i ∈ own.map (·.2), P ≤ i ∧ i < X.N.length)
    (hg : ∀ s H0 C cl fp, SG (blkX X scope s H0 C cl fp) W0 P tg T g) (ht : STs X scope P ifs t) (he : ∀ s H0 C cl fp, SE (blkX X scope s H0 C cl fp) W0 P elt e) : SS X W P (.Assign [.Name y py] (.ListComp elt [⟨tg, iter, ifs, 0⟩] scope pos) spos) (sSet X.N.length P j (xLc (own.map (·.2)) it g t e)) := fun st σ F H D hl r h => by
  refine ws (ps_setLc (g := gAll X scope tg) (tt := tAll X scope ifs) (te := eAll X scope elt) hc hN hy hyl hsw pI ok (fun s H0 C cl fp => ⟨fun pins sh _ _ _ u _ I r h => h s H0 C cl fp pins sh u I r⟩) (pts_all hf) (fun s H0 C cl fp => ⟨fun pins sh _ _ _ I h => h s H0 C cl fp pins sh I⟩) (noSet_ok hns X.env))
    (lc_read hP hi hT hb hg ht he hl (rs0 r) ((PostS.bind0 hl hP h).imp fun v st1 τ1 F1 H1 s1 _ q x rv => ?_))
  exact set_end hl hP (List.getElem?_eq_some_iff.mp hy).1 s1.rs rv q
/-! ### xs.append(e) -/
def xApp (j : Nat) (f : M Vl) : M Vl := fun st => match st[j]? with
  | some (.own false _) => bnd f (fun v => bnd (frz v) fun d => fun st1 => match st1[j]? with
    | some (.own false ds) => if ds.length < szL then .ok (.dat .non) (st1.set j (.own false (ds ++ [d]))) else .stuck
    | _ => .stuck) st
  | _ => .stuck
theorem se_app {x : Str} {a : Expr} {j : Nat} {p apos cpos : Pos} {f : M Vl} (hp : PE X (.Name x p) (tVar j)) (hj : j < X.N.length) (hs : noStar a = true) (hline : (apos.endLine == cpos.line) = true) (ha : SE X W P a f) :
    SE X W P (.Call (.Attribute (.Name x p) "append" apos) [a] [] cpos) (xApp j f) := fun st σ τ F H Q hl r h => by
  unfold xApp at h
  split at h
  · rename_i ds0 e0
    have hρ : (σ ++ τ)[j]? = σ[j]? := ap_left (by omega)
    obtain ⟨l, vs0, y1, y2, y3, y4⟩ := r.slot j _ e0
    rw [hρ] at y1
    have hst : starEach [a] X.env = [(false, eval a X.env)] := starEach_of hs
    refine we (pe_bm PySem.F.plainAttrs_list PySem.F.slot_list_append PySem.F.type_list_append mt_append hp (pa_cons pE pa_nil hst) rfl (by rw [hst]; rfl) hline hst rfl) ⟨.ref l, y1, .inl ⟨rfl, vs0, .of y2⟩, ?_⟩
    refine ha st σ τ F H _ hl r (h.bind.imp fun v st1 τ1 F1 H1 s1 _ q x rv => ?_)
    obtain ⟨d, st2, F2, s2, r2, q⟩ := post_frz s1.rs rv q
    split at q
    · rename_i ds e2
      split at q
      · rename_i hz
        have ea : (σ ++ (τ ++ τ1))[j]? = some (some (V.ref l)) := get_pre y1
        obtain ⟨b, ws, z1, z2, z3, z4⟩ := s2.rs.slot j _ e2
        rw [ea] at z1
        cases z1
        have s3 := Stp.mut (P := P) (vs := ws) s2.rs e2 ea (z4.append (.cons r2 .nil))
        refine ⟨l, ws, x, rfl, rfl, z2, by rw [z4.length, ← szL_eq]; exact hz, q [] F2 _ (by rw [List.append_nil]; exact s3) .non .non⟩
      · exact q.elim
    · exact q.elim
  · exact h.elim
end
end PU
namespace PU
open PySem PySem.Spec PyProof.Rows L2
/-! ### enumerate(tuple) -/
theorem meets_enum1 {v : Value} {o : Obj} {Hs : Heap → Prop} (B : Begins v o Hs) : Meets (Builtin.«enumerate.__new__» ⟨[.type "enumerate", v], []⟩) (fun _ R s => Hs s.heap ∧
      R (.ok (.ret (.ref (s.heap.push o).objs.size))) { s with heap := (s.heap.push o).push { cls := .type "enumerate", data := .fields #[.none, .bool false, .ref s.heap.objs.size, rawInt 0, .none, .none] } }) :=
  .of_wp fun P w A R s h => by
    obtain ⟨hp, gn, dr, tk, os⟩ := s
    obtain ⟨h1, h⟩ := h
    have subE := sub_enumerate
    have it1 : ∀ {A' : Around} {E : Value → Shared → Prop} {Q : Value → Shared → Prop}, Q (.ref hp.objs.size) ⟨hp.push o, gn, dr, tk, os⟩ → wpAny (model P w) A' (pyIter v) Q E ⟨hp, gn, dr, tk, os⟩ := fun q => B.iter P w _ _ ⟨hp, gn, dr, tk, os⟩ _ h1 q
    wp_walk using it1
    refine wpAny_stack_any fun st => wpAny_pure ?_
    split
    · rename_i c _ _ _ _ _
      cases (c == Value.type "enumerate")
      · wp_walk using it1
        exact ⟨_, rfl, h⟩
      · wp_walk using it1
        exact ⟨_, rfl, h⟩
    · wp_walk using it1
      exact ⟨_, rfl, h⟩
section
variable {prog : Program} {w : World} {A : Around} {E : Value → Shared → Prop} {s : Shared}
theorem enum_one {v : Value} {o : Obj} {Hs : Heap → Prop} {Q : Value → Shared → Prop} (B : Begins v o Hs) (h1 : Hs s.heap)
    (h : ∀ h', IsEnum h' (s.heap.objs.size + 1) s.heap.objs.size 0 .none → h'.get? s.heap.objs.size = some o → (∀ b ob, s.heap.get? b = some ob → h'.get? b = some ob) → Q (.ref (s.heap.objs.size + 1)) { s with heap := h' }) : wpAny (model prog w) A (PySem.call (.type "enumerate") [v]) Q E s := by
  refine callType_new F.called_enumerate (by decide) (F.typeCall_enumerate_1 _) (F.newCall_enumerate_1 _) (fun ob => F.args_object_init_2 ob _) F.entry_enumerate_new (meets_enum1 B) ⟨h1, ?_⟩
  have sz : (s.heap.push o).objs.size = s.heap.objs.size + 1 := Heap.size_push ..
  show _ ∧ _
  rw [sz]
  have e1 : IsEnum ((s.heap.push o).push { cls := .type "enumerate", data := .fields #[.none, .bool false, .ref s.heap.objs.size, rawInt 0, .none, .none] }) (s.heap.objs.size + 1) s.heap.objs.size 0 .none := by
    have z := Heap.get?_push_size (s.heap.push o) (o := { cls := .type "enumerate", data := .fields #[.none, .bool false, .ref s.heap.objs.size, rawInt 0, .none, .none] }) rfl
    rw [sz] at z
    exact z
  exact ⟨⟨_, e1, rfl⟩, h _ e1 (Heap.get?_push_of_some _ (Heap.get?_push_size _ B.free)) fun b ob x => Heap.get?_push_of_some _ (Heap.get?_push_of_some _ x)⟩
end
theorem enum_lastT {P : Program} {w : World} {A : Around} {E : Value → Shared → Prop} {s : Shared} {e it t : Addr} {i : Nat} {its : Array Value} {old : Value} {Q : Option Value → Shared → Prop} (hh : A.handled = none) (he : IsEnum s.heap e it i old) (hi : s.heap.IsTupleIter it t i) (ht : s.heap.IsTuple t its) (hx : its[i]? = none)
    (hQ : ∀ h', Heap.ExtBut it s.heap h' → Q none { s with heap := h' }) : wpAny (model P w) A (pyNext (.ref e)) Q E s := by
  have ty : s.TypeIs (.ref e) "enumerate" := ⟨_, he, rfl⟩
  unfold pyNext
  refine wpAny_bind (wpAny_attempt (wpAny_callSpecial?_slot (name := Str.ofString "__next__") ty F.slot_enumerate_next (wpAny_call_entry F.slot_enumerate_next ty F.entry_enumerate_next ?_ (F.args_enumerate_next_1 _))))
  show wpAny _ _ (field (.ref e) 2 >>= _) _ _ _
  refine wpAny_bind (wpAny_field he rfl (x := .ref it) rfl (wpAny_bind (wpAny_nextOf_tuple_end hh hi ht hx fun h' x k1 k2 => ?_)))
  obtain ⟨ob, ho, hc⟩ := k2
  exact wpAny_bind (wpAny_isInstance (T := "StopIteration") (b := true) ⟨ob, ho, hc⟩ isSubtype_stop (wpAny_pure (hQ _ k1)))
/-- the tuple at a, each item in a new pair -/
def IteT (K : PySem.W.Frag) (a : Addr) : It :=
  ⟨fun i H => ∃ (xs : List V) (x : V), SqT K H a xs ∧ xs[i]? = some x, fun i H v H' => ∃ T x, v = .ref T ∧ H T = none ∧ H' = upd H T (.tup [.int (i : Nat), x]) ∧ ∀ xs, SqT K H a xs → xs[i]? = some x, fun i H => ∃ xs : List V, SqT K H a xs ∧ xs.length ≤ i⟩
theorem turn_enumT {P : Program} {w : World} {K : PySem.W.Frag} {elts : List Expr} {kk : Nat} {tpos : Pos} (a e it : Addr) :
    Turn P w K (.Tuple elts kk tpos) (IteT K a) [e, it] e (fun i h => (∃ old, IsEnum h e it ((i : Nat) : Int) old) ∧ h.IsTupleIter it a i ∧ e ≠ it ∧ a ≠ it ∧ e ≠ a) where
  mem := by simp
  obj := fun i h st b hb => by
    obtain ⟨⟨old, he⟩, ⟨o, ho, hc, hd⟩, _⟩ := st
    rcases List.mem_cons.mp hb with z | z
    · rw [z]; exact ⟨_, he, fun v q => nomatch q⟩
    · rw [List.mem_singleton.mp z]; exact ⟨o, ho, fun v q => by rw [hd] at q; cases q⟩
  keep := fun i h h' st k => by
    obtain ⟨⟨old, he⟩, hi, hne⟩ := st
    exact ⟨⟨old, k e (by simp) _ he⟩, hi.at fun o q => k it (by simp) o q, hne⟩
  item := by
    intro X hP hw hK hc i pins s σ H E I hf st hg
    subst hP hw hK
    obtain ⟨⟨old, he⟩, hit, hne, hai, hea⟩ := st
    obtain ⟨xs, x, hq, hx⟩ := hg
    obtain ⟨its, rv, tp, hz⟩ := I.tuple hq
    obtain ⟨u, hu, ru⟩ := rv.get hx
    have hel : e < s.heap.objs.size := Heap.lt_size he
    have hil : it < s.heap.objs.size := by obtain ⟨_, q, _⟩ := hit; exact Heap.lt_size q
    have hil2 : i < its.toArray.size := by rw [List.size_toArray]; exact (List.getElem?_eq_some_iff.mp hu).1
    refine wpAny_pyNext_enum_itemD (Draws.tuple (A := X.A.in1) (I.ok.hd hc) it a hai its.toArray) he ⟨hit, tp⟩ hil2 hne (by simp [hne, hea]) fun y h' tk hy ho st' hT hsz hk => ?_
    have ey : y = u := by
      have : its[i]? = some y := by simpa using hy
      rw [hu] at this; cases this; rfl
    subst ey
    refine ⟨_, rfl, wpAny_letOwnedTupleGo_enum (s := { s with heap := h', toks := tk + 1 }) ho fun h'' he' sb => ?_⟩
    have hT2 : h''.get? s.heap.objs.size = some { cls := .type "tuple", data := .seq #[.int i tk, y] } := (sb.2 _ (Nat.ne_of_gt hel)).trans hT
    have new : ObjOk X.prog X.w (upd H s.heap.objs.size (.tup [.int (i : Nat), x])) h'' s.heap.objs.size (.tup [.int (i : Nat), x]) :=
      ⟨by show 2 ≤ sizeLine; decide, [.int i tk, y], .cons ⟨_, rfl⟩ (.cons ru .nil), ⟨_, hT2, rfl, _, rfl⟩⟩
    have I1 : Inv X pins σ (upd H s.heap.objs.size (.tup [.int (i : Nat), x])) { s with heap := h'', toks := tk + 1 } :=
      I.turnedNew (ch := [e, it]) (fun b ob hb q => (sb.2 b (fun z => hb (by simp [z]))).trans (hk b ob (fun z => hb (by simp [z])) (fun z => hb (by simp [z])) q)) hf (Nat.le_refl _) new
    refine ⟨.ref s.heap.objs.size, _, I1, rfl, ⟨_, x, rfl, I.hok.fresh (Nat.le_refl _), rfl, fun ys hy => by rw [I.tuple_inj hy hq]; exact hx⟩, ⟨⟨y, ?_⟩, st'.1.at fun o q => (sb.2 it (Ne.symm hne)).trans q, hne, hai, hea⟩, fun b hb => ?_⟩
    · have e1 : ((i + 1 : Nat) : Int) = (i : Int) + 1 := by omega
      rw [e1]; exact he'
    · have hb' : b < s.heap.objs.size := by
        rcases List.mem_cons.mp hb with z | z
        · rw [z]; exact hel
        · rw [List.mem_singleton.mp z]; exact hil
      rw [upd_ne (Nat.ne_of_lt hb')]
      exact (hf b hb).1
  done := by
    intro X hP hw hK hc i pins s σ H E I hf st hg
    subst hP hw hK
    obtain ⟨⟨old, he⟩, hit, hne, hai, hea⟩ := st
    obtain ⟨xs, hq, hx⟩ := hg
    obtain ⟨its, rv, tp, hz⟩ := I.tuple hq
    obtain ⟨f0, f1, f2, f3, f4, f5⟩ := hf it (by simp)
    have hl := rv.length
    exact enum_lastT (I.ok.hd hc) he hit tp (by simp; omega) fun h' eb => ⟨rfl, I.turned (t' := s.toks) (fun b o hb q => eb b o hb q) f0 f1 f3 f4 f5⟩
  self := fun A i s Q E st h => by
    obtain ⟨⟨_, he⟩, _⟩ := st
    exact wpAny_pyIter_enum he h
section
variable {X : Cx} {W : WX} {P : Nat}
def iEnumT (K : PySem.W.Frag) (ta : TA) : TI := fun σ H R => ta σ H fun vs H1 => ∃ a xs, vs = [.ref a] ∧ ((SqL K H1 a xs ∧ R (Ite K a) H1) ∨ (SqT K H1 a xs ∧ R (IteT K a) H1))
theorem pi_enum2 {e : Expr} {ta : TA} {p pos tpos : Pos} {elts : List Expr} {kk : Nat} (hg : Gl X "enumerate") (hm : X.mg "enumerate" = none) (ha : PA X [e] ta) (hs : starEach [e] X.env = [(false, eval e X.env)]) :
    PI X (.Tuple elts kk tpos) (.Call (.Name "enumerate" p) [e] [] pos) (iEnumT X.K ta) := by
  refine ⟨fun pins s σ H R I h => ?_⟩
  refine Call_ (ld_blt I hg hm boot_enumerate (PyProof.Rows.callWith_type1 (thn (ha.run pos pins s σ H _ I h) fun us s1 ⟨vs, H1, I1, r1, q1⟩ => ?_) hs rfl))
  obtain ⟨a, xs, ex, q⟩ := q1
  subst ex
  cases r1 with
  | cons r rr =>
    cases rr
    cases r
    have inFp : ∀ b ∈ [s1.heap.objs.size + 1, s1.heap.objs.size], s1.heap.objs.size ≤ b := fun b hb => by
      rcases List.mem_cons.mp hb with z | z
      · omega
      · rw [List.mem_singleton.mp z]; exact Nat.le_refl _
    rcases q with ⟨hq, q⟩ | ⟨hq, q⟩
    · obtain ⟨its, rv, p', hz⟩ := I1.list hq
      refine call_enumerate_list p'.isList fun h' he hit hsz hk => wpAny_pyIter_enum he ?_
      exact ⟨s1.heap.objs.size + 1, [s1.heap.objs.size + 1, s1.heap.objs.size], _, _, H1, rfl, I1.kept (t' := s1.toks) hk, turn_enum a (s1.heap.objs.size + 1) s1.heap.objs.size, ⟨⟨.none, he⟩, hit, Nat.succ_ne_self _⟩, fun b hb => I1.fpOk (inFp b hb) (I1.hok.fresh (inFp b hb)), q⟩
    · obtain ⟨its, rv, tp, hz⟩ := I1.tuple hq
      have hal : a < s1.heap.objs.size := by
        obtain ⟨o, ho, _⟩ := tp
        exact Heap.lt_size ho
      refine enum_one (begins_tuple a its.toArray) tp fun h' he hit hk => wpAny_pyIter_enum he ?_
      exact ⟨s1.heap.objs.size + 1, [s1.heap.objs.size + 1, s1.heap.objs.size], _, _, H1, rfl, I1.kept (t' := s1.toks) hk, turn_enumT a (s1.heap.objs.size + 1) s1.heap.objs.size, ⟨⟨.none, he⟩, ⟨_, hit, rfl, rfl⟩, Nat.succ_ne_self _, Nat.ne_of_lt hal, Nat.ne_of_gt (Nat.lt_succ_of_lt hal)⟩, fun b hb => I1.fpOk (inFp b hb) (I1.hok.fresh (inFp b hb)), q⟩
end
section
variable {K : PySem.W.Frag} {F0 : Addr → Prop} {H0 : Hp}
theorem itok_enumT {a : Addr} {ds : List D} (r : Rp K F0 H0 (.ref a) (.tup ds)) : ItOk K (IteT K a) (enumD ds) F0 H0 where
  go := fun F H i d e lv hd => by
    obtain ⟨b, vs, e1, s1, s2⟩ := (r.moveK e.1 e.2).sqT
    cases e1
    obtain ⟨d0, h0, rfl⟩ := enumD_get hd
    obtain ⟨v, h1, h2⟩ := s2.get h0
    refine ⟨⟨vs, v, s1, h1⟩, fun x H' y => ?_⟩
    obtain ⟨T, w, rfl, hT, rfl, y⟩ := y
    have := y vs s1
    rw [h1] at this
    cases this
    exact pair_grow lv hT (.int _) h2
  stop := fun F H e => by
    obtain ⟨b, vs, e1, s1, s2⟩ := (r.moveK e.1 e.2).sqT
    cases e1
    exact ⟨vs, s1, by rw [s2.length, enumD_len]; exact Nat.le_refl _⟩
end
section
variable {X : Cx} {W : WX} {P : Nat}
def asLT : D → Option (List D)
  | .lst ds => some ds
  | .tup ds => some ds
  | _ => none
def itE2 (a : M Vl) : M (List D) := bnd a fun v => bnd (frz v) fun d => ofO ((asLT d).map enumD)
theorem si_enum2 {e : Expr} {p pos tpos : Pos} {elts : List Expr} {kk : Nat} {fa : M Vl} (hg : Gl X "enumerate") (hm : X.mg "enumerate" = none) (hs : noStar e = true) (ha : SE X W P e fa) : SI X W P (.Tuple elts kk tpos) (.Call (.Name "enumerate" p) [e] [] pos) (itE2 fa) := fun st σ τ F H R hl r h => by
  refine wi (pi_enum2 hg hm (pa_cons pE pa_nil (starEach_of hs)) (starEach_of hs)) (ha st σ τ F H _ hl r (h.bind.imp fun v st1 τ1 F1 H1 s1 _ q x rv => ?_))
  obtain ⟨d, st2, F2, s2, r2, q⟩ := post_frz s1.rs rv q
  unfold ofO asLT at q
  cases d with
  | lst ds =>
    have rp := r2
    obtain ⟨a, vs, rfl, z1, z2⟩ := r2.sqL
    exact ⟨a, vs, rfl, .inl ⟨z1, Post.here (a := enumD ds) s2.rs q _ (itok_enum rp)⟩⟩
  | tup ds =>
    have rp := r2
    obtain ⟨a, vs, rfl, z1, z2⟩ := r2.sqT
    exact ⟨a, vs, rfl, .inr ⟨z1, Post.here (a := enumD ds) s2.rs q _ (itok_enumT rp)⟩⟩
  | _ => exact q.elim
/-! ### range(i, j, -1) -/
def itR3 (a b c : M Vl) : M (List D) := bnd a fun v => bnd b fun w => bnd c fun u => bnd (getI v) fun i => bnd (getI w) fun j => bnd (getI u) fun k => if sm62 i && sm62 j && decide (k = -1) then ret (rngC i (-1) (i - j).toNat) else bad
theorem si_range3 {tg a b c : Expr} {p pos : Pos} {fa fb fc : M Vl} (hg : Gl X "range") (hm : X.mg "range" = none) (hs : noStar a = true) (hs2 : noStar b = true) (hs3 : noStar c = true) (ha : SE X W P a fa) (hb : SE X W P b fb) (hc : SE X W P c fc) : SI X W P tg (.Call (.Name "range" p) [a, b, c] [] pos) (itR3 fa fb fc) := fun st σ τ F H R hl r h => by
  refine wi (pi_range3 hg hm (pa_cons pE (pa_cons pE (pa_cons pE pa_nil (starEach_of hs3)) (starEach_of hs2)) (starEach_of hs)) (starEach_of hs) (any_backTo fun e he => by
    rcases List.mem_cons.mp he with rfl | he
    · exact hs2
    · rw [List.mem_singleton.mp he]; exact hs3)) ?_
  refine ha st σ τ F H _ hl r (h.bind.imp fun v st1 τ1 F1 H1 s1 _ q x rv => ?_)
  refine hb st1 σ _ F1 H1 _ hl s1.rs (q.bind.imp fun w st2 τ2 F2 H2 s2 _ q2 y rw' => ?_)
  refine hc st2 σ _ F2 H2 _ hl s2.rs (q2.bind.imp fun u st3 τ3 F3 H3 s3 _ q3 z ru => ?_)
  obtain ⟨i, rfl, q3⟩ := post_getI s3.rs (s3.rvA s2.rs (s2.rvA s1.rs rv)) q3
  obtain ⟨j, rfl, q3⟩ := post_getI s3.rs (s3.rvA s2.rs rw') q3
  obtain ⟨k, rfl, q3⟩ := post_getI s3.rs ru q3
  split at q3
  · rename_i hk
    rw [Bool.and_eq_true, Bool.and_eq_true, decide_eq_true_eq] at hk
    obtain ⟨⟨h1, h2⟩, rfl⟩ := hk
    obtain ⟨a1, a2⟩ := sm62_ok h1
    obtain ⟨b1, b2⟩ := sm62_ok h2
    exact ⟨i, j, -1, _, rfl, RgC.neg a1 a2 b1 b2, Post.here (a := rngC i (-1) (i - j).toNat) s3.rs q3 _ itok_rngC⟩
  · exact q3.elim
end
/-! ### t[::-1] -/
theorem rev_adj (n : Nat) : Builtin.Slice.sliceAdjust none none (-1) (n : Int) = ((n : Int) - 1, -1) := by
  unfold Builtin.Slice.sliceAdjust
  simp
theorem rev_places (n : Nat) : Builtin.Slice.slicePlaces ((n : Int) - 1) (-1) (-1) = n := by
  unfold Builtin.Slice.slicePlaces
  simp
  split <;> omega
theorem rev_pick (xs : Array Value) : ((List.range xs.size).filterMap fun (m : Nat) => xs[((xs.size : Int) - 1 + (m : Int) * (-1)).toNat]?).toArray = xs.toList.reverse.toArray := by
  have e : ((List.range xs.size).filterMap fun (m : Nat) => xs[((xs.size : Int) - 1 + (m : Int) * (-1)).toNat]?) = ((List.range xs.size).map fun k => xs.size - 1 - k).filterMap (xs[·]?) := by
    rw [List.filterMap_map]
    congr 1
    funext m
    show xs[_]? = xs[_]?
    congr 1
    show ((xs.size : Int) - 1 + (m : Int) * (-1)).toNat = xs.size - 1 - m
    omega
  rw [e, PySem.W.krv_range, List.filterMap_reverse, PySem.W.krv_all]
section
variable {prog : Program} {w : World} {A : Around} {E : Value → Shared → Prop} {s : Shared}
theorem rev_applied {sl : Addr} {vl vu vs : Value} {n : Nat} {Q : Int × Int × Nat → Shared → Prop} (hs : s.heap.IsSliceOf sl vl vu vs) (pl : IsPart vl none) (pu : IsPart vu none) (ps : IsPart vs (some (-1)))
    (h : Q ((n : Int) - 1, -1, n) s) : wpAny (model prog w) A (Builtin.Slice.sliceApplied (.ref sl) (pure (n : Int))) Q E s := by
  obtain ⟨os, h1, h2, h3⟩ := id hs
  unfold Builtin.Slice.sliceApplied Builtin.Slice.sliceFields
  refine wpAny_bind (wpAny_bind (wpAny_field h1 h3 (x := vl) rfl (wpAny_bind (wpAny_field h1 h3 (x := vu) rfl (wpAny_bind (wpAny_field h1 h3 (x := vs) rfl (wpAny_pure ?_)))))))
  refine wpAny_bind (HT.slicePart_ ps ?_)
  show wpAny _ _ (if ((-1 : Int) == 0) = true then _ else _) _ _ s
  rw [if_neg (by decide)]
  refine wpAny_bind (HT.slicePart_ pl (wpAny_bind (HT.slicePart_ pu (wpAny_bind (wpAny_pure ?_)))))
  show wpAny _ _ (match Builtin.Slice.sliceAdjust none none (-1) (n : Int) with | (a, b) => pure (a, (-1 : Int), Builtin.Slice.slicePlaces a b (-1))) _ _ s
  rw [rev_adj]
  show wpAny _ _ (pure ((n : Int) - 1, (-1 : Int), Builtin.Slice.slicePlaces ((n : Int) - 1) (-1) (-1))) _ _ s
  rw [rev_places]
  exact wpAny_pure h
theorem getItem_rev {t sl : Addr} {its : Array Value} {vl vu vs : Value} {Q : Value → Shared → Prop} (ht : IsTup s.heap t its) (hs : s.heap.IsSliceOf sl vl vu vs) (pl : IsPart vl none) (pu : IsPart vu none) (ps : IsPart vs (some (-1)))
    (h : Q (.ref s.heap.objs.size) { s with heap := s.heap.push { cls := .type "tuple", data := .seq its.toList.reverse.toArray } }) (hz : its.size ≤ sizeLine) : wpAny (model prog w) A (getItem (.ref t) (.ref sl)) Q E s := by
  have fits : sizeOk (.seq its.toList.reverse.toArray) := by
    show its.toList.reverse.toArray.size ≤ sizeLine
    rw [List.size_toArray, List.length_reverse, Array.length_toList]
    exact hz
  obtain ⟨os, h1, h2, h3⟩ := id hs
  have ty : s.TypeIs (.ref sl) "slice" := ⟨os, h1, h2⟩
  unfold getItem
  try with_reducible refine wpAny_holding ?_
  first | refine wpAny_bind (wpAny_pure ?_) | skip
  refine wpAny_bind (wpAny_sequenceKey ht.typeIs (by decide) (wpAny_bind (wpAny_callSpecial?_slot (name := Str.ofString "__getitem__") ht.typeIs PyProof.Rows.slot_tuple_getitem (wpAny_call_entry PyProof.Rows.slot_tuple_getitem ht.typeIs PyProof.Rows.entry_tuple_getitem ?_ (PyProof.Rows.args_tuple_getitem _ _)))))
  show wpAny _ _ (Builtin.Tuple.tupleItemsOf (.ref t) >>= _) _ _ s
  refine wpAny_bind (PyProof.Rows.tupleItemsOf_ ht (wpAny_bind (wpAny_typeOf ty ?_)))
  rw [if_pos (by decide)]
  refine wpAny_bind (rev_applied hs pl pu ps ?_)
  have no : ¬ (((its.size : Int) - 1 == 0 && (-1 : Int) == 1 && its.size == its.size) = true) := by simp
  show wpAny _ _ (if ((its.size : Int) - 1 == 0 && (-1 : Int) == 1 && its.size == its.size) = true then _ else _) _ _ s
  rw [if_neg no, rev_pick]
  first
    | exact wpAny_bind (m := Builtin.Tuple.tupleExact _) (wpAny_newObj_type (wpAny_pure ⟨_, rfl, wpAny_pure h⟩) fits)
    | exact wpAny_bind (m := Builtin.Tuple.tupleExact _) (wpAny_newObj_type (wpAny_bind (wpAny_pure (wpAny_pure ⟨_, rfl, wpAny_pure h⟩))) fits)
    | exact wpAny_bind (wpAny_bind (m := Builtin.Tuple.tupleExact _) (wpAny_newObj_type (wpAny_pure (wpAny_pure ⟨_, rfl, wpAny_pure h⟩)) fits))
    | exact wpAny_bind (wpAny_bind (m := Builtin.Tuple.tupleExact _) (wpAny_newObj_type (wpAny_pure ⟨_, rfl, wpAny_pure h⟩) fits))
end
section
variable {X : Cx} {W : WX} {P : Nat} {e : Expr} {pos : Pos}
def tRv (K : PySem.W.Frag) (te : TE) : TE := fun σ H Q => te σ H fun x H1 => ∃ a xs, x = .ref a ∧ ((SqL K H1 a xs ∧ ∀ p, H1 p = none → Q (.ref p) (upd H1 p (.lst xs.reverse))) ∨ (SqT K H1 a xs ∧ ∀ p, H1 p = none → Q (.ref p) (upd H1 p (.tup xs.reverse))))
theorem pe_rv {te : TE} {k : Nat} {p1 p2 p3 : Pos} (he : PE X e te) : PE X (.Subscript e (.Slice none none (some (.UnaryOp .USub (.Constant (.int 1) k p1) p2)) p3) pos) (tRv X.K te) := by
  refine ⟨fun pins s σ H Q I h => ?_⟩
  refine Subscript_ (thn (he.run pins s σ H _ I h) fun v s1 ⟨x, H1, I1, r1, a, xs, ex, q1⟩ => ?_)
  subst ex
  cases r1
  have step : PO X (some (.UnaryOp .USub (.Constant (.int 1) k p1) p2)) (tPart (tUn (rU fun i => .int (-i)) (tC (.int 1)))) := po_some (pe_un un_neg pe_int)
  refine wpAny_Slice (thn (po_none.run pins s1 σ H1 (fun o H2 => o = none ∧ H2 = H1) I1 ⟨rfl, rfl⟩) fun vl s2 ⟨o2, H2, I2, pl, e2, e2'⟩ => ?_)
  subst e2 e2'
  refine thn (po_none.run pins s2 σ H2 (fun o H3 => o = none ∧ H3 = H2) I2 ⟨rfl, rfl⟩) fun vu s3 ⟨o3, H3, I3, pu, e3, e3'⟩ => ?_
  subst e3 e3'
  refine thn (step.run pins s3 σ H3 (fun o H4 => o = some (-1) ∧ H4 = H3) I3 ⟨1, rfl, -1, rfl, rfl, rfl⟩) fun vs s4 ⟨o4, H4, I4, ps, e4, e4'⟩ => ?_
  subst e4 e4'
  have I5 : Inv X pins σ H4 { s4 with heap := s4.heap.push { cls := .type "slice", data := .fields #[vl, vu, vs] } } := I4.kept (t' := s4.toks) fun b ob q => Heap.get?_push_of_some _ q
  show wpAny _ X.A (subscriptTail e (.Slice none none (some (.UnaryOp .USub (.Constant (.int 1) k p1) p2)) p3) (.ref a) (.ref s4.heap.objs.size)) (EP X pins σ Q) X.xe { s4 with heap := s4.heap.push { cls := .type "slice", data := .fields #[vl, vu, vs] } }
  rcases q1 with ⟨hx, q⟩ | ⟨hx, q⟩
  · obtain ⟨its, r, ht, hz⟩ := I5.list hx
    have hlen := r.length
    refine tail_any (ops := [.ref a, .ref s4.heap.objs.size]) ht.isList.typeIs (PySem.slot_list_getitem.lookup) (wpAny_getItem_list_slice ht.isList (Heap.IsSliceOf.new _ vl vu vs) pl pu ps (by decide) ?_ (by rw [List.size_toArray]; omega)) (by with_unfolding_all rfl)
    rw [PySem.W.krv_pick]
    exact ⟨.ref _, _, I5.laid (t' := s4.toks) (o := .lst xs.reverse) (fun b ob q => Heap.get?_push_of_some _ q) (Nat.le_refl _) ⟨by rw [List.length_reverse]; exact hz, _, 0, r.reverse, Heap.get?_push_size _ rfl⟩, rfl, q _ (I5.hok.fresh (Nat.le_refl _))⟩
  · obtain ⟨its, r, ht, hz⟩ := I5.tuple hx
    have hlen := r.length
    refine tail_any (ops := [.ref a, .ref s4.heap.objs.size]) ht.typeIs PyProof.Rows.slot_tuple_getitem.lookup (getItem_rev ht (Heap.IsSliceOf.new _ vl vu vs) pl pu ps ?_ (by rw [List.size_toArray]; omega)) (by with_unfolding_all rfl)
    refine ⟨.ref _, _, I5.laid (t' := s4.toks) (o := .tup xs.reverse) (fun b ob q => Heap.get?_push_of_some _ q) (Nat.le_refl _) ⟨by rw [List.length_reverse]; exact hz, its.reverse, r.reverse, ?_⟩, rfl, q _ (I5.hok.fresh (Nat.le_refl _))⟩
    exact IsTup.new _ _
def revD : D → Option Slot
  | .lst ds => some (.own false ds.reverse)
  | .tup ds => some (.val (.tup ds.reverse))
  | _ => none
theorem Rps.rev {K : PySem.W.Frag} {F : Addr → Prop} {H : Hp} : ∀ {vs : List V} {ds : List D}, Rps K F H vs ds → Rps K F H vs.reverse ds.reverse
  | _, _, .nil => .nil
  | _, _, .cons r t => by
    rw [List.reverse_cons, List.reverse_cons]
    exact (Rps.rev t).append (.cons r .nil)
theorem se_rev {k : Nat} {p1 p2 p3 : Pos} {fa : M Vl} (ha : SE X W P e fa) : SE X W P (.Subscript e (.Slice none none (some (.UnaryOp .USub (.Constant (.int 1) k p1) p2)) p3) pos) (xUn revD fa) := fun st σ τ F H Q hl r h => by
  refine we (pe_rv pE) (ha st σ τ F H _ hl r (h.bind.imp fun v st1 τ1 F1 H1 s1 _ q x rv => ?_))
  unfold ap1 at q
  split at q
  · rename_i d hd
    have rq := rd_ok hd s1.rs rv
    unfold revD at q
    cases d with
    | lst ds =>
      obtain ⟨a, vs, rfl, z1, z2⟩ := rq.sqL
      exact ⟨a, vs, rfl, .inl ⟨z1, fun p hp => post_alloc s1.rs q _ _ _ (growL s1.rs.live hp z2.rev)⟩⟩
    | tup ds =>
      obtain ⟨a, vs, rfl, z1, z2⟩ := rq.sqT
      exact ⟨a, vs, rfl, .inr ⟨z1, fun p hp => post_alloc s1.rs q _ _ _ (growT s1.rs.live hp z2.rev)⟩⟩
    | _ => exact q.elim
  · exact q.elim
/-! ### [*a, b] -/
def dats (ds : List D) : List Vl := ds.map .dat
def xStar (a : M Vl) (r : M (List Vl)) : M (List Vl) := bnd a fun v => fun st => match rd v st with
  | some (.lst ds) => bnd r (fun vs => ret (dats ds ++ vs)) st
  | some (.tup ds) => bnd r (fun vs => ret (dats ds ++ vs)) st
  | _ => .stuck
theorem rvs_dats {K : PySem.W.Frag} {F : Addr → Prop} {H : Hp} {ρ : St} : ∀ {xs : List V} {ds : List D}, Rps K F H xs ds → Rvs K F H ρ xs (dats ds)
  | _, _, .nil => .nil
  | _, _, .cons r t => .cons r (rvs_dats t)
theorem sa_star {es : List Expr} {p : Pos} {fa : M Vl} {fr : M (List Vl)} (ha : SE X W P e fa) (hr : SA X W P es fr) : SA X W P (.Starred e p :: es) (xStar fa fr) := fun st σ τ F H Q hl r h => by
  refine wa (StX.pa_star pE pA rfl) (ha st σ τ F H _ hl r (h.bind.imp fun v st1 τ1 F1 H1 s1 _ q x rv => ?_))
  have go : ∀ (a : Addr) (vs : List V) (ds : List D), Rps X.K F1 H1 vs ds → Post X W P σ (τ ++ τ1) st1 F1 H1 (bnd fr (fun ws => ret (dats ds ++ ws)) st1) (fun v st' τ' F' H' => ∀ xs, Rvs X.K F' H' (σ ++ τ') xs v → Q xs H') → WA X es σ H1 fun ys H2 => Q (vs ++ ys) H2 := fun a vs ds rp q => by
    refine hr st1 σ _ F1 H1 _ hl s1.rs (q.bind.imp fun ws st2 τ2 F2 H2 s2 _ q2 ys rys => ?_)
    exact Post.here (a := dats ds ++ ws) s2.rs q2 _ ((rvs_dats (s2.moves s1.rs rp)).append rys)
  split at q
  · rename_i ds hd
    obtain ⟨a, vs, rfl, z1, z2⟩ := (rd_ok hd s1.rs rv).sqL
    exact ⟨a, vs, rfl, .inr z1, go a vs ds z2 q⟩
  · rename_i ds hd
    obtain ⟨a, vs, rfl, z1, z2⟩ := (rd_ok hd s1.rs rv).sqT
    exact ⟨a, vs, rfl, .inl z1, go a vs ds z2 q⟩
  · exact q.elim
end
end PU
namespace PU
open PySem PySem.Spec PyProof.Rows L2
section
variable {X : Cx} {W : WX} {P : Nat}
/-! ### xs.pop() -/
def popS (j : Nat) (o : Option Slot) (st : Sto) : R Vl := match o with
  | some (.own false ds) => (match ds[ds.length - 1]? with
    | some d => .ok (.dat d) (st.set j (.own false ds.dropLast))
    | none => .stuck)
  | _ => .stuck
def xPop (j : Nat) : M Vl := fun st => popS j st[j]? st
theorem se_pop {x : Str} {j : Nat} {p apos cpos : Pos} (hp : PE X (.Name x p) (tVar j)) (hj : j < X.N.length) (hline : (apos.endLine == cpos.line) = true) :
    SE X W P (.Call (.Attribute (.Name x p) "pop" apos) [] [] cpos) (xPop j) := fun st σ τ F H Q hl r h => by
  unfold xPop popS at h
  split at h
  · rename_i ds e0
    split at h
    · rename_i d hd
      have hρ : (σ ++ τ)[j]? = σ[j]? := ap_left (by omega)
      obtain ⟨l, vs, y1, y2, y3, y4⟩ := r.slot j _ e0
      have y1' := y1
      rw [hρ] at y1
      obtain ⟨v, hv, rv⟩ := y4.get hd
      have hlen := y4.length
      have s1 := Stp.mut (P := P) (vs' := vs.dropLast) (ds' := ds.dropLast) (vs := vs) r e0 y1' (by rw [List.dropLast_eq_take, List.dropLast_eq_take, hlen]; exact y4.take _)
      refine we (pe_bm0 PySem.F.plainAttrs_list PySem.F.slot_list_pop PySem.F.type_list_pop mt_pop hp rfl hline) ⟨.ref l, y1, .inl ⟨rfl, vs, .of y2⟩, l, vs, v, rfl, rfl, y2, by rw [hlen]; exact hv, ?_⟩
      refine h [] F _ (by rw [List.append_nil]; exact s1) v ?_
      exact s1.move r rv
    · exact h.elim
  · exact h.elim
/-! ### xs.pop(i) -/
def popAt (j : Nat) (v : Vl) : M Vl := fun st => match rd v st, st[j]? with
  | some (.int i), some (.own false ds) => (match ixN ds.length i with
    | some k => (match ds[k]? with
      | some d => if -(2 ^ 63) ≤ i ∧ i < 2 ^ 63 then .ok (.dat d) (st.set j (.own false (ds.eraseIdx k))) else .stuck
      | none => .stuck)
    | none => .stuck)
  | _, _ => .stuck
def xPopAt (j : Nat) (f : M Vl) : M Vl := fun st => match st[j]? with
  | some (.own false _) => bnd f (popAt j) st
  | _ => .stuck
theorem Rps.erase {K : PySem.W.Frag} {F : Addr → Prop} {H : Hp} : ∀ {vs : List V} {ds : List D} (k : Nat), Rps K F H vs ds → Rps K F H (vs.eraseIdx k) (ds.eraseIdx k)
  | _, _, _, .nil => .nil
  | _, _, 0, .cons _ t => t
  | _, _, k + 1, .cons r t => .cons r (Rps.erase k t)
theorem se_popAt {x : Str} {a : Expr} {j : Nat} {p apos cpos : Pos} {f : M Vl} (hp : PE X (.Name x p) (tVar j)) (hj : j < X.N.length) (hs : noStar a = true) (hline : (apos.endLine == cpos.line) = true) (ha : SE X W P a f) :
    SE X W P (.Call (.Attribute (.Name x p) "pop" apos) [a] [] cpos) (xPopAt j f) := fun st σ τ F H Q hl r h => by
  unfold xPopAt at h
  split at h
  · rename_i ds0 e0
    have hρ : (σ ++ τ)[j]? = σ[j]? := ap_left (by omega)
    obtain ⟨l, vs0, y1, y2, y3, y4⟩ := r.slot j _ e0
    rw [hρ] at y1
    have hst : starEach [a] X.env = [(false, eval a X.env)] := starEach_of hs
    refine we (pe_bm PySem.F.plainAttrs_list PySem.F.slot_list_pop PySem.F.type_list_pop mt_popAt hp (pa_cons pE pa_nil hst) rfl (by rw [hst]; rfl) hline hst rfl) ⟨.ref l, y1, .inl ⟨rfl, vs0, .of y2⟩, ?_⟩
    refine ha st σ τ F H _ hl r (h.bind.imp fun v st1 τ1 F1 H1 s1 _ q x rv => ?_)
    unfold popAt at q
    split at q
    · rename_i i ds hi e2
      split at q
      · rename_i k hk
        split at q
        · rename_i d hd
          split at q
          · rename_i hb
            have ea : (σ ++ (τ ++ τ1))[j]? = some (some (V.ref l)) := get_pre y1
            obtain ⟨b, ws, z1, z2, z3, z4⟩ := s1.rs.slot j _ e2
            rw [ea] at z1
            cases z1
            obtain ⟨y, hy, ry⟩ := z4.get hd
            have xi := (rd_ok hi s1.rs rv).int
            have s3 := Stp.mut (P := P) (vs := ws) s1.rs e2 ea (z4.erase k)
            refine ⟨l, ws, i, k, y, rfl, by rw [xi], z2, hb.1, hb.2, by rw [z4.length]; exact (ixN_seq hk).1, hy, ?_⟩
            exact q [] F1 _ (by rw [List.append_nil]; exact s3) y (s3.move s1.rs ry)
          · exact q.elim
        · exact q.elim
      · exact q.elim
    · exact q.elim
  · exact h.elim
/-! ### x += e, x -= e, of ints -/
def augD : Operator → D → D → Option D
  | .Add, .int a, .int b => some (.int (a + b))
  | .Sub, .int a, .int b => some (.int (a - b))
  | _, _, _ => none
def isAug : Operator → Bool
  | .Add => true
  | .Sub => true
  | _ => false
def augS (n P i : Nat) (op : Operator) (d : D) (v : Vl) (st : Sto) : R Fl := match rd v st with
  | some e => (match augD op d e with
    | some z => toNx n (store n P i (.dat z) st)
    | none => .stuck)
  | none => .stuck
def sAug (n P i : Nat) (op : Operator) (f : M Vl) : M Fl := fun st => match st[i]? with
  | some (.val d) => if isAug op then bndS n f (fun v => augS n P i op d v) st else .stuck
  | _ => .stuck
theorem aug_core {e : Expr} {x : Str} {i : Nat} {op : Operator} {pos p : Pos} {f : M Vl} {d : D} {st : Sto} {σ : St} {F : Addr → Prop} {H : Hp} {D : Ends} (hP : P ≤ X.N.length) (hN : X.N.Nodup) (hi : X.N[i]? = some x) (hx : Loc X.env.scope x) (hf : X.fn x = true ∨ X.env.scope.names.lookup x = some .local) (he : SE X W P e f)
    (hl : σ.length = X.N.length) (r : Rs X.K F st σ H) (e0 : st[i]? = some (.val d)) (ho : isAug op = true) (h : PostS X W P X.N.length st σ F H (bndS X.N.length f (fun v => augS X.N.length P i op d v) st) D) : WS X (.AugAssign (.Name x p) op e pos) D σ H := by
  obtain ⟨v, y1, y2⟩ := r.slot i _ e0
  have key : ∀ (ti : TIp), PIp X op ti → (∀ (y z : PU.D) (vy : V) (H1 : Hp) (Q : VK), augD op d y = some z → (∀ a b : Int, d = .int a → y = .int b → v = .int a → vy = .int b → ∀ c, z = .int c → Q (.int c) H1 → ti v vy H1 Q)) → WS X (.AugAssign (.Name x p) op e pos) D σ H := fun ti hti hh => by
    refine ws (ps_aug hN hi hx pE hti hf) ⟨v, y1, he st σ [] F H _ hl (rs0 r) ((PostS.bind0 hl hP h).imp fun w st1 τ1 F1 H1 s1 _ q y rv => ?_)⟩
    unfold augS at q
    split at q
    · rename_i e1 he1
      split at q
      · rename_i z hz
        have rq := rd_ok he1 s1.rs rv
        have fin : ∀ c : Int, z = .int c → D.nx (σ.set i (some (.int c))) H1 := fun c hc => by
          subst hc
          exact set_end hl hP (List.getElem?_eq_some_iff.mp hi).1 (v := .dat (.int c)) s1.rs (Rp.int c) q
        unfold augD at hz
        split at hz
        · cases hz
          cases y2
          exact hh _ _ _ _ _ rfl _ _ rfl rfl rfl rq.int _ rfl (fin _ rfl)
        · cases hz
          cases y2
          exact hh _ _ _ _ _ rfl _ _ rfl rfl rfl rq.int _ rfl (fin _ rfl)
        · cases hz
      · exact q.elim
    · exact q.elim
  cases op with
  | Add =>
    refine key _ ip_add fun y z vy H1 Q hz a b hd hy hv hvy c hc q => ?_
    subst hd hy hv hvy hc
    cases hz
    exact ⟨a, b, rfl, rfl, q⟩
  | Sub =>
    refine key _ ip_sub fun y z vy H1 Q hz a b hd hy hv hvy c hc q => ?_
    subst hd hy hv hvy hc
    cases hz
    exact ⟨a, b, rfl, rfl, q⟩
  | _ => cases ho
theorem ss_aug {e : Expr} {x : Str} {i : Nat} {op : Operator} {pos p : Pos} {f : M Vl} (hP : P ≤ X.N.length) (hN : X.N.Nodup) (hi : X.N[i]? = some x) (hx : Loc X.env.scope x) (hf : X.fn x = true ∨ X.env.scope.names.lookup x = some .local) (he : SE X W P e f) :
    SS X W P (.AugAssign (.Name x p) op e pos) (sAug X.N.length P i op f) := fun st σ F H D hl r h => by
  unfold sAug at h
  split at h
  · rename_i d e0
    split at h
    · rename_i ho
      exact aug_core hP hN hi hx hf he hl r e0 ho h
    · exact h.elim
  · exact h.elim
end
end PU
namespace PU
open PySem PySem.Spec PyProof.Rows L2
/-! ### comprehensions with two clauses -/
def lc2E (L : Nat) (vs vs1 : List Nat) (g : D → M Unit) (t : M Bool) (it1 : M (List D)) (g1 : D → M Unit) (t1 : M Bool) (e : M Vl) : List D → List D → M (List D)
  | [], acc => ret acc
  | d :: ds, acc => fun st => match g d st with
    | .ok _ st1 => (match t st1 with
      | .ok true st2 => (match it1 st2 with
        | .ok es st3 => (match lcE st3.length vs1 g1 t1 e es acc (wipeS st3 vs1) with
          | .ok acc' st4 => lc2E L vs vs1 g t it1 g1 t1 e ds acc' (wipeS (st4.take L) vs)
          | _ => .stuck)
        | _ => .stuck)
      | .ok false st2 => lc2E L vs vs1 g t it1 g1 t1 e ds acc (wipeS (st2.take L) vs)
      | _ => .stuck)
    | _ => .stuck
def lc2Go (vs vs1 : List Nat) (g : D → M Unit) (t : M Bool) (it1 : M (List D)) (g1 : D → M Unit) (t1 : M Bool) (e : M Vl) (ds : List D) : M Vl := fun st => if calmV st vs then (match lc2E st.length vs vs1 g t it1 g1 t1 e ds [] (wipeS st vs) with
  | .ok acc st' => alloc (.own false acc) (restore st vs st')
  | _ => .stuck) else .stuck
def xLc2 (vs vs1 : List Nat) (it : M (List D)) (g : D → M Unit) (t : M Bool) (it1 : M (List D)) (g1 : D → M Unit) (t1 : M Bool) (e : M Vl) : M Vl := bnd it (lc2Go vs vs1 g t it1 g1 t1 e)
def iAll (X : Cx) (scope : Scope) (tg iter : Expr) : TI := fun σ H R => ∀ s H0 C cl fp, WI (blkX X scope s H0 C cl fp) tg iter σ H R
section
variable {X : Cx} {W : WX} {P n : Nat} {F F' : Addr → Prop} {H H' : Hp} {st st' : Sto} {ρ ρ' σ τ : St} {tg iter elt tg1 iter1 : Expr} {ifs ifs1 : List Expr} {scope : Scope} {vs T vs1 T1 : List Nat} {it it1 : M (List D)} {g g1 : D → M Unit} {t t1 : M Bool} {e : M Vl}
theorem wipe_sub {σ : St} {vs vs1 : List Nat} (h : ∀ i ∈ vs1, i ∈ vs) : wipe (wipe σ vs1) vs = wipe σ vs := wipe_eq (wipe_length _ _) fun j hj => wipe_out fun z => hj (h j z)
theorem Ext.updD {F0 : Addr → Prop} {H0 : Hp} {F : Addr → Prop} {H : Hp} {D : Addr} {o : HO} (x : Ext F0 H0 F H) (nf : ¬ F D) : Ext F0 H0 F (upd H D o) :=
  ⟨x.1, fun a f u h => by unfold Kp; rw [upd_ne (show a ≠ D from fun e => nf (e ▸ x.1 a f))]; exact x.2 a f u h⟩
/-- the inner walk, over a list that grows at A0 -/
theorem lc_loop {A0 : Addr} {stB : Sto} {ρB : St} {FB : Addr → Prop} {HB : Hp} {J : It} {ds : List D} {F1 : Addr → Prop} {H1 : Hp} {st1 : Sto} {τ2 : St} {av0 : List V} {acc0 accF : List D} {stF : Sto} {Nx : Hp → Prop}
    (hP : P ≤ X.N.length) (hT : ∀ j ∈ T, j ∈ vs) (hb : ∀ i ∈ vs, P ≤ i ∧ i < X.N.length) (hg : ∀ s H0 C cl fp, SG (blkX X scope s H0 C cl fp) W0 P tg T g) (ht : STs X scope P ifs t) (he : ∀ s H0 C cl fp, SE (blkX X scope s H0 C cl fp) W0 P elt e)
    (hl : σ.length = X.N.length) (hD : HB A0 = none) (sB : Stp P X.K stB ρB FB HB st1 (σ ++ τ2) F1 H1) (hJ : ItOk X.K J ds F1 H1) (a1 : H1 A0 = some (.lst av0)) (a2 : ¬ F1 A0) (a3 : ¬ Own st1 (σ ++ τ2) A0) (a4 : Rps X.K F1 H1 av0 acc0)
    (e1 : lcE st1.length vs g t e ds acc0 (wipeS st1 vs) = .ok accF stF)
    (hN : ∀ F' H' av', Stp P X.K stB ρB FB HB stF (wipe σ vs ++ τ2) F' H' → H' A0 = some (.lst av') → ¬ F' A0 → ¬ Own stF (wipe σ vs ++ τ2) A0 → Rps X.K F' H' av' accF → Ext F1 H1 F' H' → Nx H') :
    ∃ W : Nat → Nat → Hp → Prop, (∃ m, W 0 m H1) ∧ ∀ i m H, W i m H → (J.stop i H ∧ Nx H) ∨ (J.go i H ∧ ∃ N1 : Hp → Prop, (∀ H', N1 H' → ∃ m', m' < m ∧ W (i + 1) m' H') ∧ ∀ x H', J.yld i H x H' → gAll X scope tg x (wipe σ vs) H' fun σ3 H5 => wipe σ3 vs = wipe σ vs ∧ tAll X scope ifs σ3 H5 fun b H6 =>
      if b = true then eAll X scope elt σ3 H6 fun y H7 => ∃ acc, H7 A0 = some (.lst acc) ∧ acc.length < sizeLine ∧ N1 (upd H7 A0 (.lst (acc ++ [y]))) else N1 H6) := by
  have r1 := sB.rs
  have hb' : ∀ i ∈ vs, P ≤ i ∧ i < σ.length := fun i h => by rw [hl]; exact hb i h
  have w0 := Stp.wipe (P := P) r1 hb'
  have hlw : (wipe σ vs).length = X.N.length := by rw [wipe_length]; exact hl
  have hst : st1.length = X.N.length + τ2.length := by rw [r1.len, List.length_append, hl]
  have sW := sB.trans w0
  have noW : ¬ Own (wipeS st1 vs) (wipe σ vs ++ τ2) A0 := fun o => by
    rcases w0.owns A0 o with z | z
    · exact a3 z
    · rw [a1] at z; cases z
  refine ⟨fun i m H' => m = ds.length - i ∧ i ≤ ds.length ∧ ∃ st' F' acc av, Stp P X.K stB ρB FB HB st' (wipe σ vs ++ τ2) F' H' ∧ H' A0 = some (.lst av) ∧ ¬ F' A0 ∧ ¬ Own st' (wipe σ vs ++ τ2) A0 ∧ Rps X.K F' H' av acc ∧ Ext F1 H1 F' H' ∧ lcE st1.length vs g t e (ds.drop i) acc st' = .ok accF stF,
    ⟨ds.length, rfl, Nat.zero_le _, wipeS st1 vs, F1, acc0, av0, sW, a1, a2, noW, a4, .refl, e1⟩, fun i m H2 w => ?_⟩
  obtain ⟨rfl, hi', st2, F2, acc, av, s2, d1, d2, d3, d4, x2, e2⟩ := w
  by_cases hlt : i < ds.length
  · right
    have hd : ds[i]? = some ds[i] := List.getElem?_eq_getElem hlt
    obtain ⟨go, yl⟩ := hJ.go F2 H2 i _ x2 s2.rs.live hd
    refine ⟨go, fun H' => ∃ st' F' acc av, Stp P X.K stB ρB FB HB st' (wipe σ vs ++ τ2) F' H' ∧ H' A0 = some (.lst av) ∧ ¬ F' A0 ∧ ¬ Own st' (wipe σ vs ++ τ2) A0 ∧ Rps X.K F' H' av acc ∧ Ext F1 H1 F' H' ∧ lcE st1.length vs g t e (ds.drop (i + 1)) acc st' = .ok accF stF, fun H' z => ⟨ds.length - (i + 1), by omega, rfl, hlt, z⟩, fun x H3 y => ?_⟩
    obtain ⟨F3, gr⟩ := yl x H3 y
    have s3 : Stp P X.K st2 (wipe σ vs ++ τ2) F2 H2 st2 (wipe σ vs ++ τ2) F3 H3 := Stp.grow s2.rs gr
    obtain ⟨c1, c2, c3⟩ := s3.keepD d1 d2 d3
    have c4 := s3.moves s2.rs d4
    have x3 := x2.trans (s3.ext s2.rs)
    rw [List.drop_eq_getElem_cons hlt] at e2
    simp only [lcE] at e2
    cases z1 : g ds[i] st2 with
    | stuck => rw [z1] at e2; cases e2
    | exc y st4 => rw [z1] at e2; cases e2
    | ok u st4 =>
      simp only [z1] at e2
      intro bs bH bC bcl bfp
      refine hg bs bH bC bcl bfp st2 (wipe σ vs) τ2 F3 H3 x _ _ hlw s3.rs gr.res ?_
      rw [z1]
      intro σ4 τ4 F4 H4 hl4 ag4 s4
      have hl4 : σ4.length = X.N.length := hl4
      have hw4 : wipe σ4 vs = wipe σ vs := by
        rw [← wipe_wipe (σ := σ)]
        exact wipe_eq (hl4.trans hlw.symm) fun j hj => ag4 j fun h => hj (hT j h)
      refine ⟨hw4, ?_⟩
      obtain ⟨c1, c2, c3⟩ := s4.keepD c1 c2 c3
      have c4 := s4.moves s3.rs c4
      have x4 := x3.trans (s4.ext s3.rs)
      have s24 : Stp P X.K stB ρB FB HB st4 (σ4 ++ (τ2 ++ τ4)) F4 H4 := (s2.trans s3).trans s4
      have back : ∀ (st5 : Sto) (τ5 : St) (F5 : Addr → Prop) (H5 : Hp), Stp P X.K stB ρB FB HB st5 (σ4 ++ (τ2 ++ τ5)) F5 H5 → H5 A0 ≠ none → ¬ Own st5 (σ4 ++ (τ2 ++ τ5)) A0 →
          Stp P X.K stB ρB FB HB (wipeS (st5.take st1.length) vs) (wipe σ vs ++ τ2) F5 H5 ∧ ¬ Own (wipeS (st5.take st1.length) vs) (wipe σ vs ++ τ2) A0 := fun st5 τ5 F5 H5 s5 nn no => by
        rw [← List.append_assoc] at s5 no
        have t5 := s5.trunc (n := st1.length) (by rw [List.length_append, hl4, hst]) (by omega)
        have w5 := Stp.wipe (P := P) t5.rs (fun i h => by rw [hl4]; exact hb i h)
        rw [hw4] at w5
        refine ⟨t5.trans w5, fun o => ?_⟩
        rcases w5.owns A0 o with z | z
        · exact no (own_trunc z)
        · exact nn z
      refine st_of ht hl4 s4.rs fun bs bH bC bcl bfp => ?_
      cases z2 : t st4 with
      | stuck => simp only [z2] at e2; cases e2
      | exc y st5 => simp only [z2] at e2; cases e2
      | ok b st5 =>
        simp only [z2] at e2
        intro τ5 F5 H5 s5
        rw [List.append_assoc] at s5
        obtain ⟨c1, c2, c3⟩ := s5.keepD c1 c2 c3
        have c4 := s5.moves s4.rs c4
        have x5 := x4.trans (s5.ext s4.rs)
        have s25 := s24.trans s5
        cases b with
        | false =>
          have e2 : lcE st1.length vs g t e (List.drop (i + 1) ds) acc (wipeS (st5.take st1.length) vs) = .ok accF stF := e2
          obtain ⟨b1, b2⟩ := back st5 (τ4 ++ τ5) F5 H5 s25 (by rw [c1]; exact Option.some_ne_none _) c3
          exact iteF ⟨_, F5, acc, av, b1, c1, c2, b2, c4, x5, e2⟩
        | true =>
          refine iteT fun bs bH bC bcl bfp => ?_
          have hr5 := s5.rs
          refine he bs bH bC bcl bfp st5 σ4 (τ2 ++ (τ4 ++ τ5)) F5 H5 _ hl4 hr5 ?_
          cases z3 : e st5 with
          | stuck => simp only [z3] at e2; cases e2
          | exc y st6 => simp only [z3] at e2; cases e2
          | ok v st6 =>
            simp only [z3] at e2
            intro τ6 F6 H6 s6 yv rv
            rw [List.append_assoc, List.append_assoc] at s6 rv
            obtain ⟨c1, c2, c3⟩ := s6.keepD c1 c2 c3
            have c4 := s6.moves hr5 c4
            have x6 := x5.trans (s6.ext hr5)
            have s26 := s25.trans s6
            cases z4 : frz v st6 with
            | stuck => simp only [z4] at e2; cases e2
            | exc y st7 => exact absurd z4 frz_noexc
            | ok yd st7 =>
              simp only [z4] at e2
              split at e2
              · rename_i hz
                obtain ⟨F7, s7, r7⟩ := frz_ok (P := P) s6.rs rv z4
                obtain ⟨c1, c2, c3⟩ := s7.keepD c1 c2 c3
                have c4 := s7.moves s6.rs c4
                have x7 := x6.trans (s7.ext s6.rs)
                have s27 := s26.trans s7
                obtain ⟨b1, b2⟩ := back st7 _ F7 H6 s27 (by rw [c1]; exact Option.some_ne_none _) c3
                have kp : ∀ a, F7 a → ∀ u, H6 a = some u → upd H6 A0 (.lst (av ++ [yv])) a = some u := fun a f u h => by rw [upd_ne (show a ≠ A0 from fun e => c2 (e ▸ f))]; exact h
                refine ⟨av, c1, by rw [c4.length, ← szL_eq]; exact hz, _, F7, acc ++ [yd], av ++ [yv], b1.updD hD c2 b2 (fun u e => ⟨_, Option.some.inj (e.symm.trans c1)⟩), upd_same, c2, b2, ?_, x7.updD c2, e2⟩
                exact (c4.append (.cons r7 .nil)).move (fun _ h => h) kp
              · cases e2
  · left
    have e : i = ds.length := by omega
    subst e
    rw [List.drop_length] at e2
    obtain ⟨ea, es⟩ : acc = accF ∧ st2 = stF := by cases e2; exact ⟨rfl, rfl⟩
    clear e2
    subst ea
    subst es
    exact ⟨hJ.stop F2 H2 x2, hN F2 H2 av s2 d1 d2 d3 d4 x2⟩
theorem lc2_read (hP : P ≤ X.N.length) (hi : SI X W P tg iter it) (hT : ∀ j ∈ T, j ∈ vs) (hb : ∀ i ∈ vs, P ≤ i ∧ i < X.N.length) (hg : ∀ s H0 C cl fp, SG (blkX X scope s H0 C cl fp) W0 P tg T g) (ht : STs X scope P ifs t)
    (hv : ∀ i ∈ vs1, i ∈ vs) (hi1 : ∀ s H0 C cl fp, SI (blkX X scope s H0 C cl fp) W0 P tg1 iter1 it1) (hT1 : ∀ j ∈ T1, j ∈ vs1) (hg1 : ∀ s H0 C cl fp, SG (blkX X scope s H0 C cl fp) W0 P tg1 T1 g1) (ht1 : STs X scope P ifs1 t1) (he : ∀ s H0 C cl fp, SE (blkX X scope s H0 C cl fp) W0 P elt e)
    {Q : VK} (hl : σ.length = X.N.length) (r : Rs X.K F st (σ ++ τ) H) (h : Post X W P σ τ st F H (xLc2 vs vs1 it g t it1 g1 t1 e st) (fun v st' τ' F' H' => ∀ x, Rv X.K F' H' (σ ++ τ') x v → Q x H')) :
    tLc2 (WI X tg iter) (gAll X scope tg) (tAll X scope ifs) (iAll X scope tg1 iter1) (gAll X scope tg1) (tAll X scope ifs1) (eAll X scope elt) vs vs1 σ H Q := by
  refine hi st σ τ F H _ hl r (h.bind.imp fun ds st1 τ1 F1 H1 s1 _ q J hJ => ?_)
  intro A0 hD
  have hb' : ∀ i ∈ vs, P ≤ i ∧ i < σ.length := fun i h => by rw [hl]; exact hb i h
  have hb1 : ∀ i ∈ vs1, P ≤ i ∧ i < X.N.length := fun i h => hb i (hv i h)
  have r1 := s1.rs
  generalize hτ : τ ++ τ1 = τ2 at *
  unfold lc2Go at q
  split at q
  · rename_i hcv
    cases e1 : lc2E st1.length vs vs1 g t it1 g1 t1 e ds [] (wipeS st1 vs) with
    | stuck => rw [e1] at q; exact q.elim
    | exc y st2 => rw [e1] at q; exact q.elim
    | ok accF stF =>
      rw [e1] at q
      have w0 := Stp.wipe (P := P) r1 hb'
      have hlw : (wipe σ vs).length = X.N.length := by rw [wipe_length]; exact hl
      have nfD : ¬ F1 A0 := fun f => by obtain ⟨o, ho⟩ := r1.live A0 f; rw [hD] at ho; cases ho
      have noD : ¬ Own (wipeS st1 vs) (wipe σ vs ++ τ2) A0 := fun o => by obtain ⟨u, hu⟩ := w0.rs.own_live o; rw [hD] at hu; cases hu
      have hst : st1.length = X.N.length + τ2.length := by rw [r1.len, List.length_append, hl]
      refine ⟨fun i m H' => m = ds.length - i ∧ i ≤ ds.length ∧ ∃ st' F' acc av, Stp P X.K (wipeS st1 vs) (wipe σ vs ++ τ2) F1 H1 st' (wipe σ vs ++ τ2) F' H' ∧ H' A0 = some (.lst av) ∧ ¬ F' A0 ∧ ¬ Own st' (wipe σ vs ++ τ2) A0 ∧ Rps X.K F' H' av acc ∧ lc2E st1.length vs vs1 g t it1 g1 t1 e (ds.drop i) acc st' = .ok accF stF,
        ⟨ds.length, rfl, Nat.zero_le _, wipeS st1 vs, F1, [], [], (Stp.refl w0.rs).updD hD nfD noD (fun u e => by rw [hD] at e; cases e), upd_same, nfD, noD, .nil, e1⟩, fun i m H2 w => ?_⟩
      obtain ⟨rfl, hi', st2, F2, acc, av, s2, d1, d2, d3, d4, e2⟩ := w
      have x2 : Ext F1 H1 F2 H2 := s2.ext w0.rs
      by_cases hlt : i < ds.length
      · right
        have hd : ds[i]? = some ds[i] := List.getElem?_eq_getElem hlt
        obtain ⟨go, yl⟩ := hJ.go F2 H2 i _ x2 s2.rs.live hd
        refine ⟨go, fun H' => ∃ st' F' acc av, Stp P X.K (wipeS st1 vs) (wipe σ vs ++ τ2) F1 H1 st' (wipe σ vs ++ τ2) F' H' ∧ H' A0 = some (.lst av) ∧ ¬ F' A0 ∧ ¬ Own st' (wipe σ vs ++ τ2) A0 ∧ Rps X.K F' H' av acc ∧ lc2E st1.length vs vs1 g t it1 g1 t1 e (ds.drop (i + 1)) acc st' = .ok accF stF, fun H' z => ⟨ds.length - (i + 1), by omega, rfl, hlt, z⟩, fun x H3 y => ?_⟩
        obtain ⟨F3, gr⟩ := yl x H3 y
        have s3 : Stp P X.K st2 (wipe σ vs ++ τ2) F2 H2 st2 (wipe σ vs ++ τ2) F3 H3 := Stp.grow s2.rs gr
        obtain ⟨c1, c2, c3⟩ := s3.keepD d1 d2 d3
        have c4 := s3.moves s2.rs d4
        rw [List.drop_eq_getElem_cons hlt] at e2
        simp only [lc2E] at e2
        cases z1 : g ds[i] st2 with
        | stuck => rw [z1] at e2; cases e2
        | exc y st4 => rw [z1] at e2; cases e2
        | ok u st4 =>
          simp only [z1] at e2
          intro bs bH bC bcl bfp
          refine hg bs bH bC bcl bfp st2 (wipe σ vs) τ2 F3 H3 x _ _ hlw s3.rs gr.res ?_
          rw [z1]
          intro σ4 τ4 F4 H4 hl4 ag4 s4
          have hl4 : σ4.length = X.N.length := hl4
          have hw4 : wipe σ4 vs = wipe σ vs := by
            rw [← wipe_wipe (σ := σ)]
            exact wipe_eq (hl4.trans hlw.symm) fun j hj => ag4 j fun h => hj (hT j h)
          refine ⟨hw4, ?_⟩
          obtain ⟨c1, c2, c3⟩ := s4.keepD c1 c2 c3
          have c4 := s4.moves s3.rs c4
          have s24 : Stp P X.K (wipeS st1 vs) (wipe σ vs ++ τ2) F1 H1 st4 (σ4 ++ (τ2 ++ τ4)) F4 H4 := (s2.trans s3).trans s4
          have back : ∀ (σ5 : St) (st5 : Sto) (τ5 : St) (F5 : Addr → Prop) (H5 : Hp), σ5.length = X.N.length → wipe σ5 vs = wipe σ vs → Stp P X.K (wipeS st1 vs) (wipe σ vs ++ τ2) F1 H1 st5 (σ5 ++ (τ2 ++ τ5)) F5 H5 → H5 A0 ≠ none → ¬ Own st5 (σ5 ++ (τ2 ++ τ5)) A0 →
              Stp P X.K (wipeS st1 vs) (wipe σ vs ++ τ2) F1 H1 (wipeS (st5.take st1.length) vs) (wipe σ vs ++ τ2) F5 H5 ∧ ¬ Own (wipeS (st5.take st1.length) vs) (wipe σ vs ++ τ2) A0 := fun σ5 st5 τ5 F5 H5 hl5 hw5 s5 nn no => by
            rw [← List.append_assoc] at s5 no
            have t5 := s5.trunc (n := st1.length) (by rw [List.length_append, hl5, hst]) (by omega)
            have w5 := Stp.wipe (P := P) t5.rs (fun i h => by rw [hl5]; exact hb i h)
            rw [hw5] at w5
            refine ⟨t5.trans w5, fun o => ?_⟩
            rcases w5.owns A0 o with z | z
            · exact no (own_trunc z)
            · exact nn z
          refine st_of ht hl4 s4.rs fun bs bH bC bcl bfp => ?_
          cases z2 : t st4 with
          | stuck => simp only [z2] at e2; cases e2
          | exc y st5 => simp only [z2] at e2; cases e2
          | ok b st5 =>
            simp only [z2] at e2
            intro τ5 F5 H5 s5
            rw [List.append_assoc] at s5
            obtain ⟨c1, c2, c3⟩ := s5.keepD c1 c2 c3
            have c4 := s5.moves s4.rs c4
            have s25 := s24.trans s5
            cases b with
            | false =>
              have e2 : lc2E st1.length vs vs1 g t it1 g1 t1 e (List.drop (i + 1) ds) acc (wipeS (st5.take st1.length) vs) = .ok accF stF := e2
              obtain ⟨b1, b2⟩ := back σ4 st5 (τ4 ++ τ5) F5 H5 hl4 hw4 s25 (by rw [c1]; exact Option.some_ne_none _) c3
              exact iteF ⟨_, F5, acc, av, b1, c1, c2, b2, c4, e2⟩
            | true =>
              refine iteT fun bs bH bC bcl bfp => ?_
              have hr5 := s5.rs
              refine hi1 bs bH bC bcl bfp st5 σ4 (τ2 ++ (τ4 ++ τ5)) F5 H5 _ hl4 hr5 ?_
              cases z3 : it1 st5 with
              | stuck => simp only [z3] at e2; cases e2
              | exc y st6 => simp only [z3] at e2; cases e2
              | ok es st6 =>
                simp only [z3] at e2
                intro τ6 F6 H6 s6 J1 hJ1
                rw [List.append_assoc, List.append_assoc] at s6
                obtain ⟨c1, c2, c3⟩ := s6.keepD c1 c2 c3
                have c4 := s6.moves hr5 c4
                have s26 := s25.trans s6
                cases z4 : lcE st6.length vs1 g1 t1 e es acc (wipeS st6 vs1) with
                | stuck => simp only [z4] at e2; cases e2
                | exc y st7 => simp only [z4] at e2; cases e2
                | ok acc' st7 =>
                  simp only [z4] at e2
                  refine lc_loop (A0 := A0) hP hT1 hb1 hg1 ht1 he hl4 hD s26 hJ1 c1 c2 c3 c4 z4 fun F7 H7 av7 s7 q1 q2 q3 q4 _ => ?_
                  obtain ⟨b1, b2⟩ := back (wipe σ4 vs1) st7 _ F7 H7 (by rw [wipe_length]; exact hl4) ((wipe_sub hv).trans hw4) s7 (by rw [q1]; exact Option.some_ne_none _) q3
                  exact ⟨_, F7, acc', av7, b1, q1, q2, b2, q4, e2⟩
      · left
        have e : i = ds.length := by omega
        subst e
        rw [List.drop_length] at e2
        obtain ⟨ea, es⟩ : acc = accF ∧ st2 = stF := by cases e2; exact ⟨rfl, rfl⟩
        clear e2
        subst ea
        subst es
        refine ⟨hJ.stop F2 H2 x2, ?_⟩
        have s5 := Stp.unwipe r1 hb' hcv s2
        have hn : ∀ (i : Nat) (k : Bool) (l : List D), (restore st1 vs st2)[i]? = some (.own k l) → (σ ++ τ2)[i]? ≠ some (some (.ref A0)) := fun i k l z1 z2 => by
          by_cases hiv : i ∈ vs
          · have hlen : st2.length = st1.length := by rw [s2.rs.len, r1.len, List.length_append, List.length_append, wipe_length]
            have cvi := List.all_eq_true.mp hcv i hiv
            split at cvi
            · rename_i ez
              rw [restore_in hiv (by rw [hlen]; exact (List.getElem?_eq_some_iff.mp ez).1) ez] at z1; cases z1
            · rename_i dz ez
              rw [restore_in hiv (by rw [hlen]; exact (List.getElem?_eq_some_iff.mp ez).1) ez] at z1; cases z1
            · cases cvi
          · rw [restore_out hiv] at z1
            exact d3 ⟨i, k, l, z1, by rw [wiped_at (fun i h => (hb' i h).2) hiv]; exact z2⟩
        have s6 : Stp P X.K st1 (σ ++ τ2) F1 H1 (restore st1 vs st2 ++ [.own false acc]) (σ ++ τ2 ++ [some (.ref A0)]) F2 H2 := by
          refine ⟨s5.rs.snoc_own hn d1 d2 d4, s5.keep, s5.mono, s5.back, fun a o => ?_, fun j s0 hj ej l => ?_⟩
          · rcases own_snoc s5.rs.len o with z | z
            · exact s5.owns a z
            · cases z; exact .inr hD
          · obtain ⟨g1, s7, g2, g3⟩ := s5.par j s0 hj ej l
            have hj2 := (List.getElem?_eq_some_iff.mp g2).1
            refine ⟨?_, s7, by rw [ap_left hj2]; exact g2, g3⟩
            rw [ap_left (by have := s5.rs.len; omega)]
        rw [List.append_assoc] at s6
        refine q [some (.ref A0)] F2 H2 s6 (.ref A0) ?_
        show (σ ++ (τ2 ++ [some (V.ref A0)]))[(restore st1 vs st2).length]? = some (some (V.ref A0))
        rw [s5.rs.len, ← List.append_assoc]; simp
  · exact q.elim
theorem se_lc2 {own : List (Str × Nat)} {pos : Pos} (hP : P ≤ X.N.length) (hc : X.calm = true) (hN : X.N.Nodup) (ok : BlkOk X.N X.env.scope scope own) (hns : noSet iter = true) (hns1 : noSet iter1 = true) (hf : ifs.length ≤ 1) (hf1 : ifs1.length ≤ 1) (hi : SI X W P tg iter it) (hT : ∀ j ∈ T, j ∈ own.map (·.2)) (hb : ∀ i ∈ own.map (·.2), P ≤ i ∧ i < X.N.length)
    (hg : ∀ s H0 C cl fp, SG (blkX X scope s H0 C cl fp) W0 P tg T g) (ht : STs X scope P ifs t) (hv : ∀ i ∈ vs1, i ∈ own.map (·.2)) (hi1 : ∀ s H0 C cl fp, SI (blkX X scope s H0 C cl fp) W0 P tg1 iter1 it1) (hT1 : ∀ j ∈ T1, j ∈ vs1) (hg1 : ∀ s H0 C cl fp, SG (blkX X scope s H0 C cl fp) W0 P tg1 T1 g1) (ht1 : STs X scope P ifs1 t1)
    (he : ∀ s H0 C cl fp, SE (blkX X scope s H0 C cl fp) W0 P elt e) : SE X W P (.ListComp elt [⟨tg, iter, ifs, 0⟩, ⟨tg1, iter1, ifs1, 0⟩] scope pos) (xLc2 (own.map (·.2)) vs1 it g t it1 g1 t1 e) := fun st σ τ F H Q hl r h =>
  we (pe_lc2 (g := gAll X scope tg) (tt := tAll X scope ifs) (wi1 := iAll X scope tg1 iter1) (g1 := gAll X scope tg1) (tt1 := tAll X scope ifs1) (te := eAll X scope elt) hc hN pI ok hv (fun s H0 C cl fp => ⟨fun pins sh _ _ _ u _ I r h => h s H0 C cl fp pins sh u I r⟩) (pts_all hf)
      (fun s H0 C cl fp => ⟨fun pins sh _ _ _ I h => h s H0 C cl fp pins sh I⟩) (fun s H0 C cl fp => ⟨fun pins sh _ _ _ u _ I r h => h s H0 C cl fp pins sh u I r⟩) (pts_all hf1) (fun s H0 C cl fp => ⟨fun pins sh _ _ _ I h => h s H0 C cl fp pins sh I⟩) (noSet_ok hns X.env) (noSet_ok hns1))
    (lc2_read hP hi hT hb hg ht hv hi1 hT1 hg1 ht1 he hl r h)
theorem ss_setLc2 {own : List (Str × Nat)} {pos spos py : Pos} {y : Str} {j : Nat} (hP : P ≤ X.N.length) (hc : X.calm = true) (hN : X.N.Nodup) (hy : X.N[j]? = some y) (hyl : X.env.scope.names.lookup y = some .local)
    (hsw : swapsWith (.ListComp elt [⟨tg, iter, ifs, 0⟩, ⟨tg1, iter1, ifs1, 0⟩] scope pos) (some (.Name y py)) spos.line X.env = pure true) (ok : BlkOk X.N X.env.scope scope own) (hns : noSet iter = true) (hns1 : noSet iter1 = true) (hf : ifs.length ≤ 1) (hf1 : ifs1.length ≤ 1) (hi : SI X W P tg iter it) (hT : ∀ j ∈ T, j ∈ own.map (·.2)) (hb : ∀ i ∈ own.map (·.2), P ≤ i ∧ i < X.N.length)
    (hg : ∀ s H0 C cl fp, SG (blkX X scope s H0 C cl fp) W0 P tg T g) (ht : STs X scope P ifs t) (hv : ∀ i ∈ vs1, i ∈ own.map (·.2)) (hi1 : ∀ s H0 C cl fp, SI (blkX X scope s H0 C cl fp) W0 P tg1 iter1 it1) (hT1 : ∀ j ∈ T1, j ∈ vs1) (hg1 : ∀ s H0 C cl fp, SG (blkX X scope s H0 C cl fp) W0 P tg1 T1 g1) (ht1 : STs X scope P ifs1 t1)
    (he : ∀ s H0 C cl fp, SE (blkX X scope s H0 C cl fp) W0 P elt e) : SS X W P (.Assign [.Name y py] (.ListComp elt [⟨tg, iter, ifs, 0⟩, ⟨tg1, iter1, ifs1, 0⟩] scope pos) spos) (sSet X.N.length P j (xLc2 (own.map (·.2)) vs1 it g t it1 g1 t1 e)) := fun st σ F H D hl r h => by
  refine ws (ps_setLc2 (g := gAll X scope tg) (tt := tAll X scope ifs) (wi1 := iAll X scope tg1 iter1) (g1 := gAll X scope tg1) (tt1 := tAll X scope ifs1) (te := eAll X scope elt) hc hN hy hyl hsw pI ok hv (fun s H0 C cl fp => ⟨fun pins sh _ _ _ u _ I r h => h s H0 C cl fp pins sh u I r⟩) (pts_all hf)
      (fun s H0 C cl fp => ⟨fun pins sh _ _ _ I h => h s H0 C cl fp pins sh I⟩) (fun s H0 C cl fp => ⟨fun pins sh _ _ _ u _ I r h => h s H0 C cl fp pins sh u I r⟩) (pts_all hf1) (fun s H0 C cl fp => ⟨fun pins sh _ _ _ I h => h s H0 C cl fp pins sh I⟩) (noSet_ok hns X.env) (noSet_ok hns1))
    (lc2_read hP hi hT hb hg ht hv hi1 hT1 hg1 ht1 he hl (rs0 r) ((PostS.bind0 hl hP h).imp fun v st1 τ1 F1 H1 s1 _ q x rv => ?_))
  exact set_end hl hP (List.getElem?_eq_some_iff.mp hy).1 s1.rs rv q
end
end PU
namespace PU
open PySem PySem.Spec PyProof.Rows L2
/-! ### zip of lists and tuples in any mixture -/
def SqK (k : Bool) (K : PySem.W.Frag) (H : Hp) (a : Addr) (xs : List V) : Prop := match k with
  | true => SqL K H a xs
  | false => SqT K H a xs
def ItK (k : Bool) (h : Heap) (it a : Addr) (i : Nat) : Prop := match k with
  | true => h.IsListIter it a i
  | false => h.IsTupleIter it a i
theorem ItK.at {k : Bool} {h h' : Heap} {it a : Addr} {i : Nat} (x : ItK k h it a i) (hk : ∀ o, h.get? it = some o → h'.get? it = some o) : ItK k h' it a i := by
  cases k
  · exact Heap.IsTupleIter.at x hk
  · exact Heap.IsListIter.at x hk
theorem ItK.ex {k : Bool} {h : Heap} {it a : Addr} {i : Nat} (x : ItK k h it a i) : ∃ o, h.get? it = some o ∧ ∀ v, o.data ≠ .cell v := by
  cases k
  · obtain ⟨o, e, _, d⟩ := x; exact ⟨o, e, fun v q => by rw [d] at q; cases q⟩
  · obtain ⟨o, e, _, d⟩ := x; exact ⟨o, e, fun v q => by rw [d] at q; cases q⟩
section
variable {X : Cx} {pins : List (Addr × Obj)} {σ : St} {H : Hp} {s : Shared} {a : Addr} {xs ys : List V} {k : Bool}
theorem SqK.inj (I : Inv X pins σ H s) (h : SqK k X.K H a xs) (h' : SqK k X.K H a ys) : xs = ys := by
  cases k
  · exact I.tuple_inj h h'
  · exact I.list_inj h h'
/-- what an iterator over such a one draws -/
theorem SqK.draws (hc : X.calm = true) (I : Inv X pins σ H s) (h : SqK k X.K H a xs) {it : Addr} (hne : a ≠ it) : ∃ (its : Array Value) (St : Nat → Heap → Prop), Vals xs its.toList ∧ Draws X.prog X.w X.A.in1 it [it, a] its.size (fun i v => its[i]? = some v) St ∧ (∀ i, ItK k s.heap it a i → St i s.heap) ∧ ∀ i h', St i h' → ItK k h' it a i := by
  cases k
  · obtain ⟨its, rv, tp, _⟩ := I.tuple h
    exact ⟨its.toArray, _, by simpa using rv, Draws.tuple (A := X.A.in1) (I.ok.hd hc) it a hne its.toArray, fun i q => ⟨q, tp⟩, fun i h' q => q.1⟩
  · obtain ⟨its, rv, tp, _⟩ := I.list h
    exact ⟨its.toArray, _, by simpa using rv, Draws.list (A := X.A.in1) (I.ok.hd hc) it a hne its.toArray, fun i q => ⟨q, tp.isList⟩, fun i h' q => q.1⟩
theorem SqK.lt (I : Inv X pins σ H s) (h : SqK k X.K H a xs) : a < s.heap.objs.size := by
  cases k
  · obtain ⟨its, rv, ⟨o, ho, _⟩, _⟩ := I.tuple h; exact Heap.lt_size ho
  · obtain ⟨its, rv, p, _⟩ := I.list h; exact p.lt
/-- what iter() makes of such a one -/
theorem SqK.begins (I : Inv X pins σ H s) (h : SqK k X.K H a xs) : ∃ (o : Obj) (Hs : Heap → Prop), Begins (.ref a) o Hs ∧ Hs s.heap ∧ ∀ h' it, Heap.get? h' it = some o → ItK k h' it a 0 := by
  cases k
  · obtain ⟨its, rv, tp, _⟩ := I.tuple h
    exact ⟨_, _, begins_tuple a its.toArray, tp, fun h' it e => ⟨_, e, rfl, rfl⟩⟩
  · obtain ⟨its, rv, tp, _⟩ := I.list h
    exact ⟨_, _, begins_list a its.toArray, tp.isList, fun h' it e => ⟨_, e, rfl, rfl⟩⟩
end
theorem vals_at {xs : List V} {its : Array Value} (r : Vals xs its.toList) {i : Nat} {x : V} (h : xs[i]? = some x) : ∃ u, its[i]? = some u ∧ RelV x u ∧ i < its.size := by
  obtain ⟨u, hu, ru⟩ := r.get h
  refine ⟨u, by rw [← hu, Array.getElem?_toList], ru, ?_⟩
  have := (List.getElem?_eq_some_iff.mp hu).1
  simpa using this
theorem vals_sz {xs : List V} {its : Array Value} (r : Vals xs its.toList) : its.size = xs.length := by
  have := r.length; simpa using this.symm
theorem neA {a b : Nat} (h : a ≠ b) : (a : Addr) ≠ (b : Addr) := h
theorem noA {x a b : Nat} (h1 : x ≠ a) (h2 : x ≠ b) : (x : Addr) ∉ ([a, b] : List Addr) := fun h => by
  rcases List.mem_cons.mp h with e | h
  · exact h1 e
  · exact h2 (List.mem_singleton.mp h)
theorem sepZ2 (n a b : Nat) (ha : a < n) (hb : b < n) : ZipSep2 (n + 4) (n + 2) (n + 3) (n) (n + 1) [n, a] [n + 1, b] where
  TIz := neA (by omega)
  TOz := neA (by omega)
  TITO := neA (by omega)
  TIi1 := neA (by omega)
  mem1 := List.mem_cons_self ..
  zf1 := noA (by omega) (by omega)
  Tf1 := noA (by omega) (by omega)
  TIi2 := neA (by omega)
  mem2 := List.mem_cons_self ..
  zf2 := noA (by omega) (by omega)
  Tf2 := noA (by omega) (by omega)
  sep1_2 := noA (by omega) (by omega)
  sep2_1 := noA (by omega) (by omega)
theorem sepZ3 (n a b c : Nat) (ha : a < n) (hb : b < n) (hc : c < n) : ZipSep3 (n + 5) (n + 3) (n + 4) (n) (n + 1) (n + 2) [n, a] [n + 1, b] [n + 2, c] where
  TIz := neA (by omega)
  TOz := neA (by omega)
  TITO := neA (by omega)
  TIi1 := neA (by omega)
  mem1 := List.mem_cons_self ..
  zf1 := noA (by omega) (by omega)
  Tf1 := noA (by omega) (by omega)
  TIi2 := neA (by omega)
  mem2 := List.mem_cons_self ..
  zf2 := noA (by omega) (by omega)
  Tf2 := noA (by omega) (by omega)
  TIi3 := neA (by omega)
  mem3 := List.mem_cons_self ..
  zf3 := noA (by omega) (by omega)
  Tf3 := noA (by omega) (by omega)
  sep1_2 := noA (by omega) (by omega)
  sep1_3 := noA (by omega) (by omega)
  sep2_1 := noA (by omega) (by omega)
  sep2_3 := noA (by omega) (by omega)
  sep3_1 := noA (by omega) (by omega)
  sep3_2 := noA (by omega) (by omega)
theorem fpZ2 (n c : Nat) (h : c ∈ [n + 4, n + 2, n + 3, n, n + 1]) : n ≤ c := by
  simp at h; omega
theorem fpZ3 (n c : Nat) (h : c ∈ [n + 5, n + 3, n + 4, n, n + 1, n + 2]) : n ≤ c := by
  simp at h; omega
theorem neZ (n a k : Nat) (h : a < n) : (a : Addr) ≠ ((n + k : Nat) : Addr) := neA (by omega)
def ItzK (k1 k2 : Bool) (K : PySem.W.Frag) (a1 a2 : Addr) : It :=
  ⟨fun i H => ∃ (xs1 xs2 : List V) (x1 x2 : V), SqK k1 K H a1 xs1 ∧ SqK k2 K H a2 xs2 ∧ xs1[i]? = some x1 ∧ xs2[i]? = some x2,
    fun i H v H' => ∃ T x1 x2, v = .ref T ∧ H T = none ∧ H' = upd H T (.tup [x1, x2]) ∧ (∀ xs, SqK k1 K H a1 xs → xs[i]? = some x1) ∧ (∀ xs, SqK k2 K H a2 xs → xs[i]? = some x2),
    fun i H => ∃ xs1 xs2 : List V, SqK k1 K H a1 xs1 ∧ SqK k2 K H a2 xs2 ∧ i ≤ xs1.length ∧ i ≤ xs2.length ∧ (i = xs1.length ∨ i = xs2.length)⟩
theorem turn_zipK2 {P : Program} {w : World} {K : PySem.W.Frag} {elts : List Expr} {kk : Nat} {tpos : Pos} {k1 k2 : Bool} {a1 a2 z TI TO i1 i2 : Addr} (S : ZipSep2 z TI TO i1 i2 [i1, a1] [i2, a2]) (n1 : a1 ≠ i1) (n2 : a2 ≠ i2) :
    Turn P w K (.Tuple elts kk tpos) (ItzK k1 k2 K a1 a2) [z, TI, TO, i1, i2] z (fun i h => IsZip h z TI TO .none ∧ IsTupOf2 h TI (.ref i1) (.ref i2) ∧ (∃ y1 y2, IsTupOf2 h TO y1 y2) ∧ ItK k1 h i1 a1 i ∧ ItK k2 h i2 a2 i) where
  mem := by simp
  obj := fun i h st c hc => by
    obtain ⟨hz, hTI, ⟨y1, y2, hTO⟩, h1, h2⟩ := st
    have e' : c = z ∨ c = TI ∨ c = TO ∨ c = i1 ∨ c = i2 := by simpa using hc
    rcases e' with q | q | q | q | q
    · rw [q]; exact ⟨_, hz, fun v q => nomatch q⟩
    · rw [q]; exact ⟨_, hTI, fun v q => nomatch q⟩
    · rw [q]; exact ⟨_, hTO, fun v q => nomatch q⟩
    · rw [q]; exact h1.ex
    · rw [q]; exact h2.ex
  keep := fun i h h' st k => by
    obtain ⟨hz, hTI, ⟨y1, y2, hTO⟩, h1, h2⟩ := st
    exact ⟨k z (by simp) _ hz, k TI (by simp) _ hTI, ⟨y1, y2, k TO (by simp) _ hTO⟩, h1.at fun o q => k i1 (by simp) o q, h2.at fun o q => k i2 (by simp) o q⟩
  item := by
    intro X hP hw hK hc i pins s σ H E I hf st hg
    subst hP hw hK
    obtain ⟨hz, hTI, ⟨y1, y2, hTO⟩, h1, h2⟩ := st
    obtain ⟨xs1, xs2, x1, x2, q1, q2, g1, g2⟩ := hg
    obtain ⟨its1, St1, rv1, D1, to1, fr1⟩ := q1.draws hc I n1
    obtain ⟨u1, hu1, ru1, lt1⟩ := vals_at rv1 g1
    obtain ⟨its2, St2, rv2, D2, to2, fr2⟩ := q2.draws hc I n2
    obtain ⟨u2, hu2, ru2, lt2⟩ := vals_at rv2 g2
    have hzl : z < s.heap.objs.size := Heap.lt_size hz
    refine wpAny_pyNext_zipD2_item S D1 D2 hz hTI hTO (to1 i h1) (to2 i h2) lt1 lt2 fun v1 v2 h' tk e1 e2 z' TO' s1 s2 hT hsz hk => ?_
    rw [hu1] at e1
    cases e1
    rw [hu2] at e2
    cases e2
    refine ⟨_, rfl, wpAny_letOwnedTupleGo_zip (s := { s with heap := h', toks := tk }) z' fun h'' z'' sb => ?_⟩
    have hT2 : h''.get? s.heap.objs.size = some { cls := .type "tuple", data := .seq #[u1, u2] } := (sb.2 _ (Nat.ne_of_gt hzl)).trans hT
    have new : ObjOk X.prog X.w (upd H s.heap.objs.size (.tup [x1, x2])) h'' s.heap.objs.size (.tup [x1, x2]) :=
      ⟨by show 2 ≤ sizeLine; decide, [u1, u2], .cons ru1 (.cons ru2 .nil), ⟨_, hT2, rfl, _, rfl⟩⟩
    have I1 : Inv X pins σ (upd H s.heap.objs.size (.tup [x1, x2])) { s with heap := h'', toks := tk } :=
      I.turnedNew (ch := [z, TI, TO, i1, i2]) (fun c o hb q => (sb.2 c (fun q' => hb (by simp [q']))).trans (hk c o (fun q' => hb (by simp [q'])) (fun q' => hb (by simp [q'])) (fun q' => hb (by simp [q'])) (fun q' => hb (by simp [q'])) q)) hf (Nat.le_refl _) new
    refine ⟨.ref s.heap.objs.size, _, I1, rfl, ⟨_, x1, x2, rfl, I.hok.fresh (Nat.le_refl _), rfl, fun l hl => by rw [SqK.inj I hl q1]; exact g1, fun l hl => by rw [SqK.inj I hl q2]; exact g2⟩, ⟨z'', ?_, ⟨u1, u2, ?_⟩, ?_, ?_⟩, fun c hcm => ?_⟩
    · exact (sb.2 _ S.TIz).trans (hk _ _ S.TIz S.TITO S.TIi1 S.TIi2 hTI)
    · exact (sb.2 _ S.TOz).trans TO'
    · exact (fr1 _ _ s1).at fun o q => (sb.2 _ (Ne.symm S.zi1)).trans q
    · exact (fr2 _ _ s2).at fun o q => (sb.2 _ (Ne.symm S.zi2)).trans q
    · have hlt : c < s.heap.objs.size := by
        have e' : c = z ∨ c = TI ∨ c = TO ∨ c = i1 ∨ c = i2 := by simpa using hcm
        rcases e' with q | q | q | q | q
        · rw [q]; exact hzl
        · rw [q]; exact Heap.lt_size hTI
        · rw [q]; exact Heap.lt_size hTO
        · rw [q]; obtain ⟨_, e1, _⟩ := h1.ex; exact Heap.lt_size e1
        · rw [q]; obtain ⟨_, e1, _⟩ := h2.ex; exact Heap.lt_size e1
      rw [upd_ne (Nat.ne_of_lt hlt)]
      exact (hf c hcm).1
  done := by
    intro X hP hw hK hc i pins s σ H E I hf st hg
    subst hP hw hK
    obtain ⟨hz, hTI, ⟨y1, y2, hTO⟩, h1, h2⟩ := st
    obtain ⟨xs1, xs2, q1, q2, l1, l2, hend⟩ := hg
    obtain ⟨its1, St1, rv1, D1, to1, fr1⟩ := q1.draws hc I n1
    rw [← vals_sz rv1] at l1 hend
    obtain ⟨its2, St2, rv2, D2, to2, fr2⟩ := q2.draws hc I n2
    rw [← vals_sz rv2] at l2 hend
    exact wpAny_pyNext_zipD2_end S D1 D2 hz hTI hTO (to1 i h1) (to2 i h2) l1 l2 hend fun h' tk hk => ⟨rfl, I.turnedL (t' := tk) (ch := [z, TI, TO, i1, i2]) (fun c o hb q =>
      hk c o (fun q' => hb (by simp [q'])) (fun q' => hb (by simp [q'])) (fun q' => hb (by simp [q'])) (fun q' => hb (by simp [q'])) q) hf⟩
  self := fun A i s Q E st h => wpAny_pyIter_zip st.1 h
def iZipK (K : PySem.W.Frag) (ta : TA) : TI := fun σ H R => ta σ H fun vs H1 => ∃ k1 k2 a1 a2 xs1 xs2, vs = [.ref a1, .ref a2] ∧ SqK k1 K H1 a1 xs1 ∧ SqK k2 K H1 a2 xs2 ∧ R (ItzK k1 k2 K a1 a2) H1
theorem pi_zipK2 {X : Cx} {e1 e2 : Expr} {ta : TA} {p pos tpos : Pos} {elts : List Expr} {kk : Nat} (hg : Gl X "zip") (hm : X.mg "zip" = none) (ha : PA X [e1, e2] ta)
    (hs : starEach [e1, e2] X.env = (false, eval e1 X.env) :: starEach [e2] X.env) (hpl : (backTo pos (starEach [e2] X.env)).any (·.1) = false) :
    PI X (.Tuple elts kk tpos) (.Call (.Name "zip" p) [e1, e2] [] pos) (iZipK X.K ta) := by
  refine ⟨fun pins s σ H R I h => ?_⟩
  refine Call_ (ld_blt I hg hm PyProof.Rows.boot_zip (PyProof.Rows.callWith_type1 (thn (ha.run pos pins s σ H _ I h) fun us s1 ⟨vs, H1, I1, r1, q1⟩ => ?_) hs hpl))
  obtain ⟨k1, k2, a1, a2, xs1, xs2, ex, q1, q2, q⟩ := q1
  subst ex
  cases r1 with
  | cons r1v r1 =>
    cases r1 with
    | cons r2v r1 =>
      cases r1
      cases r1v
      cases r2v
      obtain ⟨o1, Hs1, B1, hs1, t1⟩ := q1.begins I1
      have la1 := q1.lt I1
      obtain ⟨o2, Hs2, B2, hs2, t2⟩ := q2.begins I1
      have la2 := q2.lt I1
      refine zip_begins2 B1 B2 hs1 hs2 fun h' hz hTI hTO g1 g2 hsz hk => wpAny_pyIter_zip hz ?_
      have I2 : Inv X pins σ H1 { s1 with heap := h' } := I1.kept (t' := s1.toks) hk
      have S : ZipSep2 (s1.heap.objs.size + 4) (s1.heap.objs.size + 2) (s1.heap.objs.size + 3) (s1.heap.objs.size) (s1.heap.objs.size + 1) [s1.heap.objs.size, a1] [s1.heap.objs.size + 1, a2] := sepZ2 _ _ _ la1 la2
      have inFp : ∀ c ∈ [s1.heap.objs.size + 4, s1.heap.objs.size + 2, s1.heap.objs.size + 3, s1.heap.objs.size, s1.heap.objs.size + 1], s1.heap.objs.size ≤ c := fun c hcm => fpZ2 _ _ hcm
      exact ⟨s1.heap.objs.size + 4, [s1.heap.objs.size + 4, s1.heap.objs.size + 2, s1.heap.objs.size + 3, s1.heap.objs.size, s1.heap.objs.size + 1], _, _, H1, rfl, I2, turn_zipK2 S (Nat.ne_of_lt la1) (neZ _ _ 1 la2), ⟨hz, hTI, ⟨_, _, hTO⟩, t1 _ _ g1, t2 _ _ g2⟩, fun c hcm => I1.fpOk (inFp c hcm) (I1.hok.fresh (inFp c hcm)), q⟩
def ItzK3 (k1 k2 k3 : Bool) (K : PySem.W.Frag) (a1 a2 a3 : Addr) : It :=
  ⟨fun i H => ∃ (xs1 xs2 xs3 : List V) (x1 x2 x3 : V), SqK k1 K H a1 xs1 ∧ SqK k2 K H a2 xs2 ∧ SqK k3 K H a3 xs3 ∧ xs1[i]? = some x1 ∧ xs2[i]? = some x2 ∧ xs3[i]? = some x3,
    fun i H v H' => ∃ T x1 x2 x3, v = .ref T ∧ H T = none ∧ H' = upd H T (.tup [x1, x2, x3]) ∧ (∀ xs, SqK k1 K H a1 xs → xs[i]? = some x1) ∧ (∀ xs, SqK k2 K H a2 xs → xs[i]? = some x2) ∧ (∀ xs, SqK k3 K H a3 xs → xs[i]? = some x3),
    fun i H => ∃ xs1 xs2 xs3 : List V, SqK k1 K H a1 xs1 ∧ SqK k2 K H a2 xs2 ∧ SqK k3 K H a3 xs3 ∧ i ≤ xs1.length ∧ i ≤ xs2.length ∧ i ≤ xs3.length ∧ (i = xs1.length ∨ i = xs2.length ∨ i = xs3.length)⟩
theorem turn_zipK3 {P : Program} {w : World} {K : PySem.W.Frag} {elts : List Expr} {kk : Nat} {tpos : Pos} {k1 k2 k3 : Bool} {a1 a2 a3 z TI TO i1 i2 i3 : Addr} (S : ZipSep3 z TI TO i1 i2 i3 [i1, a1] [i2, a2] [i3, a3]) (n1 : a1 ≠ i1) (n2 : a2 ≠ i2) (n3 : a3 ≠ i3) :
    Turn P w K (.Tuple elts kk tpos) (ItzK3 k1 k2 k3 K a1 a2 a3) [z, TI, TO, i1, i2, i3] z (fun i h => IsZip h z TI TO .none ∧ IsTupOf3 h TI (.ref i1) (.ref i2) (.ref i3) ∧ (∃ y1 y2 y3, IsTupOf3 h TO y1 y2 y3) ∧ ItK k1 h i1 a1 i ∧ ItK k2 h i2 a2 i ∧ ItK k3 h i3 a3 i) where
  mem := by simp
  obj := fun i h st c hc => by
    obtain ⟨hz, hTI, ⟨y1, y2, y3, hTO⟩, h1, h2, h3⟩ := st
    have e' : c = z ∨ c = TI ∨ c = TO ∨ c = i1 ∨ c = i2 ∨ c = i3 := by simpa using hc
    rcases e' with q | q | q | q | q | q
    · rw [q]; exact ⟨_, hz, fun v q => nomatch q⟩
    · rw [q]; exact ⟨_, hTI, fun v q => nomatch q⟩
    · rw [q]; exact ⟨_, hTO, fun v q => nomatch q⟩
    · rw [q]; exact h1.ex
    · rw [q]; exact h2.ex
    · rw [q]; exact h3.ex
  keep := fun i h h' st k => by
    obtain ⟨hz, hTI, ⟨y1, y2, y3, hTO⟩, h1, h2, h3⟩ := st
    exact ⟨k z (by simp) _ hz, k TI (by simp) _ hTI, ⟨y1, y2, y3, k TO (by simp) _ hTO⟩, h1.at fun o q => k i1 (by simp) o q, h2.at fun o q => k i2 (by simp) o q, h3.at fun o q => k i3 (by simp) o q⟩
  item := by
    intro X hP hw hK hc i pins s σ H E I hf st hg
    subst hP hw hK
    obtain ⟨hz, hTI, ⟨y1, y2, y3, hTO⟩, h1, h2, h3⟩ := st
    obtain ⟨xs1, xs2, xs3, x1, x2, x3, q1, q2, q3, g1, g2, g3⟩ := hg
    obtain ⟨its1, St1, rv1, D1, to1, fr1⟩ := q1.draws hc I n1
    obtain ⟨u1, hu1, ru1, lt1⟩ := vals_at rv1 g1
    obtain ⟨its2, St2, rv2, D2, to2, fr2⟩ := q2.draws hc I n2
    obtain ⟨u2, hu2, ru2, lt2⟩ := vals_at rv2 g2
    obtain ⟨its3, St3, rv3, D3, to3, fr3⟩ := q3.draws hc I n3
    obtain ⟨u3, hu3, ru3, lt3⟩ := vals_at rv3 g3
    have hzl : z < s.heap.objs.size := Heap.lt_size hz
    refine wpAny_pyNext_zipD3_item S D1 D2 D3 hz hTI hTO (to1 i h1) (to2 i h2) (to3 i h3) lt1 lt2 lt3 fun v1 v2 v3 h' tk e1 e2 e3 z' TO' s1 s2 s3 hT hsz hk => ?_
    rw [hu1] at e1
    cases e1
    rw [hu2] at e2
    cases e2
    rw [hu3] at e3
    cases e3
    refine ⟨_, rfl, wpAny_letOwnedTupleGo_zip (s := { s with heap := h', toks := tk }) z' fun h'' z'' sb => ?_⟩
    have hT2 : h''.get? s.heap.objs.size = some { cls := .type "tuple", data := .seq #[u1, u2, u3] } := (sb.2 _ (Nat.ne_of_gt hzl)).trans hT
    have new : ObjOk X.prog X.w (upd H s.heap.objs.size (.tup [x1, x2, x3])) h'' s.heap.objs.size (.tup [x1, x2, x3]) :=
      ⟨by show 3 ≤ sizeLine; decide, [u1, u2, u3], .cons ru1 (.cons ru2 (.cons ru3 .nil)), ⟨_, hT2, rfl, _, rfl⟩⟩
    have I1 : Inv X pins σ (upd H s.heap.objs.size (.tup [x1, x2, x3])) { s with heap := h'', toks := tk } :=
      I.turnedNew (ch := [z, TI, TO, i1, i2, i3]) (fun c o hb q => (sb.2 c (fun q' => hb (by simp [q']))).trans (hk c o (fun q' => hb (by simp [q'])) (fun q' => hb (by simp [q'])) (fun q' => hb (by simp [q'])) (fun q' => hb (by simp [q'])) (fun q' => hb (by simp [q'])) q)) hf (Nat.le_refl _) new
    refine ⟨.ref s.heap.objs.size, _, I1, rfl, ⟨_, x1, x2, x3, rfl, I.hok.fresh (Nat.le_refl _), rfl, fun l hl => by rw [SqK.inj I hl q1]; exact g1, fun l hl => by rw [SqK.inj I hl q2]; exact g2, fun l hl => by rw [SqK.inj I hl q3]; exact g3⟩, ⟨z'', ?_, ⟨u1, u2, u3, ?_⟩, ?_, ?_, ?_⟩, fun c hcm => ?_⟩
    · exact (sb.2 _ S.TIz).trans (hk _ _ S.TIz S.TITO S.TIi1 S.TIi2 S.TIi3 hTI)
    · exact (sb.2 _ S.TOz).trans TO'
    · exact (fr1 _ _ s1).at fun o q => (sb.2 _ (Ne.symm S.zi1)).trans q
    · exact (fr2 _ _ s2).at fun o q => (sb.2 _ (Ne.symm S.zi2)).trans q
    · exact (fr3 _ _ s3).at fun o q => (sb.2 _ (Ne.symm S.zi3)).trans q
    · have hlt : c < s.heap.objs.size := by
        have e' : c = z ∨ c = TI ∨ c = TO ∨ c = i1 ∨ c = i2 ∨ c = i3 := by simpa using hcm
        rcases e' with q | q | q | q | q | q
        · rw [q]; exact hzl
        · rw [q]; exact Heap.lt_size hTI
        · rw [q]; exact Heap.lt_size hTO
        · rw [q]; obtain ⟨_, e1, _⟩ := h1.ex; exact Heap.lt_size e1
        · rw [q]; obtain ⟨_, e1, _⟩ := h2.ex; exact Heap.lt_size e1
        · rw [q]; obtain ⟨_, e1, _⟩ := h3.ex; exact Heap.lt_size e1
      rw [upd_ne (Nat.ne_of_lt hlt)]
      exact (hf c hcm).1
  done := by
    intro X hP hw hK hc i pins s σ H E I hf st hg
    subst hP hw hK
    obtain ⟨hz, hTI, ⟨y1, y2, y3, hTO⟩, h1, h2, h3⟩ := st
    obtain ⟨xs1, xs2, xs3, q1, q2, q3, l1, l2, l3, hend⟩ := hg
    obtain ⟨its1, St1, rv1, D1, to1, fr1⟩ := q1.draws hc I n1
    rw [← vals_sz rv1] at l1 hend
    obtain ⟨its2, St2, rv2, D2, to2, fr2⟩ := q2.draws hc I n2
    rw [← vals_sz rv2] at l2 hend
    obtain ⟨its3, St3, rv3, D3, to3, fr3⟩ := q3.draws hc I n3
    rw [← vals_sz rv3] at l3 hend
    exact wpAny_pyNext_zipD3_end S D1 D2 D3 hz hTI hTO (to1 i h1) (to2 i h2) (to3 i h3) l1 l2 l3 hend fun h' tk hk => ⟨rfl, I.turnedL (t' := tk) (ch := [z, TI, TO, i1, i2, i3]) (fun c o hb q =>
      hk c o (fun q' => hb (by simp [q'])) (fun q' => hb (by simp [q'])) (fun q' => hb (by simp [q'])) (fun q' => hb (by simp [q'])) (fun q' => hb (by simp [q'])) q) hf⟩
  self := fun A i s Q E st h => wpAny_pyIter_zip st.1 h
def iZipK3 (K : PySem.W.Frag) (ta : TA) : TI := fun σ H R => ta σ H fun vs H1 => ∃ k1 k2 k3 a1 a2 a3 xs1 xs2 xs3, vs = [.ref a1, .ref a2, .ref a3] ∧ SqK k1 K H1 a1 xs1 ∧ SqK k2 K H1 a2 xs2 ∧ SqK k3 K H1 a3 xs3 ∧ R (ItzK3 k1 k2 k3 K a1 a2 a3) H1
theorem pi_zipK3 {X : Cx} {e1 e2 e3 : Expr} {ta : TA} {p pos tpos : Pos} {elts : List Expr} {kk : Nat} (hg : Gl X "zip") (hm : X.mg "zip" = none) (ha : PA X [e1, e2, e3] ta)
    (hs : starEach [e1, e2, e3] X.env = (false, eval e1 X.env) :: starEach [e2, e3] X.env) (hpl : (backTo pos (starEach [e2, e3] X.env)).any (·.1) = false) :
    PI X (.Tuple elts kk tpos) (.Call (.Name "zip" p) [e1, e2, e3] [] pos) (iZipK3 X.K ta) := by
  refine ⟨fun pins s σ H R I h => ?_⟩
  refine Call_ (ld_blt I hg hm PyProof.Rows.boot_zip (PyProof.Rows.callWith_type1 (thn (ha.run pos pins s σ H _ I h) fun us s1 ⟨vs, H1, I1, r1, q1⟩ => ?_) hs hpl))
  obtain ⟨k1, k2, k3, a1, a2, a3, xs1, xs2, xs3, ex, q1, q2, q3, q⟩ := q1
  subst ex
  cases r1 with
  | cons r1v r1 =>
    cases r1 with
    | cons r2v r1 =>
      cases r1 with
      | cons r3v r1 =>
        cases r1
        cases r1v
        cases r2v
        cases r3v
        obtain ⟨o1, Hs1, B1, hs1, t1⟩ := q1.begins I1
        have la1 := q1.lt I1
        obtain ⟨o2, Hs2, B2, hs2, t2⟩ := q2.begins I1
        have la2 := q2.lt I1
        obtain ⟨o3, Hs3, B3, hs3, t3⟩ := q3.begins I1
        have la3 := q3.lt I1
        refine zip_begins3 B1 B2 B3 hs1 hs2 hs3 fun h' hz hTI hTO g1 g2 g3 hsz hk => wpAny_pyIter_zip hz ?_
        have I2 : Inv X pins σ H1 { s1 with heap := h' } := I1.kept (t' := s1.toks) hk
        have S : ZipSep3 (s1.heap.objs.size + 5) (s1.heap.objs.size + 3) (s1.heap.objs.size + 4) (s1.heap.objs.size) (s1.heap.objs.size + 1) (s1.heap.objs.size + 2) [s1.heap.objs.size, a1] [s1.heap.objs.size + 1, a2] [s1.heap.objs.size + 2, a3] := sepZ3 _ _ _ _ la1 la2 la3
        have inFp : ∀ c ∈ [s1.heap.objs.size + 5, s1.heap.objs.size + 3, s1.heap.objs.size + 4, s1.heap.objs.size, s1.heap.objs.size + 1, s1.heap.objs.size + 2], s1.heap.objs.size ≤ c := fun c hcm => fpZ3 _ _ hcm
        exact ⟨s1.heap.objs.size + 5, [s1.heap.objs.size + 5, s1.heap.objs.size + 3, s1.heap.objs.size + 4, s1.heap.objs.size, s1.heap.objs.size + 1, s1.heap.objs.size + 2], _, _, H1, rfl, I2, turn_zipK3 S (Nat.ne_of_lt la1) (neZ _ _ 1 la2) (neZ _ _ 2 la3), ⟨hz, hTI, ⟨_, _, _, hTO⟩, t1 _ _ g1, t2 _ _ g2, t3 _ _ g3⟩, fun c hcm => I1.fpOk (inFp c hcm) (I1.hok.fresh (inFp c hcm)), q⟩
/-! zip as what is walked -/
def kindD : D → Bool
  | .lst _ => true
  | _ => false
section
variable {K : PySem.W.Frag} {F F0 : Addr → Prop} {H H0 : Hp}
theorem Rp.sqK {x : V} {d : D} {ds : List D} (r : Rp K F H x d) (h : asLT d = some ds) : ∃ a vs, x = .ref a ∧ SqK (kindD d) K H a vs ∧ Rps K F H vs ds := by
  cases d with
  | lst es => cases h; exact r.sqL
  | tup es => cases h; exact r.sqT
  | _ => cases h
theorem itok_zipK {a b : Addr} {d e : D} {ds es : List D} (h1 : asLT d = some ds) (h2 : asLT e = some es) (r : Rp K F0 H0 (.ref a) d) (q : Rp K F0 H0 (.ref b) e) : ItOk K (ItzK (kindD d) (kindD e) K a b) (zipD ds es) F0 H0 where
  go := fun F H i d e lv hd => by
    obtain ⟨_, vs, e1, s1, s2⟩ := (r.moveK e.1 e.2).sqK h1
    cases e1
    obtain ⟨_, ws, e1, t1, t2⟩ := (q.moveK e.1 e.2).sqK h2
    cases e1
    obtain ⟨x, y, hx, hy, rfl⟩ := zipD_get hd
    obtain ⟨v, h1, h2⟩ := s2.get hx
    obtain ⟨w, h3, h4⟩ := t2.get hy
    refine ⟨⟨vs, ws, v, w, s1, t1, h1, h3⟩, fun x H' y => ?_⟩
    obtain ⟨T, v', w', rfl, hT, rfl, y1, y2⟩ := y
    have z1 := y1 vs s1
    have z2 := y2 ws t1
    rw [h1] at z1
    rw [h3] at z2
    cases z1; cases z2
    exact pair_grow lv hT h2 h4
  stop := fun F H e => by
    obtain ⟨_, vs, e1, s1, s2⟩ := (r.moveK e.1 e.2).sqK h1
    cases e1
    obtain ⟨_, ws, e1, t1, t2⟩ := (q.moveK e.1 e.2).sqK h2
    cases e1
    refine ⟨vs, ws, s1, t1, ?_⟩
    unfold zipD
    rw [List.length_map, List.length_zip, s2.length, t2.length]
    omega
def zipD3 (ds es fs : List D) : List D := (ds.zip (es.zip fs)).map fun p => .tup [p.1, p.2.1, p.2.2]
theorem zipD3_get {ds es fs : List D} {i : Nat} {d : D} (h : (zipD3 ds es fs)[i]? = some d) : ∃ x y z, ds[i]? = some x ∧ es[i]? = some y ∧ fs[i]? = some z ∧ d = .tup [x, y, z] := by
  unfold zipD3 at h
  rw [List.getElem?_map, Option.map_eq_some_iff] at h
  obtain ⟨⟨x, y, z⟩, h, rfl⟩ := h
  rw [List.getElem?_zip_eq_some] at h
  obtain ⟨h1, h2⟩ := h
  rw [List.getElem?_zip_eq_some] at h2
  exact ⟨x, y, z, h1, h2.1, h2.2, rfl⟩
theorem itok_zipK3 {a b c : Addr} {d e f : D} {ds es fs : List D} (h1 : asLT d = some ds) (h2 : asLT e = some es) (h3 : asLT f = some fs) (r : Rp K F0 H0 (.ref a) d) (q : Rp K F0 H0 (.ref b) e) (p : Rp K F0 H0 (.ref c) f) : ItOk K (ItzK3 (kindD d) (kindD e) (kindD f) K a b c) (zipD3 ds es fs) F0 H0 where
  go := fun F H i d e lv hd => by
    obtain ⟨_, vs, e1, s1, s2⟩ := (r.moveK e.1 e.2).sqK h1
    cases e1
    obtain ⟨_, ws, e1, t1, t2⟩ := (q.moveK e.1 e.2).sqK h2
    cases e1
    obtain ⟨_, us, e1, u1, u2⟩ := (p.moveK e.1 e.2).sqK h3
    cases e1
    obtain ⟨x, y, z, hx, hy, hz, rfl⟩ := zipD3_get hd
    obtain ⟨v, h1, h2⟩ := s2.get hx
    obtain ⟨w, h3, h4⟩ := t2.get hy
    obtain ⟨u, h5, h6⟩ := u2.get hz
    refine ⟨⟨vs, ws, us, v, w, u, s1, t1, u1, h1, h3, h5⟩, fun x H' y => ?_⟩
    obtain ⟨T, v', w', u', rfl, hT, rfl, y1, y2, y3⟩ := y
    have z1 := y1 vs s1
    have z2 := y2 ws t1
    have z3 := y3 us u1
    rw [h1] at z1
    rw [h3] at z2
    rw [h5] at z3
    cases z1; cases z2; cases z3
    exact ⟨_, growT lv hT (.cons h2 (.cons h4 (.cons h6 .nil)))⟩
  stop := fun F H e => by
    obtain ⟨_, vs, e1, s1, s2⟩ := (r.moveK e.1 e.2).sqK h1
    cases e1
    obtain ⟨_, ws, e1, t1, t2⟩ := (q.moveK e.1 e.2).sqK h2
    cases e1
    obtain ⟨_, us, e1, u1, u2⟩ := (p.moveK e.1 e.2).sqK h3
    cases e1
    refine ⟨vs, ws, us, s1, t1, u1, ?_⟩
    unfold zipD3
    rw [List.length_map, List.length_zip, List.length_zip, s2.length, t2.length, u2.length]
    omega
end
section
variable {X : Cx} {W : WX} {P : Nat}
def zipO2 (d e : D) : Option (List D) := match asLT d, asLT e with
  | some ds, some es => some (zipD ds es)
  | _, _ => none
def itZ2 (a b : M Vl) : M (List D) := bnd a fun v => bnd b fun w => bnd (frz v) fun d => bnd (frz w) fun e => ofO (zipO2 d e)
theorem si_zip2 {a b : Expr} {p pos tpos : Pos} {elts : List Expr} {kk : Nat} {fa fb : M Vl} (hg : Gl X "zip") (hm : X.mg "zip" = none) (hs : noStar a = true) (hs2 : noStar b = true) (ha : SE X W P a fa) (hb : SE X W P b fb) : SI X W P (.Tuple elts kk tpos) (.Call (.Name "zip" p) [a, b] [] pos) (itZ2 fa fb) := fun st σ τ F H R hl r h => by
  refine wi (pi_zipK2 hg hm (pa_cons pE (pa_cons pE pa_nil (starEach_of hs2)) (starEach_of hs)) (starEach_of hs) (any_backTo fun z hz => by
    rcases List.mem_cons.mp hz with rfl | hz
    · exact hs2
    · cases hz)) (ha st σ τ F H _ hl r (h.bind.imp fun v st1 τ1 F1 H1 s1 _ q x rv => ?_))
  refine hb st1 σ _ F1 H1 _ hl s1.rs (q.bind.imp fun w st2 τ2 F2 H2 s2 _ q2 y rw' => ?_)
  obtain ⟨d, st3, F3, s3, r3, q2⟩ := post_frz s2.rs (s2.rvA s1.rs rv) q2
  have rw3 : Rv X.K F3 H2 (σ ++ (τ ++ τ1 ++ τ2)) y w := by
    have := Stp.rv (τ := []) s2.rs (by rw [List.append_nil]; exact s3) rw'
    rwa [List.append_nil] at this
  obtain ⟨e, st4, F4, s4, r4, q2⟩ := post_frz s3.rs rw3 q2
  have r3 : Rp X.K F4 H2 x d := s4.move s3.rs r3
  unfold ofO zipO2 at q2
  cases e1 : asLT d with
  | none => rw [e1] at q2; exact q2.elim
  | some ds =>
    cases e2 : asLT e with
    | none => rw [e1, e2] at q2; exact q2.elim
    | some es =>
      rw [e1, e2] at q2
      obtain ⟨a, vs, rfl, z1, z2⟩ := r3.sqK e1
      obtain ⟨b, ws, rfl, y1, y2⟩ := r4.sqK e2
      exact ⟨_, _, a, b, vs, ws, rfl, z1, y1, Post.here (a := zipD ds es) s4.rs q2 _ (itok_zipK e1 e2 r3 r4)⟩
def zipO3 (d e f : D) : Option (List D) := match asLT d, asLT e, asLT f with
  | some ds, some es, some fs => some (zipD3 ds es fs)
  | _, _, _ => none
def itZ3 (a b c : M Vl) : M (List D) := bnd a fun v => bnd b fun w => bnd c fun u => bnd (frz v) fun d => bnd (frz w) fun e => bnd (frz u) fun f => ofO (zipO3 d e f)
theorem si_zip3 {a b c : Expr} {p pos tpos : Pos} {elts : List Expr} {kk : Nat} {fa fb fc : M Vl} (hg : Gl X "zip") (hm : X.mg "zip" = none) (hs : noStar a = true) (hs2 : noStar b = true) (hs3 : noStar c = true) (ha : SE X W P a fa) (hb : SE X W P b fb) (hc : SE X W P c fc) : SI X W P (.Tuple elts kk tpos) (.Call (.Name "zip" p) [a, b, c] [] pos) (itZ3 fa fb fc) := fun st σ τ F H R hl r h => by
  refine wi (pi_zipK3 hg hm (pa_cons pE (pa_cons pE (pa_cons pE pa_nil (starEach_of hs3)) (starEach_of hs2)) (starEach_of hs)) (starEach_of hs) (any_backTo fun z hz => by
    rcases List.mem_cons.mp hz with rfl | hz
    · exact hs2
    · rcases List.mem_cons.mp hz with rfl | hz
      · exact hs3
      · cases hz)) (ha st σ τ F H _ hl r (h.bind.imp fun v st1 τ1 F1 H1 s1 _ q x rv => ?_))
  refine hb st1 σ _ F1 H1 _ hl s1.rs (q.bind.imp fun w st2 τ2 F2 H2 s2 _ q2 y rw' => ?_)
  refine hc st2 σ _ F2 H2 _ hl s2.rs (q2.bind.imp fun u st2' τ2' F2' H2' s2' _ q2 y' ru' => ?_)
  obtain ⟨d, st3, F3, s3, r3, q2⟩ := post_frz s2'.rs (s2'.rvA s2.rs (s2.rvA s1.rs rv)) q2
  have up : ∀ {Fa Fb : Addr → Prop} {Ha : Hp} {sta stb : Sto} {τa : St} {yy : V} {ww : Vl}, Rs X.K Fa sta (σ ++ τa) Ha → Stp P X.K sta (σ ++ τa) Fa Ha stb (σ ++ τa) Fb Ha → Rv X.K Fa Ha (σ ++ τa) yy ww → Rv X.K Fb Ha (σ ++ τa) yy ww := fun rs s q => by
    have := Stp.rv (τ := []) rs (by rw [List.append_nil]; exact s) q
    rwa [List.append_nil] at this
  obtain ⟨e, st4, F4, s4, r4, q2⟩ := post_frz s3.rs (up s2'.rs s3 (s2'.rvA s2.rs rw')) q2
  obtain ⟨f, st5, F5, s5, r5, q2⟩ := post_frz s4.rs (up s3.rs s4 (up s2'.rs s3 ru')) q2
  have r3 := s5.move s4.rs (s4.move s3.rs r3)
  have r4 := s5.move s4.rs r4
  unfold ofO zipO3 at q2
  cases e1 : asLT d with
  | none => rw [e1] at q2; exact q2.elim
  | some ds =>
    cases e2 : asLT e with
    | none => rw [e1, e2] at q2; exact q2.elim
    | some es =>
      cases e3 : asLT f with
      | none => rw [e1, e2, e3] at q2; exact q2.elim
      | some fs =>
        rw [e1, e2, e3] at q2
        obtain ⟨a, vs, rfl, z1, z2⟩ := r3.sqK e1
        obtain ⟨b, ws, rfl, y1, y2⟩ := r4.sqK e2
        obtain ⟨c, us, rfl, x1, x2⟩ := r5.sqK e3
        exact ⟨_, _, _, a, b, c, vs, ws, us, rfl, z1, y1, x1, Post.here (a := zipD3 ds es fs) s5.rs q2 _ (itok_zipK3 e1 e2 e3 r3 r4 r5)⟩
end
/-! ### xs.extend(ys) -/
section
variable {X : Cx} {W : WX} {P : Nat}
def rExtR : V → List V → Hp → VK → Prop := fun x vs H Q => ∃ l b xs zs, x = .ref l ∧ vs = [.ref b] ∧ H l = some (.lst xs) ∧ Rd H b (.lst zs) ∧ xs.length + zs.length ≤ sizeLine ∧ Q .non (upd H l (.lst (xs ++ zs)))
theorem mt_extR : MtM X "list.extend" rExtR := by
  intro pins s σ H x vs v us Q I rx rv h
  obtain ⟨l, b, xs, zs, rfl, rfl, hH, hB, hz, q⟩ := h
  cases rx
  obtain ⟨u, rfl, ru⟩ := rv.one
  cases ru
  obtain ⟨z, its, n, r, hl, e⟩ := I.lstM hH
  obtain ⟨z2, its2, n2, r2, e2⟩ := hB.ok I.hok
  have hl2 := r2.length
  have hsz : its.toArray.size + its2.toArray.size ≤ sizeLine := by rw [List.size_toArray, List.size_toArray]; omega
  have hno : ¬ (!its.toArray.isEmpty && Builtin.List.listTooLong (its.toArray.size + its2.toArray.size)) = true := by
    rw [notLongL hsz, Bool.and_false]
    exact Bool.false_ne_true
  refine call_meets F.slot_list_extend ⟨_, e, rfl⟩ F.entry_list_extend (F.args_list_extend_2 _ _)
    (AutoSeq1.list_extend_list_list_0 l its.toArray n b its2.toArray n2 hno (by rw [List.size_toArray]; omega) (by omega)) ⟨e, e2, ?_⟩
  exact ⟨.non, _, I.lset (its' := its ++ its2) hH e (by simp) (r.append r2) (by rw [List.length_append]; omega), rfl, q⟩
def extG (j : Nat) (v : Vl) : M Vl := fun st => match rd v st, st[j]? with
  | some (.lst es), some (.own false ds) => if ds.length + es.length ≤ szL then .ok (.dat .non) (st.set j (.own false (ds ++ es))) else .stuck
  | _, _ => .stuck
def xExt (j : Nat) (f : M Vl) : M Vl := fun st => match st[j]? with
  | some (.own false _) => bnd f (extG j) st
  | _ => .stuck
theorem se_ext {x : Str} {a : Expr} {j : Nat} {p apos cpos : Pos} {f : M Vl} (hp : PE X (.Name x p) (tVar j)) (hj : j < X.N.length) (hs : noStar a = true) (hline : (apos.endLine == cpos.line) = true) (ha : SE X W P a f) :
    SE X W P (.Call (.Attribute (.Name x p) "extend" apos) [a] [] cpos) (xExt j f) := fun st σ τ F H Q hl r h => by
  unfold xExt at h
  split at h
  · rename_i ds0 e0
    have hρ : (σ ++ τ)[j]? = σ[j]? := ap_left (by omega)
    obtain ⟨l, vs0, y1, y2, y3, y4⟩ := r.slot j _ e0
    rw [hρ] at y1
    have hst : starEach [a] X.env = [(false, eval a X.env)] := starEach_of hs
    refine we (pe_bm PySem.F.plainAttrs_list PySem.F.slot_list_extend PySem.F.type_list_extend mt_extR hp (pa_cons pE pa_nil hst) rfl (by rw [hst]; rfl) hline hst rfl) ⟨.ref l, y1, .inl ⟨rfl, vs0, .of y2⟩, ?_⟩
    refine ha st σ τ F H _ hl r (h.bind.imp fun v st1 τ1 F1 H1 s1 _ q x rv => ?_)
    unfold extG at q
    split at q
    · rename_i es ds hi e2
      split at q
      · rename_i hz
        have ea : (σ ++ (τ ++ τ1))[j]? = some (some (V.ref l)) := get_pre y1
        obtain ⟨b, ws, z1, z2, z3, z4⟩ := s1.rs.slot j _ e2
        rw [ea] at z1
        cases z1
        obtain ⟨b, us, rfl, u1, u2⟩ := (rd_ok hi s1.rs rv).rdL
        have s3 := Stp.mut (P := P) (vs := ws) s1.rs e2 ea (z4.append u2)
        refine ⟨l, b, ws, us, rfl, rfl, z2, u1, by rw [z4.length, u2.length, ← szL_eq]; exact hz, q [] F1 _ (by rw [List.append_nil]; exact s3) .non .non⟩
      · exact q.elim
    · exact q.elim
  · exact h.elim
/-! ### xs.index(y), of flat items -/
def idxD (d : D) (ds : List D) : Option Nat := ds.findIdx? fun e => eqD e d
def idxG (j : Nat) (v : Vl) : M Vl := fun st => match rd v st, rd (.loc j) st with
  | some d, some (.lst ds) => if flatD d && ds.all flatD then (match idxD d ds with
    | some k => .ok (.dat (.int (k : Nat))) st
    | none => .stuck) else .stuck
  | _, _ => .stuck
def isLs (o : Option Slot) : Bool := match o with
  | some (.own _ _) => true
  | some (.val (.lst _)) => true
  | _ => false
def xIdx (j : Nat) (f : M Vl) : M Vl := fun st => if isLs st[j]? then bnd f (idxG j) st else .stuck
theorem isLs_ok {K : PySem.W.Frag} {F : Addr → Prop} {H : Hp} {st : Sto} {ρ : St} {j : Nat} (r : Rs K F st ρ H) (h : isLs st[j]? = true) : ∃ l vs, ρ[j]? = some (some (.ref l)) ∧ Rd H l (.lst vs) := by
  cases e : st[j]? with
  | none => rw [e] at h; cases h
  | some s =>
    rw [e] at h
    have z := r.slot j s e
    cases s with
    | emp => cases h
    | own k ds =>
      obtain ⟨l, vs, y1, y2, _⟩ := z
      exact ⟨l, vs, y1, .inl y2⟩
    | val d =>
      obtain ⟨v, y1, y2⟩ := z
      cases d with
      | lst ds =>
        cases y2 with
        | lst f r s => exact ⟨_, _, y1, r⟩
      | _ => cases h
theorem se_idx {x : Str} {a : Expr} {j : Nat} {p apos cpos : Pos} {f : M Vl} (hp : PE X (.Name x p) (tVar j)) (hj : j < X.N.length) (hs : noStar a = true) (hline : (apos.endLine == cpos.line) = true) (ha : SE X W P a f) :
    SE X W P (.Call (.Attribute (.Name x p) "index" apos) [a] [] cpos) (xIdx j f) := fun st σ τ F H Q hl r h => by
  unfold xIdx at h
  split at h
  · rename_i h0
    have hρ : (σ ++ τ)[j]? = σ[j]? := ap_left (by omega)
    obtain ⟨l, vs0, y1, y2⟩ := isLs_ok r h0
    rw [hρ] at y1
    have hst : starEach [a] X.env = [(false, eval a X.env)] := starEach_of hs
    refine we (pe_bm PySem.F.plainAttrs_list PySem.F.slot_list_index PySem.F.type_list_index mt_index hp (pa_cons pE pa_nil hst) rfl (by rw [hst]; rfl) hline hst rfl) ⟨.ref l, y1, .inl ⟨rfl, vs0, .inl y2⟩, ?_⟩
    refine ha st σ τ F H _ hl r (h.bind.imp fun v st1 τ1 F1 H1 s1 _ q x rv => ?_)
    unfold idxG at q
    split at q
    · rename_i d ds hd hds
      split at q
      · rename_i hf
        rw [Bool.and_eq_true] at hf
        split at q
        · rename_i k hk
          have ea : (σ ++ (τ ++ τ1))[j]? = some (some (V.ref l)) := get_pre y1
          obtain ⟨f1, rx⟩ := (rd_ok hd s1.rs rv).flat hf.1
          obtain ⟨b, us, eb, u1, u2⟩ := (rd_ok hds s1.rs (x := .ref l) (v := .loc j) ea).rdL
          cases eb
          unfold idxD at hk
          rw [List.findIdx?_eq_some_iff_getElem] at hk
          obtain ⟨hk1, hk2, hk3⟩ := hk
          obtain ⟨z, z1, z2⟩ := u2.get (List.getElem?_eq_getElem hk1)
          have fl : ∀ i (hi : i < ds.length), flatD ds[i] = true := fun i hi => List.all_eq_true.mp hf.2 _ (List.getElem_mem hi)
          refine ⟨l, us, x, k, z, rfl, rfl, .inl u1, f1, u2.flat hf.2, z1, ?_, fun m z' hm hz' => ?_, Post.here (a := Vl.dat (.int (k : Nat))) s1.rs q _ (.int _)⟩
          · rw [eqV_D z2 rx (fl k hk1) hf.1]; exact hk2
          · obtain ⟨d', w1, w2⟩ := u2.getV hz'
            have hml : m < ds.length := by omega
            rw [List.getElem?_eq_getElem hml] at w1
            cases w1
            rw [eqV_D w2 rx (fl m hml) hf.1]
            have := hk3 m hm
            simpa using this
        · exact q.elim
      · exact q.elim
    · exact q.elim
  · exact h.elim
end
/-! ### list(range(..)), tuple(range(..)) -/
section
variable {X : Cx} {W : WX} {P : Nat}
abbrev TRc := St → Hp → (Int → Int → Int → Hp → Prop) → Prop
/-- an expression that makes a range -/
def PRc (X : Cx) (e : Expr) (t : TRc) : Prop :=
  ∀ (pins : List (Addr × Obj)) (s : Shared) (σ : St) (H : Hp) (Q : Int → Int → Int → Hp → Prop), Inv X pins σ H s → t σ H Q →
    wpAny (model X.prog X.w) X.A (eval e X.env) (fun x s' => ∃ r a b c t u v H', x = .ref r ∧ IsRange s'.heap r a b c t u v ∧ Inv X pins σ H' s' ∧ Q a b c H') X.xe s
theorem prc_of {e : Expr} {te : St → Hp → (Int → Int → Hp → Prop) → Prop} (h : PRg X e te) : PRc X e fun σ H Q => te σ H fun a b H' => Q a b 1 H' := fun pins s σ H Q I q =>
  thn (h pins s σ H _ I q) fun x s1 ⟨r, a, b, t, u, v, H1, ex, hr, I1, q⟩ => ⟨r, a, b, 1, t, u, v, H1, ex, hr, I1, q⟩
def tRc3 (ta : TA) : TRc := fun σ H Q => ta σ H fun vs H1 => ∃ i j c, vs = [.int i, .int j, .int c] ∧ c ≠ 0 ∧ c.natAbs < 1073741824 ∧ Q i j c H1
theorem prc_3 {a b c : Expr} {ta : TA} {p pos : Pos} (hg : Gl X "range") (hm : X.mg "range" = none) (ha : PA X [a, b, c] ta) (hs : starEach [a, b, c] X.env = (false, eval a X.env) :: starEach [b, c] X.env) (hpl : (backTo pos (starEach [b, c] X.env)).any (·.1) = false) : PRc X (.Call (.Name "range" p) [a, b, c] [] pos) (tRc3 ta) := by
  intro pins s σ H Q I h
  refine Call_ (ld_blt I hg hm boot_range (PyProof.Rows.callWith_type1 (thn (ha.run pos pins s σ H _ I h) fun us s1 ⟨vs, H1, I1, r1, q1⟩ => ?_) hs hpl))
  obtain ⟨i, j, c, ex, hc, hcs, q⟩ := q1
  subst ex
  cases r1 with
  | cons r r1 =>
    cases r1 with
    | cons r' r1 =>
      cases r1 with
      | cons r'' r1 =>
        cases r1
        obtain ⟨t, rfl⟩ := r
        obtain ⟨t', rfl⟩ := r'
        obtain ⟨t'', rfl⟩ := r''
        exact call_range_3 hc ⟨_, i, j, c, _, _, _, H1, rfl, IsRange.new _ _ _ _ _ _ _, I1.kept fun b u e => Heap.get?_push_of_some _ e, q⟩ (Or.inl (PyProof.noPylong_small hcs))
def rcV (a c : Int) (n : Nat) : List V := (List.range n).map fun i => V.int (a + (i : Nat) * c)
theorem vals_rc {a c : Int} {n : Nat} {acc : Array Value} (h : ItemsOf (fun i v => ∃ t, v = .int (a + i * c) t) acc n) : Vals (rcV a c n) acc.toList := by
  have e : acc.toList.length = n := by rw [Array.length_toList]; exact h.1
  unfold rcV
  rw [← e]
  refine vals_of_get acc.toList _ fun j u hj => ?_
  obtain ⟨t, rfl⟩ := h.2 j u (by rw [← hj, Array.getElem?_toList])
  exact ⟨t, rfl⟩
theorem rcV_len (a c : Int) (n : Nat) : (rcV a c n).length = n := by unfold rcV; rw [List.length_map, List.length_range]
def RcOk (a b c : Int) (n : Nat) : Prop := Builtin.Range.small a b c = true ∧ Builtin.Range.rangeSize a b c = n ∧ n ≤ 2 ^ 24
theorem pe_listRc {e : Expr} {te : TRc} {p pos : Pos} (hc : X.calm = true) (hg : Gl X "list") (hm : X.mg "list" = none) (he : PRc X e te) (na : starEach [e] X.env = (false, eval e X.env) :: starEach [] X.env) : PE X (.Call (.Name "list" p) [e] [] pos) (fun σ H Q => te σ H fun a b c H1 => ∃ n, RcOk a b c n ∧ ∀ q, H1 q = none → Q (.ref q) (upd H1 q (.lst (rcV a c n)))) := by
  refine ⟨fun pins s σ H Q I h => ?_⟩
  refine Call_ (ld_blt I hg hm boot_list (PyProof.Rows.callWith_type1 (args_cons (thn (he pins s σ H _ I h) fun x s1 ⟨r, a, b, c, t, u, v, H1, ex, hr, I1, q1⟩ => args_nil ?_) na) na))
  subst ex
  obtain ⟨n, ⟨b1, b2, b3⟩, q⟩ := q1
  refine call_list_range (n := n) (I1.ok.hd hc) hr b1 b2 b3 fun h' tk acc c' hk e' hi => ?_
  refine ⟨.ref s1.heap.objs.size, upd H1 s1.heap.objs.size (.lst (rcV a c n)), I1.laid hk (Nat.le_refl _) (show ObjOk X.prog X.w _ _ _ (.lst (rcV a c n)) from ⟨?_, acc.toList, c', vals_rc hi, ?_⟩), rfl, q _ (I1.hok.fresh (Nat.le_refl _))⟩
  · rw [rcV_len, sizeLine_eq]; omega
  · rw [Array.toArray_toList]; exact e'
theorem pe_tupRc {e : Expr} {te : TRc} {p pos : Pos} (hc : X.calm = true) (hg : Gl X "tuple") (hm : X.mg "tuple" = none) (he : PRc X e te) (na : starEach [e] X.env = (false, eval e X.env) :: starEach [] X.env) : PE X (.Call (.Name "tuple" p) [e] [] pos) (fun σ H Q => te σ H fun a b c H1 => ∃ n, RcOk a b c n ∧ ∀ q, H1 q = none → Q (.ref q) (upd H1 q (.tup (rcV a c n)))) := by
  refine ⟨fun pins s σ H Q I h => ?_⟩
  refine Call_ (ld_blt I hg hm boot_tuple (PyProof.Rows.callWith_type1 (args_cons (thn (he pins s σ H _ I h) fun x s1 ⟨r, a, b, c, t, u, v, H1, ex, hr, I1, q1⟩ => args_nil ?_) na) na))
  subst ex
  obtain ⟨n, ⟨b1, b2, b3⟩, q⟩ := q1
  refine call_tuple_range (n := n) (I1.ok.hd hc) hr b1 b2 b3 fun h' tk acc hk hi => ?_
  have I2 : Inv X pins σ H1 { s1 with heap := h', toks := tk } := I1.kept hk
  refine ⟨.ref h'.objs.size, upd H1 h'.objs.size (.tup (rcV a c n)), I2.laid (t' := tk) (fun c o e => Heap.get?_push_of_some _ e) (Nat.le_refl _) (show ObjOk X.prog X.w _ _ _ (.tup (rcV a c n)) from ⟨?_, acc.toList, vals_rc hi, ?_⟩), rfl, q _ (I2.hok.fresh (Nat.le_refl _))⟩
  · rw [rcV_len, sizeLine_eq]; omega
  · rw [Array.toArray_toList]; exact IsTup.new _ _
theorem rps_rc {K : PySem.W.Frag} {F : Addr → Prop} {H : Hp} (a c : Int) (n : Nat) : Rps K F H (rcV a c n) (rngC a c n) := by
  unfold rcV rngC
  generalize List.range n = l
  induction l with
  | nil => exact .nil
  | cons i l ih => exact .cons (.int _) ih
/-! the three forms of a range, as what is walked and as what is put into a list -/
def stepN (i j k : Int) : Nat := (Builtin.Range.rangeSize i j k).toNat
def stepG (i j k : Int) : Bool := decide (k ≠ 0) && decide (k.natAbs < 1073741824) && Builtin.Range.small i j k
def itR3b (a b c : M Vl) : M (List D) := bnd a fun v => bnd b fun w => bnd c fun u => bnd (getI v) fun i => bnd (getI w) fun j => bnd (getI u) fun k => if sm62 i && sm62 j && decide (k = -1) then ret (rngC i (-1) (i - j).toNat) else if stepG i j k then ret (rngC i k (stepN i j k)) else bad
theorem si_range3b {tg a b c : Expr} {p pos : Pos} {fa fb fc : M Vl} (hg : Gl X "range") (hm : X.mg "range" = none) (hs : noStar a = true) (hs2 : noStar b = true) (hs3 : noStar c = true) (ha : SE X W P a fa) (hb : SE X W P b fb) (hc : SE X W P c fc) : SI X W P tg (.Call (.Name "range" p) [a, b, c] [] pos) (itR3b fa fb fc) := fun st σ τ F H R hl r h => by
  refine wi (pi_range3 hg hm (pa_cons pE (pa_cons pE (pa_cons pE pa_nil (starEach_of hs3)) (starEach_of hs2)) (starEach_of hs)) (starEach_of hs) (any_backTo fun e he => by
    rcases List.mem_cons.mp he with rfl | he
    · exact hs2
    · rw [List.mem_singleton.mp he]; exact hs3)) ?_
  refine ha st σ τ F H _ hl r (h.bind.imp fun v st1 τ1 F1 H1 s1 _ q x rv => ?_)
  refine hb st1 σ _ F1 H1 _ hl s1.rs (q.bind.imp fun w st2 τ2 F2 H2 s2 _ q2 y rw' => ?_)
  refine hc st2 σ _ F2 H2 _ hl s2.rs (q2.bind.imp fun u st3 τ3 F3 H3 s3 _ q3 z ru => ?_)
  obtain ⟨i, rfl, q3⟩ := post_getI s3.rs (s3.rvA s2.rs (s2.rvA s1.rs rv)) q3
  obtain ⟨j, rfl, q3⟩ := post_getI s3.rs (s3.rvA s2.rs rw') q3
  obtain ⟨k, rfl, q3⟩ := post_getI s3.rs ru q3
  split at q3
  · rename_i hk
    rw [Bool.and_eq_true, Bool.and_eq_true, decide_eq_true_eq] at hk
    obtain ⟨⟨h1, h2⟩, rfl⟩ := hk
    obtain ⟨a1, a2⟩ := sm62_ok h1
    obtain ⟨b1, b2⟩ := sm62_ok h2
    exact ⟨i, j, -1, _, rfl, RgC.neg a1 a2 b1 b2, Post.here (a := rngC i (-1) (i - j).toNat) s3.rs q3 _ itok_rngC⟩
  · split at q3
    · rename_i hk
      unfold stepG at hk
      rw [Bool.and_eq_true, Bool.and_eq_true, decide_eq_true_eq, decide_eq_true_eq] at hk
      exact ⟨i, j, k, _, rfl, ⟨hk.1.1, hk.1.2, hk.2, rangeSize_toNat i j k⟩, Post.here (a := rngC i k (stepN i j k)) s3.rs q3 _ itok_rngC⟩
    · exact q3.elim
def putL (lt : Bool) (ds : List D) : M Vl := if ds.length ≤ szL then alloc (if lt then .own false ds else .val (.tup ds)) else bad
def xLR (lt : Bool) (it : M (List D)) : M Vl := bnd it (putL lt)
/-- an expression that makes a range with these items -/
def SR (X : Cx) (W : WX) (P : Nat) (e : Expr) (it : M (List D)) : Prop := ∃ te : TRc, PRc X e te ∧ ∀ st σ τ F H (Q : Int → Int → Int → Hp → Prop), σ.length = X.N.length → Rs X.K F st (σ ++ τ) H →
  Post X W P σ τ st F H (it st) (fun ds st1 τ1 F1 H1 => ∀ i j k, ds = rngC i k (stepN i j k) → Builtin.Range.small i j k = true → Q i j k H1) → te σ H Q
theorem rngD_C (i : Int) (n : Nat) : rngD i n = rngC i 1 n := by
  unfold rngD rngC; simp
theorem stepN_1 (i j : Int) : stepN i j 1 = (j - i).toNat := by unfold stepN; rw [rangeSize_nat]; rfl
theorem stepN_m (i j : Int) : stepN i j (-1) = (i - j).toNat := by unfold stepN; rw [PySem.W.rangeSize_downNat]; rfl
theorem sr_1 {a : Expr} {p pos : Pos} {fa : M Vl} (hg : Gl X "range") (hm : X.mg "range" = none) (hs : noStar a = true) (ha : SE X W P a fa) : SR X W P (.Call (.Name "range" p) [a] [] pos) (itR1 fa) :=
  ⟨_, prc_of (prg_1 hg hm pE (starEach_of hs)), fun st σ τ F H Q hl r h => ha st σ τ F H _ hl r (h.bind.imp fun v st1 τ1 F1 H1 s1 _ q x rv => by
    obtain ⟨j, rfl, q⟩ := post_getI s1.rs rv q
    split at q
    · rename_i hj
      obtain ⟨a1, a2⟩ := sm62_ok hj
      refine ⟨j, rfl, Post.here (a := rngD 0 j.toNat) s1.rs q 0 j 1 ?_ (small_one (by decide) (by decide) a1 a2)⟩
      rw [rngD_C, stepN_1, Int.sub_zero]
    · exact q.elim)⟩
theorem sr_2 {a b : Expr} {p pos : Pos} {fa fb : M Vl} (hg : Gl X "range") (hm : X.mg "range" = none) (hs : noStar a = true) (hs2 : noStar b = true) (ha : SE X W P a fa) (hb : SE X W P b fb) : SR X W P (.Call (.Name "range" p) [a, b] [] pos) (itR2 fa fb) :=
  ⟨_, prc_of (prg_2 hg hm pE pE (starEach_of hs) (starEach_of hs2) (any_backTo fun z hz => by
    rcases List.mem_cons.mp hz with rfl | hz
    · exact hs2
    · cases hz)), fun st σ τ F H Q hl r h => ha st σ τ F H _ hl r (h.bind.imp fun v st1 τ1 F1 H1 s1 _ q x rv => hb st1 σ _ F1 H1 _ hl s1.rs (q.bind.imp fun w st2 τ2 F2 H2 s2 _ q2 y rw' => by
    obtain ⟨i, rfl, q2⟩ := post_getI s2.rs (s2.rvA s1.rs rv) q2
    obtain ⟨j, rfl, q2⟩ := post_getI s2.rs rw' q2
    split at q2
    · rename_i hj
      rw [Bool.and_eq_true] at hj
      obtain ⟨a1, a2⟩ := sm62_ok hj.1
      obtain ⟨b1, b2⟩ := sm62_ok hj.2
      refine ⟨i, j, rfl, rfl, Post.here (a := rngD i (j - i).toNat) s2.rs q2 i j 1 ?_ (small_one a1 a2 b1 b2)⟩
      rw [rngD_C, stepN_1]
    · exact q2.elim))⟩
theorem sr_3 {a b c : Expr} {p pos : Pos} {fa fb fc : M Vl} (hg : Gl X "range") (hm : X.mg "range" = none) (hs : noStar a = true) (hs2 : noStar b = true) (hs3 : noStar c = true) (ha : SE X W P a fa) (hb : SE X W P b fb) (hc : SE X W P c fc) : SR X W P (.Call (.Name "range" p) [a, b, c] [] pos) (itR3b fa fb fc) :=
  ⟨_, prc_3 hg hm (pa_cons pE (pa_cons pE (pa_cons pE pa_nil (starEach_of hs3)) (starEach_of hs2)) (starEach_of hs)) (starEach_of hs) (any_backTo fun e he => by
    rcases List.mem_cons.mp he with rfl | he
    · exact hs2
    · rw [List.mem_singleton.mp he]; exact hs3), fun st σ τ F H Q hl r h => by
  refine ha st σ τ F H _ hl r (h.bind.imp fun v st1 τ1 F1 H1 s1 _ q x rv => ?_)
  refine hb st1 σ _ F1 H1 _ hl s1.rs (q.bind.imp fun w st2 τ2 F2 H2 s2 _ q2 y rw' => ?_)
  refine hc st2 σ _ F2 H2 _ hl s2.rs (q2.bind.imp fun u st3 τ3 F3 H3 s3 _ q3 z ru => ?_)
  obtain ⟨i, rfl, q3⟩ := post_getI s3.rs (s3.rvA s2.rs (s2.rvA s1.rs rv)) q3
  obtain ⟨j, rfl, q3⟩ := post_getI s3.rs (s3.rvA s2.rs rw') q3
  obtain ⟨k, rfl, q3⟩ := post_getI s3.rs ru q3
  split at q3
  · rename_i hk
    rw [Bool.and_eq_true, Bool.and_eq_true, decide_eq_true_eq] at hk
    obtain ⟨⟨h1, h2⟩, rfl⟩ := hk
    obtain ⟨a1, a2⟩ := sm62_ok h1
    obtain ⟨b1, b2⟩ := sm62_ok h2
    exact ⟨i, j, -1, rfl, by decide, by decide, Post.here (a := rngC i (-1) (i - j).toNat) s3.rs q3 i j (-1) (by rw [stepN_m]) (RgC.neg a1 a2 b1 b2).2.2.1⟩
  · split at q3
    · rename_i hk
      unfold stepG at hk
      rw [Bool.and_eq_true, Bool.and_eq_true, decide_eq_true_eq, decide_eq_true_eq] at hk
      exact ⟨i, j, k, rfl, hk.1.1, hk.1.2, Post.here (a := rngC i k (stepN i j k)) s3.rs q3 i j k rfl hk.2⟩
    · exact q3.elim⟩
theorem rngC_len (i k : Int) (n : Nat) : (rngC i k n).length = n := by unfold rngC; simp
theorem se_listR {e : Expr} {it : M (List D)} {p pos : Pos} (hc : X.calm = true) (hg : Gl X "list") (hm : X.mg "list" = none) (hs : noStar e = true) (he : SR X W P e it) : SE X W P (.Call (.Name "list" p) [e] [] pos) (xLR true it) := fun st σ τ F H Q hl r h => by
  obtain ⟨te, h1, h2⟩ := he
  refine we (pe_listRc hc hg hm h1 (starEach_of hs)) (h2 st σ τ F H _ hl r (h.bind.imp fun ds st1 τ1 F1 H1 s1 _ q i j k hd hk => ?_))
  unfold putL at q
  split at q
  · rename_i hz
    subst hd
    rw [rngC_len] at hz
    exact ⟨_, ⟨hk, rangeSize_toNat i j k, hz⟩, fun p hp => post_alloc s1.rs q _ _ _ (growL s1.rs.live hp (rps_rc i k _))⟩
  · exact q.elim
theorem se_tupR {e : Expr} {it : M (List D)} {p pos : Pos} (hc : X.calm = true) (hg : Gl X "tuple") (hm : X.mg "tuple" = none) (hs : noStar e = true) (he : SR X W P e it) : SE X W P (.Call (.Name "tuple" p) [e] [] pos) (xLR false it) := fun st σ τ F H Q hl r h => by
  obtain ⟨te, h1, h2⟩ := he
  refine we (pe_tupRc hc hg hm h1 (starEach_of hs)) (h2 st σ τ F H _ hl r (h.bind.imp fun ds st1 τ1 F1 H1 s1 _ q i j k hd hk => ?_))
  unfold putL at q
  split at q
  · rename_i hz
    subst hd
    rw [rngC_len] at hz
    exact ⟨_, ⟨hk, rangeSize_toNat i j k, hz⟩, fun p hp => post_alloc s1.rs q _ _ _ (growT s1.rs.live hp (rps_rc i k _))⟩
  · exact q.elim
end
/-! ### xs[i] += e, xs[i] -= e -/
section
variable {X : Cx} {W : WX} {P : Nat}
def rGetN (K : PySem.W.Frag) : V → V → Hp → VK → Prop := fun o i H Q => ∃ p xs k y, o = .ref p ∧ i = .int k ∧ SqL K H p xs ∧ 0 ≤ k ∧ xs[k.toNat]? = some y ∧ Q y H
theorem get_listN : PGet X (rGetN X.K) := by
  intro pins s σ H o i ov iv Q I ro ri h
  obtain ⟨p, xs, k, y, rfl, rfl, hq, h0, hy, q⟩ := h
  cases ro
  obtain ⟨t, rfl⟩ := ri
  obtain ⟨its, rv, pl, hz⟩ := I.list hq
  obtain ⟨u, hu, ru⟩ := rv.get hy
  have hn := line63
  have hlt : k.toNat < its.length := (List.getElem?_eq_some_iff.mp hu).1
  have hl := rv.length
  exact wpAny_getItem_list pl.isList h0 (by omega) (x := u) (by simpa using hu) ⟨y, H, I, ru, q⟩
theorem aug_st {i : Expr} (h : plainIx i = true) (ov iv new : Value) : augStore i ov iv new = (do holding [new, ov, iv] (setItem ov iv new); release [new, ov, iv] []; pure .next) := by
  cases i <;> first | rfl | (cases h; done)
def augI2 (n j : Nat) (op : Operator) (k a : Int) (w : Vl) : M Fl := fun st => match rd w st, st[j]? with
  | some e, some (.own false ds) => (match augD op (.int a) e, ixN ds.length k with
    | some z, some m => .ok .next ((st.set j (.own false (ds.set m z))).take n)
    | _, _ => .stuck)
  | _, _ => .stuck
def augI1 (n j : Nat) (op : Operator) (f : M Vl) (v : Vl) : M Fl := fun st => match rd v st, st[j]? with
  | some (.int k), some (.own false ds) => if 0 ≤ k then (match ds[k.toNat]? with
    | some (.int a) => bndS n f (augI2 n j op k a) st
    | _ => .stuck) else .stuck
  | _, _ => .stuck
def sAugI (n j : Nat) (fi : M Vl) (op : Operator) (f : M Vl) : M Fl := fun st => match st[j]? with
  | some (.own _ _) => if isAug op then bndS n fi (augI1 n j op f) st else .stuck
  | _ => .stuck
theorem augI_core {i e : Expr} {x : Str} {j : Nat} {op : Operator} {pos tp p : Pos} {fi f : M Vl} {ti : TIp} (hP : P ≤ X.N.length) (hp : PE X (.Name x p) (tVar j)) (hj : j < X.N.length) (hpi : plainIx i = true) (hi : SE X W P i fi) (he : SE X W P e f) (hti : PIp X op ti)
    (hh : ∀ (a b : Int) (z : PU.D) (H1 : Hp) (Q : VK), augD op (.int a) (.int b) = some z → (∀ c, z = .int c → Q (.int c) H1) → ti (.int a) (.int b) H1 Q) (hz : ∀ a (d z : PU.D), augD op (.int a) d = some z → ∃ b c, d = .int b ∧ z = .int c) :
    ∀ st σ F H D (k0 : Bool) (ds0 : List PU.D), σ.length = X.N.length → Rs X.K F st σ H → st[j]? = some (.own k0 ds0) → PostS X W P X.N.length st σ F H (bndS X.N.length fi (augI1 X.N.length j op f) st) D → WS X (.AugAssign (.Subscript (.Name x p) i tp) op e pos) D σ H := fun st σ F H D k0 ds0 hl r e0 h => by
  obtain ⟨a, vs0, y1, y2, y3, y4⟩ := r.slot j _ e0
  refine ws (ps_augS hp pE get_listN pE hti set_list (aug_st hpi)) ⟨.ref a, y1, hi st σ [] F H _ hl (rs0 r) ((PostS.bind0 hl hP h).imp fun v st1 τ1 F1 H1 s1 _ q y rv => ?_)⟩
  unfold augI1 at q
  split at q
  · rename_i k ds hk e1
    split at q
    · rename_i h0
      split at q
      · rename_i av ha
        have ea : (σ ++ ([] ++ τ1))[j]? = some (some (V.ref a)) := get_pre y1
        obtain ⟨b, ws1, z1, z2, z3, z4⟩ := s1.rs.slot j _ e1
        rw [ea] at z1
        cases z1
        obtain ⟨u, u1, u2⟩ := z4.get ha
        cases u2
        refine ⟨a, ws1, k, .int av, rfl, (rd_ok hk s1.rs rv).int, .of z2, h0, u1, ?_⟩
        refine he st1 σ _ F1 H1 _ hl s1.rs ((PostS.bind hl hP q).imp fun w st2 τ2 F2 H2 s2 _ q2 y2 rw2 => ?_)
        unfold augI2 at q2
        split at q2
        · rename_i dw ds2 hw e2
          split at q2
          · rename_i z m hz1 hm
            obtain ⟨bv, cv, rfl, rfl⟩ := hz _ _ _ hz1
            have rb := (rd_ok hw s2.rs rw2).int
            subst rb
            have ea2 : (σ ++ ([] ++ τ1 ++ τ2))[j]? = some (some (V.ref a)) := get_pre y1
            obtain ⟨ws2, g1, g2, g3⟩ := post_put (P := P) (m := m) s2.rs e2 ea2 (.int cv)
            refine hh _ _ _ _ _ hz1 fun c hc => ?_
            cases hc
            refine ⟨a, ws2, k, m, rfl, (rd_ok hk s1.rs rv).int, g1, by rw [g2]; exact hm, ?_⟩
            exact q2 σ F2 _ hl (g3.trunc hl hP)
          · exact q2.elim
        · exact q2.elim
      · exact q.elim
    · exact q.elim
  · exact q.elim
theorem ss_augI {i e : Expr} {x : Str} {j : Nat} {op : Operator} {pos tp p : Pos} {fi f : M Vl} (hP : P ≤ X.N.length) (hp : PE X (.Name x p) (tVar j)) (hj : j < X.N.length) (hpi : plainIx i = true) (hi : SE X W P i fi) (he : SE X W P e f) :
    SS X W P (.AugAssign (.Subscript (.Name x p) i tp) op e pos) (sAugI X.N.length j fi op f) := fun st σ F H D hl r h => by
  unfold sAugI at h
  split at h
  · rename_i k0 ds0 e0
    split at h
    · rename_i ho
      cases op with
      | Add => exact augI_core hP hp hj hpi hi he ip_add (fun a b z H1 Q hz q => ⟨a, b, rfl, rfl, q _ (by cases hz; rfl)⟩) (fun a d z hz => by cases d <;> cases hz; exact ⟨_, _, rfl, rfl⟩) st σ F H D _ _ hl r e0 h
      | Sub => exact augI_core hP hp hj hpi hi he ip_sub (fun a b z H1 Q hz q => ⟨a, b, rfl, rfl, q _ (by cases hz; rfl)⟩) (fun a d z hz => by cases d <;> cases hz; exact ⟨_, _, rfl, rfl⟩) st σ F H D _ _ hl r e0 h
      | _ => cases ho
    · exact h.elim
  · exact h.elim
end
end PU
namespace PU
open PySem PySem.Spec PyProof.Rows L2
/-! ### lists that are walked as they stand -/
inductive Src where
  | dat (ds : List D) | slot (j : Nat)
inductive Walk where
  | one (s : Src) | zip (s t : Src) | enum (s : Src)
def atL (ds : List D) (i : Nat) : Option (Option D) := if i ≤ ds.length then some ds[i]? else none
def slotAt (o : Option Slot) (i : Nat) : Option (Option D) := match o with
  | some (.own _ es) => atL es i
  | _ => none
def Src.at (s : Src) (i : Nat) (st : Sto) : Option (Option D) := match s with
  | .dat ds => atL ds i
  | .slot j => slotAt st[j]? i
def zipAt (a b : Option (Option D)) : Option (Option D) := match a, b with
  | some (some x), some (some y) => some (some (.tup [x, y]))
  | some none, some _ => some none
  | some _, some none => some none
  | _, _ => none
def enumAt (i : Nat) (a : Option (Option D)) : Option (Option D) := match a with
  | some (some x) => some (some (.tup [.int (i : Nat), x]))
  | some none => some none
  | none => none
def Walk.at (w : Walk) (i : Nat) (st : Sto) : Option (Option D) := match w with
  | .one s => s.at i st
  | .zip s t => zipAt (s.at i st) (t.at i st)
  | .enum s => enumAt i (s.at i st)
def Src.js : Src → List Nat
  | .dat _ => []
  | .slot j => [j]
def Walk.js : Walk → List Nat
  | .one s => s.js
  | .zip s t => s.js ++ t.js
  | .enum s => s.js
theorem atL_some {ds : List D} {i : Nat} {d : D} (h : atL ds i = some (some d)) : ds[i]? = some d := by
  unfold atL at h; split at h
  · exact Option.some.inj h
  · cases h
theorem atL_none {ds : List D} {i : Nat} (h : atL ds i = some none) : ds.length = i := by
  unfold atL at h; split at h
  · rename_i hi
    have h : ds[i]? = none := Option.some.inj h
    rw [List.getElem?_eq_none_iff] at h; omega
  · cases h
/-- what stands for a source -/
structure SrcOk (K : PySem.W.Frag) (k : Bool) (a : Addr) (s : Src) (ρ0 : St) (F0 : Addr → Prop) (H0 : Hp) : Prop where
  item : ∀ st ρ F H i d, Rs K F st ρ H → Ext F0 H0 F H → (∀ j ∈ s.js, ρ[j]? = ρ0[j]?) → s.at i st = some (some d) → ∃ vs v, SqK k K H a vs ∧ vs[i]? = some v ∧ Rp K F H v d
  done : ∀ st ρ F H i, Rs K F st ρ H → Ext F0 H0 F H → (∀ j ∈ s.js, ρ[j]? = ρ0[j]?) → s.at i st = some none → ∃ vs, SqK k K H a vs ∧ vs.length = i
  sq : ∀ st ρ F H, Rs K F st ρ H → Ext F0 H0 F H → (∀ j ∈ s.js, ρ[j]? = ρ0[j]? ∧ ∃ u, st[j]? = some u ∧ isL u = true) → ∃ vs, SqK k K H a vs
theorem srcOk_dat {K : PySem.W.Frag} {a : Addr} {d : D} {ds : List D} {ρ0 : St} {F0 : Addr → Prop} {H0 : Hp} (h : asLT d = some ds) (r : Rp K F0 H0 (.ref a) d) : SrcOk K (kindD d) a (.dat ds) ρ0 F0 H0 where
  item := fun st ρ F H i e _ x _ hi => by
    obtain ⟨_, vs, e1, s1, s2⟩ := (r.moveK x.1 x.2).sqK h
    cases e1
    obtain ⟨v, h1, h2⟩ := s2.get (atL_some hi)
    exact ⟨vs, v, s1, h1, h2⟩
  done := fun st ρ F H i _ x _ hi => by
    obtain ⟨_, vs, e1, s1, s2⟩ := (r.moveK x.1 x.2).sqK h
    cases e1
    exact ⟨vs, s1, by rw [s2.length]; exact atL_none hi⟩
  sq := fun st ρ F H _ x _ => by
    obtain ⟨_, vs, e1, s1, s2⟩ := (r.moveK x.1 x.2).sqK h
    cases e1
    exact ⟨vs, s1⟩
theorem srcOk_slot {K : PySem.W.Frag} {a : Addr} {j : Nat} {ρ0 : St} {F0 : Addr → Prop} {H0 : Hp} (h : ρ0[j]? = some (some (.ref a))) : SrcOk K true a (.slot j) ρ0 F0 H0 where
  item := fun st ρ F H i e r x hj hi => by
    have hj := hj j (by simp [Src.js])
    change slotAt st[j]? i = _ at hi
    unfold slotAt at hi
    split at hi
    · rename_i k es e0
      obtain ⟨b, vs, y1, y2, y3, y4⟩ := r.slot j _ e0
      rw [hj, h] at y1
      cases y1
      obtain ⟨v, h1, h2⟩ := y4.get (atL_some hi)
      exact ⟨vs, v, .inl (.inl y2), h1, h2⟩
    · cases hi
  done := fun st ρ F H i r x hj hi => by
    have hj := hj j (by simp [Src.js])
    change slotAt st[j]? i = _ at hi
    unfold slotAt at hi
    split at hi
    · rename_i k es e0
      obtain ⟨b, vs, y1, y2, y3, y4⟩ := r.slot j _ e0
      rw [hj, h] at y1
      cases y1
      exact ⟨vs, .inl (.inl y2), by rw [y4.length]; exact atL_none hi⟩
    · cases hi
  sq := fun st ρ F H r x hj => by
    obtain ⟨hj, u, hu, hl⟩ := hj j (by simp [Src.js])
    have z := r.slot j u hu
    rw [hj, h] at z
    cases u with
    | emp => cases hl
    | own k ds =>
      obtain ⟨b, vs, y1, y2, y3, y4⟩ := z
      cases y1
      exact ⟨vs, .inl (.inl y2)⟩
    | val d =>
      obtain ⟨v, y1, y2⟩ := z
      cases y1
      cases d with
      | lst ds =>
        obtain ⟨_, vs, e1, s1, s2⟩ := y2.sqL
        cases e1
        exact ⟨vs, s1⟩
      | _ => cases hl
structure WalkOk (K : PySem.W.Frag) (J : It) (w : Walk) (ρ0 : St) (F0 : Addr → Prop) (H0 : Hp) : Prop where
  go : ∀ st ρ F H i d, Rs K F st ρ H → Ext F0 H0 F H → (∀ j ∈ w.js, ρ[j]? = ρ0[j]?) → w.at i st = some (some d) → J.go i H ∧ ∀ x H', J.yld i H x H' → ∃ F', Grow K F H F' H' (.val d) x
  stop : ∀ st ρ F H i, Rs K F st ρ H → Ext F0 H0 F H → (∀ j ∈ w.js, ρ[j]? = ρ0[j]?) → w.at i st = some none → J.stop i H
def Itk1 (k : Bool) (K : PySem.W.Frag) (a : Addr) : It := match k with
  | true => Itl K a
  | false => Itt K a
def Itke (k : Bool) (K : PySem.W.Frag) (a : Addr) : It := match k with
  | true => Ite K a
  | false => IteT K a
section
variable {K : PySem.W.Frag} {F0 : Addr → Prop} {H0 : Hp} {ρ0 : St}
theorem grow_same {F : Addr → Prop} {H : Hp} {v : V} {d : D} (lv : ∀ a, F a → ∃ o, H a = some o) (r : Rp K F H v d) : Grow K F H F H (.val d) v :=
  ⟨fun _ _ h => h, fun _ h => h, fun _ h => .inl h, lv, r⟩
theorem walkOk_one {k : Bool} {a : Addr} {s : Src} (S : SrcOk K k a s ρ0 F0 H0) : WalkOk K (Itk1 k K a) (.one s) ρ0 F0 H0 where
  go := fun st ρ F H i d r x hj hi => by
    obtain ⟨vs, v, h1, h2, h3⟩ := S.item st ρ F H i d r x hj hi
    cases k
    · refine ⟨⟨vs, v, h1, h2⟩, fun y H' q => ?_⟩
      obtain ⟨rfl, q⟩ := q
      have := q vs h1
      rw [h2] at this; cases this
      exact ⟨F, grow_same r.live h3⟩
    · refine ⟨⟨vs, v, h1, h2⟩, fun y H' q => ?_⟩
      obtain ⟨rfl, q⟩ := q
      have := q vs h1
      rw [h2] at this; cases this
      exact ⟨F, grow_same r.live h3⟩
  stop := fun st ρ F H i r x hj hi => by
    obtain ⟨vs, h1, h2⟩ := S.done st ρ F H i r x hj hi
    cases k
    · exact ⟨vs, h1, by omega⟩
    · exact ⟨vs, h1, by omega⟩
theorem walkOk_enum {k : Bool} {a : Addr} {s : Src} (S : SrcOk K k a s ρ0 F0 H0) : WalkOk K (Itke k K a) (.enum s) ρ0 F0 H0 where
  go := fun st ρ F H i d r x hj hi => by
    change enumAt i (s.at i st) = _ at hi
    unfold enumAt at hi
    split at hi
    · rename_i e he
      cases hi
      obtain ⟨vs, v, h1, h2, h3⟩ := S.item st ρ F H i e r x hj he
      cases k
      · refine ⟨⟨vs, v, h1, h2⟩, fun y H' q => ?_⟩
        obtain ⟨T, w, rfl, hT, rfl, q⟩ := q
        have := q vs h1
        rw [h2] at this; cases this
        exact pair_grow r.live hT (.int _) h3
      · refine ⟨⟨vs, v, h1, h2⟩, fun y H' q => ?_⟩
        obtain ⟨T, w, rfl, hT, rfl, q⟩ := q
        have := q vs h1
        rw [h2] at this; cases this
        exact pair_grow r.live hT (.int _) h3
    · cases hi
    · cases hi
  stop := fun st ρ F H i r x hj hi => by
    change enumAt i (s.at i st) = _ at hi
    unfold enumAt at hi
    split at hi
    · cases hi
    · rename_i he
      obtain ⟨vs, h1, h2⟩ := S.done st ρ F H i r x hj he
      cases k
      · exact ⟨vs, h1, by omega⟩
      · exact ⟨vs, h1, by omega⟩
    · cases hi
theorem walkOk_zip {k l : Bool} {a b : Addr} {s t : Src} (S : SrcOk K k a s ρ0 F0 H0) (T : SrcOk K l b t ρ0 F0 H0) : WalkOk K (ItzK k l K a b) (.zip s t) ρ0 F0 H0 where
  go := fun st ρ F H i d r x hj hi => by
    change zipAt (s.at i st) (t.at i st) = _ at hi
    unfold zipAt at hi
    have j1 : ∀ j ∈ s.js, ρ[j]? = ρ0[j]? := fun j h => hj j (List.mem_append_left _ h)
    have j2 : ∀ j ∈ t.js, ρ[j]? = ρ0[j]? := fun j h => hj j (List.mem_append_right _ h)
    split at hi
    · rename_i e f he hf
      cases hi
      obtain ⟨vs, v, h1, h2, h3⟩ := S.item st ρ F H i e r x j1 he
      obtain ⟨ws, w, g1, g2, g3⟩ := T.item st ρ F H i f r x j2 hf
      refine ⟨⟨vs, ws, v, w, h1, g1, h2, g2⟩, fun y H' q => ?_⟩
      obtain ⟨T', v', w', rfl, hT, rfl, q1, q2⟩ := q
      have z1 := q1 vs h1
      have z2 := q2 ws g1
      rw [h2] at z1
      rw [g2] at z2
      cases z1; cases z2
      exact pair_grow r.live hT h3 g3
    · cases hi
    · cases hi
    · cases hi
  stop := fun st ρ F H i r x hj hi => by
    change zipAt (s.at i st) (t.at i st) = _ at hi
    unfold zipAt at hi
    have j1 : ∀ j ∈ s.js, ρ[j]? = ρ0[j]? := fun j h => hj j (List.mem_append_left _ h)
    have j2 : ∀ j ∈ t.js, ρ[j]? = ρ0[j]? := fun j h => hj j (List.mem_append_right _ h)
    have len1 : ∀ o, s.at i st = some o → ∃ vs, SqK k K H a vs ∧ i ≤ vs.length ∧ (o = none → i = vs.length) := fun o ho => by
      cases o with
      | none =>
        obtain ⟨vs, h1, h2⟩ := S.done st ρ F H i r x j1 ho
        exact ⟨vs, h1, by omega, fun _ => h2.symm⟩
      | some e =>
        obtain ⟨vs, v, h1, h2, _⟩ := S.item st ρ F H i e r x j1 ho
        exact ⟨vs, h1, Nat.le_of_lt (List.getElem?_eq_some_iff.mp h2).1, nofun⟩
    have len2 : ∀ o, t.at i st = some o → ∃ vs, SqK l K H b vs ∧ i ≤ vs.length ∧ (o = none → i = vs.length) := fun o ho => by
      cases o with
      | none =>
        obtain ⟨vs, h1, h2⟩ := T.done st ρ F H i r x j2 ho
        exact ⟨vs, h1, by omega, fun _ => h2.symm⟩
      | some e =>
        obtain ⟨vs, v, h1, h2, _⟩ := T.item st ρ F H i e r x j2 ho
        exact ⟨vs, h1, Nat.le_of_lt (List.getElem?_eq_some_iff.mp h2).1, nofun⟩
    split at hi
    · cases hi
    · rename_i he hf
      obtain ⟨vs, h1, h2, h3⟩ := len1 _ he
      obtain ⟨ws, g1, g2, _⟩ := len2 _ hf
      exact ⟨vs, ws, h1, g1, h2, g2, .inl (h3 rfl)⟩
    · rename_i he hf
      obtain ⟨vs, h1, h2, _⟩ := len1 _ he
      obtain ⟨ws, g1, g2, g3⟩ := len2 _ hf
      exact ⟨vs, ws, h1, g1, h2, g2, .inr (g3 rfl)⟩
    · cases hi
end
/-! what is walked, at the beginning -/
section
variable {X : Cx} {W : WX} {P : Nat} {tg iter : Expr}
def SIV (X : Cx) (W : WX) (P : Nat) (tg iter : Expr) (f : M Walk) : Prop := ∀ st σ τ F H R, σ.length = X.N.length → Rs X.K F st (σ ++ τ) H →
  Post X W P σ τ st F H (f st) (fun w st1 τ1 F1 H1 => ∀ J, (∀ j ∈ w.js, j < P ∧ ∃ s, st1[j]? = some s ∧ isL s = true) → WalkOk X.K J w (σ ++ τ1) F1 H1 → R J H1) → WI X tg iter σ H R
/-- the source of an expression -/
def SSr (X : Cx) (W : WX) (P : Nat) (e : Expr) (f : M Src) : Prop := ∀ st σ τ F H (Q : VK), σ.length = X.N.length → Rs X.K F st (σ ++ τ) H →
  Post X W P σ τ st F H (f st) (fun s st1 τ1 F1 H1 => ∀ k a vs, (∀ j ∈ s.js, j < P ∧ ∃ s, st1[j]? = some s ∧ isL s = true) → SqK k X.K H1 a vs → SrcOk X.K k a s (σ ++ τ1) F1 H1 → Q (.ref a) H1) → WE X e σ H Q
def srcE (f : M Vl) : M Src := bnd f fun v => bnd (frz v) fun d => ofO ((asLT d).map .dat)
def srcV (P j : Nat) : M Src := fun st => match st[j]? with
  | some (.own _ _) => if j < P then .ok (.slot j) st else .stuck
  | some (.val d) => (match asLT d with
    | some ds => .ok (.dat ds) st
    | none => .stuck)
  | _ => .stuck
theorem ssr_e {e : Expr} {f : M Vl} (ha : SE X W P e f) : SSr X W P e (srcE f) := fun st σ τ F H Q hl r h => by
  refine ha st σ τ F H _ hl r (h.bind.imp fun v st1 τ1 F1 H1 s1 _ q x rv => ?_)
  obtain ⟨d, st2, F2, s2, r2, q⟩ := post_frz s1.rs rv q
  cases e1 : asLT d with
  | none => rw [e1] at q; exact q.elim
  | some ds =>
    rw [e1] at q
    obtain ⟨a, vs, rfl, z1, z2⟩ := r2.sqK e1
    exact Post.here (a := Src.dat ds) s2.rs q _ a vs (by intro j hj; cases hj) z1 (srcOk_dat e1 r2)
theorem ssr_v {x : Str} {p : Pos} {j : Nat} (hp : PE X (.Name x p) (tVar j)) (hj : j < X.N.length) : SSr X W P (.Name x p) (srcV P j) := fun st σ τ F H Q hl r h => by
  have hρ : (σ ++ τ)[j]? = σ[j]? := ap_left (by omega)
  unfold srcV at h
  split at h
  · rename_i k ds e0
    split at h
    · rename_i hjP
      obtain ⟨a, vs, y1, y2, y3, y4⟩ := r.slot j _ e0
      refine we hp ⟨.ref a, by rw [← hρ]; exact y1, ?_⟩
      refine Post.here (a := Src.slot j) r h true a vs (fun i hi => ?_) (.inl (.inl y2)) (srcOk_slot y1)
      have : i = j := by simpa [Src.js] using hi
      subst this
      exact ⟨hjP, _, e0, rfl⟩
    · exact h.elim
  · rename_i d e0
    obtain ⟨v, y1, y2⟩ := r.slot j _ e0
    split at h
    · rename_i ds e1
      obtain ⟨a, vs, rfl, z1, z2⟩ := y2.sqK e1
      refine we hp ⟨.ref a, by rw [← hρ]; exact y1, ?_⟩
      exact Post.here (a := Src.dat ds) r h _ a vs (by intro j hj; cases hj) z1 (srcOk_dat e1 y2)
    · exact h.elim
  · exact h.elim
/-! the three walks -/
def iSeqK (K : PySem.W.Frag) (te : TE) : TI := fun σ H R => te σ H fun x H1 => ∃ k a vs, x = .ref a ∧ SqK k K H1 a vs ∧ R (Itk1 k K a) H1
theorem pi_seqK {l : Expr} {tl : TE} (hl : PE X l tl) : PI X tg l (iSeqK X.K tl) := by
  refine ⟨fun pins s σ H R I h => thn (hl.run pins s σ H _ I h) fun v s1 ⟨x, H1, I1, r1, q1⟩ => ?_⟩
  obtain ⟨k, a, vs, e, hq, q⟩ := q1
  subst e
  cases r1
  have fp : ∀ b ∈ [s1.heap.objs.size], FpOk X pins H1 b := fun b hb => by
    rw [List.mem_singleton.mp hb]; exact I1.fpOk (Nat.le_refl _) (I1.hok.fresh (Nat.le_refl _))
  cases k
  · obtain ⟨its, rv, p, hz⟩ := I1.tuple hq
    refine wpAny_pyIter_tuple (show s1.heap.IsTuple a its.toArray from p) ?_
    exact ⟨s1.heap.objs.size, [s1.heap.objs.size], _, _, H1, rfl, I1.kept (t' := s1.toks) fun b o e => Heap.get?_push_of_some _ e, turn_tuple a _, ⟨_, Heap.get?_push_size _ rfl, rfl, rfl⟩, fp, q⟩
  · obtain ⟨its, rv, p, hz⟩ := I1.list hq
    refine wpAny_pyIter_list p.isList ?_
    exact ⟨s1.heap.objs.size, [s1.heap.objs.size], _, _, H1, rfl, I1.kept (t' := s1.toks) fun b o e => Heap.get?_push_of_some _ e, turn_list a _, ⟨_, Heap.get?_push_size _ rfl, rfl, rfl⟩, fp, q⟩
def wOne (f : M Src) : M Walk := bnd f fun s => ret (.one s)
def wEnum (f : M Src) : M Walk := bnd f fun s => ret (.enum s)
def wZip (f g : M Src) : M Walk := bnd f fun s => bnd g fun t => ret (.zip s t)
theorem siv_one {e : Expr} {f : M Src} (h : SSr X W P e f) : SIV X W P tg e (wOne f) := fun st σ τ F H R hl r q =>
  wi (pi_seqK pE) (h st σ τ F H _ hl r (q.bind.imp fun s st1 τ1 F1 H1 s1 _ q k a vs hj hq S => ⟨k, a, vs, rfl, hq, Post.here (a := Walk.one s) s1.rs q _ hj (walkOk_one S)⟩))
theorem siv_enum {e : Expr} {f : M Src} {p pos tpos : Pos} {elts : List Expr} {kk : Nat} (hg : Gl X "enumerate") (hm : X.mg "enumerate" = none) (hs : noStar e = true) (h : SSr X W P e f) : SIV X W P (.Tuple elts kk tpos) (.Call (.Name "enumerate" p) [e] [] pos) (wEnum f) := fun st σ τ F H R hl r q =>
  wi (pi_enum2 hg hm (pa_cons pE pa_nil (starEach_of hs)) (starEach_of hs)) (h st σ τ F H _ hl r (q.bind.imp fun s st1 τ1 F1 H1 s1 _ q k a vs hj hq S => by
    have fin := Post.here (a := Walk.enum s) s1.rs q _ hj (walkOk_enum S)
    cases k
    · exact ⟨a, vs, rfl, .inr ⟨hq, fin⟩⟩
    · exact ⟨a, vs, rfl, .inl ⟨hq, fin⟩⟩))
theorem SrcOk.later {K : PySem.W.Frag} {k : Bool} {a : Addr} {s : Src} {ρ0 ρ1 : St} {F0 F1 : Addr → Prop} {H0 H1 : Hp} (S : SrcOk K k a s ρ0 F0 H0) (x : Ext F0 H0 F1 H1) (hj : ∀ j ∈ s.js, ρ1[j]? = ρ0[j]?) : SrcOk K k a s ρ1 F1 H1 :=
  ⟨fun st ρ F H i d r y h => S.item st ρ F H i d r (x.trans y) fun j q => (h j q).trans (hj j q), fun st ρ F H i r y h => S.done st ρ F H i r (x.trans y) fun j q => (h j q).trans (hj j q),
    fun st ρ F H r y h => S.sq st ρ F H r (x.trans y) fun j q => ⟨(h j q).1.trans (hj j q), (h j q).2⟩⟩
theorem siv_zip {e1 e2 : Expr} {f g : M Src} {p pos tpos : Pos} {elts : List Expr} {kk : Nat} (hP : P ≤ X.N.length) (hg : Gl X "zip") (hm : X.mg "zip" = none) (hs : noStar e1 = true) (hs2 : noStar e2 = true) (h1 : SSr X W P e1 f) (h2 : SSr X W P e2 g) : SIV X W P (.Tuple elts kk tpos) (.Call (.Name "zip" p) [e1, e2] [] pos) (wZip f g) := fun st σ τ F H R hl r q => by
  refine wi (pi_zipK2 hg hm (pa_cons pE (pa_cons pE pa_nil (starEach_of hs2)) (starEach_of hs)) (starEach_of hs) (any_backTo fun z hz => by
    rcases List.mem_cons.mp hz with rfl | hz
    · exact hs2
    · cases hz)) (h1 st σ τ F H _ hl r (q.bind.imp fun s st1 τ1 F1 H1 s1 _ q k a vs hj hq S => ?_))
  refine h2 st1 σ _ F1 H1 _ hl s1.rs (q.bind.imp fun t st2 τ2 F2 H2 s2 _ q2 l b ws hj2 hq2 T => ?_)
  have at2 : ∀ {j : Nat} {θ θ' : St}, j < P → (σ ++ θ)[j]? = (σ ++ θ')[j]? := fun {j θ θ'} h => (ap_left (by omega)).trans (ap_left (by omega)).symm
  have S2 := S.later (ρ1 := σ ++ (τ ++ τ1 ++ τ2)) (s2.ext s1.rs) fun j h => at2 (hj j h).1
  have hj' : ∀ j ∈ s.js, j < P ∧ ∃ u, st2[j]? = some u ∧ isL u = true := fun j h => by
    obtain ⟨a1, u, a2, a3⟩ := hj j h
    obtain ⟨_, u', b2, b3⟩ := s2.par j u a1 a2 a3
    exact ⟨a1, u', b2, b3⟩
  obtain ⟨vs2, hq1⟩ := S2.sq st2 _ F2 H2 s2.rs .refl fun j h => ⟨rfl, (hj' j h).2⟩
  refine ⟨k, l, a, b, vs2, ws, rfl, hq1, hq2, Post.here (a := Walk.zip s t) s2.rs q2 _ (fun j h => ?_) (walkOk_zip S2 T)⟩
  rcases List.mem_append.mp h with h | h
  · exact hj' j h
  · exact hj2 j h
end
/-! ### for -/
section
variable {X : Cx} {W : WX} {P : Nat} {tg : Expr}
def forV (n : Nat) (w : Walk) (g : D → M Unit) (body : M Fl) : Nat → Nat → M Fl
  | 0, _ => bad
  | m + 1, i => fun st => match w.at i st with
    | some (some d) => (match g d st with
      | .ok _ st1 => (match body (st1.take n) with
        | .ok .next st2 => forV n w g body m (i + 1) st2
        | .ok .cont st2 => forV n w g body m (i + 1) st2
        | .ok .brk st2 => .ok .next st2
        | r => r)
      | .exc x st1 => .exc x (st1.take n)
      | .stuck => .stuck)
    | some none => .ok .next st
    | none => .stuck
def sForV (n : Nat) (f : M Walk) (g : D → M Unit) (body : M Fl) : M Fl := bndS n f fun w st => forV n w g body FUEL 0 (st.take n)
theorem ss_forV {iter : Expr} {body : List Stmt} {pos : Pos} {f : M Walk} {T : List Nat} {g : D → M Unit} {b : M Fl} (hP : P ≤ X.N.length) (hp : PassesOwn (model X.prog X.w) X.A X.env X.xe) (hc : X.calm = true) (hns : noSet iter = true) (hi : SIV X W P tg iter f) (hg : SG X W P tg T g) (hb : SSs X W P body b) :
    SS X W P (.For tg iter body [] pos) (sForV X.N.length f g b) := fun st σ F H D hl r h => by
  refine ws (ps_for hp hc pI pG pSs (noSet_ok hns X.env)) (hi st σ [] F H _ hl (rs0 r) ((PostS.bind0 hl hP h).imp fun w st1 τ1 F1 H1 s1 _ q J hj hJ => ?_))
  have tr := (Stp.refl (P := P) s1.rs).trunc hl hP
  have q := PostS.step q tr
  have low : ∀ {s : Sto} {j : Nat}, j < P → (s.take X.N.length)[j]? = s[j]? := fun {s j} h => List.getElem?_take_of_lt (by omega)
  refine ⟨fun i m σ' H' => ∃ st' F', σ'.length = X.N.length ∧ Rs X.K F' st' σ' H' ∧ Ext F1 H1 F' H' ∧ (∀ j ∈ w.js, σ'[j]? = (σ ++ τ1)[j]? ∧ ∃ s, st'[j]? = some s ∧ isL s = true) ∧ PostS X W P X.N.length st' σ' F' H' (forV X.N.length w g b m i st') D,
    ⟨FUEL, st1.take X.N.length, F1, hl, tr.rs, .refl, fun j h => ?_, q⟩, fun i m σ2 H2 ww => ?_⟩
  · obtain ⟨a1, s, a2, a3⟩ := hj j h
    exact ⟨(ap_left (by omega)).symm, s, by rw [low a1]; exact a2, a3⟩
  obtain ⟨st2, F2, hl2, r2, x2, j2, q2⟩ := ww
  cases m with
  | zero => exact q2.elim
  | succ m =>
    cases e0 : w.at i st2 with
    | none => simp only [forV, e0] at q2; exact q2.elim
    | some o =>
      cases o with
      | none =>
        left
        simp only [forV, e0] at q2
        exact ⟨hJ.stop st2 σ2 F2 H2 i r2 x2 (fun j h => (j2 j h).1) e0, q2 σ2 F2 H2 hl2 (.refl r2)⟩
      | some d =>
        right
        obtain ⟨go, yl⟩ := hJ.go st2 σ2 F2 H2 i d r2 x2 (fun j h => (j2 j h).1) e0
        refine ⟨go, fun σ' H' => ∃ st' F', σ'.length = X.N.length ∧ Rs X.K F' st' σ' H' ∧ Ext F1 H1 F' H' ∧ (∀ j ∈ w.js, σ'[j]? = (σ ++ τ1)[j]? ∧ ∃ s, st'[j]? = some s ∧ isL s = true) ∧ PostS X W P X.N.length st' σ' F' H' (forV X.N.length w g b m (i + 1) st') D, fun σ' H' z => ⟨m, Nat.lt_succ_self m, z⟩, fun x H' y => ?_⟩
        obtain ⟨F3, gr⟩ := yl x H' y
        have s3 : Stp P X.K st2 σ2 F2 H2 st2 σ2 F3 H' := Stp.grow r2 gr
        have q3 := PostS.step q2 s3
        refine hg st2 σ2 [] F3 H' x _ _ hl2 (rs0 s3.rs) gr.res ?_
        rw [List.append_nil]
        simp only [forV, e0] at q3
        cases e1 : g d st2 with
        | stuck => rw [e1] at q3; exact q3.elim
        | exc y st4 => rw [e1] at q3; exact fun σ4 τ4 F4 H4 cls dd hl4 s4 xr => q3 σ4 F4 H4 cls dd hl4 (s4.trunc hl4 hP) xr
        | ok _ st4 =>
          rw [e1] at q3
          intro σ4 τ4 F4 H4 hl4 _ s4
          have t4 := s4.trunc hl4 hP
          have q4 := PostS.step q3 t4
          have x4 : Ext F1 H1 F4 H4 := (x2.trans (s3.ext r2)).trans (t4.ext s3.rs)
          refine hb _ σ4 F4 H4 _ hl4 t4.rs ?_
          have jj : ∀ {st5 : Sto} {σ5 : St} {F5 : Addr → Prop} {H5 : Hp}, Stp P X.K (st4.take X.N.length) σ4 F4 H4 st5 σ5 F5 H5 → ∀ j ∈ w.js, σ5[j]? = (σ ++ τ1)[j]? ∧ ∃ s, st5[j]? = some s ∧ isL s = true := fun s5 j h => by
            obtain ⟨a1, s, a2, a3⟩ := j2 j h
            obtain ⟨b1, s', b2, b3⟩ := (t4.trans s5).par j s (hj j h).1 a2 a3
            exact ⟨b1.trans a1, s', b2, b3⟩
          cases e2 : b (st4.take X.N.length) with
          | stuck => simp only [e2] at q4; exact q4.elim
          | exc y st5 => simp only [e2] at q4; exact q4
          | ok fl st5 =>
            simp only [e2] at q4
            cases fl with
            | next => exact fun σ5 F5 H5 hl5 s5 => ⟨st5, F5, hl5, s5.rs, x4.trans (s5.ext t4.rs), jj s5, PostS.step q4 s5⟩
            | cont => exact fun σ5 F5 H5 hl5 s5 => ⟨st5, F5, hl5, s5.rs, x4.trans (s5.ext t4.rs), jj s5, PostS.step q4 s5⟩
            | brk => exact q4
            | ret v => exact q4
end
/-! ### lists that are walked, in comprehensions -/
def lcV (L : Nat) (vs : List Nat) (w : Walk) (g : D → M Unit) (t : M Bool) (e : M Vl) : Nat → Nat → List D → M (List D)
  | 0, _, _ => bad
  | m + 1, i, acc => fun st => match w.at i st with
    | some (some d) => (match g d st with
      | .ok _ st1 => (match t st1 with
        | .ok true st2 => (match e st2 with
          | .ok v st3 => (match frz v st3 with
            | .ok y st4 => if acc.length < szL then lcV L vs w g t e m (i + 1) (acc ++ [y]) (wipeS (st4.take L) vs) else .stuck
            | _ => .stuck)
          | _ => .stuck)
        | .ok false st2 => lcV L vs w g t e m (i + 1) acc (wipeS (st2.take L) vs)
        | _ => .stuck)
      | _ => .stuck)
    | some none => .ok acc st
    | none => .stuck
def lcVGo (vs : List Nat) (g : D → M Unit) (t : M Bool) (e : M Vl) (w : Walk) : M Vl := fun st => if calmV st vs then (match lcV st.length vs w g t e FUEL 0 [] (wipeS st vs) with
  | .ok acc st' => alloc (.own false acc) (restore st vs st')
  | _ => .stuck) else .stuck
def xLcV (vs : List Nat) (f : M Walk) (g : D → M Unit) (t : M Bool) (e : M Vl) : M Vl := bnd f (lcVGo vs g t e)
section
variable {X : Cx} {W : WX} {P n : Nat} {F F' : Addr → Prop} {H H' : Hp} {st st' : Sto} {ρ ρ' σ τ : St} {tg iter elt : Expr} {ifs : List Expr} {scope : Scope} {vs T : List Nat} {g : D → M Unit} {t : M Bool} {e : M Vl}
theorem lcV_read {fw : M Walk} (hP : P ≤ X.N.length) (hi : SIV X W P tg iter fw) (hT : ∀ j ∈ T, j ∈ vs) (hb : ∀ i ∈ vs, P ≤ i ∧ i < X.N.length) (hg : ∀ s H0 C cl fp, SG (blkX X scope s H0 C cl fp) W0 P tg T g) (ht : STs X scope P ifs t) (he : ∀ s H0 C cl fp, SE (blkX X scope s H0 C cl fp) W0 P elt e)
    {Q : VK} (hl : σ.length = X.N.length) (r : Rs X.K F st (σ ++ τ) H) (h : Post X W P σ τ st F H (xLcV vs fw g t e st) (fun v st' τ' F' H' => ∀ x, Rv X.K F' H' (σ ++ τ') x v → Q x H')) :
    tLc (WI X tg iter) (gAll X scope tg) (tAll X scope ifs) (eAll X scope elt) vs σ H Q := by
  refine hi st σ τ F H _ hl r (h.bind.imp fun w st1 τ1 F1 H1 s1 _ q J hjs hJ => ?_)
  intro A0 hD
  have hb' : ∀ i ∈ vs, P ≤ i ∧ i < σ.length := fun i h => by rw [hl]; exact hb i h
  have r1 := s1.rs
  generalize hτ : τ ++ τ1 = τ2 at *
  unfold lcVGo at q
  split at q
  · rename_i hcv
    cases e1 : lcV st1.length vs w g t e FUEL 0 [] (wipeS st1 vs) with
    | stuck => rw [e1] at q; exact q.elim
    | exc y st2 => rw [e1] at q; exact q.elim
    | ok accF stF =>
      rw [e1] at q
      have w0 := Stp.wipe (P := P) r1 hb'
      have hlw : (wipe σ vs).length = X.N.length := by rw [wipe_length]; exact hl
      have nfD : ¬ F1 A0 := fun f => by obtain ⟨o, ho⟩ := r1.live A0 f; rw [hD] at ho; cases ho
      have noD : ¬ Own (wipeS st1 vs) (wipe σ vs ++ τ2) A0 := fun o => by obtain ⟨u, hu⟩ := w0.rs.own_live o; rw [hD] at hu; cases hu
      have hst : st1.length = X.N.length + τ2.length := by rw [r1.len, List.length_append, hl]
      refine ⟨fun i m H' => ∃ st' F' acc av, Stp P X.K (wipeS st1 vs) (wipe σ vs ++ τ2) F1 H1 st' (wipe σ vs ++ τ2) F' H' ∧ H' A0 = some (.lst av) ∧ ¬ F' A0 ∧ ¬ Own st' (wipe σ vs ++ τ2) A0 ∧ Rps X.K F' H' av acc ∧ lcV st1.length vs w g t e m i acc st' = .ok accF stF,
        ⟨FUEL, wipeS st1 vs, F1, [], [], (Stp.refl w0.rs).updD hD nfD noD (fun u e => by rw [hD] at e; cases e), upd_same, nfD, noD, .nil, e1⟩, fun i m H2 ww => ?_⟩
      obtain ⟨st2, F2, acc, av, s2, d1, d2, d3, d4, e2⟩ := ww
      have x2 : Ext F1 H1 F2 H2 := s2.ext w0.rs
      have adr : ∀ j ∈ w.js, (wipe σ vs ++ τ2)[j]? = (σ ++ τ2)[j]? := fun j h => wiped_at (fun i h => (hb' i h).2) fun hv => by have := (hb j hv).1; have := (hjs j h).1; omega
      cases m with
      | zero => cases e2
      | succ m =>
      cases e0 : w.at i st2 with
      | none => simp only [lcV, e0] at e2; cases e2
      | some o =>
      cases o with
      | some dd =>
        right
        obtain ⟨go, yl⟩ := hJ.go st2 _ F2 H2 i dd s2.rs x2 adr e0
        refine ⟨go, fun H' => ∃ st' F' acc av, Stp P X.K (wipeS st1 vs) (wipe σ vs ++ τ2) F1 H1 st' (wipe σ vs ++ τ2) F' H' ∧ H' A0 = some (.lst av) ∧ ¬ F' A0 ∧ ¬ Own st' (wipe σ vs ++ τ2) A0 ∧ Rps X.K F' H' av acc ∧ lcV st1.length vs w g t e m (i + 1) acc st' = .ok accF stF, fun H' z => ⟨m, Nat.lt_succ_self m, z⟩, fun x H3 y => ?_⟩
        obtain ⟨F3, gr⟩ := yl x H3 y
        have s3 : Stp P X.K st2 (wipe σ vs ++ τ2) F2 H2 st2 (wipe σ vs ++ τ2) F3 H3 := Stp.grow s2.rs gr
        obtain ⟨c1, c2, c3⟩ := s3.keepD d1 d2 d3
        have c4 := s3.moves s2.rs d4
        simp only [lcV, e0] at e2
        cases z1 : g dd st2 with
        | stuck => rw [z1] at e2; cases e2
        | exc y st4 => rw [z1] at e2; cases e2
        | ok u st4 =>
          simp only [z1] at e2
          intro bs bH bC bcl bfp
          refine hg bs bH bC bcl bfp st2 (wipe σ vs) τ2 F3 H3 x _ _ hlw s3.rs gr.res ?_
          rw [z1]
          intro σ4 τ4 F4 H4 hl4 ag4 s4
          have hl4 : σ4.length = X.N.length := hl4
          have hw4 : wipe σ4 vs = wipe σ vs := by
            rw [← wipe_wipe (σ := σ)]
            exact wipe_eq (hl4.trans hlw.symm) fun j hj => ag4 j fun h => hj (hT j h)
          refine ⟨hw4, ?_⟩
          obtain ⟨c1, c2, c3⟩ := s4.keepD c1 c2 c3
          have c4 := s4.moves s3.rs c4
          have s24 : Stp P X.K (wipeS st1 vs) (wipe σ vs ++ τ2) F1 H1 st4 (σ4 ++ (τ2 ++ τ4)) F4 H4 := (s2.trans s3).trans s4
          -- the turn's end: what is left behind is cut off
          have back : ∀ (st5 : Sto) (τ5 : St) (F5 : Addr → Prop) (H5 : Hp), Stp P X.K (wipeS st1 vs) (wipe σ vs ++ τ2) F1 H1 st5 (σ4 ++ (τ2 ++ τ5)) F5 H5 → ¬ Own st5 (σ4 ++ (τ2 ++ τ5)) A0 →
              Stp P X.K (wipeS st1 vs) (wipe σ vs ++ τ2) F1 H1 (wipeS (st5.take st1.length) vs) (wipe σ vs ++ τ2) F5 H5 ∧ ¬ Own (wipeS (st5.take st1.length) vs) (wipe σ vs ++ τ2) A0 := fun st5 τ5 F5 H5 s5 no => by
            rw [← List.append_assoc] at s5 no
            have t5 := s5.trunc (n := st1.length) (by rw [List.length_append, hl4, hst]) (by omega)
            have w5 := Stp.wipe (P := P) t5.rs (fun i h => by rw [hl4]; exact hb i h)
            rw [hw4] at w5
            refine ⟨t5.trans w5, fun o => ?_⟩
            rcases w5.owns A0 o with z | z
            · exact no (own_trunc z)
            · obtain ⟨u, hu⟩ := w5.rs.own_live o
              rw [z] at hu; cases hu
          refine st_of ht hl4 s4.rs fun bs bH bC bcl bfp => ?_
          cases z2 : t st4 with
          | stuck => simp only [z2] at e2; cases e2
          | exc y st5 => simp only [z2] at e2; cases e2
          | ok b st5 =>
            simp only [z2] at e2
            intro τ5 F5 H5 s5
            rw [List.append_assoc] at s5
            obtain ⟨c1, c2, c3⟩ := s5.keepD c1 c2 c3
            have c4 := s5.moves s4.rs c4
            have s25 := s24.trans s5
            cases b with
            | false =>
              have e2 : lcV st1.length vs w g t e m (i + 1) acc (wipeS (st5.take st1.length) vs) = .ok accF stF := e2
              obtain ⟨b1, b2⟩ := back st5 (τ4 ++ τ5) F5 H5 s25 c3
              exact iteF ⟨_, F5, acc, av, b1, c1, c2, b2, c4, e2⟩
            | true =>
              refine iteT fun bs bH bC bcl bfp => ?_
              have hr5 := s5.rs
              refine he bs bH bC bcl bfp st5 σ4 (τ2 ++ (τ4 ++ τ5)) F5 H5 _ hl4 hr5 ?_
              cases z3 : e st5 with
              | stuck => simp only [z3] at e2; cases e2
              | exc y st6 => simp only [z3] at e2; cases e2
              | ok v st6 =>
                simp only [z3] at e2
                intro τ6 F6 H6 s6 yv rv
                rw [List.append_assoc, List.append_assoc] at s6 rv
                obtain ⟨c1, c2, c3⟩ := s6.keepD c1 c2 c3
                have c4 := s6.moves hr5 c4
                have s26 := s25.trans s6
                cases z4 : frz v st6 with
                | stuck => simp only [z4] at e2; cases e2
                | exc y st7 => exact absurd z4 frz_noexc
                | ok yd st7 =>
                  simp only [z4] at e2
                  split at e2
                  · rename_i hz
                    obtain ⟨F7, s7, r7⟩ := frz_ok (P := P) s6.rs rv z4
                    obtain ⟨c1, c2, c3⟩ := s7.keepD c1 c2 c3
                    have c4 := s7.moves s6.rs c4
                    have s27 := s26.trans s7
                    obtain ⟨b1, b2⟩ := back st7 _ F7 H6 s27 c3
                    have kp : ∀ a, F7 a → ∀ u, H6 a = some u → upd H6 A0 (.lst (av ++ [yv])) a = some u := fun a f u h => by rw [upd_ne (show a ≠ A0 from fun e => c2 (e ▸ f))]; exact h
                    refine ⟨av, c1, by rw [c4.length, ← szL_eq]; exact hz, _, F7, acc ++ [yd], av ++ [yv], b1.updD hD c2 b2 (fun u e => ⟨_, Option.some.inj (e.symm.trans c1)⟩), upd_same, c2, b2, ?_, e2⟩
                    exact (c4.append (.cons r7 .nil)).move (fun _ h => h) kp
                  · cases e2
      | none =>
        left
        simp only [lcV, e0] at e2
        obtain ⟨ea, es⟩ : acc = accF ∧ st2 = stF := by cases e2; exact ⟨rfl, rfl⟩
        clear e2
        subst ea
        subst es
        refine ⟨hJ.stop st2 _ F2 H2 i s2.rs x2 adr e0, ?_⟩
        have s5 := Stp.unwipe r1 hb' hcv s2
        have hn : ∀ (i : Nat) (k : Bool) (l : List D), (restore st1 vs st2)[i]? = some (.own k l) → (σ ++ τ2)[i]? ≠ some (some (.ref A0)) := fun i k l z1 z2 => by
          by_cases hiv : i ∈ vs
          · have hlen : st2.length = st1.length := by rw [s2.rs.len, r1.len, List.length_append, List.length_append, wipe_length]
            have cvi := List.all_eq_true.mp hcv i hiv
            split at cvi
            · rename_i ez
              rw [restore_in hiv (by rw [hlen]; exact (List.getElem?_eq_some_iff.mp ez).1) ez] at z1; cases z1
            · rename_i dz ez
              rw [restore_in hiv (by rw [hlen]; exact (List.getElem?_eq_some_iff.mp ez).1) ez] at z1; cases z1
            · cases cvi
          · rw [restore_out hiv] at z1
            exact d3 ⟨i, k, l, z1, by rw [wiped_at (fun i h => (hb' i h).2) hiv]; exact z2⟩
        have s6 : Stp P X.K st1 (σ ++ τ2) F1 H1 (restore st1 vs st2 ++ [.own false acc]) (σ ++ τ2 ++ [some (.ref A0)]) F2 H2 := by
          refine ⟨s5.rs.snoc_own hn d1 d2 d4, s5.keep, s5.mono, s5.back, fun a o => ?_, fun j s0 hj ej l => ?_⟩
          · rcases own_snoc s5.rs.len o with z | z
            · exact s5.owns a z
            · cases z; exact .inr hD
          · obtain ⟨g1, s7, g2, g3⟩ := s5.par j s0 hj ej l
            have hj2 := (List.getElem?_eq_some_iff.mp g2).1
            refine ⟨?_, s7, by rw [ap_left hj2]; exact g2, g3⟩
            rw [ap_left (by have := s5.rs.len; omega)]
        rw [List.append_assoc] at s6
        refine q [some (.ref A0)] F2 H2 s6 (.ref A0) ?_
        show (σ ++ (τ2 ++ [some (V.ref A0)]))[(restore st1 vs st2).length]? = some (some (V.ref A0))
        rw [s5.rs.len, ← List.append_assoc]; simp
  · exact q.elim
theorem se_lcV {fw : M Walk} {own : List (Str × Nat)} {pos : Pos} (hP : P ≤ X.N.length) (hc : X.calm = true) (hN : X.N.Nodup) (ok : BlkOk X.N X.env.scope scope own) (hns : noSet iter = true) (hf : ifs.length ≤ 1) (hi : SIV X W P tg iter fw) (hT : ∀ j ∈ T, j ∈ own.map (·.2)) (hb : ∀ i ∈ own.map (·.2), P ≤ i ∧ i < X.N.length)
    (hg : ∀ s H0 C cl fp, SG (blkX X scope s H0 C cl fp) W0 P tg T g) (ht : STs X scope P ifs t) (he : ∀ s H0 C cl fp, SE (blkX X scope s H0 C cl fp) W0 P elt e) : SE X W P (.ListComp elt [⟨tg, iter, ifs, 0⟩] scope pos) (xLcV (own.map (·.2)) fw g t e) := fun st σ τ F H Q hl r h =>
  we (pe_lc (g := gAll X scope tg) (tt := tAll X scope ifs) (te := eAll X scope elt) hc hN pI ok (fun s H0 C cl fp => ⟨fun pins sh _ _ _ u _ I r h => h s H0 C cl fp pins sh u I r⟩) (pts_all hf) (fun s H0 C cl fp => ⟨fun pins sh _ _ _ I h => h s H0 C cl fp pins sh I⟩) (noSet_ok hns X.env))
    (lcV_read hP hi hT hb hg ht he hl r h)
theorem ss_setLcV {fw : M Walk} {own : List (Str × Nat)} {pos spos py : Pos} {y : Str} {j : Nat} (hP : P ≤ X.N.length) (hc : X.calm = true) (hN : X.N.Nodup) (hy : X.N[j]? = some y) (hyl : X.env.scope.names.lookup y = some .local)
    (hsw : swapsWith (.ListComp elt [⟨tg, iter, ifs, 0⟩] scope pos) (some (.Name y py)) spos.line X.env = pure true) (ok : BlkOk X.N X.env.scope scope own) (hns : noSet iter = true) (hf : ifs.length ≤ 1) (hi : SIV X W P tg iter fw) (hT : ∀ j ∈ T, j ∈ own.map (·.2)) (hb : ∀ i ∈ own.map (·.2), P ≤ i ∧ i < X.N.length)
    (hg : ∀ s H0 C cl fp, SG (blkX X scope s H0 C cl fp) W0 P tg T g) (ht : STs X scope P ifs t) (he : ∀ s H0 C cl fp, SE (blkX X scope s H0 C cl fp) W0 P elt e) : SS X W P (.Assign [.Name y py] (.ListComp elt [⟨tg, iter, ifs, 0⟩] scope pos) spos) (sSet X.N.length P j (xLcV (own.map (·.2)) fw g t e)) := fun st σ F H D hl r h => by
  refine ws (ps_setLc (g := gAll X scope tg) (tt := tAll X scope ifs) (te := eAll X scope elt) hc hN hy hyl hsw pI ok (fun s H0 C cl fp => ⟨fun pins sh _ _ _ u _ I r h => h s H0 C cl fp pins sh u I r⟩) (pts_all hf) (fun s H0 C cl fp => ⟨fun pins sh _ _ _ I h => h s H0 C cl fp pins sh I⟩) (noSet_ok hns X.env))
    (lcV_read hP hi hT hb hg ht he hl (rs0 r) ((PostS.bind0 hl hP h).imp fun v st1 τ1 F1 H1 s1 _ q x rv => ?_))
  exact set_end hl hP (List.getElem?_eq_some_iff.mp hy).1 s1.rs rv q
end
end PU
namespace PU
open PySem PySem.Spec PyProof.Rows L2
/-! ### ascending lists without doubles -/
def insU (k : Int) : List Int → List Int
  | [] => [k]
  | a :: r => if k < a then k :: a :: r else if k = a then a :: r else a :: insU k r
def usort (ns : List Int) : List Int := ns.foldr insU []
theorem mem_insU {k x : Int} : ∀ {l : List Int}, x ∈ insU k l ↔ x = k ∨ x ∈ l
  | [] => by simp [insU]
  | a :: r => by
    have ih := mem_insU (k := k) (x := x) (l := r)
    unfold insU
    split
    · simp
    · split
      · rename_i h; subst h; simp
      · rw [List.mem_cons, ih, List.mem_cons]
        constructor
        · rintro (h | h | h) <;> simp [h]
        · rintro (h | h | h) <;> simp [h]
theorem mem_usort {x : Int} : ∀ {ns : List Int}, x ∈ usort ns ↔ x ∈ ns
  | [] => by simp [usort]
  | a :: r => by
    have ih := mem_usort (x := x) (ns := r)
    unfold usort at ih ⊢
    rw [List.foldr_cons, mem_insU, ih, List.mem_cons]
theorem asc_insU {k : Int} : ∀ {l : List Int}, l.Pairwise (· < ·) → (insU k l).Pairwise (· < ·)
  | [], _ => by simp [insU]
  | a :: r, h => by
    obtain ⟨h1, h2⟩ := List.pairwise_cons.mp h
    unfold insU
    split
    · rename_i hk
      refine List.pairwise_cons.mpr ⟨fun y hy => ?_, h⟩
      rcases List.mem_cons.mp hy with rfl | hy
      · exact hk
      · exact Int.lt_trans hk (h1 y hy)
    · split
      · exact h
      · rename_i hk hk2
        refine List.pairwise_cons.mpr ⟨fun y hy => ?_, asc_insU h2⟩
        rcases mem_insU.mp hy with rfl | hy
        · omega
        · exact h1 y hy
theorem asc_usort : ∀ {ns : List Int}, (usort ns).Pairwise (· < ·)
  | [] => by simp [usort]
  | a :: r => by
    have ih := asc_usort (ns := r)
    unfold usort at ih ⊢
    rw [List.foldr_cons]
    exact asc_insU ih
theorem asc_ext : ∀ {l m : List Int}, l.Pairwise (· < ·) → m.Pairwise (· < ·) → (∀ x, x ∈ l ↔ x ∈ m) → l = m
  | [], [], _, _, _ => rfl
  | [], b :: m, _, _, h => by have := (h b).2 (List.mem_cons_self ..); simp at this
  | a :: l, [], _, _, h => by have := (h a).1 (List.mem_cons_self ..); simp at this
  | a :: l, b :: m, hl, hm, h => by
    obtain ⟨l1, l2⟩ := List.pairwise_cons.mp hl
    obtain ⟨m1, m2⟩ := List.pairwise_cons.mp hm
    have hab : a = b := by
      have q1 := (h a).1 (List.mem_cons_self ..)
      have q2 := (h b).2 (List.mem_cons_self ..)
      rcases List.mem_cons.mp q1 with e | e
      · exact e
      · rcases List.mem_cons.mp q2 with e2 | e2
        · exact e2.symm
        · have := m1 a e; have := l1 b e2; omega
    subst hab
    have := asc_ext l2 m2 fun x => ⟨fun hx => by
      have q := (h x).1 (List.mem_cons_of_mem _ hx)
      rcases List.mem_cons.mp q with e | e
      · have := l1 x hx; omega
      · exact e, fun hx => by
      have q := (h x).2 (List.mem_cons_of_mem _ hx)
      rcases List.mem_cons.mp q with e | e
      · have := m1 x hx; omega
      · exact e⟩
    rw [this]
theorem nodup_of_asc {l : List Int} (h : l.Pairwise (· < ·)) : l.Nodup := h.imp fun h e => by omega
theorem nodup_le : ∀ {l m : List Int}, l.Nodup → (∀ x ∈ l, x ∈ m) → l.length ≤ m.length
  | [], _, _, _ => by simp
  | a :: l, m, hn, h => by
    obtain ⟨n1, n2⟩ := List.nodup_cons.mp hn
    have ha : a ∈ m := h a (List.mem_cons_self ..)
    have := nodup_le (l := l) (m := m.erase a) n2 fun x hx => (List.mem_erase_of_ne (fun e => n1 (by rw [← e]; exact hx))).mpr (h x (List.mem_cons_of_mem _ hx))
    rw [List.length_erase_of_mem ha] at this
    have : 0 < m.length := List.length_pos_of_mem ha
    rw [List.length_cons]; omega
theorem nodup_eq {l m : List Int} (hl : l.Nodup) (hm : m.Nodup) (h : ∀ x, x ∈ l ↔ x ∈ m) : l.length = m.length := by
  have a := nodup_le hl fun x hx => (h x).1 hx
  have b := nodup_le hm fun x hx => (h x).2 hx
  omega
/-! ### set(xs) of a list of ints -/
abbrev so0 (w : World) : Obj := { cls := .type "set", dict := none, data := .set #[] 0 (.fresh 0 0 (!w.params.followText "set-order")) }
section
variable {P0 : Program} {w : World} {A : Around} {E : Value → Shared → Prop} {s : Shared}
set_option maxRecDepth 100000 in
theorem set_ofL {l : Addr} {its : Array Value} (ns : List Int) {Q : Value → Shared → Prop} (nh : A.handled = none) (hl : s.heap.IsList l its) (hit : IntsAre its.toList ns) (hb : ns.length + 1 < scanBound)
    (fin : ∀ (h' : Heap) (tk c : Nat), SetR w h' s.heap.objs.size (fun j => decide (j ∈ ns)) c → c ≤ ns.length → (∀ b o, s.heap.get? b = some o → h'.get? b = some o) → Q (.ref s.heap.objs.size) { s with heap := h', toks := tk }) :
    wpAny (model P0 w) A (call (.type "set") [.ref l]) Q E s := by
  have sz : its.size = ns.length := by
    have q := IntsAre.length hit
    simpa using q
  have T0 := F.called_set
  obtain ⟨c, tl, ty_mro⟩ := T0.mro
  have ty_made := T0.made
  have ty_sub := T0.sub
  refine wpAny_call (codeAny_of_tree ?_)
  show wpAny _ _ (callAny (.type "set") _) _ _ _
  refine wpAny_pure ⟨Code.quiet_builtin _ (by decide +kernel), (codeAny_builtin F.entry_type_call ?_)⟩
  rw [Around.under_plain (weight_type_call_type "set" [.ref l] []) rfl]
  have ty_1 := T0.notType
  have ty_2 := T0.canCreate
  have ty_3 := F.typeCall_set_1 (.ref l)
  repeat (any_goals (first | (assumption; done) | wp_step))
  refine codeAny_mono (code_set_led1 (.ref l) (E := E) (Q₁ := fun obj s1 => obj = .ref s.heap.objs.size ∧ s1 = { s with heap := s.heap.push (so0 w) }) ⟨rfl, rfl⟩) fun r1 s1 h1 => ?_
  cases r1 with
  | error e => exact h1
  | ok fl => cases fl with
    | ret obj =>
      obtain ⟨rfl, rfl⟩ := h1
      have gS : (s.heap.push (so0 w)).get? s.heap.objs.size = some (so0 w) := Heap.get?_push_size _ rfl
      have tS : Shared.TypeIs { s with heap := s.heap.push (so0 w) } (.ref s.heap.objs.size) "set" := ⟨_, gS, rfl⟩
      have i1 := T0.init.lookup
      have i2 := T0.init.bind (.ref s.heap.objs.size)
      repeat (any_goals (first | (assumption; done) | wp_step))
      refine codeAny_mono (codeAny_call_builtin (R := wants (fun r s2 => r = .none ∧ ∃ h' tk c, s2 = { s with heap := h', toks := tk } ∧ SetR w h' s.heap.objs.size (fun j => decide (j ∈ ns)) c ∧ c ≤ ns.length ∧ (∀ b o, s.heap.get? b = some o → h'.get? b = some o)) E) T0.init.plain F.entry_set_init (check_set_init_1 tS ?_)) fun r2 s2 h2 => ?_
      · obtain ⟨ol, hol, hcl, nl, hdl⟩ := hl
        obtain ⟨oc, od, oda, osl⟩ := ol
        simp only at hcl hdl
        subst hcl hdl
        have gl : (s.heap.push (so0 w)).get? l = some { cls := .type "list", dict := od, data := .seq its nl, slots := osl } := Heap.get?_push_of_some _ hol
        have sb1 := F.sub_list_set
        have sb2 := F.sub_list_frozenset
        have sb3 : (Value.type "list" == Value.type "dict") = false := by decide
        have isl : (s.heap.push (so0 w)).IsList l its := ⟨_, gl, rfl, nl, rfl⟩
        unfold Builtin.«set.__init__» noKeywords Builtin.Frozenset.updateFrom
        generalize hPy : pyIter = Py
        wp_walk
        subst hPy
        refine wpAny_pyIter_list isl (wpAny_bind (wpAny_runValue ?_))
        have lt : l < s.heap.objs.size := Heap.lt_size hol
        have nh3 : A.in1.in1.in1.handled = none := by simp [nh]
        have psz : (s.heap.push (so0 w)).objs.size = s.heap.objs.size + 1 := Heap.size_push ..
        have neI : l ≠ (s.heap.push (so0 w)).objs.size := by rw [psz]; exact Nat.ne_of_lt (Nat.lt_succ_of_lt lt)
        have out : s.heap.objs.size ∉ [(s.heap.push (so0 w)).objs.size, l] := by
          rw [psz]; simp only [List.mem_cons, List.mem_singleton, List.not_mem_nil, or_false, not_or]
          exact ⟨Nat.ne_of_lt (Nat.lt_succ_self _), fun z => absurd lt (by rw [z]; exact Nat.lt_irrefl _)⟩
        have vals : ∀ (i : Nat) (v : Value), its[i]? = some v → ∃ k t, ns[i]? = some k ∧ v = .int k t := fun i v hv => by
          have hi : i < ns.length := by rw [← sz]; exact (Array.getElem?_eq_some_iff.mp hv).1
          obtain ⟨t, e⟩ := PyProof.Rows.IntsAre.int_at hit i v (by rw [Array.getElem?_toList]; exact hv)
          refine ⟨ns[i], t, List.getElem?_eq_getElem hi, ?_⟩
          rw [e, List.getD_eq_getElem?_getD, List.getElem?_eq_getElem hi] <;> rfl
        refine set_update_ints ((Walks.list nh3 _ l neI its).toS) s.heap.objs.size out ns sz hb vals (its.size - 0) 0 _ (by omega) (Nat.zero_le _) ⟨⟨_, Heap.get?_push_size _ rfl, rfl, rfl⟩, (isl.push _)⟩ ?start ?stop
        case start =>
          exact ⟨0, Nat.le_refl 0, setR_new_at (Heap.get?_push_of_some _ gS)⟩
        case stop =>
          intro s3 c3 mv hc3 hS3
          obtain ⟨h3, g3, d3, t3, o3⟩ := s3
          have eg : g3 = s.gens := mv.gens
          have ed : d3 = s.drawn := mv.drawn
          have eo : o3 = s.os := mv.os
          subst eg ed eo
          show wpAny _ _ _ _ _ _
          refine wpAny_pure ?_
          show wpAny _ _ (PySem.ret Value.none) _ _ _
          rw [sz] at hc3
          refine wpAny_pure ⟨rfl, h3, t3, c3, rfl, hS3, hc3, fun b o e => ?_⟩
          have b0 : b < s.heap.objs.size := Heap.lt_size e
          refine mv.heap b o ?_ (Heap.get?_push_of_some _ (Heap.get?_push_of_some _ e))
          simp only [List.mem_cons, List.mem_singleton, List.not_mem_nil, or_false, not_or, psz]
          exact ⟨Nat.ne_of_lt b0, Nat.ne_of_lt (Nat.lt_succ_of_lt b0)⟩
      · cases r2 with
        | error e => exact h2
        | ok fl2 => cases fl2 with
          | ret r =>
            obtain ⟨rfl, h', tk, c, rfl, q1, q2, q3⟩ := h2
            repeat (any_goals (first | (assumption; done) | wp_step))
            exact fin _ _ _ q1 q2 q3
          | _ => exact h2.elim
    | _ => exact h1.elim
end
section
variable {X : Cx}
theorem setR_len {w : World} {h : Heap} {a : Addr} {ns : List Int} {c : Nat} (R : SetR w h a (fun j => decide (j ∈ ns)) c) : c = (usort ns).length := by
  obtain ⟨o, es, ep, t, ho, hx, hd, g, nd, hm, hb, hf, hn, _⟩ := R
  have := nodup_eq (l := es.toList.map keyOf) (m := usort ns) nd (nodup_of_asc asc_usort) fun x => by
    rw [mem_usort, ← hm x]; simp
  rw [← this, List.length_map, Array.length_toList, hn]
/-- set(xs) of a list or of a tuple of ints -/
def rSetOf (K : PySem.W.Frag) (w : World) : List V → Hp → VK → Prop := fun xs H Q => ∃ (l : Addr) (ns : List Int), xs = [.ref l] ∧ (SqL K H l (ns.map V.int) ∨ SqT K H l (ns.map V.int)) ∧ ns.length + 1 < scanBound ∧
  ∀ p, H p = none → Q (.ref p) (upd H p (SetO w p (fun j => decide (j ∈ ns)) (usort ns).length))
theorem cr_setOf (hc : X.calm = true) : CallR X (.type "set") (rSetOf X.K X.w) := by
  intro pins s σ H xs us Q I r h
  obtain ⟨l, ns, rfl, hq, hb, q⟩ := h
  rw [Vals.ref1 r]
  have go : ∀ (h' : Heap) (tk c : Nat), SetR X.w h' s.heap.objs.size (fun j => decide (j ∈ ns)) c → (∀ b o, s.heap.get? b = some o → h'.get? b = some o) → ∃ x H1, Inv X pins σ H1 { s with heap := h', toks := tk } ∧ RelV x (.ref s.heap.objs.size) ∧ Q x H1 := fun h' tk c R k => by
    rw [setR_len R] at R
    have hn : H s.heap.objs.size = none := I.hok.fresh (Nat.le_refl _)
    exact ⟨.ref _, _, I.laid (t' := tk) k (Nat.le_refl _) (setO_new R), rfl, q _ hn⟩
  rcases hq with hq | hq
  · obtain ⟨its, rv, pl, hz⟩ := I.list hq
    exact set_ofL ns (I.ok.hd hc) pl.isList (by simpa using ints_of_vals rv) hb fun h' tk c R _ k => go h' tk c R k
  · obtain ⟨its, rv, pl, hz⟩ := I.tuple hq
    exact call_set_tupI ns (I.ok.hd hc) pl (by simpa using ints_of_vals rv) hb fun h' tk c R _ k => go h' tk c R k
/-- len(set) -/
def rLenS (w : World) : List V → Hp → VK → Prop := fun xs H Q => ∃ (a : Addr) (S : Int → Bool) (n : Nat), xs = [.ref a] ∧ H a = some (SetO w a S n) ∧ Q (.int n) H
theorem cr_lenS : CallR X (.builtin "len") (rLenS X.w) := by
  intro pins s σ H xs us Q I r h
  obtain ⟨a, S, n, rfl, ha, q⟩ := h
  rw [Vals.ref1 r]
  obtain ⟨o, es, ep, t, ho, hex, hd, _, _, _, hb, hf, hn, _⟩ := setO_get I ha
  exact call_len_set ho hex hd hf (by have : scanBound = 4096 := rfl; omega) ⟨.int n, H, I.tok _, ⟨_, by rw [hn]⟩, q⟩
variable {W : WX} {P : Nat} {e : Expr} {p p2 q pos : Pos} {fa : M Vl}
theorem asI_vals {K : PySem.W.Frag} {F : Addr → Prop} {H : Hp} : ∀ {vs : List V} {ds : List D} {ns : List Int}, Rps K F H vs ds → asI ds = some ns → vs = ns.map V.int
  | _, _, _, .nil, h => by cases h; rfl
  | _, _, ns, .cons (v := v) (vs := vs) (d := d) (ds := ds) r t, h => by
    cases r with
    | int i =>
      unfold asI at h
      cases e : asI ds with
      | none => rw [e] at h; cases h
      | some ms =>
        rw [e] at h
        cases h
        rw [asI_vals t e]; rfl
    | _ => cases h
def setI (d : D) : Option (List Int) := match d with
  | .lst ds => (asI ds).bind fun ns => if ns.length + 1 < 4096 then some ns else none
  | .tup ds => (asI ds).bind fun ns => if ns.length + 1 < 4096 then some ns else none
  | _ => none
theorem setI_ok {F : Addr → Prop} {H : Hp} {x : V} {d : D} {ns : List Int} (r : Rq X.K F H x d) (h : setI d = some ns) : ∃ l, x = .ref l ∧ (SqL X.K H l (ns.map V.int) ∨ SqT X.K H l (ns.map V.int)) ∧ ns.length + 1 < scanBound := by
  cases d with
  | lst ds =>
    obtain ⟨a, vs, rfl, z1, z2⟩ := r.sqL
    simp only [setI] at h
    cases e : asI ds with
    | none => rw [e] at h; cases h
    | some ms =>
      rw [e] at h
      simp only [Option.bind_some] at h
      split at h
      · rename_i hb
        cases h
        rw [asI_vals z2 e] at z1
        exact ⟨a, rfl, .inl z1, hb⟩
      · cases h
  | tup ds =>
    obtain ⟨a, vs, rfl, z1, z2⟩ := r.sqT
    simp only [setI] at h
    cases e : asI ds with
    | none => rw [e] at h; cases h
    | some ms =>
      rw [e] at h
      simp only [Option.bind_some] at h
      split at h
      · rename_i hb
        cases h
        rw [asI_vals z2 e] at z1
        exact ⟨a, rfl, .inr z1, hb⟩
      · cases h
  | _ => cases h
def sortSetD (d : D) : Option Slot := (setI d).bind fun ns => if (usort ns).length < 64 then some (.own false ((usort ns).map .int)) else none
def lenSetD (d : D) : Option Slot := (setI d).map fun ns => .val (.int (usort ns).length)
/-- what is new beside old things, the last one a list -/
theorem grow2 {F : Addr → Prop} {H : Hp} {K : PySem.W.Frag} {a b : Addr} {o : HO} {vs : List V} {ds : List D} (live : ∀ a, F a → ∃ o, H a = some o) (ha : H a = none) (hb : upd H a o b = none) (r : Rps K F H vs ds) :
    Grow K F H F (upd (upd H a o) b (.lst vs)) (.own false ds) (.ref b) := by
  have hab : b ≠ a := fun z => by rw [z, upd_same] at hb; cases hb
  rw [upd_ne hab] at hb
  have k : ∀ c u, H c = some u → upd (upd H a o) b (.lst vs) c = some u := fun c u h => by
    rw [upd_ne (fun z => by rw [z, hb] at h; cases h), upd_ne (fun z => by rw [z, ha] at h; cases h)]; exact h
  refine ⟨k, fun _ h => h, fun _ h => .inl h, fun c f => ?_, ⟨b, vs, rfl, hb, upd_same, fun f => ?_, r.move (fun _ h => h) fun c _ u h => k c u h⟩⟩
  · obtain ⟨u, h⟩ := live c f
    exact ⟨u, k c u h⟩
  · obtain ⟨u, h⟩ := live b f
    rw [hb] at h; cases h
theorem se_sortSet (hc : X.calm = true) (hg : Gl X "sorted") (hm : X.mg "sorted" = none) (hg2 : Gl X "set") (hm2 : X.mg "set" = none) (hs : noStar e = true) (ha : SE X W P e fa) :
    SE X W P (.Call (.Name "sorted" p) [.Call (.Name "set" p2) [e] [] q] [] pos) (xUn sortSetD fa) := fun st σ τ F H Q hl r h => by
  have inner : PE X (.Call (.Name "set" p2) [e] [] q) (tCB (rSetOf X.K X.w) (tCons (WE X e) tNil)) := pe_callTy (cr_setOf hc) hg2 hm2 (by decide +kernel) (pa_cons pE pa_nil (starEach_of hs)) (by decide) (by decide) (starEach_of hs) (any_backTo fun a ha => by cases ha)
  have outer : PE X (.Call (.Name "sorted" p) [.Call (.Name "set" p2) [e] [] q] [] pos) (tCB (rSortedSet X.w) (tCons (tCB (rSetOf X.K X.w) (tCons (WE X e) tNil)) tNil)) := pe_callB (cr_sortedSet hc) hg hm (by decide +kernel) (pa_cons inner pa_nil (starEach_of rfl)) (by decide) (by decide) (starEach_of rfl) (any_backTo fun a ha => by cases ha)
  refine we outer (ha st σ τ F H _ hl r (h.bind.imp fun v st1 τ1 F1 H1 s1 _ q x rv => ?_))
  unfold ap1 at q
  split at q
  · rename_i d hd
    have rq := rd_ok hd s1.rs rv
    unfold sortSetD at q
    cases e1 : setI d with
    | none => rw [e1] at q; exact q.elim
    | some ns =>
      rw [e1] at q
      simp only [Option.bind_some] at q
      obtain ⟨l, rfl, z1, z2⟩ := setI_ok rq e1
      by_cases h64 : (usort ns).length < 64
      · rw [if_pos h64] at q
        refine ⟨l, ns, rfl, z1, z2, fun a ha => ⟨a, _, _, rfl, upd_same, h64, fun ms b h1 h2 h3 hb => ?_⟩⟩
        have em : ms = usort ns := asc_ext h1 asc_usort fun x => by rw [h2 x, mem_usort]; simp
        subst em
        exact post_alloc s1.rs q _ _ _ (grow2 s1.rs.live ha hb (rps_ints _))
      · rw [if_neg h64] at q
        exact q.elim
  · exact q.elim
theorem se_lenSet (hc : X.calm = true) (hg : Gl X "len") (hm : X.mg "len" = none) (hg2 : Gl X "set") (hm2 : X.mg "set" = none) (hs : noStar e = true) (ha : SE X W P e fa) :
    SE X W P (.Call (.Name "len" p) [.Call (.Name "set" p2) [e] [] q] [] pos) (xUn lenSetD fa) := fun st σ τ F H Q hl r h => by
  have inner : PE X (.Call (.Name "set" p2) [e] [] q) (tCB (rSetOf X.K X.w) (tCons (WE X e) tNil)) := pe_callTy (cr_setOf hc) hg2 hm2 (by decide +kernel) (pa_cons pE pa_nil (starEach_of hs)) (by decide) (by decide) (starEach_of hs) (any_backTo fun a ha => by cases ha)
  have outer : PE X (.Call (.Name "len" p) [.Call (.Name "set" p2) [e] [] q] [] pos) (tCB (rLenS X.w) (tCons (tCB (rSetOf X.K X.w) (tCons (WE X e) tNil)) tNil)) := pe_callB cr_lenS hg hm (by decide +kernel) (pa_cons inner pa_nil (starEach_of rfl)) (by decide) (by decide) (starEach_of rfl) (any_backTo fun a ha => by cases ha)
  refine we outer (ha st σ τ F H _ hl r (h.bind.imp fun v st1 τ1 F1 H1 s1 _ q x rv => ?_))
  unfold ap1 at q
  split at q
  · rename_i d hd
    have rq := rd_ok hd s1.rs rv
    unfold lenSetD at q
    cases e1 : setI d with
    | none => rw [e1] at q; exact q.elim
    | some ns =>
      rw [e1] at q
      simp only [Option.map_some] at q
      obtain ⟨l, rfl, z1, z2⟩ := setI_ok rq e1
      refine ⟨l, ns, rfl, z1, z2, fun a ha => ⟨a, _, _, rfl, upd_same, ?_⟩⟩
      have k : ∀ c u, H1 c = some u → upd H1 a (SetO X.w a (fun j => decide (j ∈ ns)) (usort ns).length) c = some u := fun c u h => by
        rw [upd_ne (fun z => by rw [z, ha] at h; cases h)]; exact h
      exact post_alloc s1.rs q _ _ _ ⟨k, fun _ h => h, fun _ h => .inl h, fun c f => by
        obtain ⟨u, h⟩ := s1.rs.live c f
        exact ⟨u, k c u h⟩, .int _⟩
  · exact q.elim
end
end PU
namespace PU
open PySem PySem.Spec PyProof.Rows L2
/-! ### t[::k] -/
def stepPick {α : Type} (k : Nat) (xs : List α) : List α := (List.range (if xs.length = 0 then 0 else (xs.length - 1) / k + 1)).filterMap fun m => xs[m * k]?
theorem fwd_adj {k : Int} (n : Nat) (hk : 0 < k) : Builtin.Slice.sliceAdjust none none k (n : Int) = (0, (n : Int)) := by
  have : ¬ k < 0 := by omega
  unfold Builtin.Slice.sliceAdjust
  simp [this]
theorem fwd_places {k : Int} (n : Nat) (hk : 0 < k) : Builtin.Slice.slicePlaces 0 (n : Int) k = if n = 0 then 0 else (n - 1) / k.toNat + 1 := by
  obtain ⟨m, rfl⟩ : ∃ m : Nat, k = m := ⟨k.toNat, by omega⟩
  unfold Builtin.Slice.slicePlaces
  rw [if_pos (show (m : Int) > 0 from hk)]
  by_cases h : n = 0
  · subst h; simp
  · rw [if_pos (show (0 : Int) < (n : Int) by omega), if_neg h]
    have e : (n : Int) - 0 - 1 = ((n - 1 : Nat) : Int) := by omega
    rw [e, ← Int.natCast_ediv, Int.toNat_natCast]
    generalize (n - 1) / m = z
    omega
theorem fwd_pick (xs : Array Value) {k : Int} (hk : 0 < k) : ((List.range (if xs.size = 0 then 0 else (xs.size - 1) / k.toNat + 1)).filterMap fun (m : Nat) => xs[((0 : Int) + (m : Int) * k).toNat]?) = stepPick k.toNat xs.toList := by
  obtain ⟨m, rfl⟩ : ∃ m : Nat, k = m := ⟨k.toNat, by omega⟩
  unfold stepPick
  rw [Array.length_toList]
  congr 1
  funext j
  rw [Array.getElem?_toList]
  congr 1
  show ((0 : Int) + (j : Int) * (m : Int)).toNat = j * (m : Int).toNat
  rw [Int.zero_add, ← Int.natCast_mul]; rfl
section
variable {prog : Program} {w : World} {A : Around} {E : Value → Shared → Prop} {s : Shared}
theorem fwd_applied {sl : Addr} {vl vu vs : Value} {k : Int} {n : Nat} {Q : Int × Int × Nat → Shared → Prop} (hk : 0 < k) (hs : s.heap.IsSliceOf sl vl vu vs) (pl : IsPart vl none) (pu : IsPart vu none) (ps : IsPart vs (some k))
    (h : Q (0, k, if n = 0 then 0 else (n - 1) / k.toNat + 1) s) : wpAny (model prog w) A (Builtin.Slice.sliceApplied (.ref sl) (pure (n : Int))) Q E s := by
  obtain ⟨os, h1, h2, h3⟩ := id hs
  unfold Builtin.Slice.sliceApplied Builtin.Slice.sliceFields
  refine wpAny_bind (wpAny_bind (wpAny_field h1 h3 (x := vl) rfl (wpAny_bind (wpAny_field h1 h3 (x := vu) rfl (wpAny_bind (wpAny_field h1 h3 (x := vs) rfl (wpAny_pure ?_)))))))
  refine wpAny_bind (HT.slicePart_ ps ?_)
  show wpAny _ _ (if (k == 0) = true then _ else _) _ _ s
  rw [if_neg (by simp; omega)]
  refine wpAny_bind (HT.slicePart_ pl (wpAny_bind (HT.slicePart_ pu (wpAny_bind (wpAny_pure ?_)))))
  show wpAny _ _ (match Builtin.Slice.sliceAdjust none none k (n : Int) with | (a, b) => pure (a, k, Builtin.Slice.slicePlaces a b k)) _ _ s
  rw [fwd_adj n hk]
  show wpAny _ _ (pure (0, k, Builtin.Slice.slicePlaces 0 (n : Int) k)) _ _ s
  rw [fwd_places n hk]
  exact wpAny_pure h
theorem getItem_fwd {t sl : Addr} {its : Array Value} {vl vu vs : Value} {k : Int} {Q : Value → Shared → Prop} (hk : 0 < k) (ht : IsTup s.heap t its) (hs : s.heap.IsSliceOf sl vl vu vs) (pl : IsPart vl none) (pu : IsPart vu none) (ps : IsPart vs (some k))
    (h1 : k = 1 → Q (.ref t) s) (h : k ≠ 1 → Q (.ref s.heap.objs.size) { s with heap := s.heap.push { cls := .type "tuple", data := .seq (stepPick k.toNat its.toList).toArray } }) (hz : (stepPick k.toNat its.toList).length ≤ sizeLine) : wpAny (model prog w) A (getItem (.ref t) (.ref sl)) Q E s := by
  have fits : sizeOk (.seq (stepPick k.toNat its.toList).toArray) := by
    show (stepPick k.toNat its.toList).toArray.size ≤ sizeLine
    rw [List.size_toArray]
    exact hz
  obtain ⟨os, e1, e2, e3⟩ := id hs
  have ty : s.TypeIs (.ref sl) "slice" := ⟨os, e1, e2⟩
  unfold getItem
  try with_reducible refine wpAny_holding ?_
  first | refine wpAny_bind (wpAny_pure ?_) | skip
  refine wpAny_bind (wpAny_sequenceKey ht.typeIs (by decide) (wpAny_bind (wpAny_callSpecial?_slot (name := Str.ofString "__getitem__") ht.typeIs PyProof.Rows.slot_tuple_getitem (wpAny_call_entry PyProof.Rows.slot_tuple_getitem ht.typeIs PyProof.Rows.entry_tuple_getitem ?_ (PyProof.Rows.args_tuple_getitem _ _)))))
  show wpAny _ _ (Builtin.Tuple.tupleItemsOf (.ref t) >>= _) _ _ s
  refine wpAny_bind (PyProof.Rows.tupleItemsOf_ ht (wpAny_bind (wpAny_typeOf ty ?_)))
  rw [if_pos (by decide)]
  refine wpAny_bind (fwd_applied hk hs pl pu ps ?_)
  show wpAny _ _ (if ((0 : Int) == 0 && k == 1 && (if its.size = 0 then 0 else (its.size - 1) / k.toNat + 1) == its.size) = true then _ else _) _ _ s
  by_cases hk1 : k = 1
  · subst hk1
    have yes : ((0 : Int) == 0 && (1 : Int) == 1 && (if its.size = 0 then 0 else (its.size - 1) / (1 : Int).toNat + 1) == its.size) = true := by
      have e1 : (if its.size = 0 then 0 else (its.size - 1) / (1 : Int).toNat + 1) = its.size := by
        rw [show (1 : Int).toNat = 1 from rfl, Nat.div_one]
        split <;> omega
      rw [e1]; simp
    rw [if_pos yes]
    have h1 := h1 rfl
    refine wpAny_bind (m := Builtin.Tuple.tupleIsExact _) (wpAny_bind (wpAny_typeOf ht.typeIs (wpAny_pure ?_)))
    rw [if_pos (by decide)]
    refine wpAny_bind (wpAny_rule ?_)
    first
      | exact wpAny_pure ⟨_, rfl, wpAny_pure h1⟩
      | exact wpAny_bind (wpAny_pure ⟨_, rfl, wpAny_pure h1⟩)
  · have no : ¬ (((0 : Int) == 0 && k == 1 && (if its.size = 0 then 0 else (its.size - 1) / k.toNat + 1) == its.size) = true) := by simp [hk1]
    rw [if_neg no, fwd_pick _ hk]
    have h := h hk1
    first
      | exact wpAny_bind (m := Builtin.Tuple.tupleExact _) (wpAny_newObj_type (wpAny_pure ⟨_, rfl, wpAny_pure h⟩) fits)
      | exact wpAny_bind (m := Builtin.Tuple.tupleExact _) (wpAny_newObj_type (wpAny_bind (wpAny_pure (wpAny_pure ⟨_, rfl, wpAny_pure h⟩))) fits)
      | exact wpAny_bind (wpAny_bind (m := Builtin.Tuple.tupleExact _) (wpAny_newObj_type (wpAny_pure (wpAny_pure ⟨_, rfl, wpAny_pure h⟩)) fits))
      | exact wpAny_bind (wpAny_bind (m := Builtin.Tuple.tupleExact _) (wpAny_newObj_type (wpAny_pure ⟨_, rfl, wpAny_pure h⟩) fits))
end
theorem stepPick_len {α : Type} (k : Nat) (xs : List α) : (stepPick k xs).length ≤ xs.length := by
  unfold stepPick
  refine Nat.le_trans (List.length_filterMap_le _ _) ?_
  rw [List.length_range]
  split
  · omega
  · have := Nat.div_le_self (xs.length - 1) k
    omega
theorem vals_fm {xs : List V} {us : List Value} (r : Vals xs us) (g : Nat → Nat) : ∀ l : List Nat, Vals (l.filterMap fun m => xs[g m]?) (l.filterMap fun m => us[g m]?)
  | [] => .nil
  | m :: l => by
    have ih := vals_fm r g l
    rw [List.filterMap_cons, List.filterMap_cons]
    cases e : xs[g m]? with
    | none =>
      rw [r.none_of e]
      exact ih
    | some x =>
      obtain ⟨u, e2, ru⟩ := r.get e
      rw [e2]
      exact .cons ru ih
theorem rps_fm {K : PySem.W.Frag} {F : Addr → Prop} {H : Hp} {xs : List V} {ds : List D} (r : Rps K F H xs ds) (g : Nat → Nat) : ∀ l : List Nat, Rps K F H (l.filterMap fun m => xs[g m]?) (l.filterMap fun m => ds[g m]?)
  | [] => .nil
  | m :: l => by
    have ih := rps_fm r g l
    rw [List.filterMap_cons, List.filterMap_cons]
    cases e : ds[g m]? with
    | none =>
      have e2 : xs[g m]? = none := by
        have h1 := List.getElem?_eq_none_iff.mp e
        exact List.getElem?_eq_none_iff.mpr (by rw [r.length]; exact h1)
      rw [e2]
      exact ih
    | some d =>
      obtain ⟨x, e2, ru⟩ := r.get e
      rw [e2]
      exact .cons ru ih
theorem vals_stepPick {xs : List V} {us : List Value} (r : Vals xs us) (k : Nat) : Vals (stepPick k xs) (stepPick k us) := by
  unfold stepPick
  rw [r.length]
  exact vals_fm r _ _
theorem rps_stepPick {K : PySem.W.Frag} {F : Addr → Prop} {H : Hp} {xs : List V} {ds : List D} (r : Rps K F H xs ds) (k : Nat) : Rps K F H (stepPick k xs) (stepPick k ds) := by
  unfold stepPick
  rw [r.length]
  exact rps_fm r _ _
theorem fm_all {α : Type} : ∀ (xs ys : List α), ((List.range' ys.length xs.length).filterMap fun m => (ys ++ xs)[m]?) = xs
  | [], ys => by simp
  | x :: xs, ys => by
    rw [List.length_cons, List.range'_succ, List.filterMap_cons]
    have e1 : (ys ++ x :: xs)[ys.length]? = some x := by simp
    rw [e1]
    have ih := fm_all xs (ys ++ [x])
    rw [List.length_append, List.length_singleton, List.append_assoc, List.singleton_append] at ih
    simp only
    rw [ih]
theorem stepPick_one {α : Type} (xs : List α) : stepPick 1 xs = xs := by
  have e1 : (if xs.length = 0 then 0 else (xs.length - 1) / 1 + 1) = xs.length := by
    rw [Nat.div_one]; split <;> omega
  have := fm_all xs []
  unfold stepPick
  rw [e1, List.range_eq_range']
  simpa using this
section
variable {X : Cx} {W : WX} {P : Nat} {e ek : Expr} {pos p3 : Pos} {fa fk : M Vl}
def opF2 (K : PySem.W.Frag) (x : V) (k : Int) (H : Hp) (Q : VK) : Prop := ∃ a xs, x = .ref a ∧ 0 < k ∧ SqT K H a xs ∧ (k = 1 → Q (.ref a) H) ∧ (k ≠ 1 → ∀ p, H p = none → Q (.ref p) (upd H p (.tup (stepPick k.toNat xs))))
def opFw (K : PySem.W.Frag) : V → V → Hp → VK → Prop := fun x y H Q => ∃ k, y = .int k ∧ opF2 K x k H Q
theorem pe_fw {te tk : TE} (he : PE X e te) (hk : PE X ek tk) : PE X (.Subscript e (.Slice none none (some ek) p3) pos) (tOp (opFw X.K) te tk) := by
  refine ⟨fun pins s σ H Q I h => ?_⟩
  refine Subscript_ (thn (he.run pins s σ H _ I h) fun v s1 ⟨x, H1, I1, r1, q1⟩ => ?_)
  have step : PO X (some ek) (tPart tk) := po_some hk
  refine wpAny_Slice (thn (po_none.run pins s1 σ H1 (fun o H2 => o = none ∧ H2 = H1) I1 ⟨rfl, rfl⟩) fun vl s2 ⟨o2, H2, I2, pl, e2, e2'⟩ => ?_)
  subst e2 e2'
  refine thn (po_none.run pins s2 σ H2 (fun o H3 => o = none ∧ H3 = H2) I2 ⟨rfl, rfl⟩) fun vu s3 ⟨o3, H3, I3, pu, e3, e3'⟩ => ?_
  subst e3 e3'
  refine thn (step.run pins s3 σ H3 (fun o H4 => o = some (o.getD 0) ∧ opF2 X.K x (o.getD 0) H4 Q) I3 ?_) fun vs s4 ⟨o4, H4, I4, ps, e4, q⟩ => ?_
  · show tk σ H3 fun x_1 H1 => ∃ i, x_1 = .int i ∧ _
    have e1 : (fun (x_1 : V) H1 => ∃ i, x_1 = .int i ∧ (some i = some ((some i).getD 0) ∧ opF2 X.K x ((some i).getD 0) H1 Q)) = fun y H4 => opFw X.K x y H4 Q := by
      funext y H4
      apply propext
      constructor
      · rintro ⟨i, e, _, z⟩; exact ⟨i, e, z⟩
      · rintro ⟨i, e, z⟩; exact ⟨i, e, rfl, z⟩
    rw [e1]
    exact q1
  · generalize o4.getD 0 = k at e4 q
    subst e4
    obtain ⟨a, xs, rfl, hk0, hx, q1, q2⟩ := q
    cases r1
    have I5 : Inv X pins σ H4 { s4 with heap := s4.heap.push { cls := .type "slice", data := .fields #[vl, vu, vs] } } := I4.kept (t' := s4.toks) fun b ob q => Heap.get?_push_of_some _ q
    show wpAny _ X.A (subscriptTail e (.Slice none none (some ek) p3) (.ref a) (.ref s4.heap.objs.size)) (EP X pins σ Q) X.xe { s4 with heap := s4.heap.push { cls := .type "slice", data := .fields #[vl, vu, vs] } }
    obtain ⟨its, r, ht, hz⟩ := I5.tuple hx
    have hlen := r.length
    have hl : (stepPick k.toNat its).length ≤ sizeLine := Nat.le_trans (stepPick_len _ _) (by omega)
    refine tail_any (ops := [.ref a, .ref s4.heap.objs.size]) ht.typeIs PyProof.Rows.slot_tuple_getitem.lookup (getItem_fwd hk0 ht (Heap.IsSliceOf.new _ vl vu vs) pl pu ps (fun e1 => ?_) (fun e1 => ?_) (by simpa using hl)) (by with_unfolding_all rfl)
    · exact ⟨.ref a, H4, I5, rfl, q1 e1⟩
    · have r2 : Vals (stepPick k.toNat xs) (stepPick k.toNat its) := vals_stepPick r _
      refine ⟨.ref _, _, I5.laid (t' := s4.toks) (o := .tup (stepPick k.toNat xs)) (fun b ob q => Heap.get?_push_of_some _ q) (Nat.le_refl _) ⟨Nat.le_trans (stepPick_len _ _) hz, stepPick k.toNat its, r2, ?_⟩, rfl, q2 e1 _ (I5.hok.fresh (Nat.le_refl _))⟩
      exact IsTup.new _ _
def fwD (d e : D) : Option Slot := match d, e with
  | .tup ds, .int k => if 0 < k then some (.val (.tup (stepPick k.toNat ds))) else none
  | _, _ => none
theorem fw_ok : P2 X (opFw X.K) fwD := fun F H x y d e s Q live rx ry h g => by
  cases d with
  | tup ds =>
    cases e with
    | int k =>
      have ey := ry.int
      subst ey
      simp only [fwD] at h
      split at h
      · rename_i hk
        cases h
        obtain ⟨a, vs, rfl, z1, z2⟩ := rx.sqT
        refine ⟨k, rfl, a, vs, rfl, hk, z1, fun e1 => ?_, fun _ p hp => g _ _ _ (growT live hp (rps_stepPick z2 _))⟩
        subst e1
        rw [show (1 : Int).toNat = 1 from rfl, stepPick_one] at g
        rcases rx with rx | ⟨_, _, _, _, e2, _⟩
        · exact g _ _ _ ⟨fun _ _ h => h, fun _ h => h, fun _ h => .inl h, live, rx⟩
        · cases e2
      · cases h
    | _ => cases h
  | _ => cases e <;> cases h
theorem se_fw (ha : SE X W P e fa) (hk : SE X W P ek fk) : SE X W P (.Subscript e (.Slice none none (some ek) p3) pos) (xBin fwD fa fk) := se_bin fw_ok (pe_fw pE pE) ha hk
end
end PU
namespace PU
open PySem PySem.Spec PyProof.Rows L2
/-! ### range(a, b) of numbers of any size, walked -/
def longR (i j : Int) : M (List D) := ret (rngD i (j - i).toNat)
def itR2L (a b : M Vl) : M (List D) := bnd a fun v => bnd b fun w => bnd (getI v) fun i => bnd (getI w) fun j => if sm62 i && sm62 j then ret (rngD i (j - i).toNat) else longR i j
theorem turn_long {P : Program} {w : World} {K : PySem.W.Frag} {tg : Expr} (b : Addr) (from_ : Int) (many : Nat) : Turn P w K tg (Itr from_ many) [b] b (fun k hp => IsLongIter hp b (from_ + (k : Nat) * 1) ((many : Int) - (k : Nat)) 1) := by
  refine ⟨List.mem_cons_self .., fun k hp at_ y hy => ?_, fun k hp hp' at_ stay => stay b (List.mem_cons_self ..) _ at_, ?_, ?_, fun _ _ _ _ _ at_ q => wpAny_pyIter_longiter at_ q⟩
  · cases List.mem_singleton.mp hy
    exact ⟨_, at_, fun _ z => by cases (show Data.fields _ = Data.cell _ from z)⟩
  · intro X eP ew eK calm k pins sh σ H E inv fp at_ lt
    cases eP; cases ew; cases eK
    obtain ⟨g0, g1, g2, g3, g4, g5⟩ := fp b (List.mem_cons_self ..)
    refine (Walks.longrange (prog := X.prog) (w := X.w) (inv.ok.hd calm) b from_ 1 many).item k sh _ _ lt at_ fun u hp2 tk2 ⟨t, eu⟩ at2 stay => ?_
    cases eu
    have inv2 : Inv X pins σ H { sh with heap := hp2, toks := tk2 } := inv.turned (fun y o ny e => stay y o (by simpa using ny) e) g0 g1 g3 g4 g5
    exact ⟨_, rfl, go_of (s := { sh with heap := hp2, toks := tk2 }) (n := "longrange_iterator") at2 rfl rfl (by decide) ⟨.int (from_ + k), H, inv2, ⟨t, by rw [Int.mul_one]⟩, ⟨rfl, rfl⟩, at2, fun y hy => (fp y hy).1⟩⟩
  · intro X eP ew eK calm k pins sh σ H E inv fp at_ ge
    cases eP; cases ew; cases eK
    obtain ⟨g0, g1, g2, g3, g4, g5⟩ := fp b (List.mem_cons_self ..)
    exact wpAny_pyNext_long_end (inv.ok.hd calm) at_ (by have : many ≤ k := ge; omega) fun hp2 stay => ⟨rfl, inv.turned (t' := sh.toks) (fun y o ny e => stay y o ny e) g0 g1 g3 g4 g5⟩
section
variable {X : Cx} {W : WX} {P : Nat} {tg : Expr}
theorem size_one (i j : Int) : (((j - i).toNat : Nat) : Int) = Builtin.Range.rangeSize i j 1 := by
  rw [rangeSize_one]
  split <;> omega
theorem range_long {pins : List (Addr × Obj)} {σ : St} {H : Hp} {sh : Shared} {R : It → Hp → Prop} {E : Value → Shared → Prop} {i j : Int} {t u v : Tok} {tk : Nat} (inv : Inv X pins σ H sh) (q : R (Itr i (j - i).toNat) H) :
    wpAny (model X.prog X.w) X.A (pyIter (.ref sh.heap.objs.size)) (PIE X pins σ tg R) E { sh with heap := sh.heap.push { cls := .type "range", data := .fields #[.int i t, .int j u, .int 1 v] }, toks := tk } := by
  generalize hG : sh.heap.push { cls := .type "range", data := .fields #[.int i t, .int j u, .int 1 v] } = G
  have inv1 : Inv X pins σ H { sh with heap := G, toks := tk } := by
    rw [← hG]
    exact inv.kept fun y o e => Heap.get?_push_of_some _ e
  have isR : IsRange G sh.heap.objs.size i j 1 t u v := by
    rw [← hG]
    exact IsRange.new ..
  have e1 : i + ((0 : Nat) : Int) * 1 = i := by simp
  have e2 : (((j - i).toNat : Nat) : Int) - ((0 : Nat) : Int) = Builtin.Range.rangeSize i j 1 := by rw [← size_one]; simp
  by_cases sm : Builtin.Range.small i j 1 = true
  · refine wpAny_pyIter_range (s := { sh with heap := G, toks := tk }) isR sm ⟨G.objs.size, [G.objs.size], _, _, H, rfl, inv1.kept (t' := tk) fun y o e => Heap.get?_push_of_some _ e, turn_range _ i (j - i).toNat, ?_, fun y hy => ?_, q⟩
    · show IsRangeIter _ _ (i + ((0 : Nat) : Int) * 1) ((((j - i).toNat : Nat) : Int) - ((0 : Nat) : Int)) 1
      rw [e1, e2]; exact Heap.get?_push_size _ rfl
    · cases List.mem_singleton.mp hy
      exact inv1.fpOk (Nat.le_refl _) (inv1.hok.fresh (Nat.le_refl _))
  · refine wpAny_pyIter_longrange (s := { sh with heap := G, toks := tk }) isR (by simpa using sm) ⟨G.objs.size, [G.objs.size], _, _, H, rfl, inv1.kept (t' := tk) fun y o e => Heap.get?_push_of_some _ e, turn_long _ i (j - i).toNat, ?_, fun y hy => ?_, q⟩
    · show IsLongIter _ _ (i + ((0 : Nat) : Int) * 1) ((((j - i).toNat : Nat) : Int) - ((0 : Nat) : Int)) 1
      rw [e1, e2]; exact Heap.get?_push_size _ rfl
    · cases List.mem_singleton.mp hy
      exact inv1.fpOk (Nat.le_refl _) (inv1.hok.fresh (Nat.le_refl _))
def iRngL (ta : TA) : TI := fun σ H R => ta σ H fun vs H1 => ∃ i j : Int, vs = [.int i, .int j] ∧ R (Itr i (j - i).toNat) H1
theorem pi_rangeL {a b : Expr} {ta : TA} {p pos : Pos} (hg : Gl X "range") (hm : X.mg "range" = none) (ha : PA X [a, b] ta) (s1 : starEach [a, b] X.env = [(false, eval a X.env), (false, eval b X.env)]) (s2 : starEach [b] X.env = [(false, eval b X.env)]) : PI X tg (.Call (.Name "range" p) [a, b] [] pos) (iRngL ta) := by
  refine ⟨fun pins sh σ H R inv h => Call_ (ld_blt inv hg hm boot_range (PyProof.Rows.callWith_type1 (thn (ha.run pos pins sh σ H _ inv h) fun us sh1 z => ?_) (by rw [s1, s2]) (by rw [s2]; rfl)))⟩
  obtain ⟨vs, H1, inv1, rv, i, j, e, q⟩ := z
  subst e
  match us, rv with
  | [_, _], .cons ⟨t, e1⟩ (.cons ⟨t', e2⟩ .nil) =>
    cases e1; cases e2
    exact call_range_2 (range_long inv1 q)
theorem si_rangeL {a b : Expr} {p pos : Pos} {fa fb : M Vl} (hg : Gl X "range") (hm : X.mg "range" = none) (hs : noStar a = true) (hs2 : noStar b = true) (ha : SE X W P a fa) (hb : SE X W P b fb) : SI X W P tg (.Call (.Name "range" p) [a, b] [] pos) (itR2L fa fb) := fun st σ τ F H R hl r h => by
  refine wi (pi_rangeL hg hm (pa_cons pE (pa_cons pE pa_nil (starEach_of hs2)) (starEach_of hs)) (by rw [starEach_of hs, starEach_of hs2]; rfl) (starEach_of hs2)) (ha st σ τ F H _ hl r (h.bind.imp fun v st1 τ1 F1 H1 s1 _ q x rv => ?_))
  refine hb st1 σ _ F1 H1 _ hl s1.rs (q.bind.imp fun w st2 τ2 F2 H2 s2 _ q2 y rw' => ?_)
  obtain ⟨i, rfl, q2⟩ := post_getI s2.rs (s2.rvA s1.rs rv) q2
  obtain ⟨j, rfl, q2⟩ := post_getI s2.rs rw' q2
  have e : (if sm62 i && sm62 j then ret (rngD i (j - i).toNat) else longR i j) = ret (rngD i (j - i).toNat) := by split <;> rfl
  rw [e] at q2
  exact ⟨i, j, rfl, Post.here (a := rngD i (j - i).toNat) s2.rs q2 _ itok_rng⟩
end
end PU
namespace PU
open PySem PySem.Spec PyProof.Rows L2
/-! ### len of a set comprehension of ints -/
theorem len_insU {k : Int} : ∀ {l : List Int}, l.Pairwise (· < ·) → (insU k l).length = if k ∈ l then l.length else l.length + 1
  | [], _ => by simp [insU]
  | a :: r, h => by
    obtain ⟨h1, h2⟩ := List.pairwise_cons.mp h
    have ih := len_insU (k := k) h2
    unfold insU
    split
    · rename_i hk
      rw [if_neg (fun z => by
        rcases List.mem_cons.mp z with e | e
        · omega
        · have := h1 k e; omega)]
      simp
    · split
      · rename_i _ hk
        subst hk
        rw [if_pos (List.mem_cons_self ..)]
      · rename_i hk1 hk2
        rw [List.length_cons, ih]
        by_cases z : k ∈ r
        · rw [if_pos z, if_pos (List.mem_cons_of_mem _ z), List.length_cons]
        · rw [if_neg z, if_neg (fun y => by
            rcases List.mem_cons.mp y with e | e
            · exact hk2 e
            · exact z e), List.length_cons]
theorem usort_snoc {ns : List Int} {k : Int} : usort (ns ++ [k]) = insU k (usort ns) :=
  asc_ext asc_usort (asc_insU asc_usort) fun x => by rw [mem_usort, mem_insU, mem_usort, List.mem_append, List.mem_singleton]; exact Or.comm
theorem usort_le : ∀ ns : List Int, (usort ns).length ≤ ns.length
  | [] => by simp [usort]
  | a :: r => by
    have ih := usort_le r
    have e : usort (a :: r) = insU a (usort r) := rfl
    rw [e, len_insU asc_usort, List.length_cons]
    split <;> omega
/-- the set of these ints -/
def siO (ns : List Int) : HO := .set (fun j => decide (j ∈ ns)) (usort ns).length
section
variable {X : Cx}
theorem addI_ok {pins : List (Addr × Obj)} {σ : L2.St} {H : Hp} {s : Shared} {E : Value → Shared → Prop} {D : Addr} {ns : List Int} {k : Int} {tk : Tok} {Q : Value → Shared → Prop} (I : Inv X pins σ H s) (hD : H D = some (siO ns)) (room : ns.length + 1 < scanBound)
    (h : ∀ s', Inv X pins σ (upd H D (siO (ns ++ [k]))) s' → Q .none s') : wpAny (model X.prog X.w) X.A (call (.builtin "set.add") [.ref D, .int k tk]) Q E s := by
  have R : s.heap.SetOf (intKind X.prog X.w) D (fun j => decide (j ∈ ns)) (usort ns).length := I.hok D _ hD
  have rm : (usort ns).length + 1 < scanBound := Nat.lt_of_le_of_lt (Nat.succ_le_succ (usort_le ns)) room
  refine call_set_add (intKind_is _ _ k tk) rfl R rm fun h' sb new => ?_
  have he : ∃ u, h'.get? D = some u := by
    have ⟨o, _, _, _, ho, _⟩ := new
    exact ⟨o, ho⟩
  have e1 : (fun j => decide (j ∈ ns) || decide (j = k)) = fun j => decide (j ∈ ns ++ [k]) := funext fun j => by
    rw [Bool.eq_iff_iff]; simp
  have e2 : (if decide (k ∈ ns) = true then (usort ns).length else (usort ns).length + 1) = (usort (ns ++ [k])).length := by
    rw [usort_snoc, len_insU asc_usort]
    simp [mem_usort]
  have new2 : h'.SetOf (intKind X.prog X.w) D (fun j => decide (j ∈ ns ++ [k])) (usort (ns ++ [k])).length := by
    rw [← e1, ← e2]; exact new
  exact h _ (I.write (e := D) (t' := s.toks + 1) (by rw [hD]; trivial) (.inl rfl) (fun b u hb hu => (sb.2 b hb).trans hu) he (show ObjOk X.prog X.w (upd H D (siO (ns ++ [k]))) h' D (.set _ _) from new2))
theorem newI_ok {w : World} {P : Program} {H : Hp} {h : Heap} : ObjOk P w H (h.push { cls := .type "set", dict := none, data := .set #[] 0 (.fresh 0 0 (!w.params.followText "set-order")) }) h.objs.size (siO []) :=
  show Heap.SetOf _ _ _ _ _ from ⟨_, #[], 0, _, Heap.get?_push_size _ rfl, ⟨rfl, rfl, rfl⟩, rfl, (fun e he => by simp at he), (fun k => by simp), (by decide), (by rfl), rfl⟩
/-- {elt for target in iter if ..}, elt an int: D the new set -/
def tScI (wi : TI) (g : TG) (tt : TT) (te : TE) (vs : List Nat) : TE := fun σ H Q => wi σ H fun J H1 => ∀ D, H1 D = none → ∃ W : Nat → Nat → Hp → Prop, (∃ m, W 0 m (upd H1 D (siO []))) ∧ ∀ i m H, W i m H →
  (J.stop i H ∧ Q (.ref D) H) ∨ (J.go i H ∧ ∃ Nx : Hp → Prop, (∀ H', Nx H' → ∃ m', m' < m ∧ W (i + 1) m' H') ∧ ∀ x H', J.yld i H x H' → g x (wipe σ vs) H' fun σ2 H2 => wipe σ2 vs = wipe σ vs ∧ tt σ2 H2 fun b H3 =>
    if b = true then te σ2 H3 fun y H4 => ∃ (k : Int) (ns : List Int), y = .int k ∧ H4 D = some (siO ns) ∧ ns.length + 1 < scanBound ∧ Nx (upd H4 D (siO (ns ++ [k]))) else Nx H3)
theorem scI_core {pins : List (Addr × Obj)} {s : Shared} {σ : L2.St} {H : Hp} {Q : VK} {elt tg iter : Expr} {ifs : List Expr} {scope : Scope} {own : List (PySem.Str × Nat)} {pos pos' : Pos} {wi : TI} {g : TG} {tt : TT} {te : TE} {use : Option (Value → Sem Unit)} {Qf : Value → Shared → Prop}
    (hc : X.calm = true) (hN : X.N.Nodup) (I : Inv X pins σ H s) (hi : PI X tg iter wi) (ok : BlkOk X.N X.env.scope scope own)
    (hg : ∀ (s : Shared) (H : Hp) (C : Addr) (cl : List (PySem.Str × Addr)) (fp : List Addr), PG (X.blk s H scope (compEnvC scope cl C X.env) fp) tg g) (ht : ∀ (s : Shared) (H : Hp) (C : Addr) (cl : List (PySem.Str × Addr)) (fp : List Addr), PTs (X.blk s H scope (compEnvC scope cl C X.env) fp) ifs tt)
    (he : ∀ (s : Shared) (H : Hp) (C : Addr) (cl : List (PySem.Str × Addr)) (fp : List Addr), PE (X.blk s H scope (compEnvC scope cl C X.env) fp) elt te) (hs : ∀ x, foldedSetIterable iter X.env x = pure x)
    (h : tScI wi g tt te (own.map (·.2)) σ H Q)
    (hRR : ∀ D C s' m H', Inv X pins σ H' s' → Q (.ref D) H' → s'.heap.Ns C m → FpOk X pins H' C → compPost (model X.prog X.w) X.A X.xe use Qf (.ref D) C (.ok .next) s') :
    wpAny (model X.prog X.w) X.A (comprehension (.SetComp elt [⟨tg, iter, ifs, 0⟩] scope pos) scope X.env pos' (newSet (.type "set")) false (eval iter X.env) use) Qf X.xe s := by
  have hfree : ∀ y ∈ scope.names, y.2 = .free → ∃ c, X.env.cells.lookup y.1 = some c := fun y hy e => (ok.free y hy e).elim (fun k => I.ok.has _ (.inl k)) fun k => I.ok.has _ (.inr k)
  refine wpAny_comprehension_free (use := use) rfl hs (closure_ok hfree) ok.kind (fun y hy e => by rw [ok.uniq y hy, e])
    (thn (hi.run pins s σ H _ I h) fun xv s1 hx => thn hx fun itv s2 ⟨it, fp, tn, J, H2, e, I2, T, st2, f2, q⟩ => ?_)
  subst e
  refine PpSet.newSet_ok (newEnv_comp ?_)
  generalize hD : s2.heap.objs.size = D
  have hDn : H2 D = none := I2.hok.fresh (Nat.le_of_eq hD)
  obtain ⟨W, ⟨m0, w0⟩, turn⟩ := q D hDn
  have I3 : Inv X pins σ (upd H2 D (siO [])) { s2 with heap := s2.heap.push { cls := .type "set", dict := none, data := .set #[] 0 (.fresh 0 0 (!X.w.params.followText "set-order")) } } := by
    refine I2.laid (t' := s2.toks) (fun b o e => Heap.get?_push_of_some _ e) (Nat.le_of_eq hD) ?_
    rw [← hD]
    exact newI_ok
  have lay : ∀ b o, s2.heap.get? b = some o → (s2.heap.push { cls := .type "set", dict := none, data := .set #[] 0 (.fresh 0 0 (!X.w.params.followText "set-order")) }).get? b = some o := fun b o e => Heap.get?_push_of_some _ e
  have grew : (s2.heap.push { cls := .type "set", dict := none, data := .set #[] 0 (.fresh 0 0 (!X.w.params.followText "set-order")) }).objs.size = s2.heap.objs.size + 1 := Heap.size_push ..
  generalize hs3 : ({ s2 with heap := s2.heap.push { cls := .type "set", dict := none, data := .set #[] 0 (.fresh 0 0 (!X.w.params.followText "set-order")) } } : Shared) = s3 at I3 ⊢
  have h3 : s3.heap = s2.heap.push { cls := .type "set", dict := none, data := .set #[] 0 (.fresh 0 0 (!X.w.params.followText "set-order")) } := by rw [← hs3]
  have f3 : ∀ b ∈ fp, FpOk X pins (upd H2 D (siO [])) b ∧ b < s3.heap.objs.size := fun b hb => by
    obtain ⟨o, e, _⟩ := T.obj _ _ st2 b hb
    have hlt := Heap.lt_size e
    refine ⟨⟨?_, (f2 b hb).2⟩, by rw [h3, grew]; exact Nat.lt_succ_of_lt hlt⟩
    rw [upd_ne (by rw [← hD]; exact Nat.ne_of_lt hlt)]
    exact (f2 b hb).1
  have st3 : tn 0 s3.heap := T.keep _ _ _ st2 fun b _ o e => by rw [h3]; exact lay b o e
  have I4 := block_start I3 ok hN f3
  have pg := hg s3 (upd H2 D (siO [])) s3.heap.objs.size (cellsFrom (s3.heap.objs.size + 1) scope.names (cloFrom X.env.cells scope.names [])) fp
  have pt := ht s3 (upd H2 D (siO [])) s3.heap.objs.size (cellsFrom (s3.heap.objs.size + 1) scope.names (cloFrom X.env.cells scope.names [])) fp
  have pe := he s3 (upd H2 D (siO [])) s3.heap.objs.size (cellsFrom (s3.heap.objs.size + 1) scope.names (cloFrom X.env.cells scope.names [])) fp
  show codeAny _ _ (.compStart (.SetComp elt [⟨tg, iter, ifs, 0⟩] scope pos) 0 (.ref it) (.ref D) (compEnvC scope (cellsFrom (s3.heap.objs.size + 1) scope.names (cloFrom X.env.cells scope.names [])) s3.heap.objs.size X.env)) (compPost (model X.prog X.w) X.A X.xe use Qf (.ref D) s3.heap.objs.size) { s3 with heap := pushCells (s3.heap.push { cls := .type "dict", data := .dict #[] }) scope.names }
  have nfp : ∀ b ∈ fp, (upd H2 D (siO [])) b = none := fun b hb => (f3 b hb).1.1
  generalize hce : compEnvC scope (cellsFrom (s3.heap.objs.size + 1) scope.names (cloFrom X.env.cells scope.names [])) s3.heap.objs.size X.env = ce at I4 pg pt pe ⊢
  have cL : ce.locals = s3.heap.objs.size := by subst hce; rfl
  generalize hH3 : upd H2 D (siO []) = H3 at I3 I4 pg pt pe w0 nfp f3
  generalize hs4 : ({ s3 with heap := pushCells (s3.heap.push { cls := .type "dict", data := .dict #[] }) scope.names } : Shared) = s4 at I4 ⊢
  have st4 : tn 0 s4.heap := T.keep _ _ _ st3 fun b _ o e => by rw [← hs4]; exact pushCells_keeps _ _ _ _ (Heap.get?_push_of_some _ e)
  have stat : ∀ {σ' : L2.St} {H' : Hp} {s' : Shared}, Inv (X.blk s3 H3 scope ce fp) [] σ' H' s' → (∀ b ∈ fp, H' b = none) → ∀ b ∈ fp, FpOk (X.blk s3 H3 scope ce fp) [] H' b := fun {σ' H' s'} I' hn b hb =>
    ⟨hn b hb, (I'.ok.exf b hb).1, I'.ok.exfs b hb, .inl hb, fun x c e => (I'.ok.exf b hb).2 x c e, fun p hp => absurd (show p ∈ ([] : List (Addr × Obj)) ++ [] from hp) (by simp)⟩
  have loop : codeAny (model X.prog X.w) X.A (.compLoop (.SetComp elt [⟨tg, iter, ifs, 0⟩] scope pos) 0 (.ref it) (.ref D) ce) (compPost (model X.prog X.w) X.A X.xe use Qf (.ref D) s3.heap.objs.size) s4 := by
    refine PpSet.compLoopS_any (fun n s' => ∃ i H', Inv (X.blk s3 H3 scope ce fp) [] (wipe σ (own.map (·.2))) H' s' ∧ tn i s'.heap ∧ (∀ b ∈ fp, H' b = none) ∧ W i n H') ?_ m0 ⟨0, H3, I4, st4, nfp, w0⟩
    rintro n s5 ⟨i, H5, I5, st5, n5, w5⟩
    rcases turn i n H5 w5 with ⟨stop, qq⟩ | ⟨go, Nx, hNx, step⟩
    · refine thnF (T.done (X.blk s3 H3 scope ce fp) rfl rfl rfl hc i [] s5 _ H5 (fun _ _ => False) I5 (stat I5 n5) st5 stop) fun r s6 ⟨hr, I6⟩ => ?_
      subst hr
      have I7 : Inv X pins σ H5 s6 := I3.call' (ch := fp) I6.os I6.base I6.hok I6.bare fun b hb => ⟨(f3 b hb).1.2.2.2.1, (f3 b hb).1.2.1, (f3 b hb).1.2.2.2.2.1, (f3 b hb).1.2.2.2.2.2⟩
      have nC : H5 s3.heap.objs.size = none := cL ▸ (show H5 ce.locals = none from I6.free)
      obtain ⟨m, hn, _⟩ := I6.loc
      exact hRR D s3.heap.objs.size s6 m H5 I7 qq (cL ▸ (show s6.heap.Ns ce.locals m from hn)) (I3.fpOk (Nat.le_refl _) nC)
    · refine thnF (T.item (X.blk s3 H3 scope ce fp) rfl rfl rfl hc i [] s5 _ H5 (fun _ _ => False) I5 (stat I5 n5) st5 go) fun r s6 ⟨u, hr, h6⟩ => ?_
      subst hr
      refine thnF h6 fun _ s7 ⟨x, H7, I7, r7, y7, st7, n7⟩ => ?_
      refine thnF (pg.run _ s7 _ H7 x u _ (I7.pinned (stat I7 n7) (T.obj _ _ st7)) r7 (step x H7 y7)) fun _ s8 ⟨σ8, H8, I8, hw8, q8⟩ => ?_
      refine thnF (pt.run _ s8 σ8 H8 _ I8 q8) fun b s9 ⟨H9, I9, q9⟩ => ?_
      have fin : ∀ {s' : Shared} {H' : Hp}, Inv (X.blk s3 H3 scope ce fp) ([] ++ pinsAt fp s7.heap) σ8 H' s' → Nx H' → ∃ m, m < n ∧ ∃ i H', Inv (X.blk s3 H3 scope ce fp) [] (wipe σ (own.map (·.2))) H' s' ∧ tn i s'.heap ∧ (∀ b ∈ fp, H' b = none) ∧ W i m H' := fun {s' H'} I' nx => by
        obtain ⟨m', hm, w'⟩ := hNx H' nx
        have pin' : ∀ b ∈ fp, ∀ o, s7.heap.get? b = some o → s'.heap.get? b = some o ∧ H' b = none := fun b hb o e =>
          let z := I'.pin (b, o) (List.mem_append_right _ (List.mem_append_right _ (mem_pinsAt hb e)))
          ⟨z.1, z.2.1⟩
        refine ⟨m', hm, i + 1, H', (I'.unpinned (pins := [])).weak (by rw [← hw8, wipe_length]) (fun j v e => ?_), T.keep _ _ _ st7 fun b hb o e => (pin' b hb o e).1, fun b hb => ?_, w'⟩
        · rw [← hw8] at e
          exact (wipe_some e).1
        · obtain ⟨o, e, _⟩ := T.obj _ _ st7 b hb
          exact (pin' b hb o e).2
      cases b with
      | false =>
        simp only [Bool.false_eq_true, if_false] at q9 ⊢
        exact fin I9 q9
      | true =>
        simp only [if_true] at q9 ⊢
        refine thnF (pe.run _ s9 σ8 H9 _ I9 q9) fun z s10 ⟨yv, H10, I10, r10, k, ns, ey, hD10, hz10, nx⟩ => ?_
        subst ey
        obtain ⟨tk, rfl⟩ : ∃ t, z = Value.int k t := r10
        exact addI_ok (X := X.blk s3 H3 scope ce fp) I10 hD10 hz10 fun s11 I11 => fin I11 nx
  exact PpSet.codeAny_compStart_set loop (T.self X.A 0 _ _ _ st4 loop)
theorem pe_scI {elt tg iter : Expr} {ifs : List Expr} {scope : Scope} {own : List (PySem.Str × Nat)} {pos : Pos} {wi : TI} {g : TG} {tt : TT} {te : TE} (hc : X.calm = true) (hN : X.N.Nodup) (hi : PI X tg iter wi) (ok : BlkOk X.N X.env.scope scope own)
    (hg : ∀ (s : Shared) (H : Hp) (C : Addr) (cl : List (PySem.Str × Addr)) (fp : List Addr), PG (X.blk s H scope (compEnvC scope cl C X.env) fp) tg g) (ht : ∀ (s : Shared) (H : Hp) (C : Addr) (cl : List (PySem.Str × Addr)) (fp : List Addr), PTs (X.blk s H scope (compEnvC scope cl C X.env) fp) ifs tt)
    (he : ∀ (s : Shared) (H : Hp) (C : Addr) (cl : List (PySem.Str × Addr)) (fp : List Addr), PE (X.blk s H scope (compEnvC scope cl C X.env) fp) elt te) (hs : ∀ x, foldedSetIterable iter X.env x = pure x) :
    PE X (.SetComp elt [⟨tg, iter, ifs, 0⟩] scope pos) (tScI wi g tt te (own.map (·.2))) := by
  refine ⟨fun pins s σ H Q I h => ?_⟩
  rw [PpSet.eval_SetComp]
  refine scI_core hc hN I hi ok hg ht he hs h fun D C s' m H' I' q hn f => ⟨m, hn, fun h'' sb => ?_⟩
  obtain ⟨f0, f1, f2, f3, f4, f5⟩ := f
  exact ⟨.ref D, H', I'.turned (t' := s'.toks) (fun b o hb e => (sb.2 b hb).trans e) f0 f1 f3 f4 f5, rfl, q⟩
/-- len of it -/
def rLenI : List V → Hp → VK → Prop := fun xs H Q => ∃ (a : Addr) (S : Int → Bool) (n : Nat), xs = [.ref a] ∧ H a = some (.set S n) ∧ Q (.int n) H
theorem cr_lenI : CallR X (.builtin "len") rLenI := by
  intro pins s σ H xs us Q I r h
  obtain ⟨a, S, n, rfl, ha, q⟩ := h
  rw [Vals.ref1 r]
  obtain ⟨o, es, ep, t, ho, hex, hd, _, _, hb, hf, hn⟩ : s.heap.SetOf (intKind X.prog X.w) a S n := I.hok a _ ha
  exact call_len_set ho hex hd hf (by have : scanBound = 4096 := rfl; omega) ⟨.int n, H, I.tok _, ⟨_, by rw [hn]⟩, q⟩
end
/-! the mirror -/
def scE (L : Nat) (vs : List Nat) (g : D → M Unit) (t : M Bool) (e : M Vl) : List D → List Int → M (List Int)
  | [], acc => ret acc
  | d :: ds, acc => fun st => match g d st with
    | .ok _ st1 => (match t st1 with
      | .ok true st2 => (match e st2 with
        | .ok v st3 => (match frz v st3 with
          | .ok (.int k) st4 => if acc.length + 1 < 4096 then scE L vs g t e ds (acc ++ [k]) (wipeS (st4.take L) vs) else .stuck
          | _ => .stuck)
        | _ => .stuck)
      | .ok false st2 => scE L vs g t e ds acc (wipeS (st2.take L) vs)
      | _ => .stuck)
    | _ => .stuck
def scGo (vs : List Nat) (g : D → M Unit) (t : M Bool) (e : M Vl) (ds : List D) : M Vl := fun st => if calmV st vs then (match scE st.length vs g t e ds [] (wipeS st vs) with
  | .ok acc st' => .ok (.dat (.int (usort acc).length)) (restore st vs st')
  | _ => .stuck) else .stuck
def xLenSc (vs : List Nat) (it : M (List D)) (g : D → M Unit) (t : M Bool) (e : M Vl) : M Vl := bnd it (scGo vs g t e)
/-- a list comprehension of ints tells it -/
theorem scE_of {L : Nat} {vs : List Nat} {g : D → M Unit} {t : M Bool} {e : M Vl} : ∀ {ds : List D} {acc ns : List Int} {st st' : Sto}, lcE L vs g t e ds (acc.map .int) st = .ok (ns.map .int) st' → ns.length < 4096 → scE L vs g t e ds acc st = .ok ns st'
  | [], acc, ns, st, st', h, _ => by
    have h1 : R.ok (acc.map D.int) st = R.ok (ns.map D.int) st' := h
    injection h1 with h1 h2
    subst h2
    have : acc = ns := (List.map_inj_right fun a b h => by injection h).mp h1
    subst this
    rfl
  | d :: ds, acc, ns, st, st', h, hb => by
    have grow : ∀ {ds : List D} {a b : List D} {s s' : Sto}, lcE L vs g t e ds a s = .ok b s' → ∃ c, b = a ++ c := by
      intro ds
      induction ds with
      | nil => intro a b s s' h; cases h; exact ⟨[], by simp⟩
      | cons d ds ih =>
        intro a b s s' h
        simp only [lcE] at h
        cases z1 : g d s with
        | stuck => rw [z1] at h; cases h
        | exc y st4 => rw [z1] at h; cases h
        | ok u st4 =>
          simp only [z1] at h
          cases z2 : t st4 with
          | stuck => simp only [z2] at h; cases h
          | exc y st5 => simp only [z2] at h; cases h
          | ok bb st5 =>
            simp only [z2] at h
            cases bb with
            | false => exact ih h
            | true =>
              simp only at h
              cases z3 : e st5 with
              | stuck => simp only [z3] at h; cases h
              | exc y st6 => simp only [z3] at h; cases h
              | ok v st6 =>
                simp only [z3] at h
                cases z4 : frz v st6 with
                | stuck => simp only [z4] at h; cases h
                | exc y st7 => simp only [z4] at h; cases h
                | ok yd st7 =>
                  simp only [z4] at h
                  split at h
                  · obtain ⟨c, rfl⟩ := ih h
                    exact ⟨yd :: c, by simp⟩
                  · cases h
    simp only [lcE] at h
    simp only [scE]
    cases z1 : g d st with
    | stuck => rw [z1] at h; cases h
    | exc y st4 => rw [z1] at h; cases h
    | ok u st4 =>
      simp only [z1] at h ⊢
      cases z2 : t st4 with
      | stuck => simp only [z2] at h; cases h
      | exc y st5 => simp only [z2] at h; cases h
      | ok bb st5 =>
        simp only [z2] at h ⊢
        cases bb with
        | false => exact scE_of h hb
        | true =>
          simp only at h ⊢
          cases z3 : e st5 with
          | stuck => simp only [z3] at h; cases h
          | exc y st6 => simp only [z3] at h; cases h
          | ok v st6 =>
            simp only [z3] at h ⊢
            cases z4 : frz v st6 with
            | stuck => simp only [z4] at h; cases h
            | exc y st7 => simp only [z4] at h; cases h
            | ok yd st7 =>
              simp only [z4] at h ⊢
              split at h
              · obtain ⟨c, hc⟩ := grow h
                have hy : ∃ k : Int, yd = .int k := by
                  have m : yd ∈ ns.map D.int := by rw [hc]; simp
                  obtain ⟨k, _, e⟩ := List.mem_map.mp m
                  exact ⟨k, e.symm⟩
                obtain ⟨k, rfl⟩ := hy
                have hl : acc.length + 1 < 4096 := by
                  have := congrArg List.length hc
                  simp at this
                  omega
                show (if acc.length + 1 < 4096 then _ else _) = _
                rw [if_pos hl]
                refine scE_of (acc := acc ++ [k]) ?_ hb
                rw [List.map_append]
                exact h
              · cases h
/-! ### soundness -/
theorem tabs_updI {T : List (Addr × Str)} {H : Hp} {D : Addr} {o : HO} (t : LamX.Tabs T H) (hl : ∀ u, H D = some u → ∃ ns, u = siO ns) : LamX.Tabs T (upd H D o) := fun p hp => by
  obtain ⟨ps, h1, h2, h3⟩ := t p hp
  have ne : ∀ (b : Addr) (u : HO), H b = some u → (∀ ns, u ≠ siO ns) → b ≠ D := fun b u e n z => by
    subst z
    obtain ⟨vs, hv⟩ := hl u e
    exact n vs hv
  refine ⟨ps, by rw [upd_ne (ne _ _ h1 (fun ns z => by unfold siO at z; cases z))]; exact h1, h2, fun pos cv hc => ?_⟩
  obtain ⟨c, e1, e2⟩ := h3 pos cv hc
  exact ⟨c, e1, by rw [upd_ne (ne _ _ e2 (fun ns z => by unfold LamX.CodeO siO at z; cases z))]; exact e2⟩
section
variable {X : Cx} {W : WX} {P n : Nat} {K : PySem.W.Frag} {F F' : Addr → Prop} {H H' : Hp} {st st' : Sto} {ρ ρ' σ τ : St} {tg iter elt : Expr} {ifs : List Expr} {scope : Scope} {vs T : List Nat} {it : M (List D)} {g : D → M Unit} {t : M Bool} {e : M Vl}
theorem Rs.updI {D : Addr} {o : HO} (r : Rs K F st ρ H) (nf : ¬ F D) (no : ¬ Own st ρ D) (hl : ∀ u, H D = some u → ∃ ns, u = siO ns) : Rs K F st ρ (upd H D o) := by
  have kp : ∀ a, F a → ∀ u, H a = some u → upd H D o a = some u := fun a f u h => by rw [upd_ne (show a ≠ D from fun e => nf (e ▸ f))]; exact h
  refine ⟨r.len, fun i s e => ?_, r.dis, fun a f => ?_, tabs_updI r.tab hl⟩
  · have z := r.slot i s e
    cases s with
    | emp => trivial
    | val d => obtain ⟨v, y1, y2⟩ := z; exact ⟨v, y1, y2.move (fun _ h => h) kp⟩
    | own k ds =>
      obtain ⟨a, vs, y1, y2, y3, y4⟩ := z
      refine ⟨a, vs, y1, ?_, y3, y4.move (fun _ h => h) kp⟩
      rw [upd_ne (show a ≠ D from fun e => no (e ▸ ⟨i, k, ds, ‹_›, y1⟩))]; exact y2
  · obtain ⟨u, hu⟩ := r.live a f
    exact ⟨u, kp a f u hu⟩
theorem Stp.updI {D : Addr} {o : HO} (s : Stp P K st ρ F H st' ρ' F' H') (hD : H D = none) (nf : ¬ F' D) (no : ¬ Own st' ρ' D) (hl : ∀ u, H' D = some u → ∃ ns, u = siO ns) : Stp P K st ρ F H st' ρ' F' (upd H' D o) where
  rs := s.rs.updI nf no hl
  keep := fun a u h n => by unfold Kp; rw [upd_ne (ne_of_none h hD)]; exact s.keep a u h n
  mono := s.mono
  back := s.back
  owns := s.owns
  par := s.par
theorem sc_read (hP : P ≤ X.N.length) (hi : SI X W P tg iter it) (hT : ∀ j ∈ T, j ∈ vs) (hb : ∀ i ∈ vs, P ≤ i ∧ i < X.N.length) (hg : ∀ s H0 C cl fp, SG (blkX X scope s H0 C cl fp) W0 P tg T g) (ht : STs X scope P ifs t) (he : ∀ s H0 C cl fp, SE (blkX X scope s H0 C cl fp) W0 P elt e)
    {Q : VK} (hl : σ.length = X.N.length) (r : Rs X.K F st (σ ++ τ) H) (h : Post X W P σ τ st F H (xLenSc vs it g t e st) (fun v st' τ' F' H' => ∀ x, Rv X.K F' H' (σ ++ τ') x v → Q x H')) :
    tScI (WI X tg iter) (gAll X scope tg) (tAll X scope ifs) (eAll X scope elt) vs σ H (fun v H' => rLenI [v] H' Q) := by
  refine hi st σ τ F H _ hl r (h.bind.imp fun ds st1 τ1 F1 H1 s1 _ q J hJ => ?_)
  intro A0 hD
  have nt : ∀ (ns : List Int) (ps : Array Value), siO ns ≠ .tbl ps := fun ns ps z => by unfold siO at z; cases z
  have hb' : ∀ i ∈ vs, P ≤ i ∧ i < σ.length := fun i h => by rw [hl]; exact hb i h
  have r1 := s1.rs
  generalize hτ : τ ++ τ1 = τ2 at *
  unfold scGo at q
  split at q
  · rename_i hcv
    cases e1 : scE st1.length vs g t e ds [] (wipeS st1 vs) with
    | stuck => rw [e1] at q; exact q.elim
    | exc y st2 => rw [e1] at q; exact q.elim
    | ok accF stF =>
      rw [e1] at q
      have w0 := Stp.wipe (P := P) r1 hb'
      have hlw : (wipe σ vs).length = X.N.length := by rw [wipe_length]; exact hl
      have nfD : ¬ F1 A0 := fun f => by obtain ⟨o, ho⟩ := r1.live A0 f; rw [hD] at ho; cases ho
      have noD : ¬ Own (wipeS st1 vs) (wipe σ vs ++ τ2) A0 := fun o => by obtain ⟨u, hu⟩ := w0.rs.own_live o; rw [hD] at hu; cases hu
      have hst : st1.length = X.N.length + τ2.length := by rw [r1.len, List.length_append, hl]
      refine ⟨fun i m H' => m = ds.length - i ∧ i ≤ ds.length ∧ ∃ st' F' acc, Stp P X.K (wipeS st1 vs) (wipe σ vs ++ τ2) F1 H1 st' (wipe σ vs ++ τ2) F' H' ∧ H' A0 = some (siO acc) ∧ ¬ F' A0 ∧ ¬ Own st' (wipe σ vs ++ τ2) A0 ∧ scE st1.length vs g t e (ds.drop i) acc st' = .ok accF stF,
        ⟨ds.length, rfl, Nat.zero_le _, wipeS st1 vs, F1, [], (Stp.refl w0.rs).updI hD nfD noD (fun u e => by rw [hD] at e; cases e), upd_same, nfD, noD, e1⟩, fun i m H2 w => ?_⟩
      obtain ⟨rfl, hi', st2, F2, acc, s2, d1, d2, d3, e2⟩ := w
      have x2 : Ext F1 H1 F2 H2 := s2.ext w0.rs
      by_cases hlt : i < ds.length
      · right
        have hd : ds[i]? = some ds[i] := List.getElem?_eq_getElem hlt
        obtain ⟨go, yl⟩ := hJ.go F2 H2 i _ x2 s2.rs.live hd
        refine ⟨go, fun H' => ∃ st' F' acc, Stp P X.K (wipeS st1 vs) (wipe σ vs ++ τ2) F1 H1 st' (wipe σ vs ++ τ2) F' H' ∧ H' A0 = some (siO acc) ∧ ¬ F' A0 ∧ ¬ Own st' (wipe σ vs ++ τ2) A0 ∧ scE st1.length vs g t e (ds.drop (i + 1)) acc st' = .ok accF stF, fun H' z => ⟨ds.length - (i + 1), by omega, rfl, hlt, z⟩, fun x H3 y => ?_⟩
        obtain ⟨F3, gr⟩ := yl x H3 y
        have s3 : Stp P X.K st2 (wipe σ vs ++ τ2) F2 H2 st2 (wipe σ vs ++ τ2) F3 H3 := Stp.grow s2.rs gr
        obtain ⟨c1, c2, c3⟩ := s3.keepD d1 d2 d3 (nt acc)
        rw [List.drop_eq_getElem_cons hlt] at e2
        simp only [scE] at e2
        cases z1 : g ds[i] st2 with
        | stuck => rw [z1] at e2; cases e2
        | exc y st4 => rw [z1] at e2; cases e2
        | ok u st4 =>
          simp only [z1] at e2
          intro bs bH bC bcl bfp
          refine hg bs bH bC bcl bfp st2 (wipe σ vs) τ2 F3 H3 x _ _ hlw s3.rs gr.res ?_
          rw [z1]
          intro σ4 τ4 F4 H4 hl4 ag4 s4
          have hl4 : σ4.length = X.N.length := hl4
          have hw4 : wipe σ4 vs = wipe σ vs := by
            rw [← wipe_wipe (σ := σ)]
            exact wipe_eq (hl4.trans hlw.symm) fun j hj => ag4 j fun h => hj (hT j h)
          refine ⟨hw4, ?_⟩
          obtain ⟨c1, c2, c3⟩ := s4.keepD c1 c2 c3 (nt acc)
          have s24 : Stp P X.K (wipeS st1 vs) (wipe σ vs ++ τ2) F1 H1 st4 (σ4 ++ (τ2 ++ τ4)) F4 H4 := (s2.trans s3).trans s4
          have back : ∀ (st5 : Sto) (τ5 : St) (F5 : Addr → Prop) (H5 : Hp), Stp P X.K (wipeS st1 vs) (wipe σ vs ++ τ2) F1 H1 st5 (σ4 ++ (τ2 ++ τ5)) F5 H5 → ¬ Own st5 (σ4 ++ (τ2 ++ τ5)) A0 →
              Stp P X.K (wipeS st1 vs) (wipe σ vs ++ τ2) F1 H1 (wipeS (st5.take st1.length) vs) (wipe σ vs ++ τ2) F5 H5 ∧ ¬ Own (wipeS (st5.take st1.length) vs) (wipe σ vs ++ τ2) A0 := fun st5 τ5 F5 H5 s5 no => by
            rw [← List.append_assoc] at s5 no
            have t5 := s5.trunc (n := st1.length) (by rw [List.length_append, hl4, hst]) (by omega)
            have w5 := Stp.wipe (P := P) t5.rs (fun i h => by rw [hl4]; exact hb i h)
            rw [hw4] at w5
            refine ⟨t5.trans w5, fun o => ?_⟩
            rcases w5.owns A0 o with z | z
            · exact no (own_trunc z)
            · obtain ⟨u, hu⟩ := w5.rs.own_live o
              rw [z] at hu; cases hu
          refine st_of ht hl4 s4.rs fun bs bH bC bcl bfp => ?_
          cases z2 : t st4 with
          | stuck => simp only [z2] at e2; cases e2
          | exc y st5 => simp only [z2] at e2; cases e2
          | ok b st5 =>
            simp only [z2] at e2
            intro τ5 F5 H5 s5
            rw [List.append_assoc] at s5
            obtain ⟨c1, c2, c3⟩ := s5.keepD c1 c2 c3 (nt acc)
            have s25 := s24.trans s5
            cases b with
            | false =>
              have e2 : scE st1.length vs g t e (List.drop (i + 1) ds) acc (wipeS (st5.take st1.length) vs) = .ok accF stF := e2
              obtain ⟨b1, b2⟩ := back st5 (τ4 ++ τ5) F5 H5 s25 c3
              exact iteF ⟨_, F5, acc, b1, c1, c2, b2, e2⟩
            | true =>
              refine iteT fun bs bH bC bcl bfp => ?_
              have hr5 := s5.rs
              refine he bs bH bC bcl bfp st5 σ4 (τ2 ++ (τ4 ++ τ5)) F5 H5 _ hl4 hr5 ?_
              cases z3 : e st5 with
              | stuck => simp only [z3] at e2; cases e2
              | exc y st6 => simp only [z3] at e2; cases e2
              | ok v st6 =>
                simp only [z3] at e2
                intro τ6 F6 H6 s6 yv rv
                rw [List.append_assoc, List.append_assoc] at s6 rv
                obtain ⟨c1, c2, c3⟩ := s6.keepD c1 c2 c3 (nt acc)
                have s26 := s25.trans s6
                cases z4 : frz v st6 with
                | stuck => simp only [z4] at e2; cases e2
                | exc y st7 => exact absurd z4 frz_noexc
                | ok yd st7 =>
                  simp only [z4] at e2
                  obtain ⟨F7, s7, r7⟩ := frz_ok (P := P) s6.rs rv z4
                  cases r7 with
                  | int k =>
                    simp only at e2
                    split at e2
                    · rename_i hz
                      obtain ⟨c1, c2, c3⟩ := s7.keepD c1 c2 c3 (nt acc)
                      have s27 := s26.trans s7
                      obtain ⟨b1, b2⟩ := back st7 _ F7 H6 s27 c3
                      exact ⟨k, acc, rfl, c1, hz, _, F7, acc ++ [k], b1.updI hD c2 b2 (fun u e => ⟨_, Option.some.inj (e.symm.trans c1)⟩), upd_same, c2, b2, e2⟩
                    · cases e2
                  | _ => simp only at e2; cases e2
      · left
        have e : i = ds.length := by omega
        subst e
        rw [List.drop_length] at e2
        obtain ⟨ea, es⟩ : acc = accF ∧ st2 = stF := by cases e2; exact ⟨rfl, rfl⟩
        clear e2
        subst ea
        subst es
        refine ⟨hJ.stop F2 H2 x2, A0, _, _, rfl, d1, ?_⟩
        have s5 := Stp.unwipe r1 hb' hcv s2
        exact q [] F2 H2 (by rw [List.append_nil]; exact s5) (.int (usort acc).length) (.int _)
  · exact q.elim
theorem se_lenSc {own : List (Str × Nat)} {pos p cpos : Pos} (hg0 : Gl X "len") (hm : X.mg "len" = none) (hP : P ≤ X.N.length) (hc : X.calm = true) (hN : X.N.Nodup) (ok : BlkOk X.N X.env.scope scope own) (hns : noSet iter = true) (hf : ifs.length ≤ 1) (hi : SI X W P tg iter it) (hT : ∀ j ∈ T, j ∈ own.map (·.2)) (hb : ∀ i ∈ own.map (·.2), P ≤ i ∧ i < X.N.length)
    (hg : ∀ s H0 C cl fp, SG (blkX X scope s H0 C cl fp) W0 P tg T g) (ht : STs X scope P ifs t) (he : ∀ s H0 C cl fp, SE (blkX X scope s H0 C cl fp) W0 P elt e) :
    SE X W P (.Call (.Name "len" p) [.SetComp elt [⟨tg, iter, ifs, 0⟩] scope pos] [] cpos) (xLenSc (own.map (·.2)) it g t e) := fun st σ τ F H Q hl r h => by
  have inner := pe_scI (pos := pos) (g := gAll X scope tg) (tt := tAll X scope ifs) (te := eAll X scope elt) hc hN pI ok (fun s H0 C cl fp => ⟨fun pins sh _ _ _ u _ I r h => h s H0 C cl fp pins sh u I r⟩) (pts_all hf) (fun s H0 C cl fp => ⟨fun pins sh _ _ _ I h => h s H0 C cl fp pins sh I⟩) (noSet_ok hns X.env)
  have hst : starEach [.SetComp elt [⟨tg, iter, ifs, 0⟩] scope pos] X.env = [(false, eval (.SetComp elt [⟨tg, iter, ifs, 0⟩] scope pos) X.env)] := rfl
  have outer := pe_callB (p := p) (pos := cpos) cr_lenI hg0 hm (by decide +kernel) (pa_cons inner pa_nil hst) (by decide) (by decide) hst (any_backTo fun a ha => by cases ha)
  refine we outer ?_
  have z := sc_read hP hi hT hb hg ht he hl r h
  exact z
end
end PU
namespace PU
open PySem PySem.Spec PyProof.Rows L2
/-! ### tables -/
def idx : List Str → Str → Option Nat
  | [], _ => none
  | y :: l, x => if x = y then some 0 else (idx l x).map (· + 1)
theorem idx_ok : ∀ {l : List Str} {x : Str} {i : Nat}, idx l x = some i → l[i]? = some x
  | [], _, _, h => by cases h
  | y :: l, x, i, h => by
    unfold idx at h
    split at h
    · rename_i e; cases h; subst e; rfl
    · rw [Option.map_eq_some_iff] at h
      obtain ⟨j, hj, rfl⟩ := h
      simpa using idx_ok hj
inductive NK where
  | slot | glob | no
def kindS (sc : Scope) (x : Str) : NK := match sc.names.lookup x with
  | some .local => .slot
  | some .cell => .slot
  | some .free => .slot
  | some .globalImplicit => .glob
  | _ => .no
def okName (x : Str) : Bool := !(x == ("__debug__" : Str)) && !(x == ("__classdict__" : Str)) && !(x == ("__name__" : Str))
section
variable {X : Cx} {W : WX} {c : Cfg} {sc : Scope}
theorem Good.vis (G : Good X W c sc) {x : Str} (h : kindS sc x = .slot) : Vis X.env.scope x := by
  unfold kindS at h
  split at h
  · rename_i e; exact .inl (G.sc.loc x e)
  · rename_i e; exact .inr (.inl (G.sc.cel x e))
  · rename_i e
    rcases G.sc.fre x e with z | z
    · exact .inr (.inl z)
    · exact .inr (.inr z)
  · cases h
  · cases h
theorem Good.gl (G : Good X W c sc) {x : Str} (h : kindS sc x = .glob) : Gl X x := by
  unfold kindS at h
  split at h
  · cases h
  · cases h
  · cases h
  · rename_i e; exact G.sc.gl x e
  · cases h
theorem okName_d {x : Str} (h : okName x = true) : (x == ("__debug__" : Str)) = false ∧ (x == ("__classdict__" : Str)) = false ∧ x ≠ "__name__" := by
  unfold okName at h
  rw [Bool.and_eq_true, Bool.and_eq_true] at h
  refine ⟨by simpa using h.1.1, by simpa using h.1.2, fun e => ?_⟩
  have := h.2
  rw [e] at this
  simp at this
end
/-- the built-in ones -/
def bltT : List (Str × Bool × String × (List D → Option Slot)) := [("abs", false, "abs", bAbs), ("len", false, "len", bLen), ("min", false, "min", bMin), ("max", false, "max", bMax), ("int", true, "int", bInt), ("divmod", false, "divmod", bDivmod), ("all", false, "all", bAll), ("any", false, "any", bAny),
  ("sum", false, "sum", bSum), ("sorted", false, "sorted", bSorted), ("tuple", true, "tuple", bTuple), ("list", true, "list", bList), ("str", true, "str", bStr), ("repr", false, "repr", bRepr)]
def BOk (X : Cx) (p : Str × Bool × String × (List D → Option Slot)) : Prop := (p.2.1 = false ∧ PN X (cMx X (.builtin p.2.2.1)) p.2.2.2 ∧ bootBuiltins p.1 = some (.builtin p.2.2.1)) ∨ (p.2.1 = true ∧ PN X (cMx X (.type p.2.2.1)) p.2.2.2 ∧ bootBuiltins p.1 = some (.type p.2.2.1))
theorem bltT_ok {X : Cx} (hc : X.calm = true) (gd : X.A.guards = some []) (rm : Room 1 X.A) : ∀ p ∈ bltT, BOk X p := by
  intro p hp
  simp only [bltT, List.mem_cons, List.not_mem_nil, or_false] at hp
  rcases hp with rfl | rfl | rfl | rfl | rfl | rfl | rfl | rfl | rfl | rfl | rfl | rfl | rfl | rfl
  · exact .inl ⟨rfl, b_abs, by decide +kernel⟩
  · exact .inl ⟨rfl, b_len, by decide +kernel⟩
  · exact .inl ⟨rfl, b_min hc, by decide +kernel⟩
  · exact .inl ⟨rfl, b_max hc, by decide +kernel⟩
  · exact .inr ⟨rfl, b_int, by decide +kernel⟩
  · exact .inl ⟨rfl, b_divmod, by decide +kernel⟩
  · exact .inl ⟨rfl, b_all hc, by decide +kernel⟩
  · exact .inl ⟨rfl, b_any hc, by decide +kernel⟩
  · exact .inl ⟨rfl, b_sum hc, by decide +kernel⟩
  · exact .inl ⟨rfl, b_sorted rm.units, by decide +kernel⟩
  · exact .inr ⟨rfl, b_tuple, by decide +kernel⟩
  · exact .inr ⟨rfl, b_list, by decide +kernel⟩
  · exact .inr ⟨rfl, b_str, by decide +kernel⟩
  · exact .inl ⟨rfl, b_repr gd rm, by decide +kernel⟩
def tyT : List (Str × Ty) := [("int", .int), ("bool", .bool), ("str", .str), ("list", .list), ("tuple", .tuple)]
theorem tyT_ok : ∀ p ∈ tyT, bootBuiltins p.1 = some (.type (tyS p.2)) := by
  intro p hp
  simp only [tyT, List.mem_cons, List.not_mem_nil, or_false] at hp
  rcases hp with rfl | rfl | rfl | rfl | rfl <;> decide +kernel
/-! ### the evaluator -/
structure Evs where
  e : Scope → Expr → M Vl
  t : Scope → Expr → M Bool
def evName (c : Cfg) (sc : Scope) (x : Str) : M Vl := if okName x then (match kindS sc x with
  | .slot => (match idx c.N x with
    | some i => xVar i
    | none => bad)
  | .glob => (match lk c.kon x with
    | some d => xCon d
    | none => bad)
  | .no => bad) else bad
def evOne (f : Expr → M Vl) (e : Expr) (r : M (List Vl)) : M (List Vl) := match e with
  | .Starred a _ => xStar (f a) r
  | e => xCons (f e) r
def evAll (f : Expr → M Vl) : List Expr → M (List Vl)
  | [] => xNil
  | e :: es => evOne f e (evAll f es)
def evKws (f : Expr → M Vl) : List Keyword → M (List Vl)
  | [] => xNil
  | ⟨_, e, _⟩ :: es => xCons (f e) (evKws f es)
def allPlain (es : List Expr) : Bool := es.all noStar
/-- range(..) as what is put into a list -/
def evRng (c : Cfg) (f : Expr → M Vl) (sc : Scope) (e : Expr) : Option (M (List D)) := match e with
  | .Call (.Name x _) args [] _ => if x = "range" ∧ c.blt.contains x = true ∧ allPlain args = true then (match kindS sc x with
    | .glob => (match args with
      | [a] => some (itR1 (f a))
      | [a, b] => some (itR2 (f a) (f b))
      | [a, b, d] => some (itR3b (f a) (f b) (f d))
      | _ => none)
    | _ => none) else none
  | _ => none
def isLT (x : Str) : Bool := decide (x = "list") || decide (x = "tuple")
def rngArg (c : Cfg) (f : Expr → M Vl) (sc : Scope) (x : Str) (as : List Expr) : Option (M (List D)) := match as with
  | [a] => if isLT x then evRng c f sc a else none
  | _ => none
def evBlt (c : Cfg) (f : Expr → M Vl) (sc : Scope) (x : Str) (args : List Expr) : M Vl :=
  if c.blt.contains x then (if x = "isinstance" then (match args with
    | [a, .Name y _] => (match lk tyT y with
      | some T => (match kindS sc y with
        | .glob => if c.blt.contains y && okName y then xIsi T (f a) else bad
        | _ => bad)
      | none => bad)
    | _ => bad) else (match args with
    | [] => bad
    | a :: as => (match rngArg c f sc x (a :: as) with
      | some it => xLR (decide (x = "list")) it
      | none => (match lk bltT x with
        | some (_, _, b) => xBlt b (evAll f (a :: as))
        | none => bad)))) else bad
def evCall (c : Cfg) (f : Expr → M Vl) (sc : Scope) (x : Str) (args : List Expr) (kws : List Keyword) : M Vl := if okName x && allPlain args then (match kindS sc x with
  | .glob => (match lk c.fns x with
    | some g => (match kws with
      | [] => xCall g (evAll f args)
      | _ => if kws.all (fun k => k.arg.isSome) then (match g.kw.find? (fun p => p.1 == args.length && decide (p.2.1 = kws.filterMap (·.arg))) with
        | some p => xCallK g args.length kws.length p.2.2 (evAll f args) (evKws f kws)
        | none => bad) else bad)
    | none => (match kws with
      | [] => evBlt c f sc x args
      | _ => bad))
  | _ => bad) else bad
def evPart (f : Expr → M Vl) : Option Expr → M (Option Int)
  | none => xNoPart
  | some e => xPart (f e)
def evBoolV (f : Expr → M Vl) (op : PySem.BoolOp) : List Expr → M Vl
  | [] => bad
  | [a] => f a
  | a :: b :: r => match op with
    | .And => xAnd (f a) (evBoolV f op (b :: r))
    | .Or => xOr (f a) (evBoolV f op (b :: r))
def evBoolT (f : Expr → M Bool) (op : PySem.BoolOp) : List Expr → M Bool
  | [] => bad
  | [a] => f a
  | a :: b :: r => match op with
    | .And => tAnd (f a) (evBoolT f op (b :: r))
    | .Or => tOr (f a) (evBoolT f op (b :: r))
/-- what is walked -/
def evIter (c : Cfg) (f : Expr → M Vl) (sc : Scope) (tg it : Expr) : M (List D) := match it with
  | .Call (.Name x _) [a] [] _ =>
    if x = "range" then (if c.blt.contains x && noStar a then (match kindS sc x with | .glob => itR1 (f a) | _ => bad) else bad)
    else if x = "enumerate" then (match tg with
      | .Tuple .. => if c.blt.contains x && noStar a then (match kindS sc x with | .glob => itE2 (f a) | _ => bad) else bad
      | _ => bad)
    else itS (f it)
  | .Call (.Name x _) [a, b] [] _ =>
    if x = "range" then (if c.blt.contains x && noStar a && noStar b then (match kindS sc x with | .glob => itR2L (f a) (f b) | _ => bad) else bad)
    else if x = "zip" then (match tg with
      | .Tuple .. => if c.blt.contains x && noStar a && noStar b then (match kindS sc x with | .glob => itZ2 (f a) (f b) | _ => bad) else bad
      | _ => bad)
    else itS (f it)
  | .Call (.Name x _) [a, b, d] [] _ =>
    if x = "range" then (if c.blt.contains x && noStar a && noStar b && noStar d then (match kindS sc x with | .glob => itR3b (f a) (f b) (f d) | _ => bad) else bad)
    else if x = "zip" then (match tg with
      | .Tuple .. => if c.blt.contains x && noStar a && noStar b && noStar d then (match kindS sc x with | .glob => itZ3 (f a) (f b) (f d) | _ => bad) else bad
      | _ => bad)
    else itS (f it)
  | _ => itS (f it)
/-- a target: its slots, what it does -/
def evTg1 (c : Cfg) (f : Expr → M Vl) (sc : Scope) (tg : Expr) : Option (List Nat × (D → M Unit)) := match tg with
  | .Name x _ => (match sc.names.lookup x, idx c.N x with
    | some .local, some i => some ([i], tgN c.P i)
    | some .cell, some i => some ([i], tgN c.P i)
    | _, _ => none)
  | .Subscript (.Name x _) i _ => if okName x && plainIx i then (match kindS sc x, idx c.N x with
    | .slot, some j => some ([], tgI j (f i))
    | _, _ => none) else none
  | _ => none
def evTgs (c : Cfg) (f : Expr → M Vl) (sc : Scope) : List Expr → Option (List Nat × (List D → M Unit))
  | [] => some ([], tgs0)
  | t :: ts => match evTg1 c f sc t, evTgs c f sc ts with
    | some (T1, g1), some (T2, g2) => some (T1 ++ T2, tgsC g1 g2)
    | _, _ => none
def evTg (c : Cfg) (f : Expr → M Vl) (sc : Scope) (tg : Expr) : Option (List Nat × (D → M Unit)) := match tg with
  | .Tuple ts _ _ => (match evTgs c f sc ts with
    | some (T, g) => some (T, tgT ts.length g)
    | none => none)
  | _ => evTg1 c f sc tg
/-- the names of a comprehension with their slots -/
def ownsOf (N : List Str) : List (Str × NameKind) → List (Str × Nat)
  | [] => []
  | (x, .local) :: l => (match idx N x with
    | some i => (x, i) :: ownsOf N l
    | none => ownsOf N l)
  | (x, .cell) :: l => (match idx N x with
    | some i => (x, i) :: ownsOf N l
    | none => ownsOf N l)
  | _ :: l => ownsOf N l
/-- names whose lists are walked as they stand -/
def lockIx (c : Cfg) (sc : Scope) (e : Expr) : Option Nat := match e with
  | .Name x _ => if c.lock.contains x && okName x then (match kindS sc x, idx c.N x with
    | .slot, some j => some j
    | _, _ => none) else none
  | _ => none
def evSrc (c : Cfg) (f : Expr → M Vl) (sc : Scope) (e : Expr) : M Src := match lockIx c sc e with
  | some j => srcV c.P j
  | none => srcE (f e)
def isTupE : Expr → Bool
  | .Tuple .. => true
  | _ => false
def isGlob (k : NK) : Bool := match k with
  | .glob => true
  | _ => false
def evWalk (c : Cfg) (f : Expr → M Vl) (sc : Scope) (tg it : Expr) : Option (M Walk) := match it with
  | .Name x p => (match lockIx c sc (.Name x p) with
    | some j => some (wOne (srcV c.P j))
    | none => none)
  | .Call (.Name x _) [a] [] _ => if x = "enumerate" ∧ (lockIx c sc a).isSome = true ∧ isTupE tg = true ∧ c.blt.contains x = true ∧ noStar a = true ∧ isGlob (kindS sc x) = true then some (wEnum (evSrc c f sc a)) else none
  | .Call (.Name x _) [a, b] [] _ => if x = "zip" ∧ ((lockIx c sc a).isSome || (lockIx c sc b).isSome) = true ∧ isTupE tg = true ∧ c.blt.contains x = true ∧ noStar a = true ∧ noStar b = true ∧ isGlob (kindS sc x) = true then some (wZip (evSrc c f sc a) (evSrc c f sc b)) else none
  | _ => none
def evLc0 (c : Cfg) (r : Evs) (sc : Scope) (elt tg it : Expr) (ifs : List Expr) (scope : Scope) : M Vl :=
  let own := ownsOf c.N scope.names
  let vs := own.map (·.2)
  match evTg c (r.e scope) scope tg with
  | some (T, g) => if blkC c.N sc scope own && noSet it && T.all (fun j => vs.contains j) && vs.all (fun i => decide (c.P ≤ i) && decide (i < c.N.length)) then (match ifs with
    | [] => xLc vs (evIter c (r.e sc) sc tg it) g (ret true) (r.e scope elt)
    | [cnd] => xLc vs (evIter c (r.e sc) sc tg it) g (r.t scope cnd) (r.e scope elt)
    | _ => bad) else bad
  | none => bad
def evLcV (c : Cfg) (r : Evs) (sc : Scope) (fw : M Walk) (elt tg it : Expr) (ifs : List Expr) (scope : Scope) : M Vl :=
  let own := ownsOf c.N scope.names
  let vs := own.map (·.2)
  match evTg c (r.e scope) scope tg with
  | some (T, g) => if blkC c.N sc scope own && noSet it && T.all (fun j => vs.contains j) && vs.all (fun i => decide (c.P ≤ i) && decide (i < c.N.length)) then (match ifs with
    | [] => xLcV vs fw g (ret true) (r.e scope elt)
    | [cnd] => xLcV vs fw g (r.t scope cnd) (r.e scope elt)
    | _ => bad) else bad
  | none => bad
def evLc (c : Cfg) (r : Evs) (sc : Scope) (elt tg it : Expr) (ifs : List Expr) (scope : Scope) : M Vl := match evWalk c (r.e sc) sc tg it with
  | some fw => evLcV c r sc fw elt tg it ifs scope
  | none => evLc0 c r sc elt tg it ifs scope
def tsOf (r : Evs) (scope : Scope) : List Expr → Option (M Bool)
  | [] => some (ret true)
  | [c] => some (r.t scope c)
  | _ => none
def evLc2 (c : Cfg) (r : Evs) (sc : Scope) (elt tg it : Expr) (ifs : List Expr) (tg1 it1 : Expr) (ifs1 : List Expr) (scope : Scope) : M Vl :=
  let own := ownsOf c.N scope.names
  let vs := own.map (·.2)
  match evTg c (r.e scope) scope tg, evTg c (r.e scope) scope tg1, tsOf r scope ifs, tsOf r scope ifs1 with
  | some (T, g), some (T1, g1), some t, some t1 => if blkC c.N sc scope own && noSet it && noSet it1 && T.all (fun j => vs.contains j) && T1.all (fun j => vs.contains j) && vs.all (fun i => decide (c.P ≤ i) && decide (i < c.N.length)) then
      xLc2 vs T1 (evIter c (r.e sc) sc tg it) g t (evIter c (r.e scope) scope tg1 it1) g1 t1 (r.e scope elt) else bad
  | _, _, _, _ => bad
/-- len({e for x in it}) -/
def evSc (c : Cfg) (r : Evs) (sc : Scope) (elt tg it : Expr) (ifs : List Expr) (scope : Scope) : M Vl :=
  let own := ownsOf c.N scope.names
  let vs := own.map (·.2)
  match evTg c (r.e scope) scope tg with
  | some (T, g) => if blkC c.N sc scope own && noSet it && T.all (fun j => vs.contains j) && vs.all (fun i => decide (c.P ≤ i) && decide (i < c.N.length)) then (match ifs with
    | [] => xLenSc vs (evIter c (r.e sc) sc tg it) g (ret true) (r.e scope elt)
    | [cnd] => xLenSc vs (evIter c (r.e sc) sc tg it) g (r.t scope cnd) (r.e scope elt)
    | _ => bad) else bad
  | none => bad
/-- sorted(set(a)), len(set(a)) -/
def isSetCall (c : Cfg) (sc : Scope) (f g : Str) (a : Expr) : Bool := (decide (f = "sorted") || decide (f = "len")) && decide (g = "set") && c.blt.contains f && c.blt.contains g && noStar a && isGlob (kindS sc f) && isGlob (kindS sc g)
def stepE (c : Cfg) (r : Evs) (sc : Scope) (e : Expr) : M Vl := match e with
  | .Constant (.int i) _ _ => xCon (.int i)
  | .Constant (.bool b) _ _ => xCon (.bl b)
  | .Constant .none _ _ => xCon .non
  | .Constant (.str x) _ _ => xCon (.str x)
  | .Name x _ => evName c sc x
  | .BinOp a op b _ => xBin (binD op) (r.e sc a) (r.e sc b)
  | .UnaryOp .Not a _ => xNot (r.e sc a)
  | .UnaryOp op a _ => xUn (unD op) (r.e sc a)
  | .Compare a [op] [b] _ => if behindInMarks op b then bad else xCmp (cmpD op) (r.e sc a) (r.e sc b)
  | .Compare a [op, op'] [b, d] _ => if lastMarks [op, op'] [b, d] then bad else xChain (cmpD op) (cmpD op') (r.e sc a) (r.e sc b) (r.e sc d)
  | .BoolOp op es _ => evBoolV (r.e sc) op es
  | .IfExp t a b _ => xIf (r.t sc t) (r.e sc a) (r.e sc b)
  | .Tuple es _ _ => xTup (evAll (r.e sc) es)
  | .List es _ => xLst (evAll (r.e sc) es)
  | .Call (.Name f _) [.SetComp elt [⟨tg, it, ifs, 0⟩] scope _] [] _ => if decide (f = "len") && c.blt.contains f && isGlob (kindS sc f) then evSc c r sc elt tg it ifs scope else bad
  | .Call (.Name f _) [.Call (.Name g gp) [a] [] gq] [] _ => if isSetCall c sc f g a then (if f = "sorted" then xUn sortSetD (r.e sc a) else xUn lenSetD (r.e sc a)) else evCall c (r.e sc) sc f [.Call (.Name g gp) [a] [] gq] []
  | .Call (.Name x _) args kws _ => evCall c (r.e sc) sc x args kws
  | .Call (.Attribute (.Name x _) m ap) [a] [] cp => if okName x = true ∧ noStar a = true ∧ (ap.endLine == cp.line) = true then (match kindS sc x, idx c.N x with
    | .slot, some j => if m = "append" then xApp j (r.e sc a) else if m = "pop" then xPopAt j (r.e sc a) else if m = "extend" then xExt j (r.e sc a) else if m = "index" then xIdx j (r.e sc a) else bad
    | _, _ => bad) else bad
  | .Call (.Attribute (.Name x _) m ap) [] [] cp => if okName x = true ∧ m = "pop" ∧ (ap.endLine == cp.line) = true then (match kindS sc x, idx c.N x with
    | .slot, some j => xPop j
    | _, _ => bad) else bad
  | .Subscript a (.Slice none none (some (.UnaryOp .USub (.Constant (.int 1) _ _) _)) _) _ => xUn revD (r.e sc a)
  | .Subscript a (.Slice none none (some k) _) _ => xBin fwD (r.e sc a) (r.e sc k)
  | .Subscript a (.Slice lo hi none _) _ => xSlice (r.e sc a) (evPart (r.e sc) lo) (evPart (r.e sc) hi)
  | .Subscript a b _ => if plainIx b then xBin ixD (r.e sc a) (r.e sc b) else bad
  | .ListComp elt [⟨tg, it, ifs, 0⟩] scope _ => evLc c r sc elt tg it ifs scope
  | .ListComp elt [⟨tg, it, ifs, 0⟩, ⟨tg1, it1, ifs1, 0⟩] scope _ => evLc2 c r sc elt tg it ifs tg1 it1 ifs1 scope
  | _ => bad
def stepT (c : Cfg) (r : Evs) (sc : Scope) (e : Expr) : M Bool := match e with
  | .UnaryOp .Not a _ => tNot (r.t sc a)
  | .BoolOp op es _ => evBoolT (r.t sc) op es
  | .Compare a [op] [b] _ => if behindInMarks op b then bad else tCmp (cmpD op) (r.e sc a) (r.e sc b)
  | .Compare a [op, op'] [b, d] _ => if lastMarks [op, op'] [b, d] then bad else tChainB (cmpD op) (cmpD op') (r.e sc a) (r.e sc b) (r.e sc d)
  | _ => if plainT e then tVal (r.e sc e) else bad
def evN (c : Cfg) : Nat → Evs
  | 0 => ⟨fun _ _ => bad, fun _ _ => bad⟩
  | n + 1 => ⟨stepE c (evN c n), stepT c (evN c n)⟩
end PU
namespace PU
open PySem PySem.Spec PyProof.Rows L2
section
variable {X : Cx} {W : WX} {P : Nat} {c : Cfg} {sc : Scope} {e : Expr}
theorem se_bad : SE X W P e bad := fun _ _ _ _ _ _ _ _ h => h.elim
theorem st_bad : ST X W P e bad := fun _ _ _ _ _ _ _ _ h => h.elim
theorem stw_bad : STw X W P e bad := fun _ _ _ _ _ _ _ _ h => h.elim
theorem si_bad {tg : Expr} : SI X W P tg e bad := fun _ _ _ _ _ _ _ _ h => h.elim
/-! ### scopes of blocks -/
def rlF (env : PySem.Env) (p : Str × NameKind) : Str × NameKind := if (p.2 == NameKind.free && env.scope.kind == .function && env.kindOf p.1 == some .cell) then (p.1, .cell) else p
theorem rlF_1 (env : PySem.Env) (p : Str × NameKind) : (rlF env p).1 = p.1 := by unfold rlF; split <;> rfl
theorem rlF_2 (env : PySem.Env) (p : Str × NameKind) : (rlF env p).2 = p.2 ∨ (p.2 = .free ∧ (rlF env p).2 = .cell) := by
  unfold rlF
  split
  · rename_i h
    simp only [Bool.and_eq_true] at h
    have h := h.1.1
    obtain ⟨a, b⟩ := p
    cases b <;> first | exact .inr ⟨rfl, rfl⟩ | cases h
  · exact .inl rfl
theorem lk_rel {env : PySem.Env} : ∀ {names : List (Str × NameKind)} {x : Str} {k : NameKind}, names.lookup x = some k → (names.map (rlF env)).lookup x = some k ∨ (k = .free ∧ (names.map (rlF env)).lookup x = some .cell)
  | [], _, _, h => by cases h
  | p :: l, x, k, h => by
    rw [List.map_cons]
    have h1 := rlF_1 env p
    have h2 := rlF_2 env p
    generalize rlF env p = q at h1 h2 ⊢
    obtain ⟨a, b⟩ := p
    obtain ⟨a', b'⟩ := q
    simp only at h1 h2
    subst h1
    cases hx : x == a' with
    | true =>
      simp only [List.lookup_cons, hx] at h ⊢
      cases h
      rcases h2 with rfl | ⟨rfl, rfl⟩
      · exact .inl rfl
      · exact .inr ⟨rfl, rfl⟩
    | false =>
      simp only [List.lookup_cons, hx] at h ⊢
      exact lk_rel h
theorem rel_names (scope : Scope) (env : PySem.Env) : (relabel scope env).names = scope.names.map (rlF env) := by
  show List.map _ _ = _
  congr 1
theorem Good.blk {scope : Scope} (G : Good X W c sc) (hk : scope.kind = .function) (s : Shared) (H0 : Hp) (C : Addr) (cl : List (Str × Addr)) (fp : List Addr) : Good (blkX X scope s H0 C cl fp) W0 c scope := by
  have key : ∀ x k, scope.names.lookup x = some k → k ≠ .free → (relabel scope X.env).names.lookup x = some k := fun x k h hn => by
    rw [rel_names]
    rcases lk_rel (env := X.env) h with z | ⟨z, _⟩
    · exact z
    · exact absurd z hn
  refine ⟨G.N, G.hP, hk, G.nd, ⟨fun x h => key x _ h nofun, fun x h => key x _ h nofun, fun x h => ?_, fun x h => key x _ h nofun, fun x h => ?_⟩, G.calm, takes0, PassesOwn.never, G.room, G.grd, G.blt, G.kon, fun x g h => ⟨(G.fns x g h).ex⟩, G.exc, G.exm⟩
  · show (relabel scope X.env).names.lookup x = _ ∨ (relabel scope X.env).names.lookup x = _
    rw [rel_names]
    rcases lk_rel (env := X.env) h with z | ⟨_, z⟩
    · exact .inr z
    · exact .inl z
  · show (scope.names.lookup x == some .cell) = true
    rw [h]; rfl
/-! ### names, arguments -/
theorem Good.ix (G : Good X W c sc) {x : Str} {i : Nat} (h : idx c.N x = some i) : X.N[i]? = some x := by rw [G.N]; exact idx_ok h
theorem lt_of_get {N : List Str} {i : Nat} {x : Str} (h : N[i]? = some x) : i < N.length := (List.getElem?_eq_some_iff.mp h).1
theorem se_name (G : Good X W c sc) {x : Str} {pos : Pos} : SE X W c.P (.Name x pos) (evName c sc x) := by
  unfold evName
  split
  · rename_i ho
    obtain ⟨h1, h2, h3⟩ := okName_d ho
    cases hk : kindS sc x with
    | slot =>
      simp only
      cases hi : idx c.N x with
      | none => exact se_bad
      | some i => exact se_var (lt_of_get (G.ix hi)) (pe_var (G.ix hi) (G.vis hk) h1 h2)
    | glob =>
      simp only
      cases hd : lk c.kon x with
      | none => exact se_bad
      | some d =>
        obtain ⟨u, v, e1, e2, e3⟩ := G.kon x d hd
        exact se_con (pe_glob (G.gl hk) e1 e2 h1) e3
    | no => exact se_bad
  · exact se_bad
variable {f : Expr → M Vl} {ft : Expr → M Bool}
theorem sa_all (hf : ∀ e, SE X W P e (f e)) : ∀ es : List Expr, SA X W P es (evAll f es)
  | [] => sa_nil
  | e :: es => by
    have ih := sa_all hf es
    show SA X W P (e :: es) (evOne f e (evAll f es))
    unfold evOne
    split
    · exact sa_star (hf _) ih
    · rename_i hn
      refine sa_cons ?_ (hf e) ih
      cases e <;> first | rfl | exact absurd rfl (hn _ _)
theorem sk_all (hf : ∀ e, SE X W P e (f e)) : ∀ ks : List Keyword, SK X W P ks (evKws f ks)
  | [] => sk_nil
  | ⟨_, e, _⟩ :: ks => sk_cons (hf e) (sk_all hf ks)
theorem plain_mem {es : List Expr} (h : allPlain es = true) : ∀ a ∈ es, noStar a = true := by
  unfold allPlain at h; exact List.all_eq_true.mp h
theorem sr_all (G : Good X W c sc) (hf : ∀ e, SE X W c.P e (f e)) {e : Expr} {it : M (List D)} (h : evRng c f sc e = some it) : SR X W c.P e it := by
  unfold evRng at h
  split at h
  · split at h
    · rename_i x p args pos hx
      obtain ⟨rfl, hb, hpl⟩ := hx
      have hm := G.blt _ (List.contains_iff_mem.mp hb)
      have st := plain_mem hpl
      split at h
      · rename_i hk
        split at h
        · cases h; exact sr_1 (G.gl hk) hm (st _ (by simp)) (hf _)
        · cases h; exact sr_2 (G.gl hk) hm (st _ (by simp)) (st _ (by simp)) (hf _) (hf _)
        · cases h; exact sr_3 (G.gl hk) hm (st _ (by simp)) (st _ (by simp)) (st _ (by simp)) (hf _) (hf _) (hf _)
        · cases h
      · cases h
    · cases h
  · cases h
theorem se_rngE (G : Good X W c sc) (hf : ∀ e, SE X W c.P e (f e)) {x : Str} {p pos : Pos} {args : List Expr} {it : M (List D)} (hg : kindS sc x = .glob) (hm : X.mg x = none) (hp : allPlain args = true) (h : rngArg c f sc x args = some it) : SE X W c.P (.Call (.Name x p) args [] pos) (xLR (decide (x = "list")) it) := by
  unfold rngArg at h
  split at h
  · split at h
    · rename_i a hx
      have hs := plain_mem hp a (by simp)
      unfold isLT at hx
      rw [Bool.or_eq_true, decide_eq_true_eq, decide_eq_true_eq] at hx
      rcases hx with rfl | rfl
      · exact se_listR G.calm (G.gl hg) hm hs (sr_all G hf h)
      · exact se_tupR G.calm (G.gl hg) hm hs (sr_all G hf h)
    · cases h
  · cases h
theorem se_bltE (G : Good X W c sc) (hf : ∀ e, SE X W c.P e (f e)) {x : Str} {p pos : Pos} {args : List Expr} (ho : okName x = true) (hp : allPlain args = true) (hg : kindS sc x = .glob) : SE X W c.P (.Call (.Name x p) args [] pos) (evBlt c f sc x args) := by
  obtain ⟨h1, h2, h3⟩ := okName_d ho
  unfold evBlt
  split
  · rename_i hb
    have hm := G.blt x (List.contains_iff_mem.mp hb)
    split
    · rename_i ex
      subst ex
      split
      · rename_i a y py
        cases hT : lk tyT y with
        | none => exact se_bad
        | some T =>
          simp only
          cases hk : kindS sc y with
          | slot => exact se_bad
          | no => exact se_bad
          | glob =>
            simp only
            split
            · rename_i hc
              rw [Bool.and_eq_true] at hc
              obtain ⟨k1, k2, k3⟩ := okName_d hc.2
              exact se_isi (G.gl hg) hm (G.gl hk) (G.blt y (List.contains_iff_mem.mp hc.1)) (tyT_ok _ (lk_mem hT)) k3 k1 (plain_mem hp _ (List.mem_cons_self ..)) (hf a)
            · exact se_bad
      · exact se_bad
    · cases args with
      | nil => exact se_bad
      | cons a as =>
        simp only
        cases hR : rngArg c f sc x (a :: as) with
        | some it => exact se_rngE G hf hg hm hp hR
        | none =>
          simp only
          cases hB : lk bltT x with
          | none => exact se_bad
          | some q =>
            obtain ⟨kd, id, b⟩ := q
            rcases bltT_ok (X := X) G.calm G.grd G.room _ (lk_mem hB) with ⟨_, z1, z2⟩ | ⟨_, z1, z2⟩
            · exact se_callB z1 (G.gl hg) hm z2 h3 h1 (plain_mem hp) (sa_all hf _)
            · exact se_callT z1 (G.gl hg) hm z2 h3 h1 (plain_mem hp) (sa_all hf _)
  · exact se_bad
theorem se_callE (G : Good X W c sc) (hf : ∀ e, SE X W c.P e (f e)) {x : Str} {p pos : Pos} {args : List Expr} {kws : List Keyword} : SE X W c.P (.Call (.Name x p) args kws pos) (evCall c f sc x args kws) := by
  unfold evCall
  split
  · rename_i h
    rw [Bool.and_eq_true] at h
    obtain ⟨h1, h2, h3⟩ := okName_d h.1
    cases hk : kindS sc x with
    | slot => exact se_bad
    | no => exact se_bad
    | glob =>
      simp only
      cases hF : lk c.fns x with
      | none =>
        simp only
        cases kws with
        | nil => exact se_bltE G hf h.1 h.2 hk
        | cons k ks => exact se_bad
      | some g =>
        simp only
        have FG := G.fns x g hF
        cases kws with
        | nil =>
          cases args with
          | nil => exact se_call0 G.tk G.grd FG (G.gl hk) h1
          | cons a as => exact se_call G.tk G.grd FG (G.gl hk) h1 (plain_mem h.2) (sa_all hf _)
        | cons k ks =>
          simp only
          split
          · rename_i hall
            cases hp : g.kw.find? (fun p => p.1 == args.length && decide (p.2.1 = (k :: ks).filterMap (·.arg))) with
            | none => exact se_bad
            | some q =>
              simp only
              have hm := List.mem_of_find?_eq_some hp
              have hq := List.find?_some hp
              simp only [Bool.and_eq_true, beq_iff_eq, decide_eq_true_eq] at hq
              obtain ⟨n, nm, pm⟩ := q
              obtain ⟨rfl, rfl⟩ := hq
              refine se_callK G.tk G.grd FG (G.gl hk) h1 (plain_mem h.2) hall hm (sa_all hf _) (fun e => by subst e; rfl) (sk_all hf _)
          · exact se_bad
  · exact se_bad
theorem se_boolV (hf : ∀ e, SE X W P e (f e)) {pos : Pos} (op : PySem.BoolOp) : ∀ es : List Expr, SE X W P (.BoolOp op es pos) (evBoolV f op es)
  | [] => se_bad
  | [a] => se_one (hf a)
  | a :: b :: r => by
    cases op with
    | And => exact se_and (hf a) (se_boolV hf .And (b :: r))
    | Or => exact se_or (hf a) (se_boolV hf .Or (b :: r))
theorem stw_boolT (hf : ∀ e, ST X W P e (ft e)) {pos : Pos} (op : PySem.BoolOp) : ∀ es : List Expr, STw X W P (.BoolOp op es pos) (evBoolT ft op es)
  | [] => stw_bad
  | [a] => by
    cases op with
    | And => exact stw_and1 (hf a)
    | Or => exact stw_or1 (hf a)
  | a :: b :: r => by
    cases op with
    | And => exact stw_and (hf a) (stw_boolT hf .And (b :: r))
    | Or => exact stw_or (hf a) (stw_boolT hf .Or (b :: r))
theorem so_part (hf : ∀ e, SE X W P e (f e)) : ∀ o : Option Expr, SO X W P o (evPart f o)
  | none => so_none
  | some e => so_some (hf e)
theorem si_iter (G : Good X W c sc) (hf : ∀ e, SE X W c.P e (f e)) {tg it : Expr} : SI X W c.P tg it (evIter c f sc tg it) := by
  unfold evIter
  split
  · rename_i x p a pos
    split
    · rename_i ex
      subst ex
      split
      · rename_i hb
        rw [Bool.and_eq_true] at hb
        cases hk : kindS sc "range" with
        | slot => exact si_bad
        | no => exact si_bad
        | glob => exact si_range1 (G.gl hk) (G.blt _ (List.contains_iff_mem.mp hb.1)) hb.2 (hf a)
      · exact si_bad
    · split
      · rename_i ex
        subst ex
        split
        · split
          · rename_i hb
            rw [Bool.and_eq_true] at hb
            cases hk : kindS sc "enumerate" with
            | slot => exact si_bad
            | no => exact si_bad
            | glob => exact si_enum2 (G.gl hk) (G.blt _ (List.contains_iff_mem.mp hb.1)) hb.2 (hf a)
          · exact si_bad
        · exact si_bad
      · exact si_seq (hf _)
  · rename_i x p a b pos
    split
    · rename_i ex
      subst ex
      split
      · rename_i hb
        rw [Bool.and_eq_true, Bool.and_eq_true] at hb
        cases hk : kindS sc "range" with
        | slot => exact si_bad
        | no => exact si_bad
        | glob => exact si_rangeL (G.gl hk) (G.blt _ (List.contains_iff_mem.mp hb.1.1)) hb.1.2 hb.2 (hf a) (hf b)
      · exact si_bad
    · split
      · rename_i ex
        subst ex
        split
        · split
          · rename_i hb
            rw [Bool.and_eq_true, Bool.and_eq_true] at hb
            cases hk : kindS sc "zip" with
            | slot => exact si_bad
            | no => exact si_bad
            | glob => exact si_zip2 (G.gl hk) (G.blt _ (List.contains_iff_mem.mp hb.1.1)) hb.1.2 hb.2 (hf a) (hf b)
          · exact si_bad
        · exact si_bad
      · exact si_seq (hf _)
  · rename_i x p a b d pos
    split
    · rename_i ex
      subst ex
      split
      · rename_i hb
        rw [Bool.and_eq_true, Bool.and_eq_true, Bool.and_eq_true] at hb
        cases hk : kindS sc "range" with
        | slot => exact si_bad
        | no => exact si_bad
        | glob => exact si_range3b (G.gl hk) (G.blt _ (List.contains_iff_mem.mp hb.1.1.1)) hb.1.1.2 hb.1.2 hb.2 (hf a) (hf b) (hf d)
      · exact si_bad
    · split
      · rename_i ex
        subst ex
        split
        · split
          · rename_i hb
            rw [Bool.and_eq_true, Bool.and_eq_true, Bool.and_eq_true] at hb
            cases hk : kindS sc "zip" with
            | slot => exact si_bad
            | no => exact si_bad
            | glob => exact si_zip3 (G.gl hk) (G.blt _ (List.contains_iff_mem.mp hb.1.1.1)) hb.1.1.2 hb.1.2 hb.2 (hf a) (hf b) (hf d)
          · exact si_bad
        · exact si_bad
      · exact si_seq (hf _)
  · exact si_seq (hf _)
/-! ### targets -/
theorem asg_sub {i : Expr} {x : Str} {p pos : Pos} {env : PySem.Env} (h : plainIx i = true) : ∀ v, assign (.Subscript (.Name x p) i pos) env v = (do
      let ov ← holding [v] (eval (.Name x p) env)
      let iv ← holding [v, ov] (eval i env)
      standAt pos
      holding [v, ov, iv] (setItem ov iv v)
      release [v, ov, iv] []) := fun v => by
  cases i <;> first | rfl | cases h
theorem sg_one (G : Good X W c sc) (hf : ∀ e, SE X W c.P e (f e)) {tg : Expr} {T : List Nat} {g : D → M Unit} (h : evTg1 c f sc tg = some (T, g)) : SG X W c.P tg T g ∧ noStar tg = true := by
  unfold evTg1 at h
  split at h
  · rename_i x p
    split at h
    · rename_i e1 e2
      cases h
      exact ⟨sg_name G.nd (G.ix e2) (.inl (G.sc.loc x e1)) (.inr (G.sc.loc x e1)), rfl⟩
    · rename_i e1 e2
      cases h
      exact ⟨sg_name G.nd (G.ix e2) (.inr (G.sc.cel x e1)) (.inl (G.sc.fn x e1)), rfl⟩
    · cases h
  · rename_i x p i pos
    split at h
    · rename_i hb
      rw [Bool.and_eq_true] at hb
      obtain ⟨h1, h2, h3⟩ := okName_d hb.1
      split at h
      · rename_i hk hi
        cases h
        exact ⟨sg_ix (pe_var (G.ix hi) (G.vis hk) h1 h2) (lt_of_get (G.ix hi)) (hf i) (asg_sub hb.2), rfl⟩
      · cases h
    · cases h
  · cases h
theorem sgs_all (G : Good X W c sc) (hf : ∀ e, SE X W c.P e (f e)) : ∀ {ts : List Expr} {T : List Nat} {g : List D → M Unit}, evTgs c f sc ts = some (T, g) → SGs X W c.P ts T g ∧ ∀ t ∈ ts, noStar t = true
  | [], _, _, h => by cases h; exact ⟨sgs_nil, nofun⟩
  | t :: ts, _, _, h => by
    unfold evTgs at h
    split at h
    · rename_i T1 g1 T2 g2 e1 e2
      cases h
      obtain ⟨a1, a2⟩ := sg_one G hf e1
      obtain ⟨b1, b2⟩ := sgs_all G hf e2
      refine ⟨sgs_cons a2 a1 b1, fun u hu => ?_⟩
      rcases List.mem_cons.mp hu with rfl | hu
      · exact a2
      · exact b2 u hu
    · cases h
theorem sg_all (G : Good X W c sc) (hf : ∀ e, SE X W c.P e (f e)) {tg : Expr} {T : List Nat} {g : D → M Unit} (h : evTg c f sc tg = some (T, g)) : SG X W c.P tg T g ∧ noStar tg = true := by
  unfold evTg at h
  split at h
  · split at h
    · rename_i e1
      cases h
      obtain ⟨b1, b2⟩ := sgs_all G hf e1
      exact ⟨sg_tup G.calm b2 b1, rfl⟩
    · cases h
  · exact sg_one G hf h
end
/-! ### the evaluator is sound -/
def Snd (c : Cfg) (r : Evs) : Prop := ∀ X W sc, Good X W c sc → ∀ e, SE X W c.P e (r.e sc e) ∧ ST X W c.P e (r.t sc e)
section
variable {X : Cx} {W : WX} {c : Cfg} {sc : Scope} {r : Evs}
theorem blk_rel {N : List Str} {scope : Scope} {own : List (Str × Nat)} (S : ScRel sc X) (h : BlkOk N sc scope own) : BlkOk N X.env.scope scope own :=
  ⟨h.kind, h.uniq, h.ix, fun y hy e => by
    rcases h.free y hy e with z | z
    · exact .inl (S.cel _ z)
    · exact S.fre _ z, h.own⟩
structure LcOk (X : Cx) (W : WX) (c : Cfg) (own : List (Str × Nat)) (tg it : Expr) (ifs : List Expr) (elt : Expr) (scope : Scope) (fi : M (List D)) (g : D → M Unit) (t : M Bool) (e : M Vl) : Prop where
  ok : BlkOk X.N X.env.scope scope own
  ns : noSet it = true
  hf : ifs.length ≤ 1
  hi : SI X W c.P tg it fi
  hT : ∃ T : List Nat, (∀ j ∈ T, j ∈ own.map (·.2)) ∧ ∀ s H0 C cl fp, SG (blkX X scope s H0 C cl fp) W0 c.P tg T g
  hb : ∀ i ∈ own.map (·.2), c.P ≤ i ∧ i < X.N.length
  ht : STs X scope c.P ifs t
  he : ∀ s H0 C cl fp, SE (blkX X scope s H0 C cl fp) W0 c.P elt e
theorem lc_parts (S : Snd c r) (G : Good X W c sc) {elt tg it : Expr} {ifs : List Expr} {scope : Scope} : evLc0 c r sc elt tg it ifs scope = bad ∨ ∃ g t, evLc0 c r sc elt tg it ifs scope = xLc ((ownsOf c.N scope.names).map (·.2)) (evIter c (r.e sc) sc tg it) g t (r.e scope elt) ∧ LcOk X W c (ownsOf c.N scope.names) tg it ifs elt scope (evIter c (r.e sc) sc tg it) g t (r.e scope elt) := by
  unfold evLc0
  simp only
  cases hg : evTg c (r.e scope) scope tg with
  | none => exact .inl rfl
  | some p =>
    obtain ⟨T, g⟩ := p
    simp only
    split
    · rename_i h
      rw [Bool.and_eq_true, Bool.and_eq_true, Bool.and_eq_true] at h
      obtain ⟨⟨⟨h1, h2⟩, h3⟩, h4⟩ := h
      have B := blkOk_by h1
      have GB := fun s H0 C cl fp => G.blk B.kind s H0 C cl fp
      have hT : ∃ T : List Nat, (∀ j ∈ T, j ∈ (ownsOf c.N scope.names).map (·.2)) ∧ ∀ s H0 C cl fp, SG (blkX X scope s H0 C cl fp) W0 c.P tg T g := ⟨T, fun j hj => List.contains_iff_mem.mp (List.all_eq_true.mp h3 j hj), fun s H0 C cl fp => (sg_all (GB s H0 C cl fp) (fun e => (S _ _ _ (GB s H0 C cl fp) e).1) hg).1⟩
      have hb : ∀ i ∈ (ownsOf c.N scope.names).map (·.2), c.P ≤ i ∧ i < X.N.length := fun i hi => by
        have := List.all_eq_true.mp h4 i hi
        rw [Bool.and_eq_true, decide_eq_true_eq, decide_eq_true_eq] at this
        rw [G.N]; exact this
      have he := fun s H0 C cl fp => (S _ _ _ (GB s H0 C cl fp) elt).1
      have hi := si_iter (tg := tg) (it := it) G (fun e => (S X W sc G e).1)
      have B' : BlkOk X.N X.env.scope scope (ownsOf c.N scope.names) := by rw [G.N]; exact blk_rel G.sc B
      split
      · exact .inr ⟨g, ret true, rfl, B', h2, Nat.zero_le _, hi, hT, hb, rfl, he⟩
      · rename_i cnd
        exact .inr ⟨g, r.t scope cnd, rfl, B', h2, Nat.le_refl _, hi, hT, hb, fun s H0 C cl fp => (S _ _ _ (GB s H0 C cl fp) cnd).2, he⟩
      · exact .inl rfl
    · exact .inl rfl
theorem sc_parts (S : Snd c r) (G : Good X W c sc) {elt tg it : Expr} {ifs : List Expr} {scope : Scope} : evSc c r sc elt tg it ifs scope = bad ∨ ∃ g t, evSc c r sc elt tg it ifs scope = xLenSc ((ownsOf c.N scope.names).map (·.2)) (evIter c (r.e sc) sc tg it) g t (r.e scope elt) ∧ LcOk X W c (ownsOf c.N scope.names) tg it ifs elt scope (evIter c (r.e sc) sc tg it) g t (r.e scope elt) := by
  unfold evSc
  simp only
  cases hg : evTg c (r.e scope) scope tg with
  | none => exact .inl rfl
  | some p =>
    obtain ⟨T, g⟩ := p
    simp only
    split
    · rename_i h
      rw [Bool.and_eq_true, Bool.and_eq_true, Bool.and_eq_true] at h
      obtain ⟨⟨⟨h1, h2⟩, h3⟩, h4⟩ := h
      have B := blkOk_by h1
      have GB := fun s H0 C cl fp => G.blk B.kind s H0 C cl fp
      have hT : ∃ T : List Nat, (∀ j ∈ T, j ∈ (ownsOf c.N scope.names).map (·.2)) ∧ ∀ s H0 C cl fp, SG (blkX X scope s H0 C cl fp) W0 c.P tg T g := ⟨T, fun j hj => List.contains_iff_mem.mp (List.all_eq_true.mp h3 j hj), fun s H0 C cl fp => (sg_all (GB s H0 C cl fp) (fun e => (S _ _ _ (GB s H0 C cl fp) e).1) hg).1⟩
      have hb : ∀ i ∈ (ownsOf c.N scope.names).map (·.2), c.P ≤ i ∧ i < X.N.length := fun i hi => by
        have := List.all_eq_true.mp h4 i hi
        rw [Bool.and_eq_true, decide_eq_true_eq, decide_eq_true_eq] at this
        rw [G.N]; exact this
      have he := fun s H0 C cl fp => (S _ _ _ (GB s H0 C cl fp) elt).1
      have hi := si_iter (tg := tg) (it := it) G (fun e => (S X W sc G e).1)
      have B' : BlkOk X.N X.env.scope scope (ownsOf c.N scope.names) := by rw [G.N]; exact blk_rel G.sc B
      split
      · exact .inr ⟨g, ret true, rfl, B', h2, Nat.zero_le _, hi, hT, hb, rfl, he⟩
      · rename_i cnd
        exact .inr ⟨g, r.t scope cnd, rfl, B', h2, Nat.le_refl _, hi, hT, hb, fun s H0 C cl fp => (S _ _ _ (GB s H0 C cl fp) cnd).2, he⟩
      · exact .inl rfl
    · exact .inl rfl
theorem lcV_parts {fw : M Walk} (S : Snd c r) (G : Good X W c sc) {elt tg it : Expr} {ifs : List Expr} {scope : Scope} : evLcV c r sc fw elt tg it ifs scope = bad ∨ ∃ g t, evLcV c r sc fw elt tg it ifs scope = xLcV ((ownsOf c.N scope.names).map (·.2)) fw g t (r.e scope elt) ∧ LcOk X W c (ownsOf c.N scope.names) tg it ifs elt scope (evIter c (r.e sc) sc tg it) g t (r.e scope elt) := by
  unfold evLcV
  simp only
  cases hg : evTg c (r.e scope) scope tg with
  | none => exact .inl rfl
  | some p =>
    obtain ⟨T, g⟩ := p
    simp only
    split
    · rename_i h
      rw [Bool.and_eq_true, Bool.and_eq_true, Bool.and_eq_true] at h
      obtain ⟨⟨⟨h1, h2⟩, h3⟩, h4⟩ := h
      have B := blkOk_by h1
      have GB := fun s H0 C cl fp => G.blk B.kind s H0 C cl fp
      have hT : ∃ T : List Nat, (∀ j ∈ T, j ∈ (ownsOf c.N scope.names).map (·.2)) ∧ ∀ s H0 C cl fp, SG (blkX X scope s H0 C cl fp) W0 c.P tg T g := ⟨T, fun j hj => List.contains_iff_mem.mp (List.all_eq_true.mp h3 j hj), fun s H0 C cl fp => (sg_all (GB s H0 C cl fp) (fun e => (S _ _ _ (GB s H0 C cl fp) e).1) hg).1⟩
      have hb : ∀ i ∈ (ownsOf c.N scope.names).map (·.2), c.P ≤ i ∧ i < X.N.length := fun i hi => by
        have := List.all_eq_true.mp h4 i hi
        rw [Bool.and_eq_true, decide_eq_true_eq, decide_eq_true_eq] at this
        rw [G.N]; exact this
      have he := fun s H0 C cl fp => (S _ _ _ (GB s H0 C cl fp) elt).1
      have hi := si_iter (tg := tg) (it := it) G (fun e => (S X W sc G e).1)
      have B' : BlkOk X.N X.env.scope scope (ownsOf c.N scope.names) := by rw [G.N]; exact blk_rel G.sc B
      split
      · exact .inr ⟨g, ret true, rfl, B', h2, Nat.zero_le _, hi, hT, hb, rfl, he⟩
      · rename_i cnd
        exact .inr ⟨g, r.t scope cnd, rfl, B', h2, Nat.le_refl _, hi, hT, hb, fun s H0 C cl fp => (S _ _ _ (GB s H0 C cl fp) cnd).2, he⟩
      · exact .inl rfl
    · exact .inl rfl
theorem lock_ok (G : Good X W c sc) {e : Expr} {j : Nat} (h : lockIx c sc e = some j) : ∃ x p, e = .Name x p ∧ PE X (.Name x p) (tVar j) ∧ j < X.N.length := by
  unfold lockIx at h
  split at h
  · rename_i x p
    split at h
    · rename_i hb
      rw [Bool.and_eq_true] at hb
      obtain ⟨h1, h2, h3⟩ := okName_d hb.2
      split at h
      · rename_i hk hi
        cases h
        exact ⟨x, p, rfl, pe_var (G.ix hi) (G.vis hk) h1 h2, lt_of_get (G.ix hi)⟩
      · cases h
    · cases h
  · cases h
theorem ssr_all (G : Good X W c sc) {f : Expr → M Vl} (hf : ∀ e, SE X W c.P e (f e)) (e : Expr) : SSr X W c.P e (evSrc c f sc e) := by
  unfold evSrc
  cases h : lockIx c sc e with
  | none => exact ssr_e (hf e)
  | some j =>
    obtain ⟨x, p, rfl, h1, h2⟩ := lock_ok G h
    exact ssr_v h1 h2
theorem glob_of {k : NK} (h : isGlob k = true) : k = .glob := by cases k <;> first | rfl | cases h
theorem siv_all (G : Good X W c sc) {f : Expr → M Vl} (hf : ∀ e, SE X W c.P e (f e)) {tg it : Expr} {fw : M Walk} (h : evWalk c f sc tg it = some fw) : SIV X W c.P tg it fw := by
  unfold evWalk at h
  split at h
  · rename_i x p
    split at h
    · rename_i j hj
      cases h
      obtain ⟨y, q, e, h1, h2⟩ := lock_ok G hj
      cases e
      exact siv_one (ssr_v h1 h2)
    · cases h
  · split at h
    · rename_i x p a pos hx
      obtain ⟨rfl, h1, h2, h3, h4, h5⟩ := hx
      cases h
      cases tg with
      | Tuple ts k tp => exact siv_enum (G.gl (glob_of h5)) (G.blt _ (List.contains_iff_mem.mp h3)) h4 (ssr_all G hf a)
      | _ => cases h2
    · cases h
  · split at h
    · rename_i x p a b pos hx
      obtain ⟨rfl, h1, h2, h3, h4, h4', h5⟩ := hx
      cases h
      cases tg with
      | Tuple ts k tp => exact siv_zip G.hP (G.gl (glob_of h5)) (G.blt _ (List.contains_iff_mem.mp h3)) h4 h4' (ssr_all G hf a) (ssr_all G hf b)
      | _ => cases h2
    · cases h
  · cases h
theorem lc_se (S : Snd c r) (G : Good X W c sc) {elt tg it : Expr} {ifs : List Expr} {scope : Scope} {pos : Pos} : SE X W c.P (.ListComp elt [⟨tg, it, ifs, 0⟩] scope pos) (evLc c r sc elt tg it ifs scope) := by
  unfold evLc
  split
  · rename_i fw hw
    have hi := siv_all G (fun e => (S X W sc G e).1) hw
    rcases lcV_parts (fw := fw) (elt := elt) (tg := tg) (it := it) (ifs := ifs) (scope := scope) S G with z | ⟨g, t, z, L⟩
    · rw [z]; exact se_bad
    · rw [z]
      obtain ⟨T, hT, hg⟩ := L.hT
      exact se_lcV G.hP G.calm G.nd L.ok L.ns L.hf hi hT L.hb hg L.ht L.he
  · rcases lc_parts (elt := elt) (tg := tg) (it := it) (ifs := ifs) (scope := scope) S G with z | ⟨g, t, z, L⟩
    · rw [z]; exact se_bad
    · rw [z]
      obtain ⟨T, hT, hg⟩ := L.hT
      exact se_lc G.hP G.calm G.nd L.ok L.ns L.hf L.hi hT L.hb hg L.ht L.he
theorem sc_se (S : Snd c r) (G : Good X W c sc) {elt tg it : Expr} {ifs : List Expr} {scope : Scope} {p pos cpos : Pos} (hg0 : Gl X "len") (hm : X.mg "len" = none) : SE X W c.P (.Call (.Name "len" p) [.SetComp elt [⟨tg, it, ifs, 0⟩] scope pos] [] cpos) (evSc c r sc elt tg it ifs scope) := by
  rcases sc_parts (elt := elt) (tg := tg) (it := it) (ifs := ifs) (scope := scope) S G with z | ⟨g, t, z, L⟩
  · rw [z]; exact se_bad
  · rw [z]
    obtain ⟨T, hT, hg⟩ := L.hT
    exact se_lenSc hg0 hm G.hP G.calm G.nd L.ok L.ns L.hf L.hi hT L.hb hg L.ht L.he
theorem lc_set (S : Snd c r) (G : Good X W c sc) {elt tg it : Expr} {ifs : List Expr} {scope : Scope} {pos spos py : Pos} {y : Str} {j : Nat} (hy : X.N[j]? = some y) (hyl : X.env.scope.names.lookup y = some .local)
    (hsw : swapsWith (.ListComp elt [⟨tg, it, ifs, 0⟩] scope pos) (some (.Name y py)) spos.line X.env = pure true) : SS X W c.P (.Assign [.Name y py] (.ListComp elt [⟨tg, it, ifs, 0⟩] scope pos) spos) (sSet X.N.length c.P j (evLc c r sc elt tg it ifs scope)) := by
  unfold evLc
  split
  · rename_i fw hw
    have hi := siv_all G (fun e => (S X W sc G e).1) hw
    rcases lcV_parts (fw := fw) (elt := elt) (tg := tg) (it := it) (ifs := ifs) (scope := scope) S G with z | ⟨g, t, z, L⟩
    · rw [z]; exact fun _ _ _ _ _ _ _ h => h.elim
    · rw [z]
      obtain ⟨T, hT, hg⟩ := L.hT
      exact ss_setLcV G.hP G.calm G.nd hy hyl hsw L.ok L.ns L.hf hi hT L.hb hg L.ht L.he
  · rcases lc_parts (elt := elt) (tg := tg) (it := it) (ifs := ifs) (scope := scope) S G with z | ⟨g, t, z, L⟩
    · rw [z]; exact fun _ _ _ _ _ _ _ h => h.elim
    · rw [z]
      obtain ⟨T, hT, hg⟩ := L.hT
      exact ss_setLc G.hP G.calm G.nd hy hyl hsw L.ok L.ns L.hf L.hi hT L.hb hg L.ht L.he
theorem ts_of (S : Snd c r) {ifs : List Expr} {scope : Scope} {t : M Bool} (GB : ∀ s H0 C cl fp, Good (blkX X scope s H0 C cl fp) W0 c scope) (h : tsOf r scope ifs = some t) : STs X scope c.P ifs t ∧ ifs.length ≤ 1 := by
  unfold tsOf at h
  split at h
  · cases h; exact ⟨rfl, Nat.zero_le _⟩
  · cases h; exact ⟨fun s H0 C cl fp => (S _ _ _ (GB s H0 C cl fp) _).2, Nat.le_refl _⟩
  · cases h
structure Lc2Ok (X : Cx) (W : WX) (c : Cfg) (own : List (Str × Nat)) (tg it : Expr) (ifs : List Expr) (tg1 it1 : Expr) (ifs1 : List Expr) (elt : Expr) (scope : Scope) (T1 : List Nat) (fi : M (List D)) (g : D → M Unit) (t : M Bool) (fi1 : M (List D)) (g1 : D → M Unit) (t1 : M Bool) (e : M Vl) : Prop where
  ok : BlkOk X.N X.env.scope scope own
  ns : noSet it = true
  ns1 : noSet it1 = true
  hf : ifs.length ≤ 1
  hf1 : ifs1.length ≤ 1
  hi : SI X W c.P tg it fi
  hT : ∃ T : List Nat, (∀ j ∈ T, j ∈ own.map (·.2)) ∧ ∀ s H0 C cl fp, SG (blkX X scope s H0 C cl fp) W0 c.P tg T g
  hb : ∀ i ∈ own.map (·.2), c.P ≤ i ∧ i < X.N.length
  ht : STs X scope c.P ifs t
  hv : ∀ i ∈ T1, i ∈ own.map (·.2)
  hi1 : ∀ s H0 C cl fp, SI (blkX X scope s H0 C cl fp) W0 c.P tg1 it1 fi1
  hg1 : ∀ s H0 C cl fp, SG (blkX X scope s H0 C cl fp) W0 c.P tg1 T1 g1
  ht1 : STs X scope c.P ifs1 t1
  he : ∀ s H0 C cl fp, SE (blkX X scope s H0 C cl fp) W0 c.P elt e
theorem lc2_parts (S : Snd c r) (G : Good X W c sc) {elt tg it tg1 it1 : Expr} {ifs ifs1 : List Expr} {scope : Scope} : evLc2 c r sc elt tg it ifs tg1 it1 ifs1 scope = bad ∨ ∃ T1 g t g1 t1, evLc2 c r sc elt tg it ifs tg1 it1 ifs1 scope = xLc2 ((ownsOf c.N scope.names).map (·.2)) T1 (evIter c (r.e sc) sc tg it) g t (evIter c (r.e scope) scope tg1 it1) g1 t1 (r.e scope elt) ∧
    Lc2Ok X W c (ownsOf c.N scope.names) tg it ifs tg1 it1 ifs1 elt scope T1 (evIter c (r.e sc) sc tg it) g t (evIter c (r.e scope) scope tg1 it1) g1 t1 (r.e scope elt) := by
  unfold evLc2
  simp only
  split
  · rename_i T g T1 g1 t t1 hg hg1 ht ht1
    split
    · rename_i h
      simp only [Bool.and_eq_true] at h
      obtain ⟨⟨⟨⟨⟨h1, h2⟩, h2'⟩, h3⟩, h3'⟩, h4⟩ := h
      have B := blkOk_by h1
      have GB := fun s H0 C cl fp => G.blk B.kind s H0 C cl fp
      obtain ⟨q1, q2⟩ := ts_of S GB ht
      obtain ⟨q3, q4⟩ := ts_of S GB ht1
      refine .inr ⟨T1, g, t, g1, t1, rfl, ⟨by rw [G.N]; exact blk_rel G.sc B, h2, h2', q2, q4, si_iter (tg := tg) (it := it) G (fun e => (S X W sc G e).1), ⟨T, fun j hj => List.contains_iff_mem.mp (List.all_eq_true.mp h3 j hj), fun s H0 C cl fp => (sg_all (GB s H0 C cl fp) (fun e => (S _ _ _ (GB s H0 C cl fp) e).1) hg).1⟩, fun i hi => ?_, q1, fun j hj => List.contains_iff_mem.mp (List.all_eq_true.mp h3' j hj), fun s H0 C cl fp => si_iter (tg := tg1) (it := it1) (GB s H0 C cl fp) (fun e => (S _ _ _ (GB s H0 C cl fp) e).1), fun s H0 C cl fp => (sg_all (GB s H0 C cl fp) (fun e => (S _ _ _ (GB s H0 C cl fp) e).1) hg1).1, q3, fun s H0 C cl fp => (S _ _ _ (GB s H0 C cl fp) elt).1⟩⟩
      have := List.all_eq_true.mp h4 i hi
      rw [Bool.and_eq_true, decide_eq_true_eq, decide_eq_true_eq] at this
      rw [G.N]; exact this
    · exact .inl rfl
  · exact .inl rfl
theorem snd_step (S : Snd c r) : Snd c ⟨stepE c r, stepT c r⟩ := fun X W sc G e => by
  have hf := fun e => (S X W sc G e).1
  have ht := fun e => (S X W sc G e).2
  have hu := G.room.units
  have E : ∀ e, SE X W c.P e (stepE c r sc e) := fun e => by
    unfold stepE
    split
    · exact se_con pe_int fun F H => .int _
    · exact se_con pe_bl fun F H => .bl _
    · exact se_con pe_non fun F H => .non
    · exact se_con pe_str fun F H => .str _
    · exact se_name G
    · exact se_bin (bin_ok _) (pe_op op_mx pE pE) (hf _) (hf _)
    · exact se_not (hf _)
    · exact se_un (un_ok _) (pe_un un_mx pE) (hf _)
    · split
      · exact se_bad
      · rename_i h
        exact se_cmp (cmp_ok hu _) op_mx (by simpa using h) (hf _) (hf _)
    · split
      · exact se_bad
      · rename_i h
        exact se_chain (cmp_ok hu _) (cmp_ok hu _) op_mx op_mx (by simpa using h) (hf _) (hf _) (hf _)
    · exact se_boolV hf _ _
    · exact se_if (ht _) (hf _) (hf _)
    · exact se_tup (sa_all hf _)
    · exact se_lst (sa_all hf _)
    · split
      · rename_i h
        simp only [Bool.and_eq_true, decide_eq_true_eq] at h
        obtain ⟨⟨rfl, h3⟩, h6⟩ := h
        exact sc_se S G (G.gl (glob_of h6)) (G.blt _ (List.contains_iff_mem.mp h3))
      · exact se_bad
    · split
      · rename_i h
        simp only [isSetCall, Bool.and_eq_true, Bool.or_eq_true, decide_eq_true_eq] at h
        obtain ⟨⟨⟨⟨⟨⟨h1, rfl⟩, h3⟩, h4⟩, h5⟩, h6⟩, h7⟩ := h
        have m1 := G.blt _ (List.contains_iff_mem.mp h3)
        have m2 := G.blt _ (List.contains_iff_mem.mp h4)
        have g1 := G.gl (glob_of h6)
        have g2 := G.gl (glob_of h7)
        split
        · rename_i e1
          subst e1
          exact se_sortSet G.calm g1 m1 g2 m2 h5 (hf _)
        · rename_i e1
          obtain rfl := h1.resolve_left e1
          exact se_lenSet G.calm g1 m1 g2 m2 h5 (hf _)
      · exact se_callE G hf
    · exact se_callE G hf
    · split
      · rename_i h
        obtain ⟨ho, hs, hl⟩ := h
        obtain ⟨h1, h2, h3⟩ := okName_d ho
        split
        · rename_i hk hi
          split
          · rename_i em
            subst em
            exact se_app (pe_var (G.ix hi) (G.vis hk) h1 h2) (lt_of_get (G.ix hi)) hs hl (hf _)
          · split
            · rename_i em
              subst em
              exact se_popAt (pe_var (G.ix hi) (G.vis hk) h1 h2) (lt_of_get (G.ix hi)) hs hl (hf _)
            · split
              · rename_i em
                subst em
                exact se_ext (pe_var (G.ix hi) (G.vis hk) h1 h2) (lt_of_get (G.ix hi)) hs hl (hf _)
              · split
                · rename_i em
                  subst em
                  exact se_idx (pe_var (G.ix hi) (G.vis hk) h1 h2) (lt_of_get (G.ix hi)) hs hl (hf _)
                · exact se_bad
        · exact se_bad
      · exact se_bad
    · split
      · rename_i h
        obtain ⟨ho, rfl, hl⟩ := h
        obtain ⟨h1, h2, h3⟩ := okName_d ho
        split
        · rename_i hk hi
          exact se_pop (pe_var (G.ix hi) (G.vis hk) h1 h2) (lt_of_get (G.ix hi)) hl
        · exact se_bad
      · exact se_bad
    · exact se_rev (hf _)
    · exact se_fw (hf _) (hf _)
    · exact se_slice (hf _) (so_part hf _) (so_part hf _)
    · split
      · rename_i h
        exact se_ix h (hf _) (hf _)
      · exact se_bad
    · rename_i elt tg it ifs scope pos
      exact lc_se S G
    · rename_i elt tg it ifs tg1 it1 ifs1 scope pos
      rcases lc2_parts (elt := elt) (tg := tg) (it := it) (ifs := ifs) (tg1 := tg1) (it1 := it1) (ifs1 := ifs1) (scope := scope) S G with z | ⟨T1, g, t, g1, t1, z, L⟩
      · rw [z]; exact se_bad
      · rw [z]
        obtain ⟨T, hT, hg⟩ := L.hT
        exact se_lc2 G.hP G.calm G.nd L.ok L.ns L.ns1 L.hf L.hf1 L.hi hT L.hb hg L.ht L.hv L.hi1 (fun j hj => hj) L.hg1 L.ht1 L.he
    · exact se_bad
  refine ⟨E e, ?_⟩
  show ST X W c.P e (stepT c r sc e)
  unfold stepT
  split
  · exact st_not (ht _)
  · exact (stw_boolT ht _ _).st
  · split
    · exact st_bad
    · rename_i h
      exact st_cmp (cmp_ok hu _) op_mx (by simpa using h) (hf _) (hf _)
  · split
    · exact st_bad
    · rename_i h
      exact st_chain (cmp_ok hu _) (cmp_ok hu _) op_mx op_mx (by simpa using h) (hf _) (hf _) (hf _)
  · split
    · rename_i h
      exact st_val h (hf _)
    · exact st_bad
theorem snd_all : ∀ n, Snd c (evN c n)
  | 0 => fun X W sc G e => ⟨se_bad, st_bad⟩
  | n + 1 => snd_step (snd_all n)
end
end PU
namespace PU
open PySem PySem.Spec PyProof.Rows L2
/-! ### raise -/
def xdats : List Vl → Option (List D)
  | [] => some []
  | .dat d :: vs => (xdats vs).map (d :: ·)
  | .loc _ :: _ => none
def raiseK (n : Nat) (x : Str) (fs : List Str) (vs : List Vl) : M Fl := fun st => match xdats vs with
  | some ds => if ds.length = fs.length then .exc ⟨x, fs.zip ds⟩ (st.take n) else .stuck
  | none => .stuck
def sRaise (n : Nat) (x : Str) (fs : List Str) (fa : M (List Vl)) : M Fl := bndS n fa (raiseK n x fs)
section
variable {X : Cx} {W : WX} {P n : Nat} {F F' : Addr → Prop} {H H' : Hp} {st st' : Sto} {ρ ρ' σ τ : St}
theorem xdats_ok : ∀ {vs : List Vl} {ds : List D} {xs : List V}, xdats vs = some ds → Rvs X.K F H ρ xs vs → Rps X.K F H xs ds
  | [], _, _, e, .nil => by cases e; exact .nil
  | .dat d :: vs, ds, _, e, .cons r t => by
    unfold xdats at e
    rw [Option.map_eq_some_iff] at e
    obtain ⟨es, h1, rfl⟩ := e
    exact .cons r (xdats_ok h1 t)
  | .loc _ :: _, _, _, e, _ => by cases e
theorem upd_at {H : Hp} {a : Addr} {o : HO} : upd H a o a = some o := by simp [upd]
theorem upd_old {H : Hp} {a b : Addr} {o u : HO} (h : H a = none) (e : H b = some u) : upd H a o b = some u := by
  have ne : b ≠ a := fun z => by rw [z, h] at e; cases e
  rw [upd_ne ne]; exact e
theorem Rps.lens {K : PySem.W.Frag} {vs : List V} {ds : List D} (r : Rps K F H vs ds) : vs.length = ds.length := r.length
theorem zip_fst {α β : Type} : ∀ {l : List α} {m : List β}, l.length = m.length → (l.zip m).map (·.1) = l
  | [], [], _ => rfl
  | a :: l, b :: m, h => by rw [List.zip_cons_cons, List.map_cons, zip_fst (by simpa using h)]
theorem zip_snd {α β : Type} : ∀ {l : List α} {m : List β}, l.length = m.length → (l.zip m).map (·.2) = m
  | [], [], _ => rfl
  | a :: l, b :: m, h => by rw [List.zip_cons_cons, List.map_cons, zip_snd (by simpa using h)]
theorem xd_ok {C : Addr} {x : Str} {fs : List Str} {vs : List V} {ds : List D} {d : Option Addr} (hm : X.mg x = some (.ref C)) (r : Rs X.K F st ρ H) (rv : Rps X.K F H vs ds) (hl : ds.length = fs.length) (h : XD fs vs H d H') :
    ∃ F', Stp P X.K st ρ F H st ρ F' H' ∧ Xr X.K X.mg F' H' ⟨x, fs.zip ds⟩ (.ref C) d := by
  rcases h with ⟨rfl, rfl, rfl⟩ | ⟨_, a, rfl, ha, rfl⟩
  · refine ⟨F, .refl r, hm, .inl ⟨rfl, rfl⟩⟩
  · have g : Grow X.K F H (fun b => F b ∨ b = a) (upd H a (.xd (fs.zip vs))) (.val .non) .non := by
      refine ⟨fun b o e => upd_old ha e, fun b h => .inl h, fun b h => ?_, fun b h => ?_, .non⟩
      · rcases h with h | rfl
        · exact .inl h
        · exact .inr ha
      · rcases h with h | rfl
        · obtain ⟨o, e⟩ := r.live b h
          exact ⟨o, upd_old ha e⟩
        · exact ⟨_, upd_at⟩
    have hv : fs.length = vs.length := by rw [rv.length, hl]
    refine ⟨_, .grow r g, hm, .inr ⟨a, fs.zip vs, rfl, .inr rfl, upd_at, ?_, ?_⟩⟩
    · rw [zip_fst hv, zip_fst hl.symm]
    · rw [zip_snd hv, zip_snd hl.symm]
      exact rv.move (fun _ h => .inl h) fun b _ o e => upd_old ha e
theorem mk_ev {C : Addr} {x : Str} {fs : List Str} {p pos : Pos} {es : List Expr} {pins : List (Addr × Obj)} {s : Shared} {Q : XK} (rm : Room 1 X.A) (hm : X.mg x = some (.ref C)) (G : ExCls X.K C fs) (hg : Gl X x) (hd : (x == ("__debug__" : Str)) = false) (hs : ∀ a ∈ es, noStar a = true)
    (wA : WA X es σ H fun vs H1 => vs.length = fs.length ∧ ∀ d H', XD fs vs H1 d H' → Q (.ref C) d H') (wN : es = [] → fs = [] ∧ Q (.ref C) none H) (I : Inv X pins σ H s) : wpAny (model X.prog X.w) X.A (eval (.Call (.Name x p) es [] pos) X.env) (MkP X pins σ Q) X.xe s := by
  refine wpAny_Call_Name_kw (ld_glob I hg hm ?_ hd)
  cases es with
  | nil =>
    obtain ⟨rfl, q⟩ := wN rfl
    refine PySem.W.callWith_K0 I.kIn G.keep (mk_run rm G I .nil rfl fun d H' z => ?_)
    rcases z with ⟨_, rfl, rfl⟩ | ⟨ne, _⟩
    · exact q
    · exact absurd rfl ne
  | cons e es =>
    refine PySem.W.callWith_K (h₀ := X.base) I.ok.mod.kin G.keep (thn (wA pos pins s I) fun us s1 z => ?_) (starEach_of (hs e (List.mem_cons_self ..))) (any_backTo fun a ha => hs a (List.mem_cons_of_mem _ ha))
    obtain ⟨vs, H1, I1, rv, hl, q⟩ := z
    exact ⟨I1.kIn, mk_run rm G I1 rv hl q⟩
theorem ss_raise {C : Addr} {x : Str} {fs : List Str} {p pos pos2 : Pos} {es : List Expr} {fa : M (List Vl)} (hP : P ≤ X.N.length) (hc : X.calm = true) (tk : Takes X W) (rm : Room 1 X.A) (hm : X.mg x = some (.ref C)) (G : ExCls X.K C fs) (hg : Gl X x) (hd : (x == ("__debug__" : Str)) = false)
    (hs : ∀ a ∈ es, noStar a = true) (hne : es = [] → fs = [] ∧ fa = xNil) (ha : SA X W P es fa) : SS X W P (.Raise (some (.Call (.Name x p) es [] pos)) none pos2) (sRaise X.N.length x fs fa) := fun st σ F H D hl r h => by
  refine ws (ps_raise (t := fun σ H Q => ∀ pins s, Inv X pins σ H s → wpAny (model X.prog X.w) X.A (eval (.Call (.Name x p) es [] pos) X.env) (MkP X pins σ Q) X.xe s) hc tk fun pins s σ H Q I h => h pins s I) fun pins s I => ?_
  have key : ∀ (vs : List Vl) (st1 : Sto) (τ1 : St) (F1 : Addr → Prop) (H1 : Hp), Rs X.K F1 st1 (σ ++ τ1) H1 → PostS X W P X.N.length st1 (σ ++ τ1) F1 H1 (raiseK X.N.length x fs vs st1) D →
      ∀ xs, Rvs X.K F1 H1 (σ ++ τ1) xs vs → xs.length = fs.length ∧ ∀ d H', XD fs xs H1 d H' → W (.ref C) d σ H' := fun vs st1 τ1 F1 H1 r1 q xs rv => by
    unfold raiseK at q
    cases e : xdats vs with
    | none => rw [e] at q; exact q.elim
    | some ds =>
      rw [e] at q
      dsimp only at q
      split at q
      · rename_i hds
        have rp := xdats_ok e rv
        refine ⟨by rw [rp.length, hds], fun d H' z => ?_⟩
        have tr := (Stp.refl (P := P) r1).trunc hl hP
        obtain ⟨F2, s2, xr⟩ := xd_ok (P := P) hm tr.rs rp hds z
        exact q σ F2 H' (.ref C) d hl (tr.trans s2) xr
      · exact q.elim
  refine mk_ev rm hm G hg hd hs (ha st σ [] F H _ hl (rs0 r) ((PostS.bind0 hl hP h).imp fun vs st1 τ1 F1 H1 s1 _ q xs rv => key vs st1 _ F1 H1 s1.rs q xs rv)) (fun e0 => ?_) I
  obtain ⟨rfl, rfl⟩ := hne e0
  have z := PostS.bind0 hl hP h
  have z := key [] st [] F H (rs0 r) (Post.here (a := ([] : List Vl)) (rs0 r) z) [] .nil
  exact ⟨rfl, z.2 none H (.inl ⟨rfl, rfl, rfl⟩)⟩
end
end PU
namespace PU
open PySem PySem.Spec PyProof.Rows L2
/-! ### try -/
def hot (m : M Fl) : M Fl := fun st => match m st with
  | .ok (.ret s) st' => .ok (.ret s) st'
  | _ => .stuck
abbrev Hd := Str × Option Nat × (Xn → M Fl)
def wipe1 (o : Option Nat) (st : Sto) : Sto := match o with
  | none => st
  | some i => st.set i .emp
def tryPick (P : Nat) (mt : Str → Str → Option Bool) : List Hd → Xn → M Fl
  | [], x => fun st => .exc x st
  | (c, o, h) :: r, x => match mt x.cls c with
    | some true => fun st => if (match o with | none => true | some i => decide (P ≤ i)) then hot (h x) (wipe1 o st) else .stuck
    | some false => tryPick P mt r x
    | none => bad
def sTry (P : Nat) (mt : Str → Str → Option Bool) (f : M Fl) (hs : List Hd) : M Fl := fun st => match f st with
  | .exc x st' => tryPick P mt hs x st'
  | r => r
section
variable {X : Cx} {W : WX} {P n : Nat} {F F' : Addr → Prop} {H H' : Hp} {st st' : Sto} {ρ ρ' σ τ : St}
theorem Xr.step {K : PySem.W.Frag} {mg : Str → Option Value} {x : Xn} {cls : Value} {d : Option Addr} (r : Rs K F st ρ H) (s : Stp P K st ρ F H st' ρ' F' H') (h : Xr K mg F H x cls d) : Xr K mg F' H' x cls d := by
  refine ⟨h.1, ?_⟩
  rcases h.2 with z | ⟨a, fs, e1, e2, e3, e4, e5⟩
  · exact .inl z
  · exact .inr ⟨a, fs, e1, s.mono a e2, (s.keep a _ e3 (r.notOwn e2)).get nofun, e4, s.moves r e5⟩
def SuOk (X : Cx) (P : Nat) (o : Option Nat) (suite : List Stmt) (h : Xn → M Fl) : Prop := ∀ (a : Addr) (oe : Obj) (cls : Value) (d : Option Addr) (pn : List (Addr × Obj)) (x : Xn), Zc cls d oe → (∃ vs, oe.data = .fields vs) →
  ∀ st σ F H D, σ.length = X.N.length → H a = none → (∀ i, o = some i → σ[i]? = some (some (.ref a))) → Rs X.K F st σ H → Xr X.K X.mg F H x cls d → PostS X (fun _ _ _ _ => False) P X.N.length st σ F H (hot (h x) st) D → WSs (X.suite a ((a, oe) :: pn)) suite D σ H
def MtOk (X : Cx) (mt : Str → Str → Option Bool) (c : Str) (cv : Value) : Prop := ∀ y cls b, mt y c = some b → X.mg y = some cls → PySem.W.exmOne X.K cls cv = some b
def tsS (X : Cx) (suite : List Stmt) : Addr → Value → Option Addr → TS := fun a cls d D σ H => ∀ oe pn, Zc cls d oe → (∃ vs, oe.data = .fields vs) → WSs (X.suite a ((a, oe) :: pn)) suite D σ H
theorem tsS_ok {suite : List Stmt} {a : Addr} {oe : Obj} {cls : Value} {d : Option Addr} {pn : List (Addr × Obj)} (hz : Zc cls d oe) (hf : ∃ vs, oe.data = .fields vs) : PSs (X.suite a ((a, oe) :: pn)) suite (tsS X suite a cls d) :=
  ⟨fun pins s σ H D I h => h oe pn hz hf pins s I⟩
theorem hot_ret {m : M Fl} : (∃ s st', hot m st = .ok (.ret s) st') ∨ hot m st = .stuck := by
  unfold hot
  split
  · exact .inl ⟨_, _, rfl⟩
  · exact .inr rfl
/-- the suite's wish is the statement's -/
theorem hot_post {m : M Fl} {D D' : Ends} {W' : WX} (hD : D'.rt = D.rt) (h : PostS X W P n st ρ F H (hot m st) D) : PostS X W' P n st ρ F H (hot m st) D' := by
  rcases hot_ret (m := m) (st := st) with ⟨s, st', e⟩ | e
  · rw [e] at h ⊢
    intro σ' F' H' x hl s'
    show D'.rt x H'
    rw [hD]
    exact h σ' F' H' x hl s'
  · rw [e] at h; exact h.elim
inductive HsOk (X : Cx) (P : Nat) (mt : Str → Str → Option Bool) : List ExceptHandler → List Hd → List (Value × (Addr → Value → Option Addr → TS)) → Prop
  | nil : HsOk X P mt [] [] []
  | cons {x : Str} {c : Value} {b₀ : Stmt} {suite : List Stmt} {np pos' : Pos} {h : Xn → M Fl} {hds : List ExceptHandler} {hs : List Hd} {l : List (Value × (Addr → Value → Option Addr → TS))} (hc : Names X x c) (hm : MtOk X mt x c) (hsu : SuOk X P none (b₀ :: suite) h) (r : HsOk X P mt hds hs l) :
      HsOk X P mt (.ExceptHandler (some (.Name x np)) none (b₀ :: suite) pos' :: hds) ((x, none, h) :: hs) ((c, tsS X (b₀ :: suite)) :: l)
theorem HsOk.hds {mt : Str → Str → Option Bool} : ∀ {hds : List ExceptHandler} {hs : List Hd} {l : List (Value × (Addr → Value → Option Addr → TS))}, HsOk X P mt hds hs l → HdsOk X hds l
  | _, _, _, .nil => .nil
  | _, _, _, .cons hc hm hsu r => .cons hc (fun a oe cls d pn hz hf => tsS_ok hz hf) r.hds
theorem HsOk.pick {mt : Str → Str → Option Bool} {x : Xn} {cls : Value} {d : Option Addr} {D : Ends} (hl : σ.length = X.N.length) (r : Rs X.K F st σ H) (xr : Xr X.K X.mg F H x cls d) : ∀ {hds : List ExceptHandler} {hs : List Hd} {l : List (Value × (Addr → Value → Option Addr → TS))}, HsOk X P mt hds hs l →
    PostS X W P X.N.length st σ F H (tryPick P mt hs x st) D → wMany X.K W D l cls d σ H
  | _, _, _, .nil, h => h σ F H cls d hl (.refl r) xr
  | _, _, _, .cons (x := y) (c := c) hc hm hsu rest, h => by
    unfold tryPick at h
    cases e : mt x.cls y with
    | none => simp only [e] at h; exact h.elim
    | some b =>
      simp only [e] at h
      cases b with
      | true =>
        simp only [if_true, wipe1] at h
        exact ⟨true, hm _ _ _ e xr.1, fun _ a ha oe pn hz hf => hsu a oe cls d pn x hz hf st σ F H D hl ha (fun i hi => nomatch hi) r xr (hot_post rfl h), fun z => nomatch z⟩
      | false => exact ⟨false, hm _ _ _ e xr.1, fun z => (nomatch z), fun _ => HsOk.pick hl r xr rest h⟩
theorem try_post {mt : Str → Str → Option Bool} {f : M Fl} {hs : List Hd} {W' : WX} {D : Ends} {pn : List (Addr × Obj)} {xe : Value → Shared → Prop} (h : PostS X W P n st σ F H (sTry P mt f hs st) D)
    (hx : ∀ x st' σ' F' H' cls d, σ'.length = n → Stp P X.K st σ F H st' σ' F' H' → Xr X.K X.mg F' H' x cls d → PostS X W P n st' σ' F' H' (tryPick P mt hs x st') D → W' cls d σ' H') : PostS (X.tr pn xe) W' P n st σ F H (f st) D := by
  unfold sTry at h
  cases e : f st with
  | stuck => rw [e] at h; exact h
  | exc x st' =>
    rw [e] at h
    intro σ' F' H' cls d hl s xr
    exact hx x st' σ' F' H' cls d hl s xr (PostS.step h s)
  | ok fl st' =>
    rw [e] at h
    cases fl <;> exact h
theorem ss_try_many {mt : Str → Str → Option Bool} {body : List Stmt} {h₀ : ExceptHandler} {hds : List ExceptHandler} {hs : List Hd} {l : List (Value × (Addr → Value → Option Addr → TS))} {pos : Pos} {f : M Fl} (hst : X.stack = X.env :: X.outer) (hfr : X.env.frame = some X.env.locals) (tk : Takes X W)
    (hb : ∀ (W : WX) (pn : List (Addr × Obj)) (xe : Value → Shared → Prop), Takes (X.tr pn xe) W → PassesOwn (model X.prog X.w) X.A X.env xe → SSs (X.tr pn xe) W P body f) (hh : HsOk X P mt (h₀ :: hds) hs l) : SS X W P (.Try body (h₀ :: hds) [] [] pos) (sTry P mt f hs) := fun st σ F H D hl r h => by
  refine ws (ps_try_many hst hfr tk (tb := fun W D σ H => ∀ pn xe, Takes (X.tr pn xe) W → PassesOwn (model X.prog X.w) X.A X.env xe → WSs (X.tr pn xe) body D σ H) (fun W pn xe t p => ⟨fun pins s σ H D I h => h pn xe t p pins s I⟩) hh.hds) ?_
  intro pn xe t p
  have z : PostS (X.tr pn xe) (wMany X.K W D l) P X.N.length st σ F H (f st) D := try_post (X := X) h fun x st' σ' F' H' cls d hl' s xr q => HsOk.pick (X := X) hl' s.rs xr hh q
  exact hb _ pn xe t p st σ F H D hl r z
end
end PU
namespace PU
open PySem PySem.Spec PyProof.Rows L2
/-! ### what an except suite gives -/
def xFld (ex : Str → Option (List Str)) (x : Xn) (f : Str) : M Vl := match ex x.cls with
  | some fs => if fs = x.flds.map (·.1) then (match lk x.flds f with
    | some d => xCon d
    | none => bad) else bad
  | none => bad
def ExAll (X : Cx) (ex : Str → Option (List Str)) : Prop := ∀ y fs, ex y = some fs → ∃ C, X.mg y = some (.ref C) ∧ ExCls X.K C fs
def SEx (X : Cx) (W : WX) (P : Nat) (o : Option Nat) (a : Addr) (x : Xn) (cls : Value) (d : Option Addr) (e : Expr) (f : M Vl) : Prop := ∀ st σ τ F H Q, σ.length = X.N.length → Rs X.K F st (σ ++ τ) H → Xr X.K X.mg F H x cls d → (∀ i, o = some i → σ[i]? = some (some (.ref a))) →
  Post X W P σ τ st F H (f st) (fun v st' τ' F' H' => ∀ x, Rv X.K F' H' (σ ++ τ') x v → Q x H') → WE X e σ H Q
def SAx (X : Cx) (W : WX) (P : Nat) (o : Option Nat) (a : Addr) (x : Xn) (cls : Value) (d : Option Addr) (es : List Expr) (f : M (List Vl)) : Prop := ∀ st σ τ F H Q, σ.length = X.N.length → Rs X.K F st (σ ++ τ) H → Xr X.K X.mg F H x cls d → (∀ i, o = some i → σ[i]? = some (some (.ref a))) →
  Post X W P σ τ st F H (f st) (fun v st' τ' F' H' => ∀ xs, Rvs X.K F' H' (σ ++ τ') xs v → Q xs H') → WA X es σ H Q
section
variable {X : Cx} {W : WX} {P : Nat} {o : Option Nat} {a : Addr} {x : Xn} {cls : Value} {d : Option Addr} {e : Expr} {es : List Expr} {pos : Pos}
theorem SE.toX {f : M Vl} (h : SE X W P e f) : SEx X W P o a x cls d e f := fun st σ τ F H Q hl r _ _ q => h st σ τ F H Q hl r q
theorem sex_bad : SEx X W P o a x cls d e bad := fun st σ τ F H Q hl r _ _ q => q.elim
theorem sax_nil : SAx X W P o a x cls d [] xNil := fun st σ τ F H Q hl r _ _ h => sa_nil st σ τ F H Q hl r h
theorem sax_cons {fa : M Vl} {fr : M (List Vl)} (hs : noStar e = true) (ha : SEx X W P o a x cls d e fa) (hr : SAx X W P o a x cls d es fr) : SAx X W P o a x cls d (e :: es) (xCons fa fr) := fun st σ τ F H Q hl r xr ho h => by
  refine wa (pa_cons pE pA (starEach_of hs)) (ha st σ τ F H _ hl r xr ho (h.bind.imp fun v st1 τ1 F1 H1 s1 _ q y rv => ?_))
  refine hr st1 σ _ F1 H1 _ hl s1.rs (xr.step r s1) ho (q.bind.imp fun vs st2 τ2 F2 H2 s2 _ q2 xs rvs => ?_)
  exact Post.here (a := v :: vs) s2.rs q2 (y :: xs) (.cons (s2.rvA s1.rs rv) rvs)
theorem sex_tup {k : Nat} {fa : M (List Vl)} (ha : SAx X W P o a x cls d es fa) : SEx X W P o a x cls d (.Tuple es k pos) (xTup fa) := fun st σ τ F H Q hl r xr ho h => by
  refine we (pe_tup pA) (ha st σ τ F H _ hl r xr ho (h.bind.imp fun vs st1 τ1 F1 H1 s1 _ q xs rvs => ?_))
  obtain ⟨ds, st2, F2, s2, q2, q⟩ := post_frzs s1.rs rvs q
  split at q
  · rename_i hz
    exact ⟨by rw [q2.length, ← szL_eq]; exact hz, fun p hp => post_alloc s2.rs q _ _ _ (growT s2.rs.live hp q2)⟩
  · exact q.elim
theorem sex_lst {fa : M (List Vl)} (ha : SAx X W P o a x cls d es fa) : SEx X W P o a x cls d (.List es pos) (xLst fa) := fun st σ τ F H Q hl r xr ho h => by
  refine we (pe_lst pA) (ha st σ τ F H _ hl r xr ho (h.bind.imp fun vs st1 τ1 F1 H1 s1 _ q xs rvs => ?_))
  obtain ⟨ds, st2, F2, s2, q2, q⟩ := post_frzs s1.rs rvs q
  split at q
  · rename_i hz
    exact ⟨by rw [q2.length, ← szL_eq]; exact hz, fun p hp => post_alloc s2.rs q _ _ _ (growL s2.rs.live hp q2)⟩
  · exact q.elim
structure FldC (K : PySem.W.Frag) (C : Addr) (f : Str) : Prop where
  ga : PySem.W.findIn K (.ref C) "__getattribute__" = some (some (.builtin "BaseException.__getattribute__"))
  gg : PySem.W.findIn K (.ref C) "__getattr__" = some none
  noN : PySem.W.findIn K (.ref C) f = some none
  hd : PySem.W.hasDictIn K C = true
theorem fld_of {K : PySem.W.Frag} {C : Addr} {fs : List Str} {f : Str} (G : ExCls K C fs) (hf : f ∈ fs) : FldC K C f := by
  cases G.k with
  | non => cases hf
  | one T Y N => exact ⟨T.ga, T.gg, T.noN f hf, T.hdC⟩
  | two T Y N ne => exact ⟨T.ga, T.gg, T.noN f hf, T.hdC⟩
theorem lk_both {K : PySem.W.Frag} {F : Addr → Prop} {H : Hp} {f : Str} {d : D} : ∀ {fs : List (Str × V)} {gs : List (Str × D)}, fs.map (·.1) = gs.map (·.1) → Rps K F H (fs.map (·.2)) (gs.map (·.2)) → lk gs f = some d → ∃ v, List.lookup f fs = some v ∧ Rp K F H v d
  | [], [], _, _, h => by cases h
  | [], _ :: _, e, _, _ => by cases e
  | _ :: _, [], e, _, _ => by cases e
  | (y, v) :: fs, (z, u) :: gs, e, r, h => by
    rw [List.map_cons, List.map_cons] at e
    obtain ⟨e1, e2⟩ := List.cons.inj e
    dsimp only at e1
    subst e1
    cases r with
    | cons r1 r2 =>
      unfold lk at h
      split at h
      · rename_i q
        subst q
        cases h
        exact ⟨v, by rw [List.lookup_cons, beq_self_eq_true], r1⟩
      · rename_i q
        obtain ⟨w, h1, h2⟩ := lk_both e2 r2 h
        exact ⟨w, by rw [List.lookup_cons, show (f == y) = false by simpa using q]; exact h1, h2⟩
end
section
variable {X : Cx} {W : WX} {P : Nat} {a : Addr} {oe : Obj} {pn : List (Addr × Obj)} {x : Xn} {cls : Value} {d : Option Addr}
theorem sex_fld {ex : Str → Option (List Str)} {y f : Str} {i : Nat} {p pos : Pos} (hx : ExAll X ex) (hz : Zc cls d oe) (hf : ∃ vs, oe.data = .fields vs) (hN : X.N[i]? = some y) (hv : Vis X.env.scope y) (hy : okName y = true) :
    SEx (X.suite a ((a, oe) :: pn)) W P (some i) a x cls d (.Attribute (.Name y p) f pos) (xFld ex x f) := fun st σ τ F H Q hl r xr ho h => by
  unfold xFld at h
  cases hfs : ex x.cls with
  | none => simp only [hfs] at h; exact h.elim
  | some fs =>
    simp only [hfs] at h
    by_cases hm : fs = x.flds.map (·.1)
    · rw [if_pos hm] at h
      cases hd : lk x.flds f with
      | none => simp only [hd] at h; exact h.elim
      | some dd =>
        simp only [hd] at h
        obtain ⟨C, hC, G⟩ := hx _ _ hfs
        have eC : cls = .ref C := by
          have := xr.1
          rw [show (X.suite a ((a, oe) :: pn)).mg = X.mg from rfl, hC] at this
          exact (Option.some.inj this).symm
        subst eC
        have hmem : f ∈ fs := by rw [hm]; exact List.mem_map.mpr ⟨_, lk_mem hd, rfl⟩
        have FC := fld_of G hmem
        rcases xr.2 with ⟨z, _⟩ | ⟨b, gs, e1, e2, e3, e4, e5⟩
        · rw [z] at hd; cases hd
        obtain ⟨v, hlv, rv⟩ := lk_both e4 e5 hd
        subst e1
        have q := Post.here (a := Vl.dat dd) r h v rv
        intro pins s I
        obtain ⟨k1, k2, k3⟩ := okName_d hy
        refine attr_of (by rfl) (thn ((pe_var (X := X.suite a ((a, oe) :: pn)) (pos := p) hN hv k1 k2).run pins s σ H (fun u H1 => u = .ref a ∧ H1 = H) I ⟨.ref a, ho i rfl, rfl, rfl⟩) fun u s1 hh => ?_)
        obtain ⟨u', H1, I1, ru, rfl, rfl⟩ := hh
        obtain rfl : u = Value.ref a := ru
        obtain ⟨ha, _⟩ := I1.pin (a, oe) (List.mem_append_left _ List.mem_cons_self)
        obtain ⟨vs, hd'⟩ := hf
        obtain ⟨mA, hns, hr⟩ : ObjOk X.prog X.w H1 s1.heap b (.xd gs) := I1.hok b _ e3
        obtain ⟨od, hod, hlk⟩ := lookIn_ns hns
        obtain ⟨w, hw, rw'⟩ := RelO.some_of (v := v) (o := mA f) (by rw [← hlv]; exact hr f)
        have J : PySem.W.InstAt s1.heap a oe C (some od) := ⟨ha, hz.1, by unfold PySem.W.notCls; rw [hd'] <;> rfl, by rw [hz.2]; exact hod⟩
        exact HandSPX.exc_get I1.kIn J FC.ga FC.gg G.sub (PySem.W.findObj_own FC.hd FC.noN rfl (by rw [hlk, hw])) (handed_of rw') ⟨v, H1, I1.tok _, rw', q⟩
    · rw [if_neg hm] at h; exact h.elim
end
/-! ### the suites that are told -/
def evHa (ex : Str → Option (List Str)) (n : Option Str) (x : Xn) (e : Expr) : M Vl := match e with
  | .Constant (.int i) _ _ => xCon (.int i)
  | .Constant (.bool b) _ _ => xCon (.bl b)
  | .Constant .none _ _ => xCon .non
  | .Constant (.str s) _ _ => xCon (.str s)
  | .Attribute (.Name y _) f _ => if n = some y then xFld ex x f else bad
  | _ => bad
def evHl (f : Expr → M Vl) : List Expr → M (List Vl)
  | [] => xNil
  | e :: es => if noStar e then xCons (f e) (evHl f es) else bad
def evHp (ex : Str → Option (List Str)) (n : Option Str) (x : Xn) (e : Expr) : M Vl := match e with
  | .List es _ => xLst (evHl (evHa ex n x) es)
  | .Tuple es _ _ => xTup (evHl (evHa ex n x) es)
  | e => evHa ex n x e
def evHx (ex : Str → Option (List Str)) (n : Option Str) (x : Xn) (e : Expr) : M Vl := match e with
  | .List es _ => xLst (evHl (evHp ex n x) es)
  | .Tuple es _ _ => xTup (evHl (evHp ex n x) es)
  | e => evHa ex n x e
def evSu (ex : Str → Option (List Str)) (m P : Nat) (n : Option Str) (suite : List Stmt) (x : Xn) : M Fl := match suite with
  | [.Return (some e) _] => sRet m P (evHx ex n x e)
  | _ => bad
section
variable {X : Cx} {W : WX} {P : Nat} {o : Option Nat} {n : Option Str} {a : Addr} {oe : Obj} {pn : List (Addr × Obj)} {x : Xn} {cls : Value} {d : Option Addr} {ex : Str → Option (List Str)}
/-- the name of the clause and its slot -/
def NmOk (X : Cx) (o : Option Nat) (n : Option Str) : Prop := (o = none ∧ n = none) ∨ ∃ i y, o = some i ∧ n = some y ∧ X.N[i]? = some y ∧ Vis X.env.scope y ∧ okName y = true
theorem sex_a (hx : ExAll X ex) (hn : NmOk X o n) (hz : Zc cls d oe) (hf : ∃ vs, oe.data = .fields vs) (e : Expr) : SEx (X.suite a ((a, oe) :: pn)) W P o a x cls d e (evHa ex n x e) := by
  unfold evHa
  split
  · exact SE.toX (se_con pe_int fun F H => .int _)
  · exact SE.toX (se_con pe_bl fun F H => .bl _)
  · exact SE.toX (se_con pe_non fun F H => .non)
  · exact SE.toX (se_con pe_str fun F H => .str _)
  · split
    · rename_i e
      rcases hn with ⟨_, z⟩ | ⟨i, y, rfl, e2, h1, h2, h3⟩
      · rw [z] at e; cases e
      · rw [e2] at e
        cases e
        exact sex_fld hx hz hf h1 h2 h3
    · exact sex_bad
  · exact sex_bad
theorem sax_l {f : Expr → M Vl} (hf : ∀ e, SEx (X.suite a ((a, oe) :: pn)) W P o a x cls d e (f e)) : ∀ es : List Expr, SAx (X.suite a ((a, oe) :: pn)) W P o a x cls d es (evHl f es)
  | [] => sax_nil
  | e :: es => by
    unfold evHl
    split
    · rename_i h
      exact sax_cons h (hf e) (sax_l hf es)
    · exact fun st σ τ F H Q hl r _ _ q => q.elim
theorem sex_p (hx : ExAll X ex) (hn : NmOk X o n) (hz : Zc cls d oe) (hf : ∃ vs, oe.data = .fields vs) (e : Expr) : SEx (X.suite a ((a, oe) :: pn)) W P o a x cls d e (evHp ex n x e) := by
  unfold evHp
  split
  · exact sex_lst (sax_l (sex_a hx hn hz hf) _)
  · exact sex_tup (sax_l (sex_a hx hn hz hf) _)
  · exact sex_a hx hn hz hf _
theorem sex_x (hx : ExAll X ex) (hn : NmOk X o n) (hz : Zc cls d oe) (hf : ∃ vs, oe.data = .fields vs) (e : Expr) : SEx (X.suite a ((a, oe) :: pn)) W P o a x cls d e (evHx ex n x e) := by
  unfold evHx
  split
  · exact sex_lst (sax_l (sex_p hx hn hz hf) _)
  · exact sex_tup (sax_l (sex_p hx hn hz hf) _)
  · exact sex_a hx hn hz hf _
/-- return e at one state -/
theorem ret_at {X : Cx} {W : WX} {P : Nat} {e : Expr} {pos : Pos} {f : M Vl} {st : Sto} {σ : St} {F : Addr → Prop} {H : Hp} {D : Ends} (hl : σ.length = X.N.length) (hP : P ≤ X.N.length) (r : Rs X.K F st σ H)
    (he : ∀ Q, Post X W P σ [] st F H (f st) (fun v st' τ' F' H' => ∀ x, Rv X.K F' H' (σ ++ τ') x v → Q x H') → WE X e σ H Q) (h : PostS X W P X.N.length st σ F H (sRet X.N.length P f st) D) : WS X (.Return (some e) pos) D σ H := by
  refine ws (ps_ret pE) (he _ ((PostS.bind0 hl hP h).imp fun v st1 τ1 F1 H1 s1 _ q x rv => ?_))
  have tr := (Stp.refl (P := P) s1.rs).trunc hl hP
  unfold give at q
  cases v with
  | dat d => exact q σ F1 H1 x hl (tr.snocV rv)
  | loc i =>
    have rv' : (σ ++ ([] ++ τ1))[i]? = some (some x) := rv
    dsimp only at q
    split at q
    · rename_i d hd
      obtain ⟨w, e1, e2⟩ := s1.rs.slot i _ hd
      rw [rv'] at e1
      cases e1
      exact q σ F1 H1 x hl (tr.snocV e2)
    · rename_i ds hd
      obtain ⟨a, ws, e1, e2⟩ := s1.rs.slot i _ hd
      rw [rv'] at e1
      cases e1
      split at q
      · rename_i hPi
        exact q σ F1 H1 (.ref a) hl (Stp.out s1.rs hd rv' hPi hl rfl hP)
      · have hz : frz (.loc i) st1 = .ok (.lst ds) (st1.set i (.val (.lst ds))) := by unfold frz; dsimp only; rw [hd]
        obtain ⟨F2, s2, r2⟩ := frz_ok (P := P) s1.rs rv hz
        exact q σ F2 H1 (.ref a) hl ((s2.trunc hl hP).snocV r2)
    · exact q.elim
theorem hot_in {m : M Fl} {st : Sto} {σ : St} {F : Addr → Prop} {H : Hp} {D : Ends} {k : Nat} (h : PostS X W P k st σ F H (hot m st) D) : PostS X W P k st σ F H (m st) D := by
  unfold hot at h
  split at h
  · rename_i e; rw [e]; exact h
  · exact h.elim
theorem su_ok (hP : P ≤ X.N.length) (hx : ExAll X ex) (hn : NmOk X o n) (suite : List Stmt) : SuOk X P o suite (evSu ex X.N.length P n suite) := fun a oe cls d pn x hz hf st σ F H D hl ha ho r xr h => by
  unfold evSu at h
  split at h
  · rename_i e pos
    refine wss (pss_cons pS pSs) (ret_at (X := X.suite a ((a, oe) :: pn)) (W := fun _ _ _ _ => False) (P := P) hl hP r (fun Q q => sex_x hx hn hz hf _ st σ [] F H Q hl (rs0 r) xr ho q) ?_)
    exact hot_in (X := X) (W := fun _ _ _ _ => False) (hot_post (X := X) (D := D) rfl h)
  · exact (hot_in h).elim
end
end PU
namespace PU
open PySem PySem.Spec PyProof.Rows L2
section
variable {X : Cx} {W : WX} {P n : Nat} {F F' : Addr → Prop} {H H' : Hp} {st st' : Sto} {ρ ρ' σ τ : St}
theorem Stp.wipe1 {K : PySem.W.Frag} {i : Nat} {v : Option V} (r : Rs K F st σ H) (hP : P ≤ i) : Stp P K st σ F H (st.set i .emp) (σ.set i v) F H := by
  have at_ : ∀ (l : Nat) (s : Slot), (st.set i .emp)[l]? = some s → (l = i ∧ s = .emp) ∨ (l ≠ i ∧ st[l]? = some s) := fun l s q => by
    by_cases h : i = l
    · subst h
      by_cases hi : i < st.length
      · rw [List.getElem?_set_self hi] at q; cases q; exact .inl ⟨rfl, rfl⟩
      · rw [List.getElem?_eq_none (by rw [List.length_set]; omega)] at q; cases q
    · rw [List.getElem?_set_ne h] at q; exact .inr ⟨Ne.symm h, q⟩
  have ne_ : ∀ (l : Nat), l ≠ i → (σ.set i v)[l]? = σ[l]? := fun l h => List.getElem?_set_ne (Ne.symm h)
  refine ⟨⟨by rw [List.length_set, List.length_set]; exact r.len, fun l s q => ?_, fun l m a k1 d1 k2 d2 e1 e2 f1 f2 => ?_, r.live, r.tab⟩, fun _ _ h _ => .inl h, fun _ h => h, fun _ h => .inl h, fun a h => ?_, fun l s hl q il => ?_⟩
  · rcases at_ l s q with ⟨h1, h2⟩ | ⟨h1, h2⟩
    · subst h2; trivial
    · rw [ne_ l h1]; exact r.slot l s h2
  · rcases at_ l _ e1 with ⟨_, h2⟩ | ⟨h1, h2⟩
    · cases h2
    rcases at_ m _ e2 with ⟨_, g2⟩ | ⟨g1, g2⟩
    · cases g2
    rw [ne_ l h1] at f1
    rw [ne_ m g1] at f2
    exact r.dis l m a _ _ _ _ h2 g2 f1 f2
  · obtain ⟨l, k, ds, e1, e2⟩ := h
    rcases at_ l _ e1 with ⟨_, h2⟩ | ⟨h1, h2⟩
    · cases h2
    rw [ne_ l h1] at e2
    exact .inl ⟨l, k, ds, h2, e2⟩
  · have : l ≠ i := by omega
    exact ⟨ne_ l this, s, by rw [List.getElem?_set_ne (Ne.symm this)]; exact q, il⟩
theorem ss_try_as {mt : Str → Str → Option Bool} {body : List Stmt} {x y : Str} {i : Nat} {cv : Value} {b₀ : Stmt} {suite : List Stmt} {np pos pos' : Pos} {f : M Fl} {g : Xn → M Fl} (hst : X.stack = X.env :: X.outer) (hfr : X.env.frame = some X.env.locals) (nd : X.N.Nodup) (hi : X.N[i]? = some y) (hln : X.env.scope.names.lookup y = some .local) (tk : Takes X W)
    (hb : ∀ (W : WX) (pn : List (Addr × Obj)) (xe : Value → Shared → Prop), Takes (X.tr pn xe) W → PassesOwn (model X.prog X.w) X.A X.env xe → SSs (X.tr pn xe) W P body f) (hc : Names X x cv) (hm : MtOk X mt x cv) (hsu : SuOk X P (some i) (b₀ :: suite) g) :
    SS X W P (.Try body [.ExceptHandler (some (.Name x np)) (some y) (b₀ :: suite) pos'] [] [] pos) (sTry P mt f [(x, some i, g)]) := fun st σ F H D hl r h => by
  refine ws (ps_try_as hst hfr nd hi hln hc tk (tb := fun W D σ H => ∀ pn xe, Takes (X.tr pn xe) W → PassesOwn (model X.prog X.w) X.A X.env xe → WSs (X.tr pn xe) body D σ H) (fun W pn xe t p => ⟨fun pins s σ H D I h => h pn xe t p pins s I⟩) (fun a oe cls d pn hz hf => tsS_ok hz hf)) ?_
  intro pn xe t p
  have z : PostS (X.tr pn xe) (wAs X.K cv i (tsS X (b₀ :: suite)) W D) P X.N.length st σ F H (f st) D := try_post (X := X) h fun e st' σ' F' H' cls d hl' s xr q => by
    unfold tryPick at q
    cases em : mt e.cls x with
    | none => simp only [em] at q; exact q.elim
    | some b =>
      simp only [em] at q
      cases b with
      | false => exact ⟨false, hm _ _ _ em xr.1, fun z => (nomatch z), fun _ => q σ' F' H' cls d hl' (.refl s.rs) xr⟩
      | true =>
        refine ⟨true, hm _ _ _ em xr.1, fun _ a ha oe pn hz hf => ?_, fun z => nomatch z⟩
        by_cases hPi : P ≤ i
        · simp only [hPi, decide_true, if_true, wipe1] at q
          have s1 := Stp.wipe1 (P := P) (v := some (.ref a)) s.rs hPi
          have hlt : i < σ'.length := by rw [hl']; exact (List.getElem?_eq_some_iff.mp hi).1
          exact hsu a oe cls d pn e hz hf _ _ F' H' _ (by rw [List.length_set]; exact hl') ha (fun j hj => by cases hj; exact List.getElem?_set_self hlt) s1.rs xr (hot_post (X := X) (D := D) rfl (PostS.step q s1))
        · simp only [hPi, decide_false] at q
          exact q.elim
  exact hb _ pn xe t p st σ F H D hl r z
end
end PU
namespace PU
open PySem PySem.Spec PyProof.Rows L2
/-! ### statements -/
def isStar : Expr → Bool
  | .Starred .. => true
  | _ => false
def isNm : Expr → Bool
  | .Name .. => true
  | _ => false
/-- no stores swapped, by the text alone -/
def swNone (tg e : Expr) : Bool := match tg, e with
  | .Tuple ts _ _, .Tuple vs _ _ => !(ts.length == 2 || ts.length == 3) || vs.length != ts.length || vs.any isStar || ts.any (fun t => !isNm t) || vs.all (foldedForSure 8)
  | .List .., .Tuple .. => false
  | _, _ => true
theorem fm_lt {α β : Type} {f : α → Option β} {a : α} : ∀ {l : List α}, a ∈ l → f a = none → (l.filterMap f).length < l.length
  | [], h, _ => by cases h
  | b :: l, h, e => by
    rcases List.mem_cons.mp h with rfl | h
    · rw [List.filterMap_cons, e]
      exact Nat.lt_succ_of_le (List.length_filterMap_le ..)
    · have ih := fm_lt h e
      rw [List.filterMap_cons]
      cases f b with
      | none => simp only [List.length_cons]; omega
      | some _ => simp only [List.length_cons]; omega
theorem sw_none {tg e : Expr} {env : PySem.Env} (h : swNone tg e = true) : swappedStores [tg] e env = pure none := by
  unfold swNone at h
  split at h
  · rename_i ts k p vs k2 p2
    unfold swappedStores
    try simp only [pure_bind]
    split
    · rfl
    · rename_i h1
      try simp only [pure_bind]
      split
      · rfl
      · rename_i h2
        try simp only [pure_bind]
        split
        · rfl
        · rename_i h3
          try simp only [pure_bind]
          split
          · rfl
          · rename_i h4
            exfalso
            simp only [Bool.or_eq_true, not_or] at h h1 h3
            rcases h with (((a | a) | a) | a) | a
            · exact h1.1.1 a
            · exact h1.1.2 a
            · refine h2 (Eq.trans ?_ a)
              congr 1
            · obtain ⟨t, ht, hn⟩ := List.any_eq_true.mp a
              have key : ∀ f : Expr → Option Str, (∀ t, isNm t = false → f t = none) → (ts.filterMap f).length ≠ ts.length := fun f hf => Nat.ne_of_lt (fm_lt ht (hf t (by simpa using hn)))
              exact h3.1 (bne_iff_ne.mpr (key _ fun t ht => by cases t <;> first | rfl | cases ht))
            · exact h4 a
  · cases h
  · rename_i hn1 hn2
    unfold swappedStores
    cases tg <;> cases e <;> first | rfl | exact absurd rfl (hn1 _ _ _ _ _ _ rfl) | exact absurd rfl (hn2 _ _ _ _ _ rfl)
theorem star_any {a : Expr} (h : noStar a = true) : isStar a = false := by cases a <;> first | rfl | cases h
theorem ed2 {x y : Str} (h : x ≠ y) : [x, y].eraseDups.length = 2 := by
  have h2 : (y == x) = false := by simpa using fun e => h e.symm
  simp [List.eraseDups_cons, h2]
theorem ed3 {x y z : Str} (h : x ≠ y) (h' : x ≠ z) (h'' : y ≠ z) : [x, y, z].eraseDups.length = 3 := by
  have h2 : (y == x) = false := by simpa using fun e => h e.symm
  have h3 : (z == x) = false := by simpa using fun e => h' e.symm
  have h4 : (z == y) = false := by simpa using fun e => h'' e.symm
  simp [List.eraseDups_cons, h2, h3, h4]
theorem sw_some2 {x y : Str} {px py pt pt2 : Pos} {kt k2 : Nat} {a b : Expr} {env : PySem.Env} (hk : env.scope.kind = .function) (hx : env.scope.names.lookup x = some .local) (hy : env.scope.names.lookup y = some .local) (hxy : x ≠ y) (hl : (py.line == px.line) = true)
    (sa : noStar a = true) (sb : noStar b = true) (h1 : ([a, b].all (foldedForSure 8)) = false) (h2 : ([a, b].all (constantsAlone 8)) = false) : swappedStores [.Tuple [.Name x px, .Name y py] kt pt] (.Tuple [a, b] k2 pt2) env = pure (some [x, y]) := by
  have hb : env.blockKind = .function := by unfold Env.blockKind; rw [hk]; rfl
  have kx : env.kindOf x = some .local := hx
  have ky : env.kindOf y = some .local := hy
  have hl' : py.line = px.line := by simpa using hl
  unfold swappedStores
  try simp only [pure_bind]
  rw [if_neg (by rw [hb]; simp)]
  try simp only [pure_bind]
  rw [if_neg (fun h => by have h : [a, b].any isStar = true := Eq.trans (by congr 1) h; simp [star_any sa, star_any sb] at h)]
  try simp only [pure_bind]
  simp only [List.filterMap_cons, List.filterMap_nil, kx, ky, Expr.pos, hl', List.head?_cons, Option.map_some, Option.getD_some, beq_self_eq_true, Bool.and_self, if_true]
  rw [if_neg (by rw [ed2 hxy]; simp)]
  try simp only [pure_bind]
  rw [if_neg (by rw [h1]; decide)]
  try simp only [pure_bind]
  rw [if_neg (by rw [h2]; decide)]
  try rfl
theorem sw_some3 {x y z : Str} {px py pz pt pt2 : Pos} {kt k2 : Nat} {a b d : Expr} {env : PySem.Env} (hk : env.scope.kind = .function) (hx : env.scope.names.lookup x = some .local) (hy : env.scope.names.lookup y = some .local) (hz : env.scope.names.lookup z = some .local) (hxy : x ≠ y) (hxz : x ≠ z) (hyz : y ≠ z) (hl : (py.line == px.line) = true) (hl2 : (pz.line == px.line) = true)
    (sa : noStar a = true) (sb : noStar b = true) (sd : noStar d = true) (h1 : ([a, b, d].all (foldedForSure 8)) = false) (h2 : ([a, b, d].all (constantsAlone 8)) = false) : swappedStores [.Tuple [.Name x px, .Name y py, .Name z pz] kt pt] (.Tuple [a, b, d] k2 pt2) env = pure (some [x, y, z]) := by
  have hb : env.blockKind = .function := by unfold Env.blockKind; rw [hk]; rfl
  have kx : env.kindOf x = some .local := hx
  have ky : env.kindOf y = some .local := hy
  have kz : env.kindOf z = some .local := hz
  have hl' : py.line = px.line := by simpa using hl
  have hl2' : pz.line = px.line := by simpa using hl2
  unfold swappedStores
  try simp only [pure_bind]
  rw [if_neg (by rw [hb]; simp)]
  try simp only [pure_bind]
  rw [if_neg (fun h => by have h : [a, b, d].any isStar = true := Eq.trans (by congr 1) h; simp [star_any sa, star_any sb, star_any sd] at h)]
  try simp only [pure_bind]
  simp only [List.filterMap_cons, List.filterMap_nil, kx, ky, kz, hl2', Expr.pos, hl', List.head?_cons, Option.map_some, Option.getD_some, beq_self_eq_true, Bool.and_self, if_true]
  rw [if_neg (by rw [ed3 hxy hxz hyz]; simp)]
  try simp only [pure_bind]
  rw [if_neg (by rw [h1]; decide)]
  try simp only [pure_bind]
  rw [if_neg (by rw [h2]; decide)]
  try rfl
/-- the slot of a name that is stored to -/
def locIx (c : Cfg) (sc : Scope) (x : Str) : Option Nat := match sc.names.lookup x with
  | some .local => idx c.N x
  | some .cell => idx c.N x
  | _ => none
/-- of a plain one -/
def locIx1 (c : Cfg) (sc : Scope) (x : Str) : Option Nat := match sc.names.lookup x with
  | some .local => idx c.N x
  | _ => none
/-- of one that an inner block reads -/
def celIx (c : Cfg) (sc : Scope) (x : Str) : Option Nat := match sc.names.lookup x with
  | some .cell => idx c.N x
  | _ => none
def evSeq (f : Stmt → M Fl) : List Stmt → M Fl
  | [] => sNil
  | s :: r => sSeq (f s) (evSeq f r)
def evSet (c : Cfg) (r : Evs) (sc : Scope) (x : Str) (p : Pos) (e : Expr) : M Fl := match e with
  | .ListComp elt [⟨tg, it, ifs, 0⟩] scope pos => (match locIx1 c sc x with
    | some i => if (p.line == pos.line) && !(scope.names.any fun (n, k) => n == x && (k == .local || k == .cell)) then sSet c.N.length c.P i (evLc c r sc elt tg it ifs scope) else bad
    | none => (match celIx c sc x with
      | some i => sSet c.N.length c.P i (evLc c r sc elt tg it ifs scope)
      | none => bad))
  | .ListComp elt [⟨tg, it, ifs, 0⟩, ⟨tg1, it1, ifs1, 0⟩] scope pos => (match locIx1 c sc x with
    | some i => if (p.line == pos.line) && !(scope.names.any fun (n, k) => n == x && (k == .local || k == .cell)) then sSet c.N.length c.P i (evLc2 c r sc elt tg it ifs tg1 it1 ifs1 scope) else bad
    | none => (match celIx c sc x with
      | some i => sSet c.N.length c.P i (evLc2 c r sc elt tg it ifs tg1 it1 ifs1 scope)
      | none => bad))
  | _ => if noComp e then (match locIx c sc x with
    | some i => sSet c.N.length c.P i (r.e sc e)
    | none => bad) else bad
def evAsg (c : Cfg) (r : Evs) (sc : Scope) (tg e : Expr) : M Fl := if swNone tg e && noComp e then (match evTg c (r.e sc) sc tg with
  | some (_, g) => sAsg c.N.length (r.e sc e) g
  | none => bad) else bad
def par2 (c : Cfg) (r : Evs) (sc : Scope) (x y : Str) (px py : Pos) (a b : Expr) : M Fl := if (py.line == px.line) && noStar a && noStar b && !([a, b].all (constantsAlone 8)) then (match locIx1 c sc x, locIx1 c sc y with
  | some i, some j => if i = j then bad else sPar c.N.length c.P [i, j] (xCons (r.e sc a) (xCons (r.e sc b) xNil))
  | _, _ => bad) else bad
def par3 (c : Cfg) (r : Evs) (sc : Scope) (x y z : Str) (px py pz : Pos) (a b d : Expr) : M Fl := if (py.line == px.line) && (pz.line == px.line) && noStar a && noStar b && noStar d && !([a, b, d].all (constantsAlone 8)) then (match locIx1 c sc x, locIx1 c sc y, locIx1 c sc z with
  | some i, some j, some k => if i = j ∨ i = k ∨ j = k then bad else sPar c.N.length c.P [i, j, k] (xCons (r.e sc a) (xCons (r.e sc b) (xCons (r.e sc d) xNil)))
  | _, _, _ => bad) else bad
def par4 (c : Cfg) (r : Evs) (sc : Scope) (x y z u : Str) (a b d e : Expr) (tg full : Expr) : M Fl := if swNone tg full && noComp full && noStar a && noStar b && noStar d && noStar e then (match locIx1 c sc x, locIx1 c sc y, locIx1 c sc z, locIx1 c sc u with
  | some i, some j, some k, some l => sPar c.N.length c.P [i, j, k, l] (xCons (r.e sc a) (xCons (r.e sc b) (xCons (r.e sc d) (xCons (r.e sc e) xNil))))
  | _, _, _, _ => evAsg c r sc tg full) else evAsg c r sc tg full
/-- one of the names is a cell: the tuple is made and taken apart -/
def evAsgC (c : Cfg) (r : Evs) (sc : Scope) (tg e : Expr) : M Fl := match evTg c (r.e sc) sc tg with
  | some (_, g) => sAsg c.N.length (r.e sc e) g
  | none => bad
def evAssign (c : Cfg) (r : Evs) (sc : Scope) (tg e : Expr) : M Fl := match tg, e with
  | .Name x p, e => evSet c r sc x p e
  | .Tuple [.Name x px, .Name y py] kt pt, .Tuple [a, b] k2 p2 => if [a, b].all (foldedForSure 8) then evAsg c r sc tg e else if (celIx c sc x).isSome || (celIx c sc y).isSome then evAsgC c r sc tg e else par2 c r sc x y px py a b
  | .Tuple [.Name x px, .Name y py, .Name z pz] kt pt, .Tuple [a, b, d] k2 p2 => if [a, b, d].all (foldedForSure 8) then evAsg c r sc tg e else if (celIx c sc x).isSome || (celIx c sc y).isSome || (celIx c sc z).isSome then evAsgC c r sc tg e else par3 c r sc x y z px py pz a b d
  | .Tuple [.Name x px, .Name y py, .Name z pz, .Name u pu] kt pt, .Tuple [a, b, d, f] k2 p2 => if [a, b, d, f].all (foldedForSure 8) then evAsg c r sc tg e else par4 c r sc x y z u a b d f tg e
  | _, _ => evAsg c r sc tg e
def mtL (l : List (Str × List (Str × Bool))) (y c : Str) : Option Bool := match lk l c with
  | some m => lk m y
  | none => none
def evRaise (c : Cfg) (f : Expr → M Vl) (sc : Scope) (x : Str) (es : List Expr) : M Fl := if okName x && allPlain es && isGlob (kindS sc x) then (match lk c.exc x with
  | some fs => if es.isEmpty && !fs.isEmpty then bad else sRaise c.N.length x fs (evAll f es)
  | none => bad) else bad
def evHd (c : Cfg) (sc : Scope) (h : ExceptHandler) : Option Hd := match h with
  | .ExceptHandler (some (.Name x _)) none (b :: suite) _ => if okName x && isGlob (kindS sc x) && (lk c.exm x).isSome then some (x, none, evSu (lk c.exc) c.N.length c.P none (b :: suite)) else none
  | _ => none
def evHds (c : Cfg) (sc : Scope) : List ExceptHandler → Option (List Hd)
  | [] => some []
  | h :: hs => match evHd c sc h, evHds c sc hs with
    | some a, some l => some (a :: l)
    | _, _ => none
def evTry (c : Cfg) (sc : Scope) (body : M Fl) (hds : List ExceptHandler) : M Fl := match hds with
  | [.ExceptHandler (some (.Name x _)) (some y) (b :: suite) _] => if okName x && isGlob (kindS sc x) && (lk c.exm x).isSome && okName y then (match locIx1 c sc y with
    | some i => sTry c.P (mtL c.exm) body [(x, some i, evSu (lk c.exc) c.N.length c.P (some y) (b :: suite))]
    | none => bad) else bad
  | h :: hs => (match evHds c sc (h :: hs) with
    | some l => sTry c.P (mtL c.exm) body l
    | none => bad)
  | [] => bad
def stepS (c : Cfg) (r : Evs) (f : Scope → Stmt → M Fl) (sc : Scope) (s : Stmt) : M Fl := match s with
  | .Pass _ => ret .next
  | .Break _ => ret .brk
  | .Continue _ => ret .cont
  | .Return (some e) _ => sRet c.N.length c.P (r.e sc e)
  | .Return none _ => ret (.ret (.val .non))
  | .Expr e _ => if noComp e then sExpr c.N.length (r.e sc e) else bad
  | .If t a b _ => sIf c.N.length (r.t sc t) (evSeq (f sc) a) (evSeq (f sc) b)
  | .While t b [] _ => sWhile c.N.length (r.t sc t) (evSeq (f sc) b)
  | .For tg it b [] _ => if noSet it then (match evTg c (r.e sc) sc tg with
    | some (_, g) => (match evWalk c (r.e sc) sc tg it with
      | some fw => sForV c.N.length fw g (evSeq (f sc) b)
      | none => sFor c.N.length (evIter c (r.e sc) sc tg it) g (evSeq (f sc) b))
    | none => bad) else bad
  | .Assign [tg] e _ => evAssign c r sc tg e
  | .AugAssign (.Name x _) op e _ => (match locIx c sc x with
    | some i => sAug c.N.length c.P i op (r.e sc e)
    | none => bad)
  | .AugAssign (.Subscript (.Name x _) i _) op e _ => if okName x && plainIx i then (match kindS sc x, idx c.N x with
    | .slot, some j => sAugI c.N.length j (r.e sc i) op (r.e sc e)
    | _, _ => bad) else bad
  | .Raise (some (.Call (.Name x _) es [] _)) none _ => evRaise c (r.e sc) sc x es
  | .Try body hds [] [] _ => evTry c sc (evSeq (f sc) body) hds
  | _ => bad
def exN (c : Cfg) (r : Evs) : Nat → Scope → Stmt → M Fl
  | 0 => fun _ _ => bad
  | n + 1 => stepS c r (exN c r n)
section
variable {X : Cx} {W : WX} {c : Cfg} {sc : Scope} {r : Evs}
theorem ss_bad {P : Nat} {s : Stmt} : SS X W P s bad := fun _ _ _ _ _ _ _ h => h.elim
theorem sss_all {P : Nat} {f : Stmt → M Fl} (hf : ∀ s, SS X W P s (f s)) : ∀ l : List Stmt, SSs X W P l (evSeq f l)
  | [] => sss_nil
  | s :: l => sss_cons (hf s) (sss_all hf l)
theorem loc_ix (G : Good X W c sc) {x : Str} {i : Nat} (h : locIx c sc x = some i) : X.N[i]? = some x ∧ Loc X.env.scope x ∧ (X.fn x = true ∨ X.env.scope.names.lookup x = some .local) := by
  unfold locIx at h
  split at h
  · rename_i e; exact ⟨G.ix h, .inl (G.sc.loc x e), .inr (G.sc.loc x e)⟩
  · rename_i e; exact ⟨G.ix h, .inr (G.sc.cel x e), .inl (G.sc.fn x e)⟩
  · cases h
theorem loc_ix1 (G : Good X W c sc) {x : Str} {i : Nat} (h : locIx1 c sc x = some i) : X.N[i]? = some x ∧ X.env.scope.names.lookup x = some .local := by
  unfold locIx1 at h
  split at h
  · rename_i e; exact ⟨G.ix h, G.sc.loc x e⟩
  · cases h
theorem cel_ix (G : Good X W c sc) {x : Str} {i : Nat} (h : celIx c sc x = some i) : X.N[i]? = some x ∧ X.env.scope.names.lookup x = some .cell ∧ X.fn x = true := by
  unfold celIx at h
  split at h
  · rename_i e; exact ⟨G.ix h, G.sc.cel x e, G.sc.fn x e⟩
  · cases h
theorem ss_setC {e : Expr} {x : Str} {i : Nat} {pos p : Pos} {f : M Vl} {P : Nat} (hP : P ≤ X.N.length) (hN : X.N.Nodup) (hi : X.N[i]? = some x) (hx : X.env.scope.names.lookup x = some .cell) (hf : X.fn x = true) (hw : swapsWith e (some (.Name x p)) pos.line X.env = pure false) (he : SE X W P e f) :
    SS X W P (.Assign [.Name x p] e pos) (sSet X.N.length P i f) := fun st σ F H D hl r h => by
  refine ws (ps_set hN hi (.inr hx) pE hw (.inl hf)) (he st σ [] F H _ hl (rs0 r) ((PostS.bind0 hl hP h).imp fun v st1 τ1 F1 H1 s1 _ q y rv => ?_))
  exact set_end hl hP (List.getElem?_eq_some_iff.mp hi).1 s1.rs rv q
theorem sw_cell {elt : Expr} {gs : List Comprehension} {scope : Scope} {pos p : Pos} {l : Nat} {x : Str} {env : PySem.Env} (hx : env.scope.names.lookup x = some .cell) : swapsWith (.ListComp elt gs scope pos) (some (.Name x p)) l env = pure false := by
  have kx : env.kindOf x = some .cell := hx
  unfold swapsWith
  simp only [kx]
  simp only [Option.some_beq_some, show (NameKind.cell == NameKind.local) = false from rfl, Bool.and_false, Bool.false_and]
theorem ss_evSet (S : Snd c r) (G : Good X W c sc) {x : Str} {p pos : Pos} {e : Expr} : SS X W c.P (.Assign [.Name x p] e pos) (evSet c r sc x p e) := by
  unfold evSet
  split
  · rename_i elt tg it ifs scope lpos
    cases hi : locIx1 c sc x with
    | none =>
      cases hj : celIx c sc x with
      | none => exact ss_bad
      | some i =>
        obtain ⟨h1, h2, h3⟩ := cel_ix G hj
        have := ss_setC (W := W) (p := p) (pos := pos) G.hP G.nd h1 h2 h3 (sw_cell h2) (lc_se (pos := lpos) (elt := elt) (tg := tg) (it := it) (ifs := ifs) (scope := scope) S G)
        rw [G.N] at this
        exact this
    | some i =>
      simp only
      split
      · rename_i h
        rw [Bool.and_eq_true] at h
        obtain ⟨h1, h2⟩ := loc_ix1 G hi
        have := lc_set (pos := lpos) (spos := pos) (py := p) (elt := elt) (tg := tg) (it := it) (ifs := ifs) (scope := scope) S G h1 h2 (sw_true G.kind h2 h.1 (by simpa using h.2))
        rw [G.N] at this
        exact this
      · exact ss_bad
  · rename_i elt tg it ifs tg1 it1 ifs1 scope lpos
    cases hi : locIx1 c sc x with
    | none =>
      cases hj : celIx c sc x with
      | none => exact ss_bad
      | some i =>
        obtain ⟨h1, h2, h3⟩ := cel_ix G hj
        rcases lc2_parts (elt := elt) (tg := tg) (it := it) (ifs := ifs) (tg1 := tg1) (it1 := it1) (ifs1 := ifs1) (scope := scope) S G with z | ⟨T1, g, t, g1, t1, z, L⟩
        · simp only [z]; exact fun _ _ _ _ _ _ _ h => h.elim
        · simp only [z]
          obtain ⟨T, hT, hg⟩ := L.hT
          have := ss_setC (W := W) (p := p) (pos := pos) G.hP G.nd h1 h2 h3 (sw_cell h2) (se_lc2 (W := W) (pos := lpos) G.hP G.calm G.nd L.ok L.ns L.ns1 L.hf L.hf1 L.hi hT L.hb hg L.ht L.hv L.hi1 (fun j hj => hj) L.hg1 L.ht1 L.he)
          rw [G.N] at this
          exact this
    | some i =>
      simp only
      split
      · rename_i h
        rw [Bool.and_eq_true] at h
        obtain ⟨h1, h2⟩ := loc_ix1 G hi
        rcases lc2_parts (elt := elt) (tg := tg) (it := it) (ifs := ifs) (tg1 := tg1) (it1 := it1) (ifs1 := ifs1) (scope := scope) S G with z | ⟨T1, g, t, g1, t1, z, L⟩
        · rw [z]; exact fun _ _ _ _ _ _ _ h => h.elim
        · rw [z]
          obtain ⟨T, hT, hg⟩ := L.hT
          rw [← G.N]
          have := ss_setLc2 (W := W) (pos := lpos) (spos := pos) (py := p) G.hP G.calm G.nd h1 h2 (sw_true G.kind h2 h.1 (by simpa using h.2)) L.ok L.ns L.ns1 L.hf L.hf1 L.hi hT L.hb hg L.ht L.hv L.hi1 (fun j hj => hj) L.hg1 L.ht1 L.he
          rw [G.N] at this ⊢
          exact this
      · exact ss_bad
  · split
    · rename_i h
      cases hi : locIx c sc x with
      | none => exact ss_bad
      | some i =>
        obtain ⟨h1, h2, h3⟩ := loc_ix G hi
        rw [← G.N]
        exact ss_set G.hP G.nd h1 h2 h3 h (S X W sc G _).1
    · exact ss_bad
theorem ss_evAsg (S : Snd c r) (G : Good X W c sc) {tg e : Expr} {pos : Pos} : SS X W c.P (.Assign [tg] e pos) (evAsg c r sc tg e) := by
  unfold evAsg
  split
  · rename_i h
    rw [Bool.and_eq_true] at h
    cases hg : evTg c (r.e sc) sc tg with
    | none => exact ss_bad
    | some q =>
      obtain ⟨T, g⟩ := q
      obtain ⟨h1, h2⟩ := sg_all G (fun e => (S X W sc G e).1) hg
      rw [← G.N]
      refine ss_asg G.hP (noComp_ok h.2 (some tg) pos.line X.env) (sw_none h.1) ?_ (S X W sc G e).1 h1
      cases tg <;> first | rfl | cases h2
  · exact ss_bad
theorem ix_ne {x y : Str} {i j : Nat} (h : X.N[i]? = some x) (h' : X.N[j]? = some y) (hne : i ≠ j) (nd : X.N.Nodup) : x ≠ y := fun e => by
  subst e
  obtain ⟨hi, ei⟩ := List.getElem?_eq_some_iff.mp h
  obtain ⟨hj, ej⟩ := List.getElem?_eq_some_iff.mp h'
  rcases Nat.lt_trichotomy i j with z | z | z
  · exact List.pairwise_iff_getElem.mp nd i j hi hj z (ei.trans ej.symm)
  · exact hne z
  · exact List.pairwise_iff_getElem.mp nd j i hj hi z (ej.trans ei.symm)
theorem ss_par2E (S : Snd c r) (G : Good X W c sc) {x y : Str} {px py pt p2 pos : Pos} {kt k2 : Nat} {a b : Expr} (hf : ([a, b].all (foldedForSure 8)) = false) : SS X W c.P (.Assign [.Tuple [.Name x px, .Name y py] kt pt] (.Tuple [a, b] k2 p2) pos) (par2 c r sc x y px py a b) := by
  unfold par2
  split
  · rename_i h
    rw [Bool.and_eq_true, Bool.and_eq_true, Bool.and_eq_true] at h
    obtain ⟨⟨⟨h1, h2⟩, h3⟩, h4⟩ := h
    split
    · rename_i i j hi hj
      split
      · exact ss_bad
      · rename_i hne
        obtain ⟨i1, i2⟩ := loc_ix1 G hi
        obtain ⟨j1, j2⟩ := loc_ix1 G hj
        rw [← G.N]
        exact ss_par2 G.calm G.hP G.nd i1 j1 hne i2 j2 (sw_some2 G.kind i2 j2 (ix_ne i1 j1 hne G.nd) h1 h2 h3 hf (by rw [← Bool.not_eq_true']; exact h4)) h2 h3 (S X W sc G _).1 (S X W sc G _).1
    · exact ss_bad
  · exact ss_bad
theorem ss_par3E (S : Snd c r) (G : Good X W c sc) {x y z : Str} {px py pz pt p2 pos : Pos} {kt k2 : Nat} {a b d : Expr} (hf : ([a, b, d].all (foldedForSure 8)) = false) : SS X W c.P (.Assign [.Tuple [.Name x px, .Name y py, .Name z pz] kt pt] (.Tuple [a, b, d] k2 p2) pos) (par3 c r sc x y z px py pz a b d) := by
  unfold par3
  split
  · rename_i h
    rw [Bool.and_eq_true, Bool.and_eq_true, Bool.and_eq_true, Bool.and_eq_true, Bool.and_eq_true] at h
    obtain ⟨⟨⟨⟨⟨h1, h1'⟩, h2⟩, h3⟩, h3'⟩, h4⟩ := h
    split
    · rename_i i j k hi hj hk
      split
      · exact ss_bad
      · rename_i hne
        rw [not_or, not_or] at hne
        obtain ⟨i1, i2⟩ := loc_ix1 G hi
        obtain ⟨j1, j2⟩ := loc_ix1 G hj
        obtain ⟨k1, k2⟩ := loc_ix1 G hk
        rw [← G.N]
        exact ss_par3 G.calm G.hP G.nd i1 j1 k1 hne.1 hne.2.1 hne.2.2 i2 j2 k2 (sw_some3 G.kind i2 j2 k2 (ix_ne i1 j1 hne.1 G.nd) (ix_ne i1 k1 hne.2.1 G.nd) (ix_ne j1 k1 hne.2.2 G.nd) h1 h1' h2 h3 h3' hf (by rw [← Bool.not_eq_true']; exact h4)) h2 h3 h3' (S X W sc G _).1 (S X W sc G _).1 (S X W sc G _).1
    · exact ss_bad
  · exact ss_bad
theorem ss_par4E (S : Snd c r) (G : Good X W c sc) {x y z u : Str} {px py pz pu pt p2 pos : Pos} {kt k2 : Nat} {a b d e : Expr} : SS X W c.P (.Assign [.Tuple [.Name x px, .Name y py, .Name z pz, .Name u pu] kt pt] (.Tuple [a, b, d, e] k2 p2) pos) (par4 c r sc x y z u a b d e (.Tuple [.Name x px, .Name y py, .Name z pz, .Name u pu] kt pt) (.Tuple [a, b, d, e] k2 p2)) := by
  unfold par4
  split
  · rename_i h
    rw [Bool.and_eq_true, Bool.and_eq_true, Bool.and_eq_true, Bool.and_eq_true, Bool.and_eq_true] at h
    obtain ⟨⟨⟨⟨⟨h1, h2⟩, h3⟩, h4⟩, h5⟩, h6⟩ := h
    split
    · rename_i i j k l hi hj hk hl
      obtain ⟨i1, i2⟩ := loc_ix1 G hi
      obtain ⟨j1, j2⟩ := loc_ix1 G hj
      obtain ⟨k1, k2⟩ := loc_ix1 G hk
      obtain ⟨l1, l2⟩ := loc_ix1 G hl
      rw [← G.N]
      exact ss_par4 G.calm G.hP G.nd i1 j1 k1 l1 i2 j2 k2 l2 (noComp_ok h2 (some (.Tuple [.Name x px, .Name y py, .Name z pz, .Name u pu] kt pt)) pos.line X.env) (sw_none h1) h3 h4 h5 h6 (S X W sc G _).1 (S X W sc G _).1 (S X W sc G _).1 (S X W sc G _).1
    · exact ss_evAsg S G
  · exact ss_evAsg S G
theorem fm_short {α β : Type} (f : α → Option β) : ∀ (l : List α) (x : α), x ∈ l → f x = none → (l.filterMap f).length < l.length
  | a :: l, x, h, e => by
    rcases List.mem_cons.mp h with rfl | h
    · rw [List.filterMap_cons_none e, List.length_cons]
      exact Nat.lt_succ_of_le (List.length_filterMap_le f l)
    · have := fm_short f l x h e
      rw [List.length_cons]
      cases hf : f a with
      | none => rw [List.filterMap_cons_none hf]; omega
      | some b => rw [List.filterMap_cons_some hf, List.length_cons]; omega
theorem sw_noneC {ts vs : List Expr} {kt k2 : Nat} {pt p2 : Pos} {env : PySem.Env} {x : Str} {px : Pos} (hx : Expr.Name x px ∈ ts) (h : env.kindOf x = some .cell) : swappedStores [.Tuple ts kt pt] (.Tuple vs k2 p2) env = pure none := by
  unfold swappedStores
  try simp only [pure_bind]
  split
  · rfl
  · split
    · rfl
    · split
      · rfl
      · rename_i hn
        exfalso
        apply hn
        rw [Bool.or_eq_true]
        left
        rw [bne_iff_ne]
        refine Nat.ne_of_lt (fm_short _ ts _ hx ?_)
        have e1 : (env.kindOf x == some NameKind.local) = false := by rw [h]; rfl
        simp only [e1, Bool.false_and]
        rfl
theorem ss_asgC2 (S : Snd c r) (G : Good X W c sc) {x y : Str} {px py pt p2 pos : Pos} {kt k2 : Nat} {a b : Expr} (h : ((celIx c sc x).isSome || (celIx c sc y).isSome) = true) : SS X W c.P (.Assign [.Tuple [.Name x px, .Name y py] kt pt] (.Tuple [a, b] k2 p2) pos) (evAsgC c r sc (.Tuple [.Name x px, .Name y py] kt pt) (.Tuple [a, b] k2 p2)) := by
  unfold evAsgC
  cases hg : evTg c (r.e sc) sc (.Tuple [.Name x px, .Name y py] kt pt) with
  | none => exact ss_bad
  | some q =>
    obtain ⟨T, g⟩ := q
    obtain ⟨h1, h2⟩ := sg_all G (fun e => (S X W sc G e).1) hg
    rw [← G.N]
    refine ss_asg G.hP (noComp_ok (e := .Tuple [a, b] k2 p2) rfl (some (.Tuple [.Name x px, .Name y py] kt pt)) pos.line X.env) ?_ rfl (S X W sc G _).1 h1
    rw [Bool.or_eq_true] at h
    rcases h with z | z
    · obtain ⟨i, hi⟩ := Option.isSome_iff_exists.mp z
      exact sw_noneC (x := x) (px := px) (List.mem_cons_self ..) (cel_ix G hi).2.1
    · obtain ⟨i, hi⟩ := Option.isSome_iff_exists.mp z
      exact sw_noneC (x := y) (px := py) (List.mem_cons_of_mem _ (List.mem_cons_self ..)) (cel_ix G hi).2.1
theorem ss_asgC3 (S : Snd c r) (G : Good X W c sc) {x y z : Str} {px py pz pt p2 pos : Pos} {kt k2 : Nat} {a b d : Expr} (h : ((celIx c sc x).isSome || (celIx c sc y).isSome || (celIx c sc z).isSome) = true) : SS X W c.P (.Assign [.Tuple [.Name x px, .Name y py, .Name z pz] kt pt] (.Tuple [a, b, d] k2 p2) pos) (evAsgC c r sc (.Tuple [.Name x px, .Name y py, .Name z pz] kt pt) (.Tuple [a, b, d] k2 p2)) := by
  unfold evAsgC
  cases hg : evTg c (r.e sc) sc (.Tuple [.Name x px, .Name y py, .Name z pz] kt pt) with
  | none => exact ss_bad
  | some q =>
    obtain ⟨T, g⟩ := q
    obtain ⟨h1, h2⟩ := sg_all G (fun e => (S X W sc G e).1) hg
    rw [← G.N]
    refine ss_asg G.hP (noComp_ok (e := .Tuple [a, b, d] k2 p2) rfl (some (.Tuple [.Name x px, .Name y py, .Name z pz] kt pt)) pos.line X.env) ?_ rfl (S X W sc G _).1 h1
    rw [Bool.or_eq_true, Bool.or_eq_true] at h
    rcases h with (w | w) | w
    · obtain ⟨i, hi⟩ := Option.isSome_iff_exists.mp w
      exact sw_noneC (x := x) (px := px) (List.mem_cons_self ..) (cel_ix G hi).2.1
    · obtain ⟨i, hi⟩ := Option.isSome_iff_exists.mp w
      exact sw_noneC (x := y) (px := py) (List.mem_cons_of_mem _ (List.mem_cons_self ..)) (cel_ix G hi).2.1
    · obtain ⟨i, hi⟩ := Option.isSome_iff_exists.mp w
      exact sw_noneC (x := z) (px := pz) (List.mem_cons_of_mem _ (List.mem_cons_of_mem _ (List.mem_cons_self ..))) (cel_ix G hi).2.1
theorem ss_assign (S : Snd c r) (G : Good X W c sc) {tg e : Expr} {pos : Pos} : SS X W c.P (.Assign [tg] e pos) (evAssign c r sc tg e) := by
  unfold evAssign
  split
  · exact ss_evSet S G
  · split
    · exact ss_evAsg S G
    · rename_i h
      split
      · rename_i hc; exact ss_asgC2 S G hc
      · exact ss_par2E S G (by simpa using h)
  · split
    · exact ss_evAsg S G
    · rename_i h
      split
      · rename_i hc; exact ss_asgC3 S G hc
      · exact ss_par3E S G (by simpa using h)
  · split
    · exact ss_evAsg S G
    · exact ss_par4E S G
  · exact ss_evAsg S G
theorem isGlob_ok {k : NK} (h : isGlob k = true) : k = .glob := by cases k <;> first | rfl | cases h
theorem ss_evRaise (S : Snd c r) (G : Good X W c sc) {x : Str} {es : List Expr} {p pos pos2 : Pos} : SS X W c.P (.Raise (some (.Call (.Name x p) es [] pos)) none pos2) (evRaise c (r.e sc) sc x es) := by
  unfold evRaise
  split
  · rename_i h
    rw [Bool.and_eq_true, Bool.and_eq_true] at h
    obtain ⟨⟨h1, h2⟩, h3⟩ := h
    split
    · rename_i fs hfs
      split
      · exact ss_bad
      · rename_i hne
        obtain ⟨C, hC, EC⟩ := G.exc x fs hfs
        rw [← G.N]
        refine ss_raise G.hP G.calm G.tk G.room hC EC (G.gl (isGlob_ok h3)) (okName_d h1).1 (plain_mem h2) (fun e => ?_) (sa_all (fun e => (S X W sc G e).1) es)
        subst e
        refine ⟨?_, rfl⟩
        cases fs with
        | nil => rfl
        | cons a l => exact absurd rfl hne
    · exact ss_bad
  · exact ss_bad
theorem names_ok (G : Good X W c sc) {x : Str} (h1 : okName x = true) (h2 : isGlob (kindS sc x) = true) (h3 : (lk c.exm x).isSome = true) : ∃ cv, Names X x cv ∧ MtOk X (mtL c.exm) x cv := by
  obtain ⟨l, hl⟩ := Option.isSome_iff_exists.mp h3
  obtain ⟨cv, e1, e2⟩ := G.exm x l hl
  refine ⟨cv, ⟨G.gl (isGlob_ok h2), (okName_d h1).1, .inl e1⟩, fun y cls b hb hy => e2 y b ?_ cls hy⟩
  unfold mtL at hb
  rw [hl] at hb
  exact hb
theorem hds_all (G : Good X W c sc) : ∀ {hds : List ExceptHandler} {l : List Hd}, evHds c sc hds = some l → ∃ l', HsOk X c.P (mtL c.exm) hds l l'
  | [], l, h => by cases h; exact ⟨[], .nil⟩
  | hd :: hds, l, h => by
    unfold evHds at h
    cases e1 : evHd c sc hd with
    | none => rw [e1] at h; cases h
    | some a =>
      rw [e1] at h
      cases e2 : evHds c sc hds with
      | none => rw [e2] at h; cases h
      | some l2 =>
        rw [e2] at h
        cases h
        obtain ⟨l', hl'⟩ := hds_all G e2
        unfold evHd at e1
        split at e1
        · rename_i x np b suite p'
          split at e1
          · rename_i hh
            cases e1
            rw [Bool.and_eq_true, Bool.and_eq_true] at hh
            obtain ⟨cv, n1, n2⟩ := names_ok G hh.1.1 hh.1.2 hh.2
            rw [← G.N]
            exact ⟨_, .cons n1 n2 (su_ok G.hP G.exc (.inl ⟨rfl, rfl⟩) _) hl'⟩
          · cases e1
        · cases e1
theorem Good.tr (G : Good X W c sc) {W' : WX} {pn : List (Addr × Obj)} {xe : Value → Shared → Prop} (tk : Takes (X.tr pn xe) W') (p : PassesOwn (model X.prog X.w) X.A X.env xe) : Good (X.tr pn xe) W' c sc :=
  ⟨G.N, G.hP, G.kind, G.nd, ⟨G.sc.loc, G.sc.cel, G.sc.fre, G.sc.gl, G.sc.fn⟩, G.calm, tk, p, G.room, G.grd, G.blt, G.kon, fun x g h => ⟨(G.fns x g h).ex⟩, G.exc, G.exm⟩
theorem ss_evTry (G : Good X W c sc) {body : List Stmt} {hds : List ExceptHandler} {f : M Fl} {pos : Pos} (hst : X.stack = X.env :: X.outer) (hfr : X.env.frame = some X.env.locals)
    (hb : ∀ (W : WX) (pn : List (Addr × Obj)) (xe : Value → Shared → Prop), Takes (X.tr pn xe) W → PassesOwn (model X.prog X.w) X.A X.env xe → SSs (X.tr pn xe) W c.P body f) : SS X W c.P (.Try body hds [] [] pos) (evTry c sc f hds) := by
  unfold evTry
  split
  · rename_i x np y b suite p'
    split
    · rename_i hh
      rw [Bool.and_eq_true, Bool.and_eq_true, Bool.and_eq_true] at hh
      split
      · rename_i i hi
        obtain ⟨cv, n1, n2⟩ := names_ok G hh.1.1.1 hh.1.1.2 hh.1.2
        obtain ⟨i1, i2⟩ := loc_ix1 G hi
        rw [← G.N]
        exact ss_try_as hst hfr G.nd i1 i2 G.tk hb n1 n2 (su_ok G.hP G.exc (.inr ⟨i, y, rfl, rfl, i1, .inl i2, hh.2⟩) _)
      · exact ss_bad
    · exact ss_bad
  · rename_i h hs _
    cases e : evHds c sc (h :: hs) with
    | none => exact ss_bad
    | some l =>
      obtain ⟨l', hl'⟩ := hds_all G e
      exact ss_try_many hst hfr G.tk hb hl'
  · exact ss_bad
theorem ss_step (S : Snd c r) {f : Scope → Stmt → M Fl} (G : Good X W c sc) (hst : X.stack = X.env :: X.outer) (hfr : X.env.frame = some X.env.locals) (hfa : ∀ (X : Cx) (W : WX), Good X W c sc → X.stack = X.env :: X.outer → X.env.frame = some X.env.locals → ∀ s, SS X W c.P s (f sc s)) (s : Stmt) : SS X W c.P s (stepS c r f sc s) := by
  have hf := hfa X W G hst hfr
  have he := fun e => (S X W sc G e).1
  have ht := fun e => (S X W sc G e).2
  unfold stepS
  split
  · exact ss_pass
  · exact ss_break
  · exact ss_continue
  · rw [← G.N]; exact ss_ret G.hP (he _)
  · exact ss_retN
  · split
    · rename_i h; rw [← G.N]; exact ss_expr G.hP h (he _)
    · exact ss_bad
  · rw [← G.N]; exact ss_if G.hP (ht _) (sss_all hf _) (sss_all hf _)
  · rw [← G.N]; exact ss_while G.hP G.pass (ht _) (sss_all hf _)
  · split
    · rename_i tg it b pos h
      cases hg : evTg c (r.e sc) sc tg with
      | none => exact ss_bad
      | some q =>
        obtain ⟨T, g⟩ := q
        have h1 := (sg_all G he hg).1
        rw [← G.N]
        simp only
        split
        · rename_i fw hw
          exact ss_forV G.hP G.pass G.calm h (siv_all G he hw) h1 (sss_all hf _)
        · exact ss_for G.hP G.pass G.calm h (si_iter G he) h1 (sss_all hf _)
    · exact ss_bad
  · exact ss_assign S G
  · rename_i x p op e pos
    cases hi : locIx c sc x with
    | none => exact ss_bad
    | some i =>
      obtain ⟨h1, h2, h3⟩ := loc_ix G hi
      rw [← G.N]
      exact ss_aug G.hP G.nd h1 h2 h3 (he _)
  · rename_i x p i tp op e pos
    split
    · rename_i hb
      rw [Bool.and_eq_true] at hb
      obtain ⟨h1, h2, h3⟩ := okName_d hb.1
      split
      · rename_i hk hi
        rw [← G.N]
        exact ss_augI G.hP (pe_var (G.ix hi) (G.vis hk) h1 h2) (lt_of_get (G.ix hi)) hb.2 (he _) (he _)
      · exact ss_bad
    · exact ss_bad
  · exact ss_evRaise S G
  · exact ss_evTry G hst hfr fun W pn xe tk p => sss_all (hfa (X.tr pn xe) W (G.tr tk p) hst hfr) _
  · exact ss_bad
theorem ss_allX (S : Snd c r) : ∀ (n : Nat) (X : Cx) (W : WX), Good X W c sc → X.stack = X.env :: X.outer → X.env.frame = some X.env.locals → ∀ s, SS X W c.P s (exN c r n sc s)
  | 0, _, _, _, _, _, _ => ss_bad
  | n + 1, X, W, G, h1, h2, s => ss_step S G h1 h2 (ss_allX S n) s
theorem ss_all (S : Snd c r) (G : Good X W c sc) (hst : X.stack = X.env :: X.outer) (hfr : X.env.frame = some X.env.locals) (n : Nat) (s : Stmt) : SS X W c.P s (exN c r n sc s) := ss_allX S n X W G hst hfr s
end
end PU
namespace PU
open PySem PySem.Spec PyProof.Rows L2
/-! ### a def as a whole -/
def backS : Sto → Sto → Sto
  | a :: as, s :: ss => (if isL a then s else a) :: backS as ss
  | _, _ => []
def fnRun (n : Nat) (P : Nat) (body : M Fl) : M Slot := fun args => if args.length = P then (match body (args ++ List.replicate (n - P) .emp) with
  | .ok (.ret s) st => .ok s (backS args st)
  | .ok .next st => .ok (.val .non) (backS args st)
  | .exc x st => .exc x (backS args st)
  | _ => .stuck) else .stuck
theorem backS_len : ∀ (as ss : Sto), as.length ≤ ss.length → (backS as ss).length = as.length
  | [], _, _ => by unfold backS; rfl
  | _ :: _, [], h => by simp at h
  | a :: as, s :: ss, h => by
    unfold backS
    rw [List.length_cons, List.length_cons, backS_len as ss (by simpa using h)]
theorem backS_get : ∀ {as ss : Sto} {i : Nat} {a s : Slot}, as[i]? = some a → ss[i]? = some s → (backS as ss)[i]? = some (if isL a then s else a)
  | a :: as, s :: ss, 0, _, _, h1, h2 => by cases h1; cases h2; rfl
  | a :: as, s :: ss, i + 1, _, _, h1, h2 => by
    unfold backS
    exact backS_get (as := as) (ss := ss) (i := i) h1 h2
  | [], _, _, _, _, h, _ => by simp at h
  | _ :: _, [], _, _, _, _, h => by simp at h
section
variable {K : PySem.W.Frag} {F F' : Addr → Prop} {H H' : Hp} {vs : List V} {args st' t : Sto} {σ' θ : St} {n : Nat}
theorem own_emps {m : Nat} {τ : St} {a : Addr} (hl : args.length = vs.length) : Own (args ++ List.replicate m .emp) (vs.map some ++ τ) a ↔ Own args (vs.map some) a := by
  constructor
  · rintro ⟨i, k, ds, e1, e2⟩
    by_cases hi : i < args.length
    · rw [List.getElem?_append_left hi] at e1
      rw [List.getElem?_append_left (by simpa [← hl] using hi)] at e2
      exact ⟨i, k, ds, e1, e2⟩
    · rw [List.getElem?_append_right (by omega), List.getElem?_replicate] at e1
      split at e1 <;> cases e1
  · rintro ⟨i, k, ds, e1, e2⟩
    have hi := (List.getElem?_eq_some_iff.mp e1).1
    exact ⟨i, k, ds, by rw [List.getElem?_append_left hi]; exact e1, by rw [List.getElem?_append_left (by simpa [← hl] using hi)]; exact e2⟩
theorem rs_start {m : Nat} (r : Rs K F args (vs.map some) H) : Rs K F (args ++ List.replicate m .emp) (vs.map some ++ List.replicate m none) H where
  len := by rw [List.length_append, List.length_append, r.len, List.length_replicate, List.length_replicate]
  slot := fun i s e => by
    by_cases hi : i < args.length
    · rw [List.getElem?_append_left hi] at e
      rw [List.getElem?_append_left (by rw [← r.len]; exact hi)]
      exact r.slot i s e
    · rw [List.getElem?_append_right (by omega), List.getElem?_replicate] at e
      split at e
      · cases e; trivial
      · cases e
  dis := fun i j a k ds k' ds' e1 e2 f1 f2 => by
    have key : ∀ {i : Nat} {k : Bool} {ds : List D}, (args ++ List.replicate m Slot.emp)[i]? = some (.own k ds) → i < args.length ∧ args[i]? = some (.own k ds) := fun {i k ds} e => by
      by_cases hi : i < args.length
      · rw [List.getElem?_append_left hi] at e; exact ⟨hi, e⟩
      · rw [List.getElem?_append_right (by omega), List.getElem?_replicate] at e
        split at e <;> cases e
    obtain ⟨h1, z1⟩ := key e1
    obtain ⟨h2, z2⟩ := key e2
    rw [List.getElem?_append_left (by rw [← r.len]; exact h1)] at f1
    rw [List.getElem?_append_left (by rw [← r.len]; exact h2)] at f2
    exact r.dis i j a _ _ _ _ z1 z2 f1 f2
  live := r.live
  tab := r.tab
theorem isL_own {k : Bool} {ds : List D} : isL (.own k ds) = true := rfl
theorem Stp.home {m : Nat} (r : Rs K F args (vs.map some) H) (hn : σ'.length = vs.length + m) (hst : st'.length = σ'.length) (ht : t.length ≤ 1)
    (s : Stp vs.length K (args ++ List.replicate m .emp) (vs.map some ++ List.replicate m none) F H (st' ++ t) (σ' ++ θ) F' H') : Stp vs.length K args (vs.map some) F H (backS args st' ++ t) (vs.map some ++ θ) F' H' := by
  have hl : args.length = vs.length := by rw [r.len, List.length_map]
  have hbl : (backS args st').length = vs.length := by rw [backS_len _ _ (by omega), hl]
  have r0 := rs_start (m := m) r
  have hθ : t.length = θ.length := by have := s.rs.len; rw [List.length_append, List.length_append] at this; omega
  -- a slot behind the call, and where it stood
  have key : ∀ (i : Nat) (u : Slot), (backS args st' ++ t)[i]? = some u → ((i < vs.length ∧ args[i]? = some u ∧ isL u = false) ∨ ∃ j, (st' ++ t)[j]? = some u ∧ (vs.map some ++ θ)[i]? = (σ' ++ θ)[j]? ∧ ((i < vs.length ∧ j = i) ∨ (i = vs.length ∧ j = σ'.length))) := fun i u e => by
    by_cases hi : i < vs.length
    · rw [List.getElem?_append_left (by omega)] at e
      obtain ⟨a, ha⟩ : ∃ a, args[i]? = some a := ⟨_, List.getElem?_eq_getElem (by omega)⟩
      obtain ⟨b, hb⟩ : ∃ b, st'[i]? = some b := ⟨_, List.getElem?_eq_getElem (by omega)⟩
      rw [backS_get ha hb] at e
      cases hL : isL a with
      | true =>
        rw [hL] at e
        cases e
        refine .inr ⟨i, by rw [List.getElem?_append_left (by omega)]; exact hb, ?_, .inl ⟨hi, rfl⟩⟩
        obtain ⟨p1, _⟩ := s.par i a hi (by rw [List.getElem?_append_left (by omega)]; exact ha) hL
        rw [p1, List.getElem?_append_left (by simpa using hi), List.getElem?_append_left (by simpa using hi)]
      | false =>
        rw [hL] at e
        cases e
        exact .inl ⟨hi, ha, hL⟩
    · rw [List.getElem?_append_right (by omega), hbl] at e
      have h0 : i - vs.length < t.length := (List.getElem?_eq_some_iff.mp e).1
      have hi2 : i = vs.length := by omega
      subst hi2
      refine .inr ⟨σ'.length, ?_, ?_, .inr ⟨rfl, rfl⟩⟩
      · rw [List.getElem?_append_right (by omega), hst]; simpa using e
      · rw [List.getElem?_append_right (by simp), List.getElem?_append_right (by simp)]; simp
  refine ⟨⟨?_, fun i u e => ?_, fun i j a k ds k' ds' e1 e2 f1 f2 => ?_, s.rs.live, s.rs.tab⟩, fun a o h n => s.keep a o h fun q => n ((own_emps hl).mp q), s.mono, fun a f => ?_, fun a o => ?_, fun i u hi e l => ?_⟩
  · rw [List.length_append, List.length_append, hbl, List.length_map]; omega
  · rcases key i u e with ⟨h1, h2, h3⟩ | ⟨j, h1, h2, h3⟩
    · rw [List.getElem?_append_left (by simpa using h1)]
      have := r.slot i u h2
      cases u with
      | emp => trivial
      | own k ds => cases h3
      | val d => obtain ⟨v, z1, z2⟩ := this; exact ⟨v, z1, s.move r0 z2⟩
    · rw [h2]; exact s.rs.slot j u h1
  · rcases key i _ e1 with ⟨_, _, h3⟩ | ⟨i', h1, h2, h3⟩
    · cases h3
    rcases key j _ e2 with ⟨_, _, h3'⟩ | ⟨j', h1', h2', h3'⟩
    · cases h3'
    rw [h2] at f1
    rw [h2'] at f2
    have := s.rs.dis i' j' a _ _ _ _ h1 h1' f1 f2
    omega
  · rcases s.back a f with z | z | z
    · exact .inl z
    · exact .inr (.inl ((own_emps hl).mp z))
    · exact .inr (.inr z)
  · obtain ⟨i, k, ds, e1, e2⟩ := o
    rcases key i _ e1 with ⟨_, _, h3⟩ | ⟨i', h1, h2, h3⟩
    · cases h3
    rw [h2] at e2
    rcases s.owns a ⟨i', k, ds, h1, e2⟩ with z | z
    · exact .inl ((own_emps hl).mp z)
    · exact .inr z
  · obtain ⟨p1, u', p2, p3⟩ := s.par i u hi (by rw [List.getElem?_append_left (by omega)]; exact e) l
    have hb : st'[i]? = some u' := by rw [List.getElem?_append_left (by omega)] at p2; exact p2
    refine ⟨by rw [List.getElem?_append_left (by simpa using hi)], u', ?_, p3⟩
    rw [List.getElem?_append_left (by omega), backS_get e hb, if_pos l]
end
/-! ### the promise of a def -/
section
variable {X : Cx} {W : WX}
theorem Stp.le {P Q : Nat} {K : PySem.W.Frag} {st st' : Sto} {ρ ρ' : St} {F F' : Addr → Prop} {H H' : Hp} (h : Q ≤ P) (s : Stp P K st ρ F H st' ρ' F' H') : Stp Q K st ρ F H st' ρ' F' H' := ⟨s.rs, s.keep, s.mono, s.back, s.owns, fun i u hi => s.par i u (by omega)⟩
theorem body_run {P : Nat} {vs : List V} {args : Sto} {F : Addr → Prop} {H : Hp} {m : Nat} {body : List Stmt} {f : M Fl} {Q : VK} {E : XK} (hN : X.N.length = vs.length + m) (r : Rs X.K F args (vs.map some) H) (hPP : vs.length ≤ P) (hb : SSs X W P body f) (hW : ∀ c d σ H, E c d H → W c d σ H)
    (h : PostF X.K X.mg vs args F H (fnRun X.N.length vs.length f args) Q E) : WSs X body { nx := fun _ H' => Q .non H', rt := Q } (vs.map some ++ List.replicate m none) H := by
  have hl : args.length = vs.length := by rw [r.len, List.length_map]
  unfold fnRun at h
  rw [if_pos hl] at h
  have hm : X.N.length - vs.length = m := by omega
  rw [hm] at h
  refine hb _ _ F H _ (by rw [List.length_append, List.length_map, List.length_replicate]; exact hN.symm) (rs_start r) ?_
  cases e : f (args ++ List.replicate m Slot.emp) with
  | stuck => rw [e] at h; exact h
  | exc x st' =>
    rw [e] at h
    intro σ' F' H' cls d hl' s xr
    refine hW _ _ _ _ (h cls d F' H' ?_ xr)
    have := Stp.home (t := []) (θ := []) r (by rw [hl', hN]) (by rw [s.rs.len]) (by simp) (by rw [List.append_nil, List.append_nil]; exact s.le hPP)
    rw [List.append_nil, List.append_nil] at this
    exact this
  | ok fl st' =>
    rw [e] at h
    cases fl with
    | brk => exact h.elim
    | cont => exact h.elim
    | next =>
      intro σ' F' H' hl' s
      exact h _ F' H' (Stp.home r (by rw [hl', hN]) (by rw [s.rs.len]) (by simp) ((s.snocV .non).le hPP))
    | ret u =>
      intro σ' F' H' x hl' s
      have hs : st'.length = σ'.length := by have := s.rs.len; simpa using this
      exact h _ F' H' (Stp.home r (by rw [hl', hN]) hs (by simp) (s.le hPP))
end
/-- what stands around the defs -/
structure Tab (P : Program) (w : World) (K : PySem.W.Frag) (mg : Str → Option Value) (bs : Heap) (k : Nat) (c : Cfg) : Prop where
  blt : ∀ x ∈ c.blt, mg x = none
  kon : ∀ x d, lk c.kon x = some d → ∃ u v, mg x = some u ∧ RelV v u ∧ ∀ F H, Rp K F H v d
  fns : ∀ x g, lk c.fns x = some g → ∃ j f fd ps, j ≤ k ∧ FnG P w K mg bs (L2.CX P w) j f fd ps (spF K mg g) ∧ ps.length = g.ar ∧ mg x = some (.ref f) ∧ PySem.W.keepIn K (.ref f) = true ∧ Binds K fd ps [] ∧
    ∀ p ∈ g.kw, ∀ (s : Shared) (us ws : List Value), us.length = p.1 → ws.length = p.2.1.length → BindsTo s fd ⟨us, p.2.1.zip ws⟩ (ps.zip (p.2.2.map fun i => (us ++ ws).getD i .none))
  exc : ∀ x fs, lk c.exc x = some fs → ∃ C, mg x = some (.ref C) ∧ ExCls K C fs
  exm : ∀ x l, lk c.exm x = some l → ∃ cv, mg x = some cv ∧ ∀ y b, lk l y = some b → ∀ cls, mg y = some cls → PySem.W.exmOne K cls cv = some b
def LIM : Nat := 64
def runOf (c : Cfg) (sc : Scope) (body : List Stmt) : M Slot := fnRun c.N.length c.Q (evSeq (exN c (evN c LIM) LIM sc) body)
section
variable {P : Program} {w : World} {K : PySem.W.Frag} {mg : Str → Option Value} {bs : Heap}
theorem fnG_of {k : Nat} {c : Cfg} {ps : List Str} {x qual : Str} {st : Stmt} {f : Addr} {fd : FuncData} (hk : 1 ≤ k) (T : Tab P w K mg bs k c) (Fu : Fun K x qual st f fd) (S : FnScope c.N ps (defScope st)) (hP : c.Q = ps.length ∧ c.Q ≤ c.P ∧ c.P ≤ c.N.length) {kw : List (Nat × List Str × List Nat)} :
    FnG P w K mg bs (L2.CX P w) (k + 1) f fd ps (spF K mg ⟨ps.length, runOf c (defScope st) (defBody st), kw⟩) := by
  obtain ⟨oc, od, kV, doc, pm, an, cdv, ct, osl, rfl, lk, hcd⟩ := Fu.ex
  have hpl : ps.length ≤ c.N.length := by have := congrArg List.length S.pre; rw [List.length_take] at this; omega
  refine ⟨fun vs H Q E h => h.1, fun A out s H as us vs Q E hgd hr e0 hb rv hsp => ?_⟩
  obtain ⟨hl, F, args, rs, hpost⟩ := hsp
  have hl : vs.length = ps.length := hl
  have KIn : K.In s.heap := e0.mod.kin.keeps fun b o e => (e0.bs b o e).1
  have noLim : s.heap.NoLimit := e0.mod.nolimit.keeps fun b o e => (e0.bs b o e).1
  have kinds : ∀ y ∈ ps.zip us, (defScope st).names.lookup y.1 = some .local ∨ ((defScope st).names.lookup y.1 = some .cell ∧ ((cellsFrom (s.heap.objs.size + 1) (defScope st).names []).lookup y.1).isSome = true) := fun y hy => by
    rcases S.par y.1 (List.of_mem_zip (a := y.1) (b := y.2) hy).1 with z | z
    · exact .inl z
    · exact .inr ⟨z, PySem.W.cellsFrom_some _ _ _ (.inl z)⟩
  refine codeAny_call_function hr.depth (KIn _ _ lk) rfl S.co S.gen rfl (PySem.W.codeRec_of KIn hcd) (hb _ _ _ _ ?_)
  refine wpAny_newFunctionEnv_cells S.kind kinds fun env he s1 x => ?_
  subst he
  refine ⟨noLim.keeps x.toInCall.keep, codeAny_func ?_⟩
  have I : Inv (cxOf (L2.CX P w) P w K mg bs c.N qual (defScope st) f cdv A out s H E) [] (start c.N vs) H s1 := inv_start S hr.hd e0 hl rv x
  have hr' := hr.deeper (envOfC qual (defScope st) s.heap.objs.size f cdv)
  have G : Good (cxOf (L2.CX P w) P w K mg bs c.N qual (defScope st) f cdv A out s H E) (fun cls d _ H' => E cls d H') c (defScope st) := by
    refine ⟨rfl, hP.2.2, S.kind, S.nd, ⟨fun _ h => h, fun _ h => h, fun _ h => .inr h, fun _ h => h, fun _ _ => rfl⟩, rfl, takes_of rfl rfl rfl rfl, passes_of rfl, ?_, hgd, T.blt, T.kon, fun y g hg => ?_, T.exc, T.exm⟩
    · exact hr'.mono hk
    · obtain ⟨j, f', fd', ps', h1, h2⟩ := T.fns y g hg
      exact ⟨j, f', fd', ps', h2.1, h2.2.1, hr'.mono h1, h2.2.2⟩
  have hS := sss_all (ss_all (snd_all LIM) G rfl rfl LIM) (defBody st)
  have hc : c.Q = vs.length := by rw [hP.1, hl]
  have body := body_run (X := cxOf (L2.CX P w) P w K mg bs c.N qual (defScope st) f cdv A out s H E) (m := c.N.length - vs.length) (by show c.N.length = _; omega) rs (by rw [← hc]; exact hP.2.1) hS (fun _ _ _ _ h => h) (by rw [← hc]; exact hpost)
  refine wpAny_mono (body [] s1 I) (fun fl s' hs => ?_) fun e s' hs => hs
  have fin : ∀ {σ' : St} {H' : Hp} {v : V} {u : Value}, Inv (cxOf (L2.CX P w) P w K mg bs c.N qual (defScope st) f cdv A out s H E) [] σ' H' s' → RelV v u → Q v H' → CE out P w H s Q u s' :=
    fun {σ' H' v u} J rv q => ⟨v, H', J.os, J.bare, J.base, J.hok, rv, q⟩
  cases fl with
  | ret u => obtain ⟨v, σ', H', J, rv, q⟩ := hs; exact fin J rv q
  | next => obtain ⟨σ', H', J, q⟩ := hs; exact fin (v := V.non) (u := Value.none) J rfl q
  | brk => obtain ⟨_, _, _, q⟩ := hs; exact False.elim q
  | cont => obtain ⟨_, _, _, q⟩ := hs; exact False.elim q
end
end PU
namespace PU
open PySem PySem.Spec PyProof.Rows L2
/-! ### the law's end -/
def noLists (K : PySem.W.Frag) : Bool := K.all fun p => match p.2.cls with
  | .type n => !(n == "list")
  | _ => true
theorem mem_look : ∀ {K : List (Addr × Obj)} {a : Addr} {o : Obj}, K.lookup a = some o → (a, o) ∈ K
  | [], _, _, h => by cases h
  | (b, o') :: l, a, o, h => by
    cases hx : a == b with
    | true =>
      simp only [List.lookup_cons, hx] at h
      cases h
      rw [eq_of_beq hx]
      exact List.mem_cons_self ..
    | false =>
      simp only [List.lookup_cons, hx] at h
      exact List.mem_cons_of_mem _ (mem_look h)
theorem no_list {K : PySem.W.Frag} {h : Heap} {a : Addr} {d : Data} (hk : noLists K = true) (ki : K.In h) (ha : h.get? a = some { cls := .type "list", data := d }) : K.lookup a = none := by
  cases e : K.lookup a with
  | none => rfl
  | some o =>
    exfalso
    have z := ki a o e
    rw [ha] at z
    cases z
    have y := List.all_eq_true.mp hk _ (mem_look e)
    simp at y
section
variable {P : Program} {w : World} {K : PySem.W.Frag} {mg mb : Str → Option Value}
/-- the law's call where the script alone is tracked -/
theorem pu_call {k : Nat} {fa a : Addr} {fd : FuncData} {x : Str} {g : Fn} {sh : Shared} {us : List Value} {ns : List Int} {args' : Sto} (ki : K.In sh.heap) (hG : sh.heap.Ns mainGlobals mg) (hB : sh.heap.Ns builtinsNs mb) (hBB : ∀ y : Str, y ≠ "__name__" → mb y = bootBuiltins y)
    (hNL : sh.heap.NoLimit) (hge : sh.gens = #[]) (ha : sh.heap.get? a = some { cls := .type "list", data := .seq us.toArray }) (hi : IntsAre us ns) (hlen : ns.length ≤ sizeLine) (hr : Room k callerA) (hkl : noLists K = true)
    (Fg : ∀ bs : Heap, K.In bs → bs.Ns mainGlobals mg → FnG P w K mg bs (L2.CX P w) k fa fd [x] (spF K mg g)) (har : g.ar = 1) (hbd : ∀ (s : Shared) (u : Value), BindsTo s fd ⟨[u], []⟩ [(x, u)])
    (hrun : g.run [.val (.lst (ns.map D.int))] = .ok (.val (.bl true)) args') :
    codeAny (model P w) callerA (.call (.ref fa) ⟨[.ref a], []⟩) (fun r t => r = .ok (.ret (.bool true)) ∧ OldK sh.heap t.heap ∧ t.os = sh.os ∧ AllBare t.gens) sh := by
  have hka := no_list hkl ki ha
  have hlv := hi.length
  have hv := vals_ints hi
  let ob : Obj := { cls := .type "list", data := .seq us.toArray }
  let H : Hp := fun b => if b = a then some (.frz ob (.lst (ns.map V.int))) else none
  have Ha : H a = some (.frz ob (.lst (ns.map V.int))) := if_pos rfl
  have Hn : ∀ b, b ≠ a → H b = none := fun b hb => if_neg hb
  have hidden : ∀ {b : Addr} {o : Obj}, sh.heap.get? b = some o → b ≠ a → (hidT sh.heap H).get? b = some o := fun e n => hidT_get e (Hn _ n)
  have dictNe : ∀ {b : Addr} {o : Obj} {es : Array DictEntry} {ep : Nat}, sh.heap.get? b = some o → o.data = .dict es ep → b ≠ a := fun e d z => by
    subst z
    rw [ha] at e
    cases e
    cases d
  have nsH : ∀ {b : Addr} {m : Str → Option Value}, sh.heap.Ns b m → (hidT sh.heap H).Ns b m := fun q => by
    obtain ⟨o, es, ep, e, d, rest⟩ := q
    exact ⟨o, es, ep, hidden e (dictNe e d), d, rest⟩
  have kH : K.In (hidT sh.heap H) := fun b o e => hidden (ki b o e) fun z => by rw [z, hka] at e; cases e
  have lim : (hidT sh.heap H).NoLimit := by
    obtain ⟨mc, q1, q2⟩ := hNL
    exact ⟨mc, nsH q1, q2⟩
  have hok : HOk P w H sh.heap := fun b u z => by
    by_cases hb : b = a
    · subst hb
      rw [Ha] at z
      cases z
      exact ⟨ha, by rw [List.length_map]; exact hlen, us, _, hv, ha⟩
    · rw [Hn b hb] at z; cases z
  have env : Env0 P w K mg (hidT sh.heap H) callerA [] sh H := ⟨rfl, ⟨kH, nsH hG, ⟨mb, nsH hB, hBB⟩, lim⟩, fun b o e => of_hidT e, Nat.le_of_eq (hidT_size _ _), trivial, (fun b hb => nomatch hb), hok, .of_eq hge⟩
  have rs : Rs K (fun b => b = a) [.val (.lst (ns.map D.int))] (([V.ref a] : List V).map some) H := by
    refine ⟨rfl, fun i s e => ?_, fun i j b q ds q' ds' e1 => ?_, fun b hb => ⟨.frz ob (.lst (ns.map V.int)), (congrArg H hb).trans Ha⟩, fun p hp => nomatch (show p ∈ ([] : List (Addr × Str)) from hp)⟩
    · match i, e with
      | 0, e => cases e; exact ⟨.ref a, rfl, .lst rfl (.inr ⟨ob, Ha⟩) (rps_ints ns)⟩
    · match i, e1 with
      | 0, e1 => cases e1
  have wish : spF K mg g [.ref a] H (fun v _ => v = .bl true) (fun _ _ _ => False) := by
    refine ⟨by rw [har]; rfl, _, _, rs, ?_⟩
    rw [hrun]
    intro y F' H' s
    have hl := s.rs.len
    have hl1 : args'.length = 1 := by simpa using hl
    obtain ⟨v, e1, e2⟩ := s.rs.slot 1 (.val (.bl true)) (by rw [List.getElem?_append_right (by omega), hl1]; rfl)
    have ev : v = y := by
      have : (some (some y) : Option (Option V)) = some (some v) := e1
      cases this; rfl
    subst ev
    cases e2
    rfl
  refine codeAny_mono ((Fg _ kH (nsH hG)).run callerA [] sh H ⟨[.ref a], []⟩ [.ref a] [.ref a] _ _ rfl hr env (hbd sh (.ref a)) (.cons rfl .nil) wish) fun r t h => ?_
  cases r with
  | error e =>
    obtain ⟨_, _, _, _, _, _, _, _, _, _, _, _, z⟩ := h
    exact z.elim
  | ok fl =>
    cases fl with
    | next => exact False.elim h
    | brk => exact False.elim h
    | cont => exact False.elim h
    | ret u =>
      obtain ⟨v, H', os, bare, un, hok', rv, q⟩ := h
      have q : v = .bl true := q
      subst q
      obtain rfl : u = Value.bool true := rv
      refine ⟨rfl, OldK.of_keep fun b o e => ?_, os, bare⟩
      by_cases hb : b = a
      · subst hb
        obtain ⟨e1, _⟩ := hok' b _ (un.frzs b ob _ Ha)
        rw [ha] at e
        cases e
        exact e1
      · exact un.keep b o e (Hn b hb) (fun z => nomatch z) (fun z => nomatch z)
end
/-- the goal behind k_head from the plain run of the law -/
theorem pu_walk {l : PySem.W.OpenLaw} {n k : Nat} {q : Program} {loose : List Str} {XP : (Str → Option Value) → Heap → Prop} {YP : World → Heap → Prop} {d : DefRec} {Kf : Params → PySem.W.Frag} {x : Str} {g : Fn} (hn : l.most = some n) (hn2 : n ≤ sizeLine) (hdf : d.params.defaults = []) (hr : Room k callerA)
    (hY : ∀ (w : World) (h : Heap), YP w h → (Kf w.params).In h) (hkl : ∀ w : World, noLists (Kf w.params) = true) (har : g.ar = 1)
    (Fl : ∀ (w : World) (mg : Str → Option Value) (fa : Addr) (h : Heap), (Kf w.params).In h → h.Ns mainGlobals mg → mg d.name = some (.ref fa) → ∃ fd : FuncData, (∀ (s : Shared) (u : Value), BindsTo s fd ⟨[u], []⟩ [(x, u)]) ∧
        ∀ bs : Heap, (Kf w.params).In bs → bs.Ns mainGlobals mg → FnG l.prog w (Kf w.params) mg bs (L2.CX l.prog w) k fa fd [x] (spF (Kf w.params) mg g))
    (hrun : ∀ ns : List Int, ns.length ≤ n → (∀ z ∈ ns, Builtin.Int.intBits z ≤ 1048576) → ∃ args', g.run [.val (.lst (ns.map D.int))] = .ok (.val (.bl true)) args') :
    PySem.W.WalkO q loose XP YP l.row.toRowW d [] (fun f vs => PySem.call f vs) := by
  refine Att.attach_callB hn hdf fun w s₀ sh mg mb fa o pm cd doc a us ns G Y ho hd hcd hmg hobj hi hlen hbits hg => ?_
  have ki := hY w _ Y
  obtain ⟨fd, hb, hF⟩ := Fl w mg fa _ ki G.T.g hmg
  obtain ⟨args', hr'⟩ := hrun ns hlen hbits
  exact pu_call ki G.T.g G.T.b G.T.builtins G.T.nolimit hg hobj hi (Nat.le_trans hlen hn2) hr (hkl w) hF har hb hr'
end PU
namespace PU
open PySem PySem.Spec PyProof.Rows L2
/-! ### the table, def by def -/
def KwOk (fd : FuncData) (ps : List Str) (g : Fn) : Prop := ∀ p ∈ g.kw, ∀ (s : Shared) (us ws : List Value), us.length = p.1 → ws.length = p.2.1.length → BindsTo s fd ⟨us, p.2.1.zip ws⟩ (ps.zip (p.2.2.map fun i => (us ++ ws).getD i .none))
structure DefIn (K : PySem.W.Frag) (x : Str) (st : Stmt) : Prop where
  ex : ∃ (f : Addr) (fd : FuncData), PySem.W.nsIn K mainGlobals x = some (some (.ref f)) ∧ Fun K x x st f fd
theorem def_mk {K : PySem.W.Frag} {x : Str} {st : Stmt} {f : Addr} {oc : Value} {od an : Option Addr} {osl : Array (Option Value)} {kV doc pm cdv ct : Value} (n : PySem.W.nsIn K mainGlobals x = some (some (.ref f)))
    (l : K.lookup f = some ⟨oc, od, .func (PySem.W.fnOf x x (defArgs st) (defBody st) (defScope st) .none kV doc pm an cdv ct), osl⟩) (hc : PySem.W.codeIn K cdv x = true) (hk : PySem.W.keepIn K (.ref f) = true) : DefIn K x st := ⟨f, _, n, fun_mk l hc hk⟩
structure KonIn (K : PySem.W.Frag) (x : Str) (d : D) : Prop where
  ex : ∃ u v, PySem.W.nsIn K mainGlobals x = some (some u) ∧ RelV v u ∧ ∀ F H, Rp K F H v d
theorem kon_mk {K : PySem.W.Frag} {x : Str} {i : Int} {t : Nat} (n : PySem.W.nsIn K mainGlobals x = some (some (.int i t))) : KonIn K x (.int i) := ⟨_, .int i, n, ⟨_, rfl⟩, fun _ _ => .int i⟩
/-- a pair of ints -/
theorem kon_mkT {K : PySem.W.Frag} {x : Str} {a : Addr} {od : Option Addr} {sl : Array (Option Value)} {n : Nat} {i j : Int} {t u : Nat} (h : PySem.W.nsIn K mainGlobals x = some (some (.ref a))) (l : K.lookup a = some ⟨.type "tuple", od, .seq #[.int i t, .int j u] n, sl⟩) : KonIn K x (.tup [.int i, .int j]) :=
  ⟨.ref a, .ref a, h, rfl, fun _ _ => .tupK (vs := [.int i, .int j]) (fun _ => .inr ⟨_, _, _, l, rfl, rfl, (show 2 ≤ sizeLine by decide), .cons ⟨_, rfl⟩ (.cons ⟨_, rfl⟩ .nil)⟩) (.cons (.int _) (.cons (.int _) .nil))⟩
theorem KonIn.kon {K : PySem.W.Frag} {x : Str} {d : D} {h : Heap} {mg : Str → Option Value} (k : KonIn K x d) (KX : K.In h) (G : h.Ns mainGlobals mg) : ∃ u v, mg x = some u ∧ RelV v u ∧ ∀ F H, Rp K F H v d := by
  obtain ⟨u, v, h1, h2, h3⟩ := k.ex
  exact ⟨u, v, PySem.W.mg_of KX G h1, h2, h3⟩
/-! ### own exception classes of the table -/
def clsInit (s : Stmt) : Stmt := match s with
  | .ClassDef _ _ _ (b :: _) _ _ _ _ _ _ _ => b
  | s => s
def posQ (s : Stmt) : Pos × Pos × Pos × Pos := match s with
  | .Assign [.Attribute (.Name _ q1) _ q2] (.Name _ q3) q4 => (q1, q2, q3, q4)
  | _ => default
/-- the text of __init__ -/
structure XText (st : Stmt) (fs : List Str) : Prop where
  a : xArgs ((("self" : Str) :: fs).zip ((defArgs st).args.map (·.pos))) = defArgs st
  b : List.zipWith xSt fs ((defBody st).map posQ) = defBody st
  s : xSc fs = defScope st
  la : ((defArgs st).args.map (·.pos)).length = fs.length + 1
  lb : ((defBody st).map posQ).length = fs.length
theorem ini_of {K : PySem.W.Frag} {C : Addr} {nm q : Str} {N : Addr} {bs bm bmB : List Value} {hdct : Bool} {sn : List Str} {sub : List Value} {ab : Bool} {col : Option Bool} {dd : Option Addr} {k0 k1 k2 k3 k5 : Option Value} {newId : String}
    (xL : K.lookup C = some (excClassObj nm q C N bs bm hdct sn sub ab col dd k0 k1 k2 k3 k5 newId)) (t : PySem.W.excTail bmB bm = true) : PySem.W.excInitIn K C bmB newId = true ∧ PySem.W.excOver K C bmB = true := by
  constructor
  · unfold PySem.W.excInitIn
    rw [xL]
    simp [t]
  · unfold PySem.W.excOver PySem.W.clsIn
    rw [xL]
    simp [t]
theorem tail_ty {x : String} {r : List Value} : PySem.W.excTail (.type x :: r) (.type x :: r) = true := by
  unfold PySem.W.excTail
  simp
theorem tail_ref {c : Addr} {bmB r : List Value} (h : PySem.W.excTail bmB r = true) : PySem.W.excTail bmB (.ref c :: r) = true := h
section
variable {K : PySem.W.Frag} {C fI : Addr} {bmB : List Value} {B newId initId : String} {st : Stmt} {oc dc pm cdv ct : Value} {od an : Option Addr} {osl : Array (Option Value)} {qn : Str} {nm q : Str} {Nn : Addr} {bs bm : List Value} {hdct : Bool} {sn : List Str} {sub : List Value} {ab : Bool} {col : Option Bool} {dd : Option Addr} {k0 k1 k2 k3 k5 : Option Value}
theorem excls0 (kC : PySem.W.keepIn K (.ref C) = true) (eC : PySem.W.subIn K (.ref C) (.type "BaseException") = some true) (tC : PySem.W.typeIn K (.ref C) = some (.type "type")) (F : ExcBaseFacts B newId initId bmB) (qq : PySem.W.excIn K C bmB newId = true) : ExCls K C [] := ⟨kC, eC, tC, .non F qq⟩
theorem xt_mk {fs : List Str} (x : XText st fs) (kC : PySem.W.keepIn K (.ref C) = true) (eC : PySem.W.subIn K (.ref C) (.type "BaseException") = some true) (tC : PySem.W.typeIn K (.ref C) = some (.type "type")) (xL : K.lookup C = some (excClassObj nm q C Nn bs bm hdct sn sub ab col dd k0 k1 k2 k3 k5 newId)) (tl : PySem.W.excTail bmB bm = true)
    (sa : PySem.W.findIn K (.ref C) "__setattr__" = some (some (.builtin "object.__setattr__"))) (ga : PySem.W.findIn K (.ref C) "__getattribute__" = some (some (.builtin "BaseException.__getattribute__"))) (gg : PySem.W.findIn K (.ref C) "__getattr__" = some none)
    (noN : ∀ f ∈ fs, PySem.W.findIn K (.ref C) f = some none) (iC : PySem.W.findIn K (.ref C) "__init__" = some (some (.ref fI))) (tI : PySem.W.typeIn K (.ref fI) = some (.type "function")) (hd : PySem.W.hasDictIn K C = true)
    (l : K.lookup fI = some ⟨oc, od, .func (PySem.W.fnOf "__init__" qn (defArgs st) (defBody st) (defScope st) .none .none dc pm an cdv ct), osl⟩) (cd : PySem.W.codeIn K cdv qn = true) : XT K C fI fs bmB newId :=
  ⟨(ini_of xL tl).1, (ini_of xL tl).2, sa, ga, gg, noN, iC, tI, kC, eC, tC, hd, oc, od, qn, dc, pm, an, cdv, ct, osl, _, _, by rw [x.a, x.b, x.s]; exact l, cd, x.la, x.lb⟩
theorem excls1 {f : Str} (x : XText st [f]) (N : XF1 f) (F : ExcBaseFacts B newId initId bmB) (S : StoreFacts B bmB "object.__setattr__" "object") (kC : PySem.W.keepIn K (.ref C) = true) (eC : PySem.W.subIn K (.ref C) (.type "BaseException") = some true) (tC : PySem.W.typeIn K (.ref C) = some (.type "type")) (xL : K.lookup C = some (excClassObj nm q C Nn bs bm hdct sn sub ab col dd k0 k1 k2 k3 k5 newId)) (tl : PySem.W.excTail bmB bm = true)
    (sa : PySem.W.findIn K (.ref C) "__setattr__" = some (some (.builtin "object.__setattr__"))) (ga : PySem.W.findIn K (.ref C) "__getattribute__" = some (some (.builtin "BaseException.__getattribute__"))) (gg : PySem.W.findIn K (.ref C) "__getattr__" = some none)
    (n1 : PySem.W.findIn K (.ref C) f = some none) (iC : PySem.W.findIn K (.ref C) "__init__" = some (some (.ref fI))) (tI : PySem.W.typeIn K (.ref fI) = some (.type "function")) (hd : PySem.W.hasDictIn K C = true)
    (l : K.lookup fI = some ⟨oc, od, .func (PySem.W.fnOf "__init__" qn (defArgs st) (defBody st) (defScope st) .none .none dc pm an cdv ct), osl⟩) (cd : PySem.W.codeIn K cdv qn = true) : ExCls K C [f] :=
  ⟨kC, eC, tC, .one (xt_mk x kC eC tC xL tl sa ga gg (fun g h => by rw [List.mem_singleton.mp h]; exact n1) iC tI hd l cd) ⟨F, S⟩ N⟩
theorem excls2 {f g : Str} (x : XText st [f, g]) (N : XF2 f g) (ne : f ≠ g) (F : ExcBaseFacts B newId initId bmB) (S : StoreFacts B bmB "object.__setattr__" "object") (kC : PySem.W.keepIn K (.ref C) = true) (eC : PySem.W.subIn K (.ref C) (.type "BaseException") = some true) (tC : PySem.W.typeIn K (.ref C) = some (.type "type")) (xL : K.lookup C = some (excClassObj nm q C Nn bs bm hdct sn sub ab col dd k0 k1 k2 k3 k5 newId)) (tl : PySem.W.excTail bmB bm = true)
    (sa : PySem.W.findIn K (.ref C) "__setattr__" = some (some (.builtin "object.__setattr__"))) (ga : PySem.W.findIn K (.ref C) "__getattribute__" = some (some (.builtin "BaseException.__getattribute__"))) (gg : PySem.W.findIn K (.ref C) "__getattr__" = some none)
    (n1 : PySem.W.findIn K (.ref C) f = some none) (n2 : PySem.W.findIn K (.ref C) g = some none) (iC : PySem.W.findIn K (.ref C) "__init__" = some (some (.ref fI))) (tI : PySem.W.typeIn K (.ref fI) = some (.type "function")) (hd : PySem.W.hasDictIn K C = true)
    (l : K.lookup fI = some ⟨oc, od, .func (PySem.W.fnOf "__init__" qn (defArgs st) (defBody st) (defScope st) .none .none dc pm an cdv ct), osl⟩) (cd : PySem.W.codeIn K cdv qn = true) : ExCls K C [f, g] :=
  ⟨kC, eC, tC, .two (xt_mk x kC eC tC xL tl sa ga gg (fun z h => by
    rcases List.mem_cons.mp h with rfl | h
    · exact n1
    · rw [List.mem_singleton.mp h]; exact n2) iC tI hd l cd) ⟨F, S⟩ N ne⟩
end
theorem exm_by {K : PySem.W.Frag} {mg : Str → Option Value} {y : Str} {D C : Addr} {b : Bool} (hm : mg y = some (.ref D)) (e : PySem.W.exmOne K (.ref D) (.ref C) = some b) : ∀ cls, mg y = some cls → PySem.W.exmOne K cls (.ref C) = some b := fun cls h => by
  rw [hm] at h; cases h; exact e
section
variable {P : Program} {w : World} {K : PySem.W.Frag} {mg : Str → Option Value} {bs : Heap}
theorem fnG_by {k : Nat} {c : Cfg} {ps : List Str} {x qual : Str} {st : Stmt} {f : Addr} {fd : FuncData} {r : M Slot} {g : Fn} (hk : 1 ≤ k) (T : Tab P w K mg bs k c) (Fu : Fun K x qual st f fd) (S : FnScope c.N ps (defScope st)) (hP : c.Q = ps.length ∧ c.Q ≤ c.P ∧ c.P ≤ c.N.length) (hm : runOf c (defScope st) (defBody st) = r) (hg : g = ⟨ps.length, r, g.kw⟩) :
    FnG P w K mg bs (L2.CX P w) (k + 1) f fd ps (spF K mg g) := by
  rw [hg, ← hm]
  exact fnG_of hk T Fu S hP
theorem Tab.add {k : Nat} {c c' : Cfg} {x : Str} {g : Fn} {f : Addr} {fd : FuncData} {ps : List Str} (T : Tab P w K mg bs k c) (h1 : c'.fns = (x, g) :: c.fns) (h2 : c'.kon = c.kon) (h3 : c'.blt = c.blt ∧ c'.exc = c.exc ∧ c'.exm = c.exm) (F : FnG P w K mg bs (L2.CX P w) (k + 1) f fd ps (spF K mg g)) (ha : ps.length = g.ar) (hm : mg x = some (.ref f))
    (hk : PySem.W.keepIn K (.ref f) = true) (hb : Binds K fd ps []) (hw : KwOk fd ps g) : Tab P w K mg bs (k + 1) c' := by
  refine ⟨by rw [h3.1]; exact T.blt, by rw [h2]; exact T.kon, fun y g' hy => ?_, by rw [h3.2.1]; exact T.exc, by rw [h3.2.2]; exact T.exm⟩
  rw [h1] at hy
  unfold lk at hy
  split at hy
  · rename_i e
    cases hy
    subst e
    exact ⟨k + 1, f, fd, ps, Nat.le_refl _, F, ha, hm, hk, hb, hw⟩
  · obtain ⟨j, f', fd', ps', z1, z2⟩ := T.fns y g' hy
    exact ⟨j, f', fd', ps', Nat.le_succ_of_le z1, z2⟩
/-! ### a def that calls itself: so many calls deep -/
theorem Tab.mono {k j : Nat} {c : Cfg} (T : Tab P w K mg bs k c) (h : k ≤ j) : Tab P w K mg bs j c :=
  ⟨T.blt, T.kon, fun y g hy => by obtain ⟨i, f, fd, ps, h1, h2⟩ := T.fns y g hy; exact ⟨i, f, fd, ps, Nat.le_trans h1 h, h2⟩, T.exc, T.exm⟩
theorem fnG_bad {n : Nat} {f : Addr} {fd : FuncData} {ps : List Str} : FnG P w K mg bs (L2.CX P w) n f fd ps (spF K mg ⟨ps.length, bad, []⟩) :=
  ⟨fun vs H Q E h => h.1, fun A out s H as us vs Q E _ _ _ _ _ hsp => by obtain ⟨_, F, args, rs, hp⟩ := hsp; exact hp.elim⟩
theorem fnG_rec {k : Nat} {c0 : Cfg} {cf : Fn → Cfg} {ps : List Str} {x qual : Str} {st : Stmt} {f : Addr} {fd : FuncData} {R : Fn → M Slot} {F : Nat → Fn} (hk : 1 ≤ k) (T : Tab P w K mg bs k c0) (Fu : Fun K x qual st f fd) (hm : mg x = some (.ref f))
    (hb : Binds K fd ps []) (S : ∀ q, FnScope (cf q).N ps (defScope st)) (hP : ∀ q, (cf q).Q = ps.length ∧ (cf q).Q ≤ (cf q).P ∧ (cf q).P ≤ (cf q).N.length) (hc : ∀ q, (cf q).fns = (x, q) :: c0.fns ∧ (cf q).kon = c0.kon ∧ ((cf q).blt = c0.blt ∧ (cf q).exc = c0.exc ∧ (cf q).exm = c0.exm))
    (hr : ∀ q, runOf (cf q) (defScope st) (defBody st) = R q) (h0 : F 0 = ⟨ps.length, bad, []⟩) (hs : ∀ d, F (d + 1) = ⟨ps.length, R (F d), []⟩) : ∀ d, FnG P w K mg bs (L2.CX P w) (k + d + 1) f fd ps (spF K mg (F d))
  | 0 => by rw [h0]; exact fnG_bad
  | d + 1 => by
    have ih := fnG_rec hk T Fu hm hb S hP hc hr h0 hs d
    have ha : ps.length = (F d).ar := by
      cases d with
      | zero => rw [h0]
      | succ d => rw [hs]
    have hw : KwOk fd ps (F d) := by
      cases d with
      | zero => rw [h0]; exact fun q hq => nomatch hq
      | succ d => rw [hs]; exact fun q hq => nomatch hq
    have T' : Tab P w K mg bs (k + d + 1) (cf (F d)) := (T.mono (Nat.le_add_right k d)).add (hc _).1 (hc _).2.1 (hc _).2.2 ih ha hm Fu.kp hb hw
    have := fnG_by (g := F (d + 1)) (k := k + d + 1) (by omega) T' Fu (S _) (hP _) (hr _) (by rw [hs d])
    exact this
end
end PU
namespace PU
open PySem L2
/-! ### running the mirror by simp -/
/-- what comes behind is not looked into -/
inductive Tag {γ : Type} (f : γ) : Type
  | mk : Tag f
section
variable {α β : Type}
def R.bd (r : R α) (f : α → M β) (_ : Tag f := .mk) : R β := match r with
  | .ok a s => f a s
  | .exc x s => .exc x s
  | .stuck => .stuck
@[simp] theorem bd_ok (a : α) (s : Sto) (f : α → M β) : (R.ok a s).bd f = f a s := id rfl
@[simp] theorem bd_exc (x : Xn) (s : Sto) (f : α → M β) : (R.exc x s : R α).bd f = .exc x s := id rfl
@[simp] theorem bd_stuck (f : α → M β) : (R.stuck : R α).bd f = .stuck := id rfl
@[simp ↓] theorem run_bnd (m : M α) (f : α → M β) (s : Sto) : bnd m f s = (m s).bd f := id rfl
@[simp] theorem run_ret (a : α) (s : Sto) : PU.ret a s = .ok a s := id rfl
def R.bs (r : R α) (n : Nat) (k : α → M Fl) (_ : Tag k := .mk) : R Fl := match r with
  | .ok a s => k a s
  | .exc x s => .exc x (s.take n)
  | .stuck => .stuck
@[simp] theorem bs_ok (a : α) (s : Sto) (n : Nat) (k : α → M Fl) : (R.ok a s).bs n k = k a s := id rfl
@[simp] theorem bs_exc (x : Xn) (s : Sto) (n : Nat) (k : α → M Fl) : (R.exc x s : R α).bs n k = .exc x (s.take n) := id rfl
@[simp] theorem bs_stuck (n : Nat) (k : α → M Fl) : (R.stuck : R α).bs n k = .stuck := id rfl
@[simp ↓] theorem run_bndS (n : Nat) (m : M α) (k : α → M Fl) (s : Sto) : bndS n m k s = (m s).bs n k := id rfl
def R.sq (r : R Fl) (b : M Fl) (_ : Tag b := .mk) : R Fl := match r with
  | .ok .next s => b s
  | r => r
@[simp] theorem sq_next (s : Sto) (b : M Fl) : (R.ok Fl.next s).sq b = b s := id rfl
@[simp] theorem sq_ret (v : Slot) (s : Sto) (b : M Fl) : (R.ok (Fl.ret v) s).sq b = .ok (Fl.ret v) s := id rfl
@[simp] theorem sq_brk (s : Sto) (b : M Fl) : (R.ok Fl.brk s).sq b = .ok .brk s := id rfl
@[simp] theorem sq_cont (s : Sto) (b : M Fl) : (R.ok Fl.cont s).sq b = .ok .cont s := id rfl
@[simp] theorem sq_exc (x : Xn) (s : Sto) (b : M Fl) : (R.exc x s).sq b = .exc x s := id rfl
@[simp] theorem sq_stuck (b : M Fl) : (R.stuck).sq b = .stuck := id rfl
@[simp ↓] theorem run_sSeq (a b : M Fl) (s : Sto) : sSeq a b s = (a s).sq b := id rfl
@[simp ↓] theorem run_sNil (s : Sto) : sNil s = .ok .next s := id rfl
/-! raise, try -/
@[simp ↓] theorem run_sRaise (n : Nat) (x : Str) (fs : List Str) (fa : M (List Vl)) (s : Sto) : sRaise n x fs fa s = (fa s).bs n (raiseK n x fs) := id rfl
@[simp] theorem xdats_nil : xdats [] = some [] := id rfl
@[simp] theorem xdats_dat (d : D) (vs : List Vl) : xdats (.dat d :: vs) = (xdats vs).map (d :: ·) := id rfl
theorem raiseK_def (n : Nat) (x : Str) (fs : List Str) (vs : List Vl) (s : Sto) : raiseK n x fs vs s = (match xdats vs with
  | some ds => if ds.length = fs.length then .exc ⟨x, fs.zip ds⟩ (s.take n) else .stuck
  | none => .stuck) := id rfl
@[simp] theorem raiseK_0 (n : Nat) (x : Str) (s : Sto) : raiseK n x [] [] s = .exc ⟨x, []⟩ (s.take n) := id rfl
@[simp] theorem raiseK_1 (n : Nat) (x f : Str) (d : D) (s : Sto) : raiseK n x [f] [.dat d] s = .exc ⟨x, [(f, d)]⟩ (s.take n) := id rfl
@[simp] theorem raiseK_2 (n : Nat) (x f g : Str) (d e : D) (s : Sto) : raiseK n x [f, g] [.dat d, .dat e] s = .exc ⟨x, [(f, d), (g, e)]⟩ (s.take n) := id rfl
def R.ct (r : R Fl) (k : Xn → M Fl) (_ : Tag k := .mk) : R Fl := match r with
  | .exc x s => k x s
  | r => r
@[simp] theorem ct_ok (fl : Fl) (s : Sto) (k : Xn → M Fl) : (R.ok fl s).ct k = .ok fl s := id rfl
@[simp] theorem ct_exc (x : Xn) (s : Sto) (k : Xn → M Fl) : (R.exc x s).ct k = k x s := id rfl
@[simp] theorem ct_stuck (k : Xn → M Fl) : (R.stuck).ct k = .stuck := id rfl
@[simp ↓] theorem run_sTry (P : Nat) (mt : Str → Str → Option Bool) (f : M Fl) (hs : List Hd) (s : Sto) : sTry P mt f hs s = (f s).ct (tryPick P mt hs) := by
  unfold sTry R.ct
  cases f s <;> rfl
def pickK (b : Option Bool) (g : Bool) (h rest : M Fl) (o : Option Nat) (s : Sto) (_ : Tag h := .mk) (_ : Tag rest := .mk) : R Fl := match b with
  | some true => if g then hot h (wipe1 o s) else .stuck
  | some false => rest s
  | none => .stuck
@[simp] theorem pickT_nil (P : Nat) (mt : Str → Str → Option Bool) (x : Xn) (s : Sto) : tryPick P mt [] x s = .exc x s := id rfl
@[simp] theorem pickT_cons (P : Nat) (mt : Str → Str → Option Bool) (c : Str) (o : Option Nat) (h : Xn → M Fl) (r : List Hd) (x : Xn) (s : Sto) : tryPick P mt ((c, o, h) :: r) x s = pickK (mt x.cls c) (match o with | none => true | some i => decide (P ≤ i)) (h x) (tryPick P mt r x) o s := by
  unfold pickK
  cases e : mt x.cls c with
  | none => simp only [tryPick, e]; rfl
  | some b => cases b <;> simp only [tryPick, e] <;> rfl
@[simp] theorem pickK_t (h rest : M Fl) (o : Option Nat) (s : Sto) : pickK (some true) true h rest o s = hot h (wipe1 o s) := id rfl
@[simp] theorem pickK_f (g : Bool) (h rest : M Fl) (o : Option Nat) (s : Sto) : pickK (some false) g h rest o s = rest s := id rfl
@[simp] theorem wipe1_none (s : Sto) : wipe1 none s = s := id rfl
@[simp] theorem wipe1_some (i : Nat) (s : Sto) : wipe1 (some i) s = s.set i .emp := id rfl
def R.hotR (r : R Fl) : R Fl := match r with
  | .ok (.ret v) s => .ok (.ret v) s
  | _ => .stuck
@[simp ↓] theorem run_hot (m : M Fl) (s : Sto) : hot m s = (m s).hotR := id rfl
@[simp] theorem hotR_ret (v : Slot) (s : Sto) : (R.ok (.ret v) s).hotR = .ok (.ret v) s := id rfl
/-! expressions -/
@[simp ↓] theorem run_xCon (d : D) (s : Sto) : xCon d s = .ok (.dat d) s := id rfl
def vrd (o : Option Slot) (i : Nat) (s : Sto) : R Vl := match o with
  | some (.val d) => .ok (.dat d) s
  | some (.own _ _) => .ok (.loc i) s
  | _ => .stuck
@[simp] theorem vrd_val (d : D) (i : Nat) (s : Sto) : vrd (some (.val d)) i s = .ok (.dat d) s := id rfl
@[simp] theorem vrd_own (k : Bool) (ds : List D) (i : Nat) (s : Sto) : vrd (some (.own k ds)) i s = .ok (.loc i) s := id rfl
@[simp ↓] theorem run_xVar (i : Nat) (s : Sto) : xVar i s = vrd s[i]? i s := id rfl
def ordS (o : Option Slot) : Option D := match o with
  | some (.val d) => some d
  | some (.own _ ds) => some (.lst ds)
  | _ => none
@[simp] theorem ordS_val (d : D) : ordS (some (.val d)) = some d := id rfl
@[simp] theorem ordS_own (k : Bool) (ds : List D) : ordS (some (.own k ds)) = some (.lst ds) := id rfl
@[simp] theorem rd_dat (d : D) (s : Sto) : rd (.dat d) s = some d := id rfl
@[simp] theorem rd_loc (i : Nat) (s : Sto) : rd (.loc i) s = ordS s[i]? := by unfold rd ordS; rfl
@[simp] theorem alloc_val (d : D) (s : Sto) : PU.alloc (.val d) s = .ok (.dat d) s := id rfl
@[simp] theorem alloc_own (k : Bool) (ds : List D) (s : Sto) : PU.alloc (.own k ds) s = .ok (.loc s.length) (s ++ [.own k ds]) := id rfl
def al (o : Option Slot) (s : Sto) : R Vl := match o with
  | some t => PU.alloc t s
  | none => .stuck
@[simp] theorem al_some (t : Slot) (s : Sto) : al (some t) s = PU.alloc t s := id rfl
def al1 (f : D → Option Slot) (o : Option D) (s : Sto) : R Vl := match o with
  | some d => al (f d) s
  | none => .stuck
@[simp] theorem al1_some (f : D → Option Slot) (d : D) (s : Sto) : al1 f (some d) s = al (f d) s := id rfl
@[simp] theorem run_ap1 (f : D → Option Slot) (u : Vl) (s : Sto) : ap1 f u s = al1 f (rd u s) s := by
  unfold ap1 al1 al; rfl
def al2 (f : D → D → Option Slot) (o o' : Option D) (s : Sto) : R Vl := match o, o' with
  | some d, some e => al (f d e) s
  | _, _ => .stuck
@[simp] theorem al2_some (f : D → D → Option Slot) (d e : D) (s : Sto) : al2 f (some d) (some e) s = al (f d e) s := id rfl
@[simp] theorem run_ap2 (f : D → D → Option Slot) (u v : Vl) (s : Sto) : ap2 f u v s = al2 f (rd u s) (rd v s) s := by
  unfold ap2 al2 al; rfl
def okB (o : Option Bool) (s : Sto) : R Bool := match o with
  | some b => .ok b s
  | none => .stuck
@[simp] theorem okB_some (b : Bool) (s : Sto) : okB (some b) s = .ok b s := id rfl
def cmS (f : D → D → Option Bool) (o o' : Option D) (s : Sto) : R Bool := match o, o' with
  | some d, some e => okB (f d e) s
  | _, _ => .stuck
@[simp] theorem cmS_some (f : D → D → Option Bool) (d e : D) (s : Sto) : cmS f (some d) (some e) s = okB (f d e) s := id rfl
@[simp] theorem run_cm2 (f : D → D → Option Bool) (u v : Vl) (s : Sto) : cm2 f u v s = cmS f (rd u s) (rd v s) s := by
  unfold cm2 cmS okB; rfl
@[simp ↓] theorem run_xUn (f : D → Option Slot) (a : M Vl) (s : Sto) : xUn f a s = (a s).bd (ap1 f) := id rfl
@[simp ↓] theorem run_xBin (f : D → D → Option Slot) (a b : M Vl) (s : Sto) : xBin f a b s = (a s).bd fun u => bnd b (ap2 f u) := id rfl
@[simp ↓] theorem run_xNil (s : Sto) : xNil s = .ok [] s := id rfl
@[simp ↓] theorem run_xCons (a : M Vl) (r : M (List Vl)) (s : Sto) : xCons a r s = (a s).bd fun v => bnd r fun vs => PU.ret (v :: vs) := id rfl
@[simp] theorem run_frz_dat (d : D) (s : Sto) : frz (.dat d) s = .ok d s := id rfl
def frS (o : Option Slot) (i : Nat) (s : Sto) : R D := match o with
  | some (.val d) => .ok d s
  | some (.own false ds) => .ok (.lst ds) (s.set i (.val (.lst ds)))
  | _ => .stuck
@[simp] theorem frS_val (d : D) (i : Nat) (s : Sto) : frS (some (.val d)) i s = .ok d s := id rfl
@[simp] theorem frS_own (ds : List D) (i : Nat) (s : Sto) : frS (some (.own false ds)) i s = .ok (.lst ds) (s.set i (.val (.lst ds))) := id rfl
@[simp] theorem run_frz_loc (i : Nat) (s : Sto) : frz (.loc i) s = frS s[i]? i s := id rfl
@[simp] theorem run_frzs0 (s : Sto) : frzs [] s = .ok [] s := id rfl
@[simp] theorem run_frzs (v : Vl) (vs : List Vl) (s : Sto) : frzs (v :: vs) s = (frz v s).bd fun d => bnd (frzs vs) fun ds => PU.ret (d :: ds) := id rfl
@[simp ↓] theorem run_xTup (a : M (List Vl)) (s : Sto) : xTup a s = (a s).bd fun vs => bnd (frzs vs) fun ds => if ds.length ≤ szL then PU.alloc (.val (.tup ds)) else bad := id rfl
@[simp ↓] theorem run_xLst (a : M (List Vl)) (s : Sto) : xLst a s = (a s).bd fun vs => bnd (frzs vs) fun ds => if ds.length ≤ szL then PU.alloc (.own false ds) else bad := id rfl
@[simp] theorem run_bad (s : Sto) : (bad : M α) s = .stuck := id rfl
@[simp] theorem truD_bl (b : Bool) : truD (.bl b) = some b := id rfl
def trS (o : Option D) (s : Sto) : R Bool := match o with
  | some d => (match truD d with
    | some b => .ok b s
    | none => .stuck)
  | none => .stuck
@[simp] theorem trS_bl (b : Bool) (s : Sto) : trS (some (.bl b)) s = .ok b s := id rfl
@[simp] theorem run_tru (v : Vl) (s : Sto) : tru v s = trS (rd v s) s := by
  unfold tru trS; rfl
@[simp ↓] theorem run_xAnd (a b : M Vl) (s : Sto) : xAnd a b s = (a s).bd fun u => bnd (tru u) fun k => if k then b else PU.ret u := id rfl
@[simp ↓] theorem run_xOr (a b : M Vl) (s : Sto) : xOr a b s = (a s).bd fun u => bnd (tru u) fun k => if k then PU.ret u else b := id rfl
@[simp ↓] theorem run_xNot (a : M Vl) (s : Sto) : xNot a s = (a s).bd fun u => bnd (tru u) fun k => PU.ret (.dat (.bl !k)) := id rfl
@[simp ↓] theorem run_xIf (t : M Bool) (a b : M Vl) (s : Sto) : xIf t a b s = (t s).bd fun k => if k then a else b := id rfl
@[simp ↓] theorem run_tVal (a : M Vl) (s : Sto) : tVal a s = (a s).bd tru := id rfl
@[simp ↓] theorem run_tNot (a : M Bool) (s : Sto) : tNot a s = (a s).bd fun k => PU.ret !k := id rfl
@[simp ↓] theorem run_tAnd (a b : M Bool) (s : Sto) : tAnd a b s = (a s).bd fun k => if k then b else PU.ret false := id rfl
@[simp ↓] theorem run_tOr (a b : M Bool) (s : Sto) : tOr a b s = (a s).bd fun k => if k then PU.ret true else b := id rfl
@[simp ↓] theorem run_xCmp (f : D → D → Option Bool) (a b : M Vl) (s : Sto) : xCmp f a b s = (a s).bd fun u => bnd b fun v => bnd (cm2 f u v) fun k => PU.ret (.dat (.bl k)) := id rfl
@[simp ↓] theorem run_tCmp (f : D → D → Option Bool) (a b : M Vl) (s : Sto) : tCmp f a b s = (a s).bd fun u => bnd b fun v => cm2 f u v := id rfl
@[simp ↓] theorem run_xChain (f g : D → D → Option Bool) (a b c : M Vl) (s : Sto) : xChain f g a b c s = (a s).bd fun u => bnd b fun v => bnd (cm2 f u v) fun k => if k then (bnd c fun w => bnd (cm2 g v w) fun k => PU.ret (.dat (.bl k))) else PU.ret (.dat (.bl false)) := id rfl
@[simp ↓] theorem run_tChainB (f g : D → D → Option Bool) (a b c : M Vl) (s : Sto) : tChainB f g a b c s = (a s).bd fun u => bnd b fun v => bnd (cm2 f u v) fun k => if k then (bnd c fun w => cm2 g v w) else PU.ret false := id rfl
theorem ite_run (p : Prop) [Decidable p] (a b : M α) (s : Sto) : (if p then a else b) s = if p then a s else b s := by split <;> rfl
@[simp] theorem rds_nil (s : Sto) : rds [] s = some [] := id rfl
def ocons {γ : Type} (o : Option γ) (l : Option (List γ)) : Option (List γ) := match o, l with
  | some d, some ds => some (d :: ds)
  | _, _ => none
@[simp] theorem ocons_some {γ : Type} (d : γ) (ds : List γ) : ocons (some d) (some ds) = some (d :: ds) := id rfl
@[simp] theorem rds_cons (v : Vl) (vs : List Vl) (s : Sto) : rds (v :: vs) s = ocons (rd v s) (rds vs s) := by
  unfold ocons; rw [rds]; cases rd v s <;> cases rds vs s <;> rfl
def alN (f : List D → Option Slot) (o : Option (List D)) (s : Sto) : R Vl := match o with
  | some ds => al (f ds) s
  | none => .stuck
@[simp] theorem alN_some (f : List D → Option Slot) (ds : List D) (s : Sto) : alN f (some ds) s = al (f ds) s := id rfl
@[simp] theorem run_apN (f : List D → Option Slot) (vs : List Vl) (s : Sto) : apN f vs s = alN f (rds vs s) s := by
  unfold apN alN al; rfl
@[simp ↓] theorem run_xBlt (f : List D → Option Slot) (a : M (List Vl)) (s : Sto) : xBlt f a s = (a s).bd (apN f) := id rfl
@[simp ↓] theorem run_xIsi (T : Ty) (a : M Vl) (s : Sto) : xIsi T a s = (a s).bd (ap1 fun d => some (.val (.bl (isi T d)))) := id rfl
def ptS (o : Option D) (s : Sto) : R (Option Int) := match o with
  | some (.int i) => .ok (some i) s
  | _ => .stuck
@[simp] theorem ptS_int (i : Int) (s : Sto) : ptS (some (.int i)) s = .ok (some i) s := id rfl
@[simp ↓] theorem run_xPart (a : M Vl) (s : Sto) : xPart a s = (a s).bd fun v st => ptS (rd v st) st := by
  unfold xPart ptS; rfl
@[simp ↓] theorem run_xSlice (a : M Vl) (lo hi : M (Option Int)) (s : Sto) : xSlice a lo hi s = (a s).bd fun u => bnd lo fun l => bnd hi fun h => ap3 slD u l h := id rfl
/-! calls -/
def osl (o : Option Slot) : Option Slot := match o with
  | some (.val d) => some (.val d)
  | some (.own k ds) => some (.own k ds)
  | _ => none
@[simp] theorem osl_val (d : D) : osl (some (.val d)) = some (.val d) := id rfl
@[simp] theorem osl_own (k : Bool) (ds : List D) : osl (some (.own k ds)) = some (.own k ds) := id rfl
@[simp] theorem slotOf_dat (d : D) (s : Sto) : slotOf (.dat d) s = some (.val d) := id rfl
@[simp] theorem slotOf_loc (i : Nat) (s : Sto) : slotOf (.loc i) s = osl s[i]? := by unfold slotOf osl; rfl
@[simp] theorem slots_nil (s : Sto) : slots [] s = some [] := id rfl
@[simp] theorem slots_cons (v : Vl) (vs : List Vl) (s : Sto) : slots (v :: vs) s = ocons (slotOf v s) (slots vs s) := by
  unfold ocons; rw [slots]; cases slotOf v s <;> cases slots vs s <;> rfl
@[simp] theorem apart_nil (s : Sto) : apart [] s = true := id rfl
@[simp] theorem apart_dat (d : D) (vs : List Vl) (s : Sto) : apart (.dat d :: vs) s = apart vs s := id rfl
@[simp] theorem apart_loc (i : Nat) (vs : List Vl) (s : Sto) : apart (.loc i :: vs) s = ((!isOwn s[i]? || vs.all (notLoc i)) && apart vs s) := id rfl
@[simp] theorem notLoc_dat (i : Nat) (d : D) : notLoc i (.dat d) = true := id rfl
@[simp] theorem notLoc_loc (i j : Nat) : notLoc i (.loc j) = !(j == i) := id rfl
@[simp] theorem isOwn_own (k : Bool) (ds : List D) : isOwn (some (.own k ds)) = true := id rfl
@[simp] theorem isOwn_val (d : D) : isOwn (some (.val d)) = false := id rfl
@[simp] theorem putB_nil (ss : List Slot) (s : Sto) : putB [] ss s = s := by unfold putB; rfl
@[simp] theorem putB_dat (d : D) (vs : List Vl) (t : Slot) (ss : List Slot) (s : Sto) : putB (.dat d :: vs) (t :: ss) s = putB vs ss s := id rfl
@[simp] theorem putB_loc (i : Nat) (vs : List Vl) (t : Slot) (ss : List Slot) (s : Sto) : putB (.loc i :: vs) (t :: ss) s = if isOwn s[i]? then (putB vs ss s).set i t else putB vs ss s := id rfl
def endC (r : R Slot) (n : Nat) (vs : List Vl) (s : Sto) : R Vl := match r with
  | .ok t args' => if args'.length = n then PU.alloc t (putB vs args' s) else .stuck
  | .exc x args' => if args'.length = n then .exc x (putB vs args' s) else .stuck
  | .stuck => .stuck
@[simp] theorem endC_ok (t : Slot) (args' : Sto) (n : Nat) (vs : List Vl) (s : Sto) : endC (.ok t args') n vs s = if args'.length = n then PU.alloc t (putB vs args' s) else .stuck := id rfl
/-- a call, not looked into -/
@[irreducible] def runF (g : Fn) (args : Sto) : R Slot := g.run args
theorem runF_def (g : Fn) (args : Sto) : runF g args = g.run args := by unfold runF; try rfl
def goC (g : Fn) (vs : List Vl) (o : Option Sto) (s : Sto) : R Vl := match o with
  | none => .stuck
  | some args => if vs.length = g.ar ∧ apart vs s = true then endC (runF g args) args.length vs s else .stuck
@[simp] theorem goC_some (g : Fn) (vs : List Vl) (args s : Sto) : goC g vs (some args) s = if vs.length = g.ar ∧ apart vs s = true then endC (runF g args) args.length vs s else .stuck := id rfl
@[simp] theorem run_callG (g : Fn) (vs : List Vl) (s : Sto) : callG g vs s = goC g vs (slots vs s) s := by
  unfold callG goC endC; simp only [runF_def]; try rfl
@[simp ↓] theorem run_xCall (g : Fn) (a : M (List Vl)) (s : Sto) : xCall g a s = (a s).bd (callG g) := id rfl
@[simp ↓] theorem run_xCallK (g : Fn) (n m : Nat) (pm : List Nat) (a k : M (List Vl)) (s : Sto) : xCallK g n m pm a k s = (a s).bd fun us => bnd k fun ws => if us.length = n ∧ ws.length = m then callG g (pick pm (us ++ ws) (.dat .non)) else bad := id rfl
@[simp] theorem pick_nil {γ : Type} (vs : List γ) (d : γ) : pick [] vs d = [] := id rfl
@[simp] theorem pick_cons {γ : Type} (i : Nat) (pm : List Nat) (vs : List γ) (d : γ) : pick (i :: pm) vs d = vs.getD i d :: pick pm vs d := id rfl
/-! statements -/
@[simp ↓] theorem run_sExpr (n : Nat) (f : M Vl) (s : Sto) : sExpr n f s = (f s).bs n fun _ => cut n := id rfl
@[simp] theorem run_cut (n : Nat) (s : Sto) : cut n s = .ok .next (s.take n) := id rfl
@[simp ↓] theorem run_sIf (n : Nat) (t : M Bool) (a b : M Fl) (s : Sto) : sIf n t a b s = (t s).bs n fun k st => if k then a (st.take n) else b (st.take n) := id rfl
@[simp ↓] theorem run_sRet (n P : Nat) (f : M Vl) (s : Sto) : sRet n P f s = (f s).bs n (give n P) := id rfl
@[simp] theorem give_dat (n P : Nat) (d : D) (s : Sto) : give n P (.dat d) s = .ok (.ret (.val d)) (s.take n) := id rfl
def gvS (n P : Nat) (o : Option Slot) (i : Nat) (s : Sto) : R Fl := match o with
  | some (.val d) => .ok (.ret (.val d)) (s.take n)
  | some (.own false ds) => if P ≤ i then .ok (.ret (.own false ds)) ((s.set i .emp).take n) else .ok (.ret (.val (.lst ds))) ((s.set i (.val (.lst ds))).take n)
  | _ => .stuck
@[simp] theorem gvS_val (n P : Nat) (d : D) (i : Nat) (s : Sto) : gvS n P (some (.val d)) i s = .ok (.ret (.val d)) (s.take n) := id rfl
@[simp] theorem gvS_own (n P : Nat) (ds : List D) (i : Nat) (s : Sto) : gvS n P (some (.own false ds)) i s = if P ≤ i then .ok (.ret (.own false ds)) ((s.set i .emp).take n) else .ok (.ret (.val (.lst ds))) ((s.set i (.val (.lst ds))).take n) := id rfl
@[simp] theorem give_loc (n P i : Nat) (s : Sto) : give n P (.loc i) s = gvS n P s[i]? i s := by unfold give gvS; rfl
@[simp ↓] theorem run_sSet (n P i : Nat) (f : M Vl) (s : Sto) : sSet n P i f s = (f s).bs n fun v st => toNx n (store n P i v st) := id rfl
@[simp] theorem toNx_some (n : Nat) (s : Sto) : toNx n (some s) = .ok .next (s.take n) := id rfl
def isLo (o : Option Slot) : Bool := match o with | some s => isL s | none => false
@[simp] theorem isLo_some (s : Slot) : isLo (some s) = isL s := id rfl
@[simp] theorem isL_emp : isL .emp = false := id rfl
@[simp] theorem isL_ownS (k : Bool) (ds : List D) : isL (.own k ds) = true := id rfl
@[simp] theorem isL_int (i : Int) : isL (.val (.int i)) = false := id rfl
@[simp] theorem isL_bl (i : Bool) : isL (.val (.bl i)) = false := id rfl
@[simp] theorem isL_str (i : Str) : isL (.val (.str i)) = false := id rfl
@[simp] theorem isL_non : isL (.val .non) = false := id rfl
@[simp] theorem isL_tup (l : List D) : isL (.val (.tup l)) = false := id rfl
@[simp] theorem isL_lst (l : List D) : isL (.val (.lst l)) = true := id rfl
@[simp] theorem free_eq (P : Nat) (s : Sto) (i : Nat) : free P s i = (decide (P ≤ i) || !isLo s[i]?) := id rfl
def stS (n i : Nat) (o : Option Slot) (j : Nat) (s : Sto) : Option Sto := match o with
  | some (.val d) => some (s.set i (.val d))
  | some (.own false ds) => if n ≤ j then some ((s.set j .emp).set i (.own false ds)) else if j = i then some s else some ((s.set j (.val (.lst ds))).set i (.val (.lst ds)))
  | _ => none
@[simp] theorem stS_val (n i j : Nat) (d : D) (s : Sto) : stS n i (some (.val d)) j s = some (s.set i (.val d)) := id rfl
@[simp] theorem stS_own (n i j : Nat) (ds : List D) (s : Sto) : stS n i (some (.own false ds)) j s = if n ≤ j then some ((s.set j .emp).set i (.own false ds)) else if j = i then some s else some ((s.set j (.val (.lst ds))).set i (.val (.lst ds))) := id rfl
@[simp] theorem store_dat (n P i : Nat) (d : D) (s : Sto) : store n P i (.dat d) s = if free P s i then some (s.set i (.val d)) else none := id rfl
@[simp] theorem store_loc (n P i j : Nat) (s : Sto) : store n P i (.loc j) s = if free P s i then stS n i s[j]? j s else none := by unfold store stS; rfl
@[simp ↓] theorem run_sPar (n P : Nat) (is : List Nat) (f : M (List Vl)) (s : Sto) : sPar n P is f s = (f s).bs n fun vs => bndS n (settle n vs) fun ws st => toNx n (storeAll n P is ws st) := id rfl
@[simp] theorem settle0 (n : Nat) (s : Sto) : settle n [] s = .ok [] s := id rfl
@[simp] theorem settle_dat (n : Nat) (d : D) (vs : List Vl) (s : Sto) : settle n (.dat d :: vs) s = (settle n vs s).bd fun ws => PU.ret (.dat d :: ws) := id rfl
@[simp] theorem settle_loc (n j : Nat) (vs : List Vl) (s : Sto) : settle n (.loc j :: vs) s = if n ≤ j then (settle n vs s).bd fun ws => PU.ret (.loc j :: ws) else (frz (.loc j) s).bd fun d => bnd (settle n vs) fun ws => PU.ret (.dat d :: ws) := by
  show (if n ≤ j then _ else _ : M (List Vl)) s = _
  split <;> rfl
@[simp] theorem storeAll0 (n P : Nat) (s : Sto) : storeAll n P [] [] s = some s := id rfl
def stA (o : Option Sto) (n P : Nat) (is : List Nat) (vs : List Vl) : Option Sto := match o with
  | some s => storeAll n P is vs s
  | none => none
@[simp] theorem stA_some (s : Sto) (n P : Nat) (is : List Nat) (vs : List Vl) : stA (some s) n P is vs = storeAll n P is vs s := id rfl
@[simp] theorem storeAll_cons (n P i : Nat) (is : List Nat) (v : Vl) (vs : List Vl) (s : Sto) : storeAll n P (i :: is) (v :: vs) s = stA (store n P i v s) n P is vs := id rfl
@[simp ↓] theorem run_sAsg (n : Nat) (f : M Vl) (g : D → M Unit) (s : Sto) : sAsg n f g s = (f s).bs n fun v => bndS n (frz v) fun d => bndS n (g d) fun _ => cut n := id rfl
@[simp ↓] theorem run_tgN (P i : Nat) (d : D) (s : Sto) : tgN P i d s = if free P s i then .ok () (s.set i (.val d)) else .stuck := id rfl
@[simp] theorem run_tgs0 (s : Sto) : tgs0 [] s = .ok () s := id rfl
@[simp] theorem run_tgsC (f : D → M Unit) (g : List D → M Unit) (d : D) (ds : List D) (s : Sto) : tgsC f g (d :: ds) s = (f d s).bd fun _ => g ds := id rfl
@[simp] theorem run_tgTl (k : Nat) (g : List D → M Unit) (ds : List D) (s : Sto) : tgT k g (.lst ds) s = (if ds.length = k then g ds else bad) s := id rfl
@[simp] theorem run_tgT (k : Nat) (g : List D → M Unit) (ds : List D) (s : Sto) : tgT k g (.tup ds) s = (if ds.length = k then g ds else bad) s := id rfl
def tiS (o : Option Slot) (j : Nat) (fi : M Vl) (d : D) (s : Sto) : R Unit := match o with
  | some (.own _ _) => (fi s).bd fun v => putIx j v d
  | _ => .stuck
@[simp] theorem tiS_own (k : Bool) (ds : List D) (j : Nat) (fi : M Vl) (d : D) (s : Sto) : tiS (some (.own k ds)) j fi d s = (fi s).bd fun v => putIx j v d := id rfl
@[simp ↓] theorem run_tgI (j : Nat) (fi : M Vl) (d : D) (s : Sto) : tgI j fi d s = tiS s[j]? j fi d s := by
  unfold tgI tiS; rfl
def pxN (o : Option Nat) (j : Nat) (ds : List D) (d : D) (s : Sto) : R Unit := match o with
  | some m => .ok () (s.set j (.own false (ds.set m d)))
  | none => .stuck
@[simp] theorem pxN_some (m j : Nat) (ds : List D) (d : D) (s : Sto) : pxN (some m) j ds d s = .ok () (s.set j (.own false (ds.set m d))) := id rfl
def pxS (o : Option D) (o' : Option Slot) (j : Nat) (d : D) (s : Sto) : R Unit := match o, o' with
  | some (.int k), some (.own false ds) => pxN (ixN ds.length k) j ds d s
  | _, _ => .stuck
@[simp] theorem pxS_own (k : Int) (ds : List D) (j : Nat) (d : D) (s : Sto) : pxS (some (.int k)) (some (.own false ds)) j d s = pxN (ixN ds.length k) j ds d s := id rfl
@[simp] theorem run_putIx (j : Nat) (v : Vl) (d : D) (s : Sto) : putIx j v d s = pxS (rd v s) s[j]? j d s := by
  unfold putIx pxS pxN; rfl
@[simp ↓] theorem run_sFor (n : Nat) (it : M (List D)) (g : D → M Unit) (body : M Fl) (s : Sto) : sFor n it g body s = (it s).bs n fun ds st => forE n g body ds (st.take n) := id rfl
@[simp] theorem run_for0 (n : Nat) (g : D → M Unit) (body : M Fl) (s : Sto) : forE n g body [] s = .ok .next s := id rfl
/-- one turn of a loop -/
def R.turn (r : R Fl) (again : M Fl) (_ : Tag again := .mk) : R Fl := match r with
  | .ok .next s => again s
  | .ok .cont s => again s
  | .ok .brk s => .ok .next s
  | r => r
@[simp] theorem turn_next (s : Sto) (a : M Fl) : (R.ok Fl.next s).turn a = a s := id rfl
@[simp] theorem turn_cont (s : Sto) (a : M Fl) : (R.ok Fl.cont s).turn a = a s := id rfl
@[simp] theorem turn_brk (s : Sto) (a : M Fl) : (R.ok Fl.brk s).turn a = .ok .next s := id rfl
@[simp] theorem turn_ret (v : Slot) (s : Sto) (a : M Fl) : (R.ok (Fl.ret v) s).turn a = .ok (.ret v) s := id rfl
theorem for_cons (n : Nat) (g : D → M Unit) (body : M Fl) (d : D) (ds : List D) (s : Sto) : forE n g body (d :: ds) s = (g d s).bs n fun _ st1 => (body (st1.take n)).turn (forE n g body ds) := by
  show (match g d s with | .ok _ st1 => _ | .exc x st1 => _ | .stuck => _) = _
  cases g d s with
  | stuck => rfl
  | exc x t => rfl
  | ok u t =>
    show (match body (t.take n) with | .ok .next st2 => _ | .ok .cont st2 => _ | .ok .brk st2 => _ | r => r) = (body (t.take n)).turn (forE n g body ds)
    cases body (t.take n) with
    | stuck => rfl
    | exc x t => rfl
    | ok fl t => cases fl <;> rfl
theorem while_succ (n : Nat) (t : M Bool) (body : M Fl) (m : Nat) (s : Sto) : whileE n t body (m + 1) s = (t s).bs n fun k st => if k then (body (st.take n)).turn (whileE n t body m) else .ok .next (st.take n) := by
  rw [whileE]
  unfold bndS R.bs
  cases t s with
  | stuck => rfl
  | exc x t => rfl
  | ok k u =>
    cases k with
    | false => rfl
    | true =>
      simp only [if_true]
      cases body (u.take n) with
      | stuck => rfl
      | exc x t => rfl
      | ok fl t => cases fl <;> rfl
@[simp ↓] theorem run_itR1 (a : M Vl) (s : Sto) : itR1 a s = (a s).bd fun v => bnd (getI v) fun j => if sm62 j then PU.ret (rngD 0 j.toNat) else bad := id rfl
@[simp ↓] theorem run_itR2L (a b : M Vl) (s : Sto) : itR2L a b s = (a s).bd fun v => bnd b fun w => bnd (getI v) fun i => bnd (getI w) fun j => if sm62 i && sm62 j then PU.ret (rngD i (j - i).toNat) else longR i j := id rfl
theorem longR_eq (i j : Int) (s : Sto) : longR i j s = .ok (rngD i (j - i).toNat) s := id rfl
@[simp ↓] theorem run_itR2 (a b : M Vl) (s : Sto) : itR2 a b s = (a s).bd fun v => bnd b fun w => bnd (getI v) fun i => bnd (getI w) fun j => if sm62 i && sm62 j then PU.ret (rngD i (j - i).toNat) else bad := id rfl
def giS (o : Option D) (s : Sto) : R Int := match o with
  | some (.int i) => .ok i s
  | _ => .stuck
@[simp] theorem giS_some (i : Int) (s : Sto) : giS (some (.int i)) s = .ok i s := id rfl
@[simp] theorem run_getI (v : Vl) (s : Sto) : getI v s = giS (rd v s) s := by unfold getI giS; rfl
@[simp ↓] theorem run_itS (a : M Vl) (s : Sto) : itS a s = (a s).bd fun v => bnd (frz v) fun d => ofO (items d) := id rfl
@[simp] theorem items_lst (ds : List D) : items (.lst ds) = some ds := id rfl
@[simp] theorem items_tup (ds : List D) : items (.tup ds) = some ds := id rfl
@[simp] theorem run_ofO (a : α) (s : Sto) : ofO (some a) s = .ok a s := id rfl
def endR (r : R Fl) (args : Sto) : R Slot := match r with
  | .ok (.ret s) st => .ok s (backS args st)
  | .ok .next st => .ok (.val .non) (backS args st)
  | .exc x st => .exc x (backS args st)
  | _ => .stuck
@[simp] theorem endR_ret (t : Slot) (st args : Sto) : endR (.ok (.ret t) st) args = .ok t (backS args st) := id rfl
@[simp] theorem endR_next (st args : Sto) : endR (.ok .next st) args = .ok (.val .non) (backS args st) := id rfl
@[simp] theorem run_fn (n P : Nat) (body : M Fl) (args : Sto) (h : args.length = P) : fnRun n P body args = endR (body (args ++ List.replicate (n - P) .emp)) args := by
  unfold fnRun endR; rw [if_pos h]; try rfl
@[simp] theorem backS_nil (s : Sto) : backS [] s = [] := by unfold backS; rfl
@[simp] theorem backS_cons (a t : Slot) (as s : Sto) : backS (a :: as) (t :: s) = (if isL a then t else a) :: backS as s := id rfl
/-! the later ones -/
def stR (o : Option D) (r : M (List Vl)) (s : Sto) : R (List Vl) := match o with
  | some (.lst ds) => (r s).bd fun vs => PU.ret (dats ds ++ vs)
  | some (.tup ds) => (r s).bd fun vs => PU.ret (dats ds ++ vs)
  | _ => .stuck
@[simp] theorem stR_lst (ds : List D) (r : M (List Vl)) (s : Sto) : stR (some (.lst ds)) r s = (r s).bd fun vs => PU.ret (dats ds ++ vs) := id rfl
@[simp] theorem stR_tup (ds : List D) (r : M (List Vl)) (s : Sto) : stR (some (.tup ds)) r s = (r s).bd fun vs => PU.ret (dats ds ++ vs) := id rfl
@[simp ↓] theorem run_xStar (a : M Vl) (r : M (List Vl)) (s : Sto) : xStar a r s = (a s).bd fun v st => stR (rd v st) r st := by
  unfold xStar stR; rfl
@[simp] theorem dats_nil : dats [] = [] := id rfl
@[simp] theorem dats_cons (d : D) (ds : List D) : dats (d :: ds) = .dat d :: dats ds := id rfl
theorem frzs_dats : ∀ (ds : List D) (s : Sto), frzs (dats ds) s = .ok ds s
  | [], _ => rfl
  | d :: ds, s => by
    rw [dats_cons, run_frzs, run_frz_dat, bd_ok, run_bnd, frzs_dats ds s]; rfl
@[simp] theorem rev_l (ds : List D) : revD (.lst ds) = some (.own false ds.reverse) := id rfl
@[simp] theorem rev_t (ds : List D) : revD (.tup ds) = some (.val (.tup ds.reverse)) := id rfl
@[simp ↓] theorem run_xPop (j : Nat) (s : Sto) : xPop j s = popS j s[j]? s := id rfl
def okD (o : Option D) (s : Sto) : R Vl := match o with
  | some d => .ok (.dat d) s
  | none => .stuck
@[simp] theorem okD_some (d : D) (s : Sto) : okD (some d) s = .ok (.dat d) s := id rfl
@[simp] theorem popS_own (j : Nat) (ds : List D) (s : Sto) : popS j (some (.own false ds)) s = okD ds[ds.length - 1]? (s.set j (.own false ds.dropLast)) := by
  unfold popS okD; rfl
def auO (n P i : Nat) (o : Option D) (s : Sto) : R Fl := match o with
  | some z => toNx n (store n P i (.dat z) s)
  | none => .stuck
@[simp] theorem auO_some (n P i : Nat) (z : D) (s : Sto) : auO n P i (some z) s = toNx n (store n P i (.dat z) s) := id rfl
def auS (n P i : Nat) (op : Operator) (d : D) (o : Option D) (s : Sto) : R Fl := match o with
  | some e => auO n P i (augD op d e) s
  | none => .stuck
@[simp] theorem auS_some (n P i : Nat) (op : Operator) (d e : D) (s : Sto) : auS n P i op d (some e) s = auO n P i (augD op d e) s := id rfl
@[simp] theorem run_augS (n P i : Nat) (op : Operator) (d : D) (v : Vl) (s : Sto) : augS n P i op d v s = auS n P i op d (rd v s) s := by
  unfold augS auS auO; rfl
def agS (n P i : Nat) (op : Operator) (f : M Vl) (o : Option Slot) (s : Sto) : R Fl := match o with
  | some (.val d) => if isAug op then (f s).bs n (fun v => augS n P i op d v) else .stuck
  | _ => .stuck
@[simp] theorem agS_val (n P i : Nat) (op : Operator) (f : M Vl) (d : D) (s : Sto) : agS n P i op f (some (.val d)) s = if isAug op then (f s).bs n (fun v => augS n P i op d v) else .stuck := id rfl
@[simp ↓] theorem run_sAug (n P i : Nat) (op : Operator) (f : M Vl) (s : Sto) : sAug n P i op f s = agS n P i op f s[i]? s := by
  unfold sAug agS; rfl
@[simp] theorem isAug_add : isAug .Add = true := id rfl
@[simp] theorem isAug_sub : isAug .Sub = true := id rfl
@[simp] theorem aug_add (a b : Int) : augD .Add (.int a) (.int b) = some (.int (a + b)) := id rfl
@[simp] theorem aug_sub (a b : Int) : augD .Sub (.int a) (.int b) = some (.int (a - b)) := id rfl
@[simp ↓] theorem run_itR3 (a b c : M Vl) (s : Sto) : itR3 a b c s = (a s).bd fun v => bnd b fun w => bnd c fun u => bnd (getI v) fun i => bnd (getI w) fun j => bnd (getI u) fun k => if sm62 i && sm62 j && decide (k = -1) then PU.ret (rngC i (-1) (i - j).toNat) else bad := id rfl
@[simp ↓] theorem run_itE2 (a : M Vl) (s : Sto) : itE2 a s = (a s).bd fun v => bnd (frz v) fun d => ofO ((asLT d).map enumD) := id rfl
@[simp] theorem asLT_l (ds : List D) : asLT (.lst ds) = some ds := id rfl
@[simp] theorem asLT_t (ds : List D) : asLT (.tup ds) = some ds := id rfl
@[simp ↓] theorem run_itZ (a b : M Vl) (s : Sto) : itZ a b s = (a s).bd fun v => bnd b fun w => bnd (frz v) fun d => bnd (frz w) fun e => ofO (zipO d e) := id rfl
end
/-! operations -/
@[simp] theorem add_ii (a b : Int) : binD .Add (.int a) (.int b) = some (.val (.int (a + b))) := id rfl
@[simp] theorem sub_ii (a b : Int) : binD .Sub (.int a) (.int b) = some (.val (.int (a - b))) := id rfl
@[simp] theorem mul_ii (a b : Int) : binD .Mult (.int a) (.int b) = gd (mulG a b) (.val (.int (a * b))) := id rfl
@[simp] theorem fdiv_ii (a b : Int) : binD .FloorDiv (.int a) (.int b) = gd (divG b) (.val (.int (a.fdiv b))) := id rfl
@[simp] theorem mod_ii (a b : Int) : binD .Mod (.int a) (.int b) = gd (decide (b ≠ 0)) (.val (.int (a.fmod b))) := id rfl
@[simp] theorem pow_ii (a b : Int) : binD .Pow (.int a) (.int b) = gd (powG a b) (.val (.int (a ^ b.toNat))) := id rfl
@[simp] theorem gd_true (s : Slot) : gd true s = some s := id rfl
@[simp] theorem usub_i (a : Int) : unD .USub (.int a) = some (.val (.int (-a))) := id rfl
@[simp] theorem lt_ii (a b : Int) : cmpD .Lt (.int a) (.int b) = some (decide (a < b)) := id rfl
@[simp] theorem le_ii (a b : Int) : cmpD .LtE (.int a) (.int b) = some (decide (a ≤ b)) := id rfl
@[simp] theorem gt_ii (a b : Int) : cmpD .Gt (.int a) (.int b) = some (decide (b < a)) := id rfl
@[simp] theorem ge_ii (a b : Int) : cmpD .GtE (.int a) (.int b) = some (decide (b ≤ a)) := id rfl
@[simp] theorem eq_ii (a b : Int) : cmpD .Eq (.int a) (.int b) = some (decide (a = b)) := id rfl
@[simp] theorem ne_ii (a b : Int) : cmpD .NotEq (.int a) (.int b) = some (!decide (a = b)) := id rfl
@[simp] theorem abs_i (a : Int) : bAbs [.int a] = some (.val (.int a.natAbs)) := id rfl
@[simp] theorem len_l (l : List D) : bLen [.lst l] = some (.val (.int l.length)) := id rfl
@[simp] theorem len_t (l : List D) : bLen [.tup l] = some (.val (.int l.length)) := id rfl
@[simp] theorem min_ii (a b : Int) : bMin [.int a, .int b] = some (.val (.int (min a b))) := id rfl
@[simp] theorem max_ii (a b : Int) : bMax [.int a, .int b] = some (.val (.int (max a b))) := id rfl
@[simp] theorem int_i (a : Int) : bInt [.int a] = some (.val (.int a)) := id rfl
@[simp] theorem divmod_ii (a b : Int) : bDivmod [.int a, .int b] = gd (decide (0 < b) && decide (b.natAbs.log2 < 9000)) (.val (.tup [.int (a / b), .int (a % b)])) := id rfl
@[simp] theorem ix_l (l : List D) (i : Int) : ixD (.lst l) (.int i) = (atI l i).map .val := id rfl
@[simp] theorem ix_t (l : List D) (i : Int) : ixD (.tup l) (.int i) = (atI l i).map .val := id rfl
@[simp] theorem isi_ii (a : Int) : isi .int (.int a) = true := id rfl
@[simp] theorem isi_bi (a : Int) : isi .bool (.int a) = false := id rfl
@[simp] theorem isi_tt (l : List D) : isi .tuple (.tup l) = true := id rfl
theorem sz_le {n : Nat} (h : n ≤ 16777216) : n ≤ szL := h
@[simp] theorem szL_n : szL = 16777216 := id rfl
theorem mulG_of {a b : Int} (h : a.natAbs.log2 + b.natAbs.log2 < 134217000) : mulG a b = true := decide_eq_true h
end PU
namespace PU
open PySem PySem.Spec PyProof.Rows L2
/-! ### how long a shown text is -/
mutual
def tl : D → Nat
  | .non => 4
  | .bl _ => 5
  | .int _ => 1921
  | .str x => (reprText x).length
  | .tup ds => tls ds + 3
  | .lst ds => tls ds + 3
def tls : List D → Nat
  | [] => 0
  | d :: ds => tl d + 2 + tls ds
end
theorem tf_len : ∀ (ts : List Str) (k : Nat) (acc : Str), (textFrom k acc ts).length ≤ acc.length + (ts.map fun t => t.length + 2).sum
  | [], k, acc => by simp [textFrom]
  | t :: r, k, acc => by
    have h := tf_len r (k + 1) (acc ++ (if k > 0 then ", " else "" : String) ++ t)
    have e : (acc ++ (if k > 0 then ", " else "" : String) ++ t).length ≤ acc.length + 2 + t.length := by
      rw [strLen_append, strLen_append]
      split
      · have : ((", " : String) : Str).length = 2 := rfl
        omega
      · have : (("" : String) : Str).length = 0 := rfl
        omega
    rw [List.map_cons, List.sum_cons]
    show (textFrom (k + 1) (acc ++ (if k > 0 then ", " else "" : String) ++ t) r).length ≤ _
    omega
theorem jn_len : ∀ (ts : List Str), (Str.join ", " ts).length ≤ (ts.map fun t => t.length + 2).sum
  | [] => by decide
  | [x] => by
    show x.length ≤ _
    simp
  | x :: y :: r => by
    have ih := jn_len (y :: r)
    have e2 : ((", " : String) : Str).length = 2 := rfl
    show (x ++ ", " ++ Str.join ", " (y :: r)).length ≤ _
    rw [strLen_append, strLen_append, List.map_cons, List.sum_cons]
    omega
mutual
theorem sh_len : ∀ d : D, (py d).showable = true → (py d).shown.length ≤ tl d
  | .non, _ => by unfold py tl; exact Nat.le_refl _
  | .bl b, _ => by unfold py tl; cases b <;> decide
  | .int i, h => by
    unfold py at h ⊢
    unfold tl
    exact int_text_len_1921 (by simpa [PyData.showable] using h)
  | .str x, _ => by unfold py tl; exact Nat.le_refl _
  | .tup ds, h => by
    unfold py at h ⊢
    unfold tl
    have h2 := sh_lens ds (by simpa [PyData.showable] using h)
    have h3 := jn_len (PyData.shownAll (pys ds))
    unfold PyData.shown tupleText
    rw [strLen_append, strLen_append]
    have e1 : (("(" : String) : Str).length = 1 := rfl
    have e2 : (((if (PyData.shownAll (pys ds)).length == 1 then ",)" else ")") : String) : Str).length ≤ 2 := by split <;> decide
    omega
  | .lst ds, h => by
    unfold py at h ⊢
    unfold tl
    have h2 := sh_lens ds (by simpa [PyData.showable] using h)
    have h3 := tf_len (PyData.shownAll (pys ds)) 0 "["
    unfold PyData.shown listText
    rw [strLen_append]
    have e1 : (("[" : String) : Str).length = 1 := rfl
    have e2 : (("]" : String) : Str).length = 1 := rfl
    omega
theorem sh_lens : ∀ ds : List D, PyData.showableAll (pys ds) = true → ((PyData.shownAll (pys ds)).map fun t => t.length + 2).sum ≤ tls ds
  | [], _ => by unfold pys PyData.shownAll tls; simp
  | d :: ds, h => by
    unfold pys at h ⊢
    unfold PyData.shownAll tls
    have h : (py d).showable = true ∧ PyData.showableAll (pys ds) = true := by simpa [PyData.showableAll] using h
    have h1 := sh_len d h.1
    have h2 := sh_lens ds h.2
    rw [List.map_cons, List.sum_cons]
    omega
end
theorem repr_ok {d : D} (h1 : (py d).showable = true) (h2 : shD d = true) (h3 : tl d ≤ 16777216) : reprG d = true := by
  unfold reprG
  rw [h1, h2, Bool.and_self, Bool.true_and]
  exact decide_eq_true (Nat.le_trans (sh_len d h1) h3)
/-! lists of ints -/
theorem log_lt {i : Int} {n : Nat} (h : i.natAbs < 2 ^ n) (hn : n ≤ 1920) (h0 : 0 < n) : i.natAbs.log2 < 1920 := by
  by_cases z : i.natAbs = 0
  · rw [z]; simp
  · exact Nat.lt_of_lt_of_le ((Nat.log2_lt z).mpr h) hn
theorem sh_ints : ∀ {ns : List Int}, (∀ i ∈ ns, i.natAbs.log2 < 1920) → PyData.showableAll (pys (ns.map D.int)) = true
  | [], _ => rfl
  | n :: ns, h => by
    show (PyData.showable (.int n) && PyData.showableAll (pys (ns.map D.int))) = true
    rw [sh_ints fun i hi => h i (List.mem_cons_of_mem _ hi), Bool.and_true]
    exact decide_eq_true (h n (List.mem_cons_self ..))
theorem cl_ints : ∀ ns : List Int, PyData.canLayAll0 (pys (ns.map D.int)) = true
  | [] => rfl
  | n :: ns => by
    show (PyData.canLay0 (.int n) && PyData.canLayAll0 (pys (ns.map D.int))) = true
    rw [cl_ints ns]; rfl
theorem dp_ints : ∀ ns : List Int, PyData.depthAll (pys (ns.map D.int)) = 0
  | [] => rfl
  | n :: ns => by
    show max (PyData.depth (.int n)) (PyData.depthAll (pys (ns.map D.int))) = 0
    rw [dp_ints ns]; rfl
theorem tl_ints : ∀ ns : List Int, tls (ns.map D.int) = ns.length * 1923
  | [] => rfl
  | n :: ns => by
    show 1921 + 2 + tls (ns.map D.int) = _
    rw [tl_ints ns, List.length_cons]; omega
theorem shD_ints (ns : List Int) : shD (.lst (ns.map D.int)) = true := by
  unfold shD SeqAt.shaped py
  unfold PyData.canLay0 PyData.depth
  rw [cl_ints, dp_ints]; rfl
theorem repr_ints {ns : List Int} (h : ∀ i ∈ ns, i.natAbs.log2 < 1920) (hl : ns.length ≤ 8000) : reprG (.lst (ns.map D.int)) = true := by
  refine repr_ok ?_ (shD_ints ns) ?_
  · unfold py PyData.showable; exact sh_ints h
  · unfold tl; rw [tl_ints]; omega
mutual
theorem eqD_self : ∀ d : D, eqD d d = true
  | .non => rfl
  | .bl b => by unfold eqD py; simp [PyData.eqv]
  | .int b => by unfold eqD py; simp [PyData.eqv]
  | .str b => by unfold eqD py; simp [PyData.eqv]
  | .tup ds => by unfold eqD py; simp only [PyData.eqv]; exact eqDs_self ds
  | .lst ds => by unfold eqD py; simp only [PyData.eqv]; exact eqDs_self ds
theorem eqDs_self : ∀ ds : List D, PyData.eqvAll (pys ds) (pys ds) = true
  | [] => rfl
  | d :: ds => by
    unfold pys
    simp only [PyData.eqvAll]
    have := eqD_self d
    unfold eqD at this
    rw [this, eqDs_self ds]; rfl
end
@[simp] theorem run_repr_l (ds : List D) (h : reprG (.lst ds) = true) : bRepr [.lst ds] = some (.val (.str (shown (.lst ds)))) := by
  show gd (reprG (.lst ds)) _ = _
  rw [h]; rfl
@[simp] theorem eq_ss (a b : Str) : cmpD .Eq (.str a) (.str b) = some (decide (a = b)) := id rfl
@[simp] theorem ne_ss (a b : Str) : cmpD .NotEq (.str a) (.str b) = some (!decide (a = b)) := id rfl
theorem eq_ll (a b : List D) : cmpD .Eq (.lst a) (.lst b) = if shD (.lst a) && shD (.lst b) then some (eqD (.lst a) (.lst b)) else none := rfl
theorem ne_ll (a b : List D) : cmpD .NotEq (.lst a) (.lst b) = if shD (.lst a) && shD (.lst b) then some (!eqD (.lst a) (.lst b)) else none := rfl
/-- the same list twice -/
@[simp] theorem ne_same (a : List D) (h : shD (.lst a) = true) : cmpD .NotEq (.lst a) (.lst a) = some false := by
  rw [ne_ll, h, eqD_self]; rfl
@[simp] theorem eq_same (a : List D) (h : shD (.lst a) = true) : cmpD .Eq (.lst a) (.lst a) = some true := by
  rw [eq_ll, h, eqD_self]; rfl
@[simp] theorem mul_li (a : List D) (k : Int) : binD .Mult (.lst a) (.int k) = gd (decide (-(2 ^ 63) ≤ k) && decide (k < 2 ^ 63) && decide (a.length * k.toNat ≤ szL)) (.own false (List.replicate k.toNat a).flatten) := id rfl
/-! ### comprehensions by simp -/
section
variable {α β : Type}
def R.bz (r : R α) (k : α → M β) (_ : Tag k := .mk) : R β := match r with
  | .ok a s => k a s
  | _ => .stuck
@[simp] theorem bz_ok (a : α) (s : Sto) (k : α → M β) : (R.ok a s).bz k = k a s := id rfl
def calm1 (o : Option Slot) : Bool := match o with
  | some .emp => true
  | some (.val _) => true
  | _ => false
@[simp] theorem calm1_emp : calm1 (some .emp) = true := id rfl
@[simp] theorem calm1_val (d : D) : calm1 (some (.val d)) = true := id rfl
@[simp] theorem calmV_nil (s : Sto) : calmV s [] = true := id rfl
@[simp] theorem calmV_cons (s : Sto) (i : Nat) (vs : List Nat) : calmV s (i :: vs) = (calm1 s[i]? && calmV s vs) := by
  unfold calmV calm1
  rw [List.all_cons]
  try rfl
@[simp] theorem wipeS_nil (s : Sto) : wipeS s [] = s := id rfl
@[simp] theorem wipeS_cons (s : Sto) (i : Nat) (vs : List Nat) : wipeS s (i :: vs) = (wipeS s vs).set i .emp := id rfl
@[simp] theorem restore_nil (s s' : Sto) : restore s [] s' = s' := id rfl
@[simp] theorem restore_cons (s s' : Sto) (i : Nat) (vs : List Nat) : restore s (i :: vs) s' = (restore s vs s').set i (s.getD i .emp) := id rfl
def lcF (r : R (List D)) (vs : List Nat) (s : Sto) : R Vl := match r with
  | .ok acc s' => PU.alloc (.own false acc) (restore s vs s')
  | _ => .stuck
@[simp] theorem lcF_ok (acc : List D) (s' : Sto) (vs : List Nat) (s : Sto) : lcF (.ok acc s') vs s = PU.alloc (.own false acc) (restore s vs s') := id rfl
@[simp ↓] theorem run_lcGo (vs : List Nat) (g : D → M Unit) (t : M Bool) (e : M Vl) (ds : List D) (s : Sto) : lcGo vs g t e ds s = if calmV s vs then lcF (lcE s.length vs g t e ds [] (wipeS s vs)) vs s else .stuck := by
  unfold lcGo lcF; rfl
def scF (r : R (List Int)) (vs : List Nat) (s : Sto) : R Vl := match r with
  | .ok acc st' => .ok (.dat (.int (usort acc).length)) (restore s vs st')
  | _ => .stuck
@[simp ↓] theorem run_scGo (vs : List Nat) (g : D → M Unit) (t : M Bool) (e : M Vl) (ds : List D) (s : Sto) : scGo vs g t e ds s = if calmV s vs then scF (scE s.length vs g t e ds [] (wipeS s vs)) vs s else .stuck := by
  unfold scGo scF; rfl
@[simp ↓] theorem run_xLenSc (vs : List Nat) (it : M (List D)) (g : D → M Unit) (t : M Bool) (e : M Vl) (s : Sto) : xLenSc vs it g t e s = (it s).bd (scGo vs g t e) := id rfl
@[simp ↓] theorem run_xLc (vs : List Nat) (it : M (List D)) (g : D → M Unit) (t : M Bool) (e : M Vl) (s : Sto) : xLc vs it g t e s = (it s).bd (lcGo vs g t e) := id rfl
@[simp] theorem lcE_nil (L : Nat) (vs : List Nat) (g : D → M Unit) (t : M Bool) (e : M Vl) (acc : List D) (s : Sto) : lcE L vs g t e [] acc s = .ok acc s := id rfl
theorem lcE_cons (L : Nat) (vs : List Nat) (g : D → M Unit) (t : M Bool) (e : M Vl) (d : D) (ds acc : List D) (s : Sto) : lcE L vs g t e (d :: ds) acc s =
    (g d s).bz fun _ st1 => (t st1).bz fun k st2 => if k then (e st2).bz fun v st3 => (frz v st3).bz fun y st4 => if acc.length < szL then lcE L vs g t e ds (acc ++ [y]) (wipeS (st4.take L) vs) else .stuck else lcE L vs g t e ds acc (wipeS (st2.take L) vs) := by
  rw [lcE]
  dsimp only
  cases g d s with
  | stuck => rfl
  | exc x t => rfl
  | ok u st1 =>
    simp only [bz_ok]
    cases t st1 with
    | stuck => rfl
    | exc x t => rfl
    | ok k st2 =>
      simp only [bz_ok]
      cases k with
      | false => rfl
      | true =>
        simp only [if_true]
        cases e st2 with
        | stuck => rfl
        | exc x t => rfl
        | ok v st3 =>
          simp only [bz_ok]
          cases frz v st3 with
          | stuck => rfl
          | exc x t => rfl
          | ok y st4 => rfl
end
end PU
namespace PU
open PySem L2
/-! ### what holds behind a run -/
section
variable {α β : Type}
def wp (r : R α) (Q : α → Sto → Prop) (E : Xn → Sto → Prop) (_ : Tag Q := .mk) (_ : Tag E := .mk) : Prop := match r with
  | .ok a s => Q a s
  | .exc x s => E x s
  | .stuck => False
def noX : Xn → Sto → Prop := fun _ _ => False
/-- what simp leaves as it is -/
def H1 {A : Type} (P : A → Prop) (a : A) (_ : Tag P := .mk) : Prop := P a
theorem H1.mk {A : Type} {P : A → Prop} {a : A} (h : P a) : H1 P a := h
def H2 {A B : Type} (P : A → B → Prop) (a : A) (b : B) (_ : Tag P := .mk) : Prop := P a b
theorem H2.mk {A B : Type} {P : A → B → Prop} {a : A} {b : B} (h : P a b) : H2 P a b := h
@[simp] theorem wp_ok (a : α) (s : Sto) (Q : α → Sto → Prop) (E : Xn → Sto → Prop) : wp (.ok a s) Q E = Q a s := id rfl
@[simp] theorem wp_exc (x : Xn) (s : Sto) (Q : α → Sto → Prop) (E : Xn → Sto → Prop) : wp (.exc x s) Q E = E x s := id rfl
@[simp] theorem wp_stuck (Q : α → Sto → Prop) (E : Xn → Sto → Prop) : wp .stuck Q E = False := id rfl
@[simp] theorem wp_bd (r : R α) (f : α → M β) (Q : β → Sto → Prop) (E : Xn → Sto → Prop) : wp (r.bd f) Q E = wp r (fun a s => wp (f a s) Q E) E := by cases r <;> rfl
@[simp] theorem wp_bs (r : R α) (n : Nat) (f : α → M Fl) (Q : Fl → Sto → Prop) (E : Xn → Sto → Prop) : wp (r.bs n f) Q E = wp r (fun a s => wp (f a s) Q E) (fun x s => E x (s.take n)) := by cases r <;> rfl
@[simp] theorem wp_bz (r : R α) (f : α → M β) (Q : β → Sto → Prop) (E : Xn → Sto → Prop) : wp (r.bz f) Q E = wp r (fun a s => wp (f a s) Q E) noX := by cases r <;> rfl
@[simp] theorem wp_sq (r : R Fl) (b : M Fl) (Q : Fl → Sto → Prop) (E : Xn → Sto → Prop) : wp (r.sq b) Q E = wp r (fun fl s => wp ((R.ok fl s).sq b) Q E) E := by cases r <;> rfl
@[simp] theorem wp_endR (r : R Fl) (args : Sto) (Q : Slot → Sto → Prop) (E : Xn → Sto → Prop) : wp (endR r args) Q E = wp r (fun fl s => wp (endR (.ok fl s) args) Q E) (fun x s => E x (backS args s)) := by
  cases r <;> rfl
@[simp] theorem wp_endC (r : R Slot) (n : Nat) (vs : List Vl) (s : Sto) (Q : Vl → Sto → Prop) (E : Xn → Sto → Prop) : wp (endC r n vs s) Q E = wp r (fun t a => wp (if a.length = n then PU.alloc t (putB vs a s) else .stuck) Q E) (fun x a => a.length = n ∧ E x (putB vs a s)) := by
  cases r with
  | stuck => rfl
  | ok a t => rfl
  | exc x t =>
    show wp (if t.length = n then R.exc x (putB vs t s) else .stuck) Q E = _
    by_cases h : t.length = n <;> simp [h]
@[simp] theorem wp_scF (r : R (List Int)) (vs : List Nat) (s : Sto) (Q : Vl → Sto → Prop) (E : Xn → Sto → Prop) : wp (scF r vs s) Q E = wp r (fun acc s' => Q (.dat (.int (usort acc).length)) (restore s vs s')) noX := by
  cases r <;> rfl
@[simp] theorem wp_lcF (r : R (List D)) (vs : List Nat) (s : Sto) (Q : Vl → Sto → Prop) (E : Xn → Sto → Prop) : wp (lcF r vs s) Q E = wp r (fun acc s' => Q (.loc (restore s vs s').length) (restore s vs s' ++ [.own false acc])) noX := by
  cases r <;> rfl
@[simp] theorem wp_ct (r : R Fl) (k : Xn → M Fl) (Q : Fl → Sto → Prop) (E : Xn → Sto → Prop) : wp (r.ct k) Q E = wp r Q (fun x s => wp (k x s) Q E) := by cases r <;> rfl
theorem wp_ite (p : Prop) [Decidable p] (a b : R α) (Q : α → Sto → Prop) (E : Xn → Sto → Prop) : wp (if p then a else b) Q E ↔ (p → wp a Q E) ∧ (¬ p → wp b Q E) := by
  by_cases h : p <;> simp [h]
theorem wp_of {r : R α} {Q : α → Sto → Prop} {E : Xn → Sto → Prop} {a : α} {s : Sto} (h : r = .ok a s) (q : Q a s) : wp r Q E := by rw [h]; exact q
theorem wp_mono {r : R α} {Q Q' : α → Sto → Prop} {E E' : Xn → Sto → Prop} (h : wp r Q E) (hq : ∀ a s, Q a s → Q' a s) (he : ∀ x s, E x s → E' x s) : wp r Q' E' := by
  cases r with
  | ok a s => exact hq a s h
  | exc x s => exact he x s h
  | stuck => exact h
/-- a run that ends well gives an equation -/
theorem wp_ex {r : R α} {Q : α → Sto → Prop} (h : wp r Q noX) : ∃ a s, r = .ok a s ∧ Q a s := by
  cases r with
  | ok a s => exact ⟨a, s, rfl, h⟩
  | exc x s => exact h.elim
  | stuck => exact h.elim
/-! loops -/
def forT (n : Nat) (g : D → M Unit) (body : M Fl) (d : D) (s : Sto) : R Fl := (g d s).bs n fun _ st1 => body (st1.take n)
@[simp] theorem run_forT (n : Nat) (g : D → M Unit) (body : M Fl) (d : D) (s : Sto) : forT n g body d s = (g d s).bs n fun _ st1 => body (st1.take n) := id rfl
/-- what a turn leaves: on with I, or out with Q -/
def onF (I : Sto → Prop) (Q : Fl → Sto → Prop) (fl : Fl) (s : Sto) (_ : Tag I := .mk) (_ : Tag Q := .mk) : Prop := match fl with
  | .next => I s
  | .cont => I s
  | .brk => Q .next s
  | .ret v => Q (.ret v) s
@[simp] theorem onF_next (I : Sto → Prop) (Q : Fl → Sto → Prop) (s : Sto) : onF I Q .next s = I s := id rfl
@[simp] theorem onF_cont (I : Sto → Prop) (Q : Fl → Sto → Prop) (s : Sto) : onF I Q .cont s = I s := id rfl
@[simp] theorem onF_brk (I : Sto → Prop) (Q : Fl → Sto → Prop) (s : Sto) : onF I Q .brk s = Q .next s := id rfl
@[simp] theorem onF_ret (I : Sto → Prop) (Q : Fl → Sto → Prop) (v : Slot) (s : Sto) : onF I Q (.ret v) s = Q (.ret v) s := id rfl
theorem wp_turn (r : R Fl) (b : M Fl) (Q : Fl → Sto → Prop) (E : Xn → Sto → Prop) : wp (r.turn b) Q E = wp r (fun fl s => onF (fun s => wp (b s) Q E) Q fl s) E := by
  cases r with
  | stuck => rfl
  | exc x s => rfl
  | ok fl s => cases fl <;> rfl
theorem for_cons' (n : Nat) (g : D → M Unit) (body : M Fl) (d : D) (ds : List D) (s : Sto) : forE n g body (d :: ds) s = (forT n g body d s).turn (forE n g body ds) := by
  rw [for_cons, forT]
  cases g d s <;> rfl
theorem wp_forD {n : Nat} {g : D → M Unit} {body : M Fl} {Q : Fl → Sto → Prop} {E : Xn → Sto → Prop} (I : List D → Sto → Prop)
    (hs : ∀ d ds s, I (d :: ds) s → wp (forT n g body d s) (fun fl s => onF (fun s => H1 (I ds) s) Q fl s) E) (he : ∀ s, I [] s → Q .next s) : ∀ (ds : List D) (s : Sto), I ds s → wp (forE n g body ds s) Q E
  | [], s, h => he s h
  | d :: ds, s, h => by
    rw [for_cons', wp_turn]
    refine wp_mono (hs d ds s h) (fun fl t => ?_) fun _ _ h => h
    cases fl with
    | next => exact wp_forD I hs he ds t
    | cont => exact wp_forD I hs he ds t
    | brk => exact id
    | ret v => exact id
/-- a loop over encoded things -/
theorem wp_for {γ : Type} (enc : γ → D) {n : Nat} {g : D → M Unit} {body : M Fl} {Q : Fl → Sto → Prop} {E : Xn → Sto → Prop} (I : List γ → Sto → Prop) :
    ∀ (xs : List γ) (s : Sto), I xs s → (∀ x rest s, x ∈ xs → rest <:+ xs → I (x :: rest) s → wp (forT n g body (enc x) s) (fun fl s => onF (fun s => H1 (I rest) s) Q fl s) E) → (∀ s, I [] s → Q .next s) → wp (forE n g body (xs.map enc) s) Q E
  | [], s, h, hs, he => he s h
  | x :: xs, s, h, hs, he => by
    rw [List.map_cons, for_cons', wp_turn]
    refine wp_mono (hs x xs s (List.mem_cons_self ..) (List.suffix_cons ..) h) (fun fl t => ?_) fun _ _ h => h
    have ih := fun t (ht : I xs t) => wp_for enc I xs t ht (fun y rest s hy hr => hs y rest s (List.mem_cons_of_mem _ hy) (hr.trans (List.suffix_cons ..))) he
    cases fl with
    | next => exact ih t
    | cont => exact ih t
    | brk => exact id
    | ret v => exact id
/-- by its place -/
theorem wp_forI {n : Nat} {g : D → M Unit} {body : M Fl} {Q : Fl → Sto → Prop} {E : Xn → Sto → Prop} (ds : List D) (I : Nat → Sto → Prop) (s : Sto) (h : I 0 s)
    (hs : ∀ i d s, ds[i]? = some d → I i s → wp (forT n g body d s) (fun fl s => onF (fun s => H1 (I (i + 1)) s) Q fl s) E) (he : ∀ s, I ds.length s → Q .next s) : wp (forE n g body ds s) Q E := by
  have key : ∀ (k : Nat) (s : Sto), k ≤ ds.length → I (ds.length - k) s → wp (forE n g body (ds.drop (ds.length - k)) s) Q E := by
    intro k
    induction k with
    | zero => intro s _ hI; rw [Nat.sub_zero, List.drop_length]; exact he s (by simpa using hI)
    | succ k ih =>
      intro s hk hI
      have hlt : ds.length - (k + 1) < ds.length := by omega
      rw [List.drop_eq_getElem_cons hlt, for_cons', wp_turn]
      refine wp_mono (hs _ _ s (List.getElem?_eq_getElem hlt) hI) (fun fl t => ?_) fun _ _ h => h
      rw [show ds.length - (k + 1) + 1 = ds.length - k by omega]
      cases fl with
      | next => exact ih t (by omega)
      | cont => exact ih t (by omega)
      | brk => exact id
      | ret v => exact id
  have := key ds.length s (Nat.le_refl _) (by rw [Nat.sub_self]; exact h)
  rwa [Nat.sub_self, List.drop_zero] at this
theorem rngD_get {a : Int} {n i : Nat} {d : D} (h : (rngD a n)[i]? = some d) : i < n ∧ d = .int (a + i) := by
  unfold rngD at h
  rw [List.getElem?_map] at h
  by_cases hi : i < n
  · rw [List.getElem?_range hi] at h; cases h; exact ⟨hi, rfl⟩
  · rw [List.getElem?_eq_none (by simp; omega)] at h; cases h
theorem rngD_length (a : Int) (n : Nat) : (rngD a n).length = n := by unfold rngD; simp
/-- over a range -/
theorem wp_rng {n : Nat} {g : D → M Unit} {body : M Fl} {Q : Fl → Sto → Prop} {E : Xn → Sto → Prop} (a : Int) (m : Nat) (I : Nat → Sto → Prop) (s : Sto) (h : I 0 s)
    (hs : ∀ i s, i < m → I i s → wp (forT n g body (.int (a + i)) s) (fun fl s => onF (fun s => H1 (I (i + 1)) s) Q fl s) E) (he : ∀ s, I m s → Q .next s) : wp (forE n g body (rngD a m) s) Q E :=
  wp_forI _ I s h (fun i d s hd hI => by obtain ⟨h1, rfl⟩ := rngD_get hd; exact hs i s h1 hI) fun s hI => he s (by rwa [rngD_length] at hI)
theorem wp_while {n : Nat} {t : M Bool} {body : M Fl} {Q : Fl → Sto → Prop} {E : Xn → Sto → Prop} (I : Nat → Sto → Prop)
    (hs : ∀ m s, I m s → wp (t s) (fun k s1 => if k then wp (body (s1.take n)) (fun fl s => onF (fun s => H1 (fun s2 => ∃ m', m' < m ∧ I m' s2) s) Q fl s) E else Q .next (s1.take n)) fun x s => E x (s.take n)) :
    ∀ (f m : Nat) (s : Sto), I m s → m < f → wp (whileE n t body f s) Q E
  | 0, m, s, _, hf => absurd hf (Nat.not_lt_zero _)
  | f + 1, m, s, h, hf => by
    rw [while_succ, wp_bs]
    refine wp_mono (hs m s h) (fun k s1 hk => ?_) fun _ _ h => h
    cases k with
    | false => exact hk
    | true =>
      simp only [if_true] at hk ⊢
      rw [wp_turn]
      refine wp_mono hk (fun fl t ht => ?_) fun _ _ h => h
      cases fl with
      | next => obtain ⟨m', h1, h2⟩ := ht; exact wp_while I hs f m' t h2 (by omega)
      | cont => obtain ⟨m', h1, h2⟩ := ht; exact wp_while I hs f m' t h2 (by omega)
      | brk => exact ht
      | ret v => exact ht
theorem wp_sWhile {n : Nat} {t : M Bool} {body : M Fl} {Q : Fl → Sto → Prop} {E : Xn → Sto → Prop} (I : Nat → Sto → Prop) (m : Nat) (s : Sto) (h : I m s) (hm : m < 1000000000)
    (hs : ∀ m s, I m s → wp (t s) (fun k s1 => if k then wp (body (s1.take n)) (fun fl s => onF (fun s => H1 (fun s2 => ∃ m', m' < m ∧ I m' s2) s) Q fl s) E else Q .next (s1.take n)) fun x s => E x (s.take n)) : wp (sWhile n t body s) Q E :=
  wp_while I hs FUEL m s h (by rw [FUEL_eq]; exact hm)
/-! comprehensions -/
def lcT (L : Nat) (vs : List Nat) (g : D → M Unit) (t : M Bool) (e : M Vl) (d : D) (s : Sto) : R (Option D) :=
  (g d s).bz fun _ st1 => (t st1).bz fun k st2 => if k then (e st2).bz fun v st3 => (frz v st3).bz fun y st4 => .ok (some y) (wipeS (st4.take L) vs) else .ok none (wipeS (st2.take L) vs)
@[simp] theorem run_lcT (L : Nat) (vs : List Nat) (g : D → M Unit) (t : M Bool) (e : M Vl) (d : D) (s : Sto) : lcT L vs g t e d s =
  (g d s).bz fun _ st1 => (t st1).bz fun k st2 => if k then (e st2).bz fun v st3 => (frz v st3).bz fun y st4 => .ok (some y) (wipeS (st4.take L) vs) else .ok none (wipeS (st2.take L) vs) := id rfl
def snocO (acc : List D) (o : Option D) : List D := match o with
  | some y => acc ++ [y]
  | none => acc
@[simp] theorem snocO_some (acc : List D) (y : D) : snocO acc (some y) = acc ++ [y] := id rfl
@[simp] theorem snocO_none (acc : List D) : snocO acc none = acc := id rfl
theorem lcE_cons' (L : Nat) (vs : List Nat) (g : D → M Unit) (t : M Bool) (e : M Vl) (d : D) (ds acc : List D) (s : Sto) (h : acc.length < szL) :
    lcE L vs g t e (d :: ds) acc s = (lcT L vs g t e d s).bz fun o s' => lcE L vs g t e ds (snocO acc o) s' := by
  rw [lcE_cons, lcT]
  cases g d s with
  | stuck => rfl
  | exc x t => rfl
  | ok u st1 =>
    simp only [bz_ok]
    cases t st1 with
    | stuck => rfl
    | exc x t => rfl
    | ok k st2 =>
      simp only [bz_ok]
      cases k with
      | false => rfl
      | true =>
        simp only [if_true]
        cases e st2 with
        | stuck => rfl
        | exc x t => rfl
        | ok v st3 =>
          simp only [bz_ok]
          cases frz v st3 with
          | stuck => rfl
          | exc x t => rfl
          | ok y st4 => simp only [bz_ok, if_pos h, snocO]
theorem wp_lc {γ : Type} (enc : γ → D) {L : Nat} {vs : List Nat} {g : D → M Unit} {t : M Bool} {e : M Vl} {Q : List D → Sto → Prop} {E : Xn → Sto → Prop} (I : List γ → List D → Sto → Prop) :
    ∀ (xs : List γ) (acc : List D) (s : Sto), I xs acc s → acc.length + xs.length ≤ szL →
    (∀ x rest acc s, x ∈ xs → I (x :: rest) acc s → wp (lcT L vs g t e (enc x) s) (fun o s' => H2 (I rest) (snocO acc o) s') noX) → (∀ acc s, I [] acc s → Q acc s) → wp (lcE L vs g t e (xs.map enc) acc s) Q E
  | [], acc, s, h, _, hs, he => he acc s h
  | x :: xs, acc, s, h, hl, hs, he => by
    rw [List.length_cons] at hl
    rw [List.map_cons, lcE_cons' _ _ _ _ _ _ _ _ _ (by omega), wp_bz]
    refine wp_mono (hs x xs acc s (List.mem_cons_self ..) h) (fun o t ht => ?_) fun _ _ h => h.elim
    refine wp_lc enc I xs _ t ht ?_ (fun y rest acc s hy => hs y rest acc s (List.mem_cons_of_mem _ hy)) he
    cases o with
    | none => show acc.length + _ ≤ _; omega
    | some y => show (acc ++ [y]).length + _ ≤ _; simp only [List.length_append, List.length_cons, List.length_nil]; omega
/-- over a range -/
theorem wp_lcR {L : Nat} {vs : List Nat} {g : D → M Unit} {t : M Bool} {e : M Vl} {Q : List D → Sto → Prop} {E : Xn → Sto → Prop} (a : Int) (m : Nat) (I : Nat → List D → Sto → Prop) (s : Sto) (h : I 0 [] s) (hm : m ≤ szL)
    (hs : ∀ i acc s, i < m → I i acc s → wp (lcT L vs g t e (.int (a + i)) s) (fun o s' => H2 (I (i + 1)) (snocO acc o) s') noX) (he : ∀ acc s, I m acc s → Q acc s) : wp (lcE L vs g t e (rngD a m) [] s) Q E := by
  refine wp_lc (fun i : Nat => D.int (a + i)) (fun rest acc s => ∃ i, rest = List.range' i (m - i) ∧ i ≤ m ∧ I i acc s) (List.range m) [] s ⟨0, by rw [List.range_eq_range', Nat.sub_zero], Nat.zero_le _, h⟩ (by simpa using hm) ?_ ?_
  · rintro x rest acc s hx ⟨i, e, hi, hI⟩
    have hlt : i < m := by
      apply Classical.byContradiction
      intro hn
      rw [show m - i = 0 by omega] at e
      simp at e
    rw [show m - i = (m - (i + 1)) + 1 by omega, List.range'_succ] at e
    rw [(List.cons.inj e).1, (List.cons.inj e).2]
    exact wp_mono (hs i acc s hlt hI) (fun o s' hh => ⟨i + 1, rfl, hlt, hh⟩) fun _ _ h => h
  · rintro acc s ⟨i, e, hi, hI⟩
    have : i = m := by
      have := congrArg List.length e
      simp at this; omega
    subst this
    exact he acc s hI
/-- each turn leaves the state as it was -/
theorem lc_filterMap {γ : Type} (enc : γ → D) (f : γ → Option D) {L : Nat} {vs : List Nat} {g : D → M Unit} {t : M Bool} {e : M Vl} {s : Sto} :
    ∀ (xs : List γ) (acc : List D), acc.length + xs.length ≤ szL → (∀ x ∈ xs, lcT L vs g t e (enc x) s = .ok (f x) s) → lcE L vs g t e (xs.map enc) acc s = .ok (acc ++ xs.filterMap f) s
  | [], acc, _, _ => by simp
  | x :: xs, acc, hl, h => by
    rw [List.length_cons] at hl
    have hl2 : (snocO acc (f x)).length + xs.length ≤ szL := by
      cases f x with
      | none => show acc.length + _ ≤ _; omega
      | some y => show (acc ++ [y]).length + _ ≤ _; simp only [List.length_append, List.length_cons, List.length_nil]; omega
    rw [List.map_cons, lcE_cons' _ _ _ _ _ _ _ _ _ (by omega), h x (List.mem_cons_self ..), bz_ok, lc_filterMap enc f xs _ hl2 fun y hy => h y (List.mem_cons_of_mem _ hy)]
    cases hf : f x with
    | none => simp [hf]
    | some y => simp [hf]
/-- the same, behind which Q is wanted -/
theorem wp_lcmap {γ : Type} (enc : γ → D) (f : γ → D) (xs : List γ) {L : Nat} {vs : List Nat} {g : D → M Unit} {t : M Bool} {e : M Vl} {s : Sto} {Q : List D → Sto → Prop} {E : Xn → Sto → Prop} (hl : xs.length ≤ szL)
    (h : ∀ x ∈ xs, lcT L vs g t e (enc x) s = .ok (some (f x)) s) (hq : Q (xs.map f) s) : wp (lcE L vs g t e (xs.map enc) [] s) Q E := by
  have e1 : xs.filterMap (fun x => some (f x)) = xs.map f := by
    induction xs with
    | nil => rfl
    | cons x xs ih => simp
  rw [lc_filterMap enc (fun x => some (f x)) xs [] (by simpa using hl) h, List.nil_append, e1]
  exact hq
theorem wp_lcfm {γ : Type} (enc : γ → D) (f : γ → Option D) (xs : List γ) {L : Nat} {vs : List Nat} {g : D → M Unit} {t : M Bool} {e : M Vl} {s : Sto} {Q : List D → Sto → Prop} {E : Xn → Sto → Prop} (hl : xs.length ≤ szL)
    (h : ∀ x ∈ xs, lcT L vs g t e (enc x) s = .ok (f x) s) (hq : Q (xs.filterMap f) s) : wp (lcE L vs g t e (xs.map enc) [] s) Q E := by
  rw [lc_filterMap enc f xs [] (by simpa using hl) h, List.nil_append]
  exact hq
theorem lc_map {γ : Type} (enc : γ → D) (f : γ → D) {L : Nat} {vs : List Nat} {g : D → M Unit} {t : M Bool} {e : M Vl} {s : Sto} (xs : List γ) (acc : List D) (hl : acc.length + xs.length ≤ szL)
    (h : ∀ x ∈ xs, lcT L vs g t e (enc x) s = .ok (some (f x)) s) : lcE L vs g t e (xs.map enc) acc s = .ok (acc ++ xs.map f) s := by
  rw [lc_filterMap enc (fun x => some (f x)) xs acc hl h]
  congr 1
  induction xs with
  | nil => rfl
  | cons x xs ih => simp
/-- a set comprehension of ints -/
theorem wp_scmap {γ : Type} (enc : γ → D) (f : γ → Int) (xs : List γ) {L : Nat} {vs : List Nat} {g : D → M Unit} {t : M Bool} {e : M Vl} {s : Sto} {Q : List Int → Sto → Prop} {E : Xn → Sto → Prop} (hl : xs.length < 4096)
    (h : ∀ x ∈ xs, lcT L vs g t e (enc x) s = .ok (some (.int (f x))) s) (hq : Q (xs.map f) s) : wp (scE L vs g t e (xs.map enc) [] s) Q E := by
  have e1 := lc_map enc (fun x => D.int (f x)) xs [] (by have z : szL = 16777216 := rfl; rw [z]; simp; omega) h
  rw [List.nil_append] at e1
  rw [scE_of (acc := []) (ns := xs.map f) (st' := s) (by rw [List.map_nil, List.map_map]; exact e1) (by simpa using hl)]
  exact hq
end
/-! ### what == may ask -/
def Shp (k : Nat) (d : D) : Prop := (py d).canLay0 = true ∧ (py d).depth ≤ k
def Shps (k : Nat) (ds : List D) : Prop := PyData.canLayAll0 (pys ds) = true ∧ PyData.depthAll (pys ds) ≤ k
theorem Shp.ok {d : D} {k : Nat} (h : Shp k d) (hk : k ≤ 64) : shD d = true := by
  unfold shD SeqAt.shaped
  rw [h.1, Bool.true_and]
  exact decide_eq_true (Nat.le_trans h.2 hk)
theorem Shp.int (i : Int) (k : Nat) : Shp k (.int i) := ⟨rfl, Nat.zero_le _⟩
theorem Shp.bl (b : Bool) (k : Nat) : Shp k (.bl b) := ⟨rfl, Nat.zero_le _⟩
theorem Shp.non (k : Nat) : Shp k .non := ⟨rfl, Nat.zero_le _⟩
theorem Shps.nil (k : Nat) : Shps k [] := ⟨rfl, Nat.zero_le _⟩
theorem Shps.cons {k : Nat} {d : D} {ds : List D} (h : Shp k d) (t : Shps k ds) : Shps k (d :: ds) := by
  refine ⟨?_, ?_⟩
  · show (PyData.canLay0 (py d) && PyData.canLayAll0 (pys ds)) = true
    rw [h.1, t.1]; rfl
  · show max (PyData.depth (py d)) (PyData.depthAll (pys ds)) ≤ k
    exact Nat.max_le.mpr ⟨h.2, t.2⟩
theorem Shps.of {k : Nat} : ∀ {ds : List D}, (∀ d ∈ ds, Shp k d) → Shps k ds
  | [], _ => .nil k
  | d :: ds, h => .cons (h d (List.mem_cons_self ..)) (Shps.of fun e he => h e (List.mem_cons_of_mem _ he))
theorem Shps.map {γ : Type} {k : Nat} {f : γ → D} {l : List γ} (h : ∀ x, Shp k (f x)) : Shps k (l.map f) := .of fun d hd => by
  obtain ⟨x, _, rfl⟩ := List.mem_map.mp hd; exact h x
theorem Shp.tup {k : Nat} {ds : List D} (h : Shps k ds) : Shp (k + 1) (.tup ds) := by
  refine ⟨?_, ?_⟩
  · show PyData.canLay0 (.tuple (pys ds)) = true
    unfold PyData.canLay0; exact h.1
  · show PyData.depth (.tuple (pys ds)) ≤ k + 1
    unfold PyData.depth; have := h.2; omega
theorem Shp.lst {k : Nat} {ds : List D} (h : Shps k ds) : Shp (k + 1) (.lst ds) := by
  refine ⟨?_, ?_⟩
  · show PyData.canLay0 (.list (pys ds)) = true
    unfold PyData.canLay0; exact h.1
  · show PyData.depth (.list (pys ds)) ≤ k + 1
    unfold PyData.depth; have := h.2; omega
theorem sh_tI (l : List Int) : shD (.tup (l.map D.int)) = true := (Shp.tup (k := 0) (.map fun i => .int i 0)).ok (by decide)
theorem sh_lI (l : List Int) : shD (.lst (l.map D.int)) = true := (Shp.lst (k := 0) (.map fun i => .int i 0)).ok (by decide)
theorem eq_tt (a b : List D) : cmpD .Eq (.tup a) (.tup b) = if shD (.tup a) && shD (.tup b) then some (eqD (.tup a) (.tup b)) else none := rfl
theorem ne_tt (a b : List D) : cmpD .NotEq (.tup a) (.tup b) = if shD (.tup a) && shD (.tup b) then some (!eqD (.tup a) (.tup b)) else none := rfl
theorem ne_sameT (a : List D) (h : shD (.tup a) = true) : cmpD .NotEq (.tup a) (.tup a) = some false := by
  rw [ne_tt, h, eqD_self]; rfl
theorem eq_sameT (a : List D) (h : shD (.tup a) = true) : cmpD .Eq (.tup a) (.tup a) = some true := by
  rw [eq_tt, h, eqD_self]; rfl
@[simp] theorem add_tt (a b : List D) : binD .Add (.tup a) (.tup b) = gd (decide (a.length + b.length ≤ szL)) (.val (.tup (a ++ b))) := id rfl
@[simp] theorem add_ll (a b : List D) : binD .Add (.lst a) (.lst b) = gd (decide (a.length + b.length ≤ szL)) (.own false (a ++ b)) := id rfl
def shK (k : Nat) (d : D) : Bool := (py d).canLay0 && decide ((py d).depth ≤ k)
def shKs (k : Nat) (ds : List D) : Bool := PyData.canLayAll0 (pys ds) && decide (PyData.depthAll (pys ds) ≤ k)
@[simp] theorem shD_K (d : D) : shD d = shK 64 d := id rfl
@[simp] theorem shK_int (k : Nat) (i : Int) : shK k (.int i) = true := by unfold shK py; simp [PyData.canLay0, PyData.depth]
@[simp] theorem shK_bl (k : Nat) (i : Bool) : shK k (.bl i) = true := by unfold shK py; simp [PyData.canLay0, PyData.depth]
@[simp] theorem shK_strOf (k : Nat) (x : Str) (h : PyData.strOk x = true) : shK k (.str x) = true := by unfold shK py; simp [PyData.canLay0, PyData.depth, h]
@[simp] theorem shK_non (k : Nat) : shK k .non = true := by unfold shK py; simp [PyData.canLay0, PyData.depth]
@[simp] theorem shK_tup (k : Nat) (ds : List D) : shK (k + 1) (.tup ds) = shKs k ds := by
  show (PyData.canLay0 (.tuple (pys ds)) && decide (PyData.depth (.tuple (pys ds)) ≤ k + 1)) = _
  unfold PyData.canLay0 PyData.depth shKs
  congr 1
  exact decide_eq_decide.mpr (by omega)
@[simp] theorem shK_lst (k : Nat) (ds : List D) : shK (k + 1) (.lst ds) = shKs k ds := by
  show (PyData.canLay0 (.list (pys ds)) && decide (PyData.depth (.list (pys ds)) ≤ k + 1)) = _
  unfold PyData.canLay0 PyData.depth shKs
  congr 1
  exact decide_eq_decide.mpr (by omega)
@[simp] theorem shKs_nil (k : Nat) : shKs k [] = true := by
  unfold shKs pys; simp [PyData.canLayAll0, PyData.depthAll]
@[simp] theorem shKs_cons (k : Nat) (d : D) (ds : List D) : shKs k (d :: ds) = (shK k d && shKs k ds) := by
  unfold shKs shK
  show (PyData.canLay0 (py d) && PyData.canLayAll0 (pys ds) && decide (max (PyData.depth (py d)) (PyData.depthAll (pys ds)) ≤ k)) = _
  rw [show decide (max (PyData.depth (py d)) (PyData.depthAll (pys ds)) ≤ k) = (decide (PyData.depth (py d) ≤ k) && decide (PyData.depthAll (pys ds) ≤ k)) by
    rw [← Bool.decide_and]; exact decide_eq_decide.mpr Nat.max_le]
  cases PyData.canLay0 (py d) <;> cases PyData.canLayAll0 (pys ds) <;> cases decide (PyData.depth (py d) ≤ k) <;> cases decide (PyData.depthAll (pys ds) ≤ k) <;> rfl
@[simp] theorem shKs_append (k : Nat) : ∀ (ds es : List D), shKs k (ds ++ es) = (shKs k ds && shKs k es)
  | [], es => by simp
  | d :: ds, es => by simp [shKs_append k ds es, Bool.and_assoc]
theorem shKs_all (k : Nat) : ∀ ds : List D, shKs k ds = ds.all (shK k)
  | [] => by simp
  | d :: ds => by simp [shKs_all k ds]
theorem shKs_of {k : Nat} {ds : List D} (h : ∀ d ∈ ds, shK k d = true) : shKs k ds = true := by rw [shKs_all, List.all_eq_true]; exact h
@[simp] theorem shKs_map {γ : Type} (k : Nat) (f : γ → D) (l : List γ) (h : ∀ x, shK k (f x) = true) : shKs k (l.map f) = true := shKs_of fun d hd => by
  obtain ⟨x, _, rfl⟩ := List.mem_map.mp hd; exact h x
@[simp] theorem shKs_rep (k n : Nat) (d : D) (h : shK k d = true) : shKs k (List.replicate n d) = true := shKs_of fun e he => by
  rw [List.eq_of_mem_replicate he]; exact h
@[simp] theorem shKs_rev (k : Nat) (ds : List D) : shKs k ds.reverse = shKs k ds := by rw [shKs_all, shKs_all, List.all_reverse]
@[simp] theorem eqD_sf (d : D) : eqD d d = true := eqD_self d
theorem cmp_ll (a b : List D) : cmpD .Eq (.lst a) (.lst b) = if shD (.lst a) && shD (.lst b) then some (eqD (.lst a) (.lst b)) else none := rfl
@[simp] theorem ceq_ll (a b : List D) (h1 : shKs 63 a = true) (h2 : shKs 63 b = true) : cmpD .Eq (.lst a) (.lst b) = some (eqD (.lst a) (.lst b)) := by
  rw [cmp_ll]; simp [h1, h2]
@[simp] theorem cne_ll (a b : List D) (h1 : shKs 63 a = true) (h2 : shKs 63 b = true) : cmpD .NotEq (.lst a) (.lst b) = some (!eqD (.lst a) (.lst b)) := by
  rw [ne_ll]; simp [h1, h2]
@[simp] theorem ceq_tt (a b : List D) (h1 : shKs 63 a = true) (h2 : shKs 63 b = true) : cmpD .Eq (.tup a) (.tup b) = some (eqD (.tup a) (.tup b)) := by
  rw [eq_tt]; simp [h1, h2]
@[simp] theorem cne_tt (a b : List D) (h1 : shKs 63 a = true) (h2 : shKs 63 b = true) : cmpD .NotEq (.tup a) (.tup b) = some (!eqD (.tup a) (.tup b)) := by
  rw [ne_tt]; simp [h1, h2]
@[simp] theorem eq_bb (a b : Bool) : cmpD .Eq (.bl a) (.bl b) = some (decide (a = b)) := id rfl
@[simp] theorem ne_bb (a b : Bool) : cmpD .NotEq (.bl a) (.bl b) = some (!decide (a = b)) := id rfl
@[simp] theorem is_non (d : D) : cmpD .Is d .non = some (isNon d) := by cases d <;> rfl
@[simp] theorem isnot_non (d : D) : cmpD .IsNot d .non = some (!isNon d) := by cases d <;> rfl
@[simp] theorem isNon_n : isNon .non = true := id rfl
@[simp] theorem isNon_i (i : Int) : isNon (.int i) = false := id rfl
@[simp] theorem isNon_t (i : List D) : isNon (.tup i) = false := id rfl
@[simp] theorem isNon_l (i : List D) : isNon (.lst i) = false := id rfl
@[simp] theorem isNon_b (i : Bool) : isNon (.bl i) = false := id rfl
/-! data without truth values: == is = -/
mutual
def nb : D → Bool
  | .bl _ => false
  | .tup ds => nbs ds
  | .lst ds => nbs ds
  | _ => true
def nbs : List D → Bool
  | [] => true
  | d :: ds => nb d && nbs ds
end
mutual
theorem eqD_nb : ∀ d e : D, nb d = true → nb e = true → eqD d e = true → d = e
  | .non, e, _, h, q => by cases e <;> first | rfl | (cases h; done) | (exact absurd q (by decide)) | (unfold eqD py at q; simp [PyData.eqv] at q)
  | .int i, e, _, h, q => by
    cases e with
    | int j => unfold eqD py at q; simp [PyData.eqv] at q; rw [q]
    | bl b => cases h
    | non => unfold eqD py at q; simp [PyData.eqv] at q
    | str x => unfold eqD py at q; simp [PyData.eqv] at q
    | tup x => unfold eqD py at q; simp [PyData.eqv] at q
    | lst x => unfold eqD py at q; simp [PyData.eqv] at q
  | .str i, e, _, h, q => by
    cases e with
    | str j => unfold eqD py at q; simp [PyData.eqv] at q; rw [q]
    | bl b => cases h
    | non => unfold eqD py at q; simp [PyData.eqv] at q
    | int x => unfold eqD py at q; simp [PyData.eqv] at q
    | tup x => unfold eqD py at q; simp [PyData.eqv] at q
    | lst x => unfold eqD py at q; simp [PyData.eqv] at q
  | .bl i, e, g, h, q => by cases g
  | .tup ds, e, g, h, q => by
    cases e with
    | tup es =>
      unfold nb at g h
      unfold eqD py at q
      simp only [PyData.eqv] at q
      rw [eqDs_nb ds es g h q]
    | bl b => cases h
    | non => unfold eqD py at q; simp [PyData.eqv] at q
    | int x => unfold eqD py at q; simp [PyData.eqv] at q
    | str x => unfold eqD py at q; simp [PyData.eqv] at q
    | lst x => unfold eqD py at q; simp [PyData.eqv] at q
  | .lst ds, e, g, h, q => by
    cases e with
    | lst es =>
      unfold nb at g h
      unfold eqD py at q
      simp only [PyData.eqv] at q
      rw [eqDs_nb ds es g h q]
    | bl b => cases h
    | non => unfold eqD py at q; simp [PyData.eqv] at q
    | int x => unfold eqD py at q; simp [PyData.eqv] at q
    | str x => unfold eqD py at q; simp [PyData.eqv] at q
    | tup x => unfold eqD py at q; simp [PyData.eqv] at q
theorem eqDs_nb : ∀ ds es : List D, nbs ds = true → nbs es = true → PyData.eqvAll (pys ds) (pys es) = true → ds = es
  | [], [], _, _, _ => rfl
  | [], e :: es, _, _, q => by unfold pys at q; simp [PyData.eqvAll] at q
  | d :: ds, [], _, _, q => by unfold pys at q; simp [PyData.eqvAll] at q
  | d :: ds, e :: es, g, h, q => by
    unfold nbs at g h
    rw [Bool.and_eq_true] at g h
    unfold pys at q
    simp only [PyData.eqvAll, Bool.and_eq_true] at q
    rw [eqD_nb d e g.1 h.1 q.1, eqDs_nb ds es g.2 h.2 q.2]
end
theorem eqD_iff {d e : D} (h1 : nb d = true) (h2 : nb e = true) : eqD d e = true ↔ d = e := ⟨eqD_nb d e h1 h2, fun h => by rw [h]; exact eqD_self e⟩
theorem eqD_ff {d e : D} (h1 : nb d = true) (h2 : nb e = true) (h : d ≠ e) : eqD d e = false := by
  cases q : eqD d e with
  | false => rfl
  | true => exact absurd (eqD_nb d e h1 h2 q) h
theorem nbs_map {γ : Type} {f : γ → D} : ∀ {l : List γ}, (∀ x, nb (f x) = true) → nbs (l.map f) = true
  | [], _ => rfl
  | x :: l, h => by show (nb (f x) && nbs (l.map f)) = true; rw [h x, nbs_map h]; rfl
@[simp] theorem powG_def (a b : Int) : powG a b = (decide (0 ≤ b) && decide (b ≤ 1000000) && decide (a.natAbs < 2 ^ 64)) := id rfl
@[simp] theorem sm62_of (j : Int) (h1 : -4611686018427387904 ≤ j) (h2 : j < 4611686018427387904) : sm62 j = true := by
  unfold sm62; rw [Bool.and_eq_true]; exact ⟨decide_eq_true (by omega), decide_eq_true (by omega)⟩
end PU
namespace PU
open PySem PySem.Spec PyProof.Rows L2
/-! ### slices, places -/
@[simp] theorem run_noPart (s : Sto) : xNoPart s = .ok none s := id rfl
@[simp] theorem run_ap3 (f : D → Option Int → Option Int → Option Slot) (u : Vl) (lo hi : Option Int) (s : Sto) : ap3 f u lo hi s = al1 (fun d => f d lo hi) (rd u s) s := by
  unfold ap3; rw [run_ap1]
@[simp] theorem sl_l (ds : List D) (lo hi : Option Int) : slD (.lst ds) lo hi = some (.own false (cutD ds lo hi)) := id rfl
@[simp] theorem sl_t (ds : List D) (lo hi : Option Int) : slD (.tup ds) lo hi = some (.val (.tup (cutD ds lo hi))) := id rfl
@[simp] theorem tuple_l (ds : List D) : bTuple [.lst ds] = some (.val (.tup ds)) := id rfl
@[simp] theorem tuple_t (ds : List D) : bTuple [.tup ds] = some (.val (.tup ds)) := id rfl
@[simp] theorem list_l (ds : List D) : bList [.lst ds] = some (.own false ds) := id rfl
@[simp] theorem list_t (ds : List D) : bList [.tup ds] = some (.own false ds) := id rfl
@[simp] theorem cut_nn (ds : List D) : cutD ds none none = ds := by
  unfold cutD; rw [HT.sIx_none, HT.sIx_none, Nat.sub_zero, List.drop_zero, List.take_length]
@[simp] theorem cut_hi (ds : List D) (i : Int) (h : 0 ≤ i) : cutD ds none (some i) = ds.take i.toNat := by
  obtain ⟨k, rfl⟩ : ∃ k : Nat, i = k := ⟨i.toNat, by omega⟩
  unfold cutD
  rw [HT.sIx_none, HT.sIx_nat]
  simp
@[simp] theorem cut_lo (ds : List D) (i : Int) (h : 0 ≤ i) : cutD ds (some i) none = ds.drop i.toNat := by
  obtain ⟨k, rfl⟩ : ∃ k : Nat, i = k := ⟨i.toNat, by omega⟩
  unfold cutD
  rw [HT.sIx_none, HT.sIx_nat, Int.toNat_natCast]
  by_cases hk : k ≤ ds.length
  · rw [Nat.min_eq_left hk, List.take_of_length_le (by rw [List.length_drop]; omega)]
  · rw [Nat.min_eq_right (by omega), List.drop_length, List.drop_eq_nil_of_le (by omega)]; simp
@[simp] theorem cut_lh (ds : List D) (i j : Int) (h : 0 ≤ i) (hj : 0 ≤ j) : cutD ds (some i) (some j) = (ds.drop i.toNat).take (j.toNat - i.toNat) := by
  obtain ⟨k, rfl⟩ : ∃ k : Nat, i = k := ⟨i.toNat, by omega⟩
  obtain ⟨l, rfl⟩ : ∃ k : Nat, j = k := ⟨j.toNat, by omega⟩
  unfold cutD
  rw [HT.sIx_nat, HT.sIx_nat, Int.toNat_natCast, Int.toNat_natCast]
  by_cases hk : k ≤ ds.length
  · rw [Nat.min_eq_left hk]
    by_cases hl : l ≤ ds.length
    · rw [Nat.min_eq_left hl]
    · rw [Nat.min_eq_right (by omega), List.take_of_length_le (by rw [List.length_drop]; omega), List.take_of_length_le (by rw [List.length_drop]; omega)]
  · rw [Nat.min_eq_right (show ds.length ≤ k by omega), List.drop_length, List.drop_eq_nil_of_le (show ds.length ≤ k by omega)]; simp
@[simp] theorem cut_last (ds : List D) : cutD ds none (some (-1)) = ds.dropLast := by
  unfold cutD
  rw [HT.sIx_none, List.dropLast_eq_take]
  unfold HT.sIx
  simp
  congr 1
  omega
theorem at_nn {α : Type} (xs : List α) (i : Int) (h : 0 ≤ i) : atI xs i = xs[i.toNat]? := by
  unfold atI ixN
  rw [if_pos h]
  by_cases hi : i < (xs.length : Int)
  · rw [if_pos hi]; rfl
  · rw [if_neg hi, List.getElem?_eq_none (by omega)]; rfl
@[simp] theorem at_nnD (xs : List D) (i : Int) (h : 0 ≤ i) : atI xs i = xs[i.toNat]? := at_nn xs i h
theorem at_i {l : List Int} {j : Nat} {z i : Int} (h : l[j]? = some z) (hi : i = (j : Int)) : atI (l.map D.int) i = some (.int z) := by
  rw [at_nn _ _ (by omega), hi, Int.toNat_natCast, List.getElem?_map, h]; rfl
theorem at_f {γ : Type} {f : γ → D} {l : List γ} {j : Nat} {z : γ} {i : Int} (h : l[j]? = some z) (hi : i = (j : Int)) : atI (l.map f) i = some (f z) := by
  rw [at_nn _ _ (by omega), hi, Int.toNat_natCast, List.getElem?_map, h]; rfl
@[simp] theorem at_m1 (xs : List D) : atI xs (-1) = xs.getLast? := by
  unfold atI ixN
  rw [if_neg (by decide), List.getLast?_eq_getElem?]
  by_cases h : xs.length = 0
  · rw [if_neg (by omega), List.getElem?_eq_none (by omega)]; rfl
  · rw [if_pos (by omega)]
    show xs[((-1 : Int) + (xs.length : Int)).toNat]? = _
    congr 1
    omega
@[simp] theorem ixN_nn (n : Nat) (i : Int) (h : 0 ≤ i) (hn : i.toNat < n) : ixN n i = some i.toNat := by
  unfold ixN; rw [if_pos h, if_pos (by omega)]
@[simp] theorem mul_ti (a : List D) (k : Int) : binD .Mult (.tup a) (.int k) = gd (decide (-1000 ≤ k) && decide (k ≤ 1000) && decide (a.length ≤ 1000)) (.val (.tup (List.replicate k.toNat a).flatten)) := id rfl
/-! ### sizes -/
theorem mul_fits {a b : Int} {n m : Nat} (ha : a.natAbs < 2 ^ n) (hb : b.natAbs < 2 ^ m) (h : n + m ≤ 134000000) : mulG a b = true := by
  apply mulG_of
  have h1 : a.natAbs.log2 ≤ n := by
    by_cases z : a.natAbs = 0
    · rw [z]; simp
    · exact Nat.le_of_lt ((Nat.log2_lt z).mpr ha)
  have h2 : b.natAbs.log2 ≤ m := by
    by_cases z : b.natAbs = 0
    · rw [z]; simp
    · exact Nat.le_of_lt ((Nat.log2_lt z).mpr hb)
  omega
theorem div_fits {b : Int} {n : Nat} (hb : b.natAbs < 2 ^ n) (h0 : b ≠ 0) (h : n < 9000) : divG b = true := by
  unfold divG
  have h2 : b.natAbs.log2 < n := (Nat.log2_lt (by omega)).mpr hb
  simp [h0]; omega
theorem log_fits {b : Int} {n : Nat} (hb : b.natAbs < 2 ^ n) (h : n < 9000) : b.natAbs.log2 < 9000 := by
  by_cases z : b.natAbs = 0
  · rw [z]; simp
  · exact Nat.lt_of_lt_of_le ((Nat.log2_lt z).mpr hb) (by omega)
theorem natAbs_mul_lt {a b : Int} {n m : Nat} (ha : a.natAbs < 2 ^ n) (hb : b.natAbs < 2 ^ m) : (a * b).natAbs < 2 ^ (n + m) := by
  rw [Int.natAbs_mul, Nat.pow_add]
  exact Nat.mul_lt_mul'' ha hb
theorem two_le {n m : Nat} (h : n ≤ m) : 2 ^ n ≤ 2 ^ m := Nat.pow_le_pow_right (by decide) h
theorem lt_two {a n m : Nat} (h : a < 2 ^ n) (hm : n ≤ m) : a < 2 ^ m := Nat.lt_of_lt_of_le h (two_le hm)
theorem bits_lt {n : Int} (h : Builtin.Int.intBits n ≤ 1048576) : n.natAbs < 2 ^ 1048576 := by
  by_cases z : n.natAbs = 0
  · rw [z]; exact Nat.two_pow_pos _
  · refine (Nat.log2_lt z).mp ?_
    have : Builtin.Int.intBits n = n.natAbs.log2 + 1 := by
      unfold Builtin.Int.intBits
      have hn : n ≠ 0 := by omega
      simp [hn]
    omega
/-- ints below 10 ** 50 or so -/
theorem e166 : (2 : Nat) ^ 166 = 93536104789177786765035829293842113257979682750464 := by decide
theorem mul_lit {a b : Int} (h1 : -90000000000000000000000000000000000000000000000000 < a) (h2 : a < 90000000000000000000000000000000000000000000000000) (h3 : -90000000000000000000000000000000000000000000000000 < b) (h4 : b < 90000000000000000000000000000000000000000000000000) : mulG a b = true :=
  mul_fits (n := 166) (m := 166) (by have := e166; omega) (by have := e166; omega) (by decide)
theorem div_lit {b : Int} (h0 : b ≠ 0) (h3 : -90000000000000000000000000000000000000000000000000 < b) (h4 : b < 90000000000000000000000000000000000000000000000000) : divG b = true :=
  div_fits (n := 166) (by have := e166; omega) h0 (by decide)
theorem log_lit {b : Int} (h3 : -90000000000000000000000000000000000000000000000000 < b) (h4 : b < 90000000000000000000000000000000000000000000000000) : b.natAbs.log2 < 9000 :=
  log_fits (n := 166) (by have := e166; omega) (by decide)
/-! ### all, any -/
theorem asB_map {γ : Type} (f : γ → Bool) : ∀ l : List γ, asB (l.map fun x => D.bl (f x)) = some (l.map f)
  | [] => rfl
  | x :: l => by
    rw [List.map_cons]
    unfold asB
    rw [asB_map f l]; rfl
theorem asB_rep (n : Nat) (b : Bool) : asB (List.replicate n (.bl b)) = some (List.replicate n b) := by
  rw [show List.replicate n (D.bl b) = (List.replicate n b).map fun x => D.bl x by simp, asB_map (fun x => x)]; simp
@[simp] theorem all_rep (n : Nat) : bAll [.lst (List.replicate n (.bl true))] = some (.val (.bl true)) := by
  show (asB (List.replicate n (D.bl true))).map _ = _
  rw [asB_rep]; simp
@[simp] theorem all_map {γ : Type} (f : γ → Bool) (l : List γ) : bAll [.lst (l.map fun x => D.bl (f x))] = some (.val (.bl (l.all f))) := by
  show (asB _).map _ = _
  rw [asB_map]; simp [Function.comp_def]
@[simp] theorem any_map {γ : Type} (f : γ → Bool) (l : List γ) : bAny [.lst (l.map fun x => D.bl (f x))] = some (.val (.bl (l.any f))) := by
  show (asB _).map _ = _
  rw [asB_map]; simp [Function.comp_def]
theorem asI_map {γ : Type} (f : γ → Int) : ∀ l : List γ, asI (l.map fun x => D.int (f x)) = some (l.map f)
  | [] => rfl
  | x :: l => by
    rw [List.map_cons]
    unfold asI
    rw [asI_map f l]; rfl
theorem eq_of_wp {α : Type} {r : R α} {v : α} {t : Sto} (h : wp r (fun a s => a = v ∧ s = t) noX) : r = .ok v t := by
  obtain ⟨a, s, e, rfl, rfl⟩ := wp_ex h
  exact e
/-! sequences of ints -/
abbrev tupD (l : List Int) : D := .tup (l.map D.int)
abbrev lstD (l : List Int) : D := .lst (l.map D.int)
abbrev cellsD (ns : List Int) : Slot := .val (.lst (ns.map D.int))
theorem rng_nat (n : Nat) : rngD 0 n = (List.range n).map fun k => .int ((k : Nat) : Int) := by
  unfold rngD; apply List.map_congr_left; intro k _; simp
@[simp] theorem frzs_app (ds : List D) (vs : List Vl) (s : Sto) : frzs (dats ds ++ vs) s = (frzs vs s).bd fun es => PU.ret (ds ++ es) := by
  induction ds with
  | nil => simp; cases frzs vs s <;> rfl
  | cons d ds ih =>
    rw [dats_cons, List.cons_append, run_frzs, run_frz_dat, bd_ok, run_bnd, ih]
    cases frzs vs s <;> rfl
@[simp] theorem frzs_dats' (ds : List D) (s : Sto) : frzs (dats ds) s = .ok ds s := frzs_dats ds s
@[simp] theorem dats_app (ds es : List D) : dats ds ++ dats es = dats (ds ++ es) := by unfold dats; simp
@[simp] theorem zip_ll (ds es : List D) : zipO (.lst ds) (.lst es) = some (zipD ds es) := id rfl
@[simp] theorem zip_tt (ds es : List D) : zipO (.tup ds) (.tup es) = some (zipD ds es) := id rfl
theorem enumI (l : List Int) : enumD (l.map D.int) = (l.zipIdx 0).map fun p => .tup [.int ((p.2 : Nat) : Int), .int p.1] := by
  unfold enumD; rw [List.zipIdx_map]; simp
theorem zipI (l m : List Int) : zipD (l.map D.int) (m.map D.int) = (l.zip m).map fun p => .tup [.int p.1, .int p.2] := by
  unfold zipD; rw [List.zip_map]; simp
/-! ### append -/
def apE (o : Option Slot) (j : Nat) (d : D) (s : Sto) : R Vl := match o with
  | some (.own false ds) => if ds.length < szL then .ok (.dat .non) (s.set j (.own false (ds ++ [d]))) else .stuck
  | _ => .stuck
@[simp] theorem apE_own (ds : List D) (j : Nat) (d : D) (s : Sto) : apE (some (.own false ds)) j d s = if ds.length < szL then .ok (.dat .non) (s.set j (.own false (ds ++ [d]))) else .stuck := id rfl
def apS (o : Option Slot) (j : Nat) (f : M Vl) (s : Sto) : R Vl := match o with
  | some (.own false _) => (f s).bd fun v => bnd (frz v) fun d st1 => apE st1[j]? j d st1
  | _ => .stuck
@[simp] theorem apS_own (ds : List D) (j : Nat) (f : M Vl) (s : Sto) : apS (some (.own false ds)) j f s = (f s).bd fun v => bnd (frz v) fun d st1 => apE st1[j]? j d st1 := id rfl
@[simp ↓] theorem run_xApp (j : Nat) (f : M Vl) (s : Sto) : xApp j f s = apS s[j]? j f s := by
  unfold xApp apS apE
  split <;> rfl
/-! ### comprehensions with two clauses -/
@[simp ↓] theorem run_xLc2 (vs vs1 : List Nat) (it : M (List D)) (g : D → M Unit) (t : M Bool) (it1 : M (List D)) (g1 : D → M Unit) (t1 : M Bool) (e : M Vl) (s : Sto) : xLc2 vs vs1 it g t it1 g1 t1 e s = (it s).bd (lc2Go vs vs1 g t it1 g1 t1 e) := id rfl
@[simp ↓] theorem run_lc2Go (vs vs1 : List Nat) (g : D → M Unit) (t : M Bool) (it1 : M (List D)) (g1 : D → M Unit) (t1 : M Bool) (e : M Vl) (ds : List D) (s : Sto) : lc2Go vs vs1 g t it1 g1 t1 e ds s = if calmV s vs then lcF (lc2E s.length vs vs1 g t it1 g1 t1 e ds [] (wipeS s vs)) vs s else .stuck := by
  unfold lc2Go lcF; rfl
theorem lc2E_cons (L : Nat) (vs vs1 : List Nat) (g : D → M Unit) (t : M Bool) (it1 : M (List D)) (g1 : D → M Unit) (t1 : M Bool) (e : M Vl) (d : D) (ds acc : List D) (s : Sto) : lc2E L vs vs1 g t it1 g1 t1 e (d :: ds) acc s =
    (g d s).bz fun _ st1 => (t st1).bz fun k st2 => if k then (it1 st2).bz fun es st3 => (lcE st3.length vs1 g1 t1 e es acc (wipeS st3 vs1)).bz fun acc' st4 => lc2E L vs vs1 g t it1 g1 t1 e ds acc' (wipeS (st4.take L) vs) else lc2E L vs vs1 g t it1 g1 t1 e ds acc (wipeS (st2.take L) vs) := by
  rw [lc2E]
  dsimp only
  cases g d s with
  | stuck => rfl
  | exc x t => rfl
  | ok u st1 =>
    simp only [bz_ok]
    cases t st1 with
    | stuck => rfl
    | exc x t => rfl
    | ok k st2 =>
      simp only [bz_ok]
      cases k with
      | false => rfl
      | true =>
        simp only [if_true]
        cases it1 st2 with
        | stuck => rfl
        | exc x t => rfl
        | ok es st3 =>
          simp only [bz_ok]
          cases lcE st3.length vs1 g1 t1 e es acc (wipeS st3 vs1) <;> rfl
theorem wp_lc2 {γ : Type} (enc : γ → D) {L : Nat} {vs vs1 : List Nat} {g : D → M Unit} {t : M Bool} {it1 : M (List D)} {g1 : D → M Unit} {t1 : M Bool} {e : M Vl} {Q : List D → Sto → Prop} {E : Xn → Sto → Prop} (I : List γ → List D → Sto → Prop) :
    ∀ (xs : List γ) (acc : List D) (s : Sto), I xs acc s →
    (∀ x rest acc s, x ∈ xs → I (x :: rest) acc s → wp (g (enc x) s) (fun _ s1 => wp (t s1) (fun k s2 => if k then wp (it1 s2) (fun es s3 => wp (lcE s3.length vs1 g1 t1 e es acc (wipeS s3 vs1)) (fun acc' s4 => H2 (I rest) acc' (wipeS (s4.take L) vs)) noX) noX else H2 (I rest) acc (wipeS (s2.take L) vs)) noX) noX) →
    (∀ acc s, I [] acc s → Q acc s) → wp (lc2E L vs vs1 g t it1 g1 t1 e (xs.map enc) acc s) Q E
  | [], acc, s, h, hs, he => he acc s h
  | x :: xs, acc, s, h, hs, he => by
    rw [List.map_cons, lc2E_cons, wp_bz]
    have ih := fun acc s hI => wp_lc2 (L := L) (vs := vs) (vs1 := vs1) (g := g) (t := t) (it1 := it1) (g1 := g1) (t1 := t1) (e := e) (Q := Q) (E := E) enc I xs acc s hI (fun y rest acc s hy => hs y rest acc s (List.mem_cons_of_mem _ hy)) he
    refine wp_mono (hs x xs acc s (List.mem_cons_self ..) h) (fun _ s1 h1 => ?_) fun _ _ h => h.elim
    rw [wp_bz]
    refine wp_mono h1 (fun k s2 h2 => ?_) fun _ _ h => h.elim
    cases k with
    | false => exact ih _ _ h2
    | true =>
      simp only [if_true] at h2 ⊢
      rw [wp_bz]
      refine wp_mono h2 (fun es s3 h3 => ?_) fun _ _ h => h.elim
      rw [wp_bz]
      exact wp_mono h3 (fun acc' s4 h4 => ih _ _ h4) fun _ _ h => h.elim
/-- each turn leaves the state as it was -/
theorem wp_lc2fm {γ δ : Type} (enc : γ → D) (enc1 : δ → D) (inn : γ → List δ) (f : γ → δ → Option D) (xs : List γ) {L : Nat} {vs vs1 : List Nat} {g : D → M Unit} {t : M Bool} {it1 : M (List D)} {g1 : D → M Unit} {t1 : M Bool} {e : M Vl} {s : Sto} {Q : List D → Sto → Prop} {E : Xn → Sto → Prop} (N : Nat) (hN : ∀ x ∈ xs, (inn x).length ≤ N) (hl : xs.length * N ≤ szL)
    (h : ∀ x ∈ xs, wp (g (enc x) s) (fun _ s1 => wp (t s1) (fun k s2 => k = true ∧ wp (it1 s2) (fun es s3 => es = (inn x).map enc1 ∧ (∀ y ∈ inn x, lcT s3.length vs1 g1 t1 e (enc1 y) (wipeS s3 vs1) = .ok (f x y) (wipeS s3 vs1)) ∧ wipeS ((wipeS s3 vs1).take L) vs = s) noX) noX) noX)
    (hq : Q (xs.flatMap fun x => (inn x).filterMap (f x)) s) : wp (lc2E L vs vs1 g t it1 g1 t1 e (xs.map enc) [] s) Q E := by
  refine wp_lc2 enc (fun rest acc s' => s' = s ∧ acc ++ (rest.flatMap fun x => (inn x).filterMap (f x)) = (xs.flatMap fun x => (inn x).filterMap (f x)) ∧ acc.length + rest.length * N ≤ xs.length * N ∧ ∀ x ∈ rest, x ∈ xs) xs [] s ⟨rfl, rfl, by simp, fun x hx => hx⟩ ?_ ?_
  · rintro x rest acc _ hx ⟨rfl, hacc, hlen, hsub⟩
    rw [List.length_cons, Nat.add_mul, Nat.one_mul] at hlen
    refine wp_mono (h x hx) (fun _ s1 h1 => ?_) fun _ _ h => h.elim
    refine wp_mono h1 (fun k s2 h2 => ?_) fun _ _ h => h.elim
    obtain ⟨rfl, h2⟩ := h2
    simp only [if_true]
    refine wp_mono h2 (fun es s3 h3 => ?_) fun _ _ h => h.elim
    obtain ⟨rfl, h4, h5⟩ := h3
    have hn := hN x hx
    rw [lc_filterMap enc1 (f x) (inn x) acc (by omega) h4]
    have hfl := List.length_filterMap_le (f x) (inn x)
    refine H2.mk ⟨h5, ?_, ?_, fun y hy => hsub y (List.mem_cons_of_mem _ hy)⟩
    · rw [← hacc, List.flatMap_cons, List.append_assoc]
    · rw [List.length_append]; omega
  · rintro acc _ ⟨rfl, hacc, -, -⟩
    rw [List.flatMap_nil, List.append_nil] at hacc
    rw [hacc]; exact hq
/-! ### in, not in -/
@[simp] theorem eqD_ii (a b : Int) : eqD (.int a) (.int b) = decide (a = b) := by unfold eqD py; simp only [PyData.eqv]; rw [Bool.eq_iff_iff, beq_iff_eq, decide_eq_true_eq]
@[simp] theorem flatD_i (a : Int) : flatD (.int a) = true := id rfl
@[simp] theorem flatD_n : flatD .non = true := id rfl
@[simp] theorem flatD_b (b : Bool) : flatD (.bl b) = true := id rfl
@[simp] theorem flatD_s (b : Str) : flatD (.str b) = true := id rfl
@[simp] theorem in_l (d : D) (l : List D) (h : flatD d = true) (h2 : l.all flatD = true) : cmpD .In d (.lst l) = some (memD d l) := by
  show (if flatD d && l.all flatD then _ else _) = _
  rw [h, h2]; rfl
@[simp] theorem in_t (d : D) (l : List D) (h : flatD d = true) (h2 : l.all flatD = true) : cmpD .In d (.tup l) = some (memD d l) := by
  show (if flatD d && l.all flatD then _ else _) = _
  rw [h, h2]; rfl
@[simp] theorem notin_l (d : D) (l : List D) (h : flatD d = true) (h2 : l.all flatD = true) : cmpD .NotIn d (.lst l) = some (!memD d l) := by
  show (if flatD d && l.all flatD then _ else _) = _
  rw [h, h2]; rfl
@[simp] theorem notin_t (d : D) (l : List D) (h : flatD d = true) (h2 : l.all flatD = true) : cmpD .NotIn d (.tup l) = some (!memD d l) := by
  show (if flatD d && l.all flatD then _ else _) = _
  rw [h, h2]; rfl
@[simp] theorem memD_nil (d : D) : memD d [] = false := id rfl
@[simp] theorem memD_cons (d e : D) (l : List D) : memD d (e :: l) = (eqD e d || memD d l) := id rfl
theorem memD_ints (a : Int) (l : List Int) : memD (.int a) (l.map D.int) = decide (a ∈ l) := by
  induction l with
  | nil => rfl
  | cons b l ih =>
    rw [List.map_cons, memD_cons, ih, eqD_ii]
    by_cases h : b = a
    · subst h; simp
    · have h' : ¬ a = b := fun e => h e.symm
      simp [h, h']
/-! ### sorted -/
theorem asI_ints (l : List Int) : asI (l.map D.int) = some l := by
  have := asI_map (fun x : Int => x) l
  simpa using this
@[simp] theorem sorted_I (l : List Int) : bSorted [.lst (l.map D.int)] = some (.own false ((l.mergeSort leB).map D.int)) := by
  unfold bSorted; simp only [asI_ints]
/-! ### the words of PU12H -/
@[simp ↓] theorem run_itZ2 (a b : M Vl) (s : Sto) : itZ2 a b s = (a s).bd fun v => bnd b fun w => bnd (frz v) fun d => bnd (frz w) fun e => ofO (zipO2 d e) := id rfl
@[simp ↓] theorem run_itZ3 (a b c : M Vl) (s : Sto) : itZ3 a b c s = (a s).bd fun v => bnd b fun w => bnd c fun u => bnd (frz v) fun d => bnd (frz w) fun e => bnd (frz u) fun f => ofO (zipO3 d e f) := id rfl
@[simp] theorem zip2_ll (ds es : List D) : zipO2 (.lst ds) (.lst es) = some (zipD ds es) := id rfl
@[simp] theorem zip2_tt (ds es : List D) : zipO2 (.tup ds) (.tup es) = some (zipD ds es) := id rfl
@[simp] theorem zip2_lt (ds es : List D) : zipO2 (.lst ds) (.tup es) = some (zipD ds es) := id rfl
@[simp] theorem zip2_tl (ds es : List D) : zipO2 (.tup ds) (.lst es) = some (zipD ds es) := id rfl
@[simp] theorem zip3_ttt (ds es fs : List D) : zipO3 (.tup ds) (.tup es) (.tup fs) = some (zipD3 ds es fs) := id rfl
theorem zipI3 (l m n : List Int) : zipD3 (l.map D.int) (m.map D.int) (n.map D.int) = (l.zip (m.zip n)).map fun p => .tup [.int p.1, .int p.2.1, .int p.2.2] := by
  unfold zipD3; rw [List.zip_map, List.zip_map]; simp
@[simp ↓] theorem run_itR3b (a b c : M Vl) (s : Sto) : itR3b a b c s = (a s).bd fun v => bnd b fun w => bnd c fun u => bnd (getI v) fun i => bnd (getI w) fun j => bnd (getI u) fun k => if sm62 i && sm62 j && decide (k = -1) then PU.ret (rngC i (-1) (i - j).toNat) else if stepG i j k then PU.ret (rngC i k (stepN i j k)) else bad := id rfl
@[simp ↓] theorem run_xLR (lt : Bool) (it : M (List D)) (s : Sto) : xLR lt it s = (it s).bd (putL lt) := id rfl
@[simp] theorem run_putL_l (ds : List D) (s : Sto) : putL true ds s = if ds.length ≤ szL then PU.alloc (.own false ds) s else .stuck := by
  unfold putL; split <;> rfl
@[simp] theorem run_putL_t (ds : List D) (s : Sto) : putL false ds s = if ds.length ≤ szL then PU.alloc (.val (.tup ds)) s else .stuck := by
  unfold putL; split <;> rfl
@[simp] theorem rngC_length (i k : Int) (n : Nat) : (rngC i k n).length = n := rngC_len i k n
def exS (o : Option Slot) (j : Nat) (f : M Vl) (s : Sto) : R Vl := match o with
  | some (.own false _) => (f s).bd (extG j)
  | _ => .stuck
@[simp] theorem exS_own (ds : List D) (j : Nat) (f : M Vl) (s : Sto) : exS (some (.own false ds)) j f s = (f s).bd (extG j) := id rfl
@[simp ↓] theorem run_xExt (j : Nat) (f : M Vl) (s : Sto) : xExt j f s = exS s[j]? j f s := by
  unfold xExt exS; split <;> rfl
def exT (o : Option D) (o' : Option Slot) (j : Nat) (s : Sto) : R Vl := match o, o' with
  | some (.lst es), some (.own false ds) => if ds.length + es.length ≤ szL then .ok (.dat .non) (s.set j (.own false (ds ++ es))) else .stuck
  | _, _ => .stuck
@[simp] theorem exT_own (es ds : List D) (j : Nat) (s : Sto) : exT (some (.lst es)) (some (.own false ds)) j s = if ds.length + es.length ≤ szL then .ok (.dat .non) (s.set j (.own false (ds ++ es))) else .stuck := id rfl
@[simp] theorem run_extG (j : Nat) (v : Vl) (s : Sto) : extG j v s = exT (rd v s) s[j]? j s := by
  unfold extG exT; rfl
@[simp] theorem isLs_own (k : Bool) (ds : List D) : isLs (some (.own k ds)) = true := id rfl
@[simp] theorem isLs_val (ds : List D) : isLs (some (.val (.lst ds))) = true := id rfl
@[simp ↓] theorem run_xIdx (j : Nat) (f : M Vl) (s : Sto) : xIdx j f s = if isLs s[j]? then (f s).bd (idxG j) else .stuck := id rfl
def ixO (o : Option Nat) (s : Sto) : R Vl := match o with
  | some k => .ok (.dat (.int (k : Nat))) s
  | none => .stuck
@[simp] theorem ixO_some (k : Nat) (s : Sto) : ixO (some k) s = .ok (.dat (.int (k : Nat))) s := id rfl
def ixS (o o' : Option D) (s : Sto) : R Vl := match o, o' with
  | some d, some (.lst ds) => if flatD d && ds.all flatD then ixO (idxD d ds) s else .stuck
  | _, _ => .stuck
@[simp] theorem ixS_some (d : D) (ds : List D) (s : Sto) : ixS (some d) (some (.lst ds)) s = if flatD d && ds.all flatD then ixO (idxD d ds) s else .stuck := id rfl
@[simp] theorem run_idxG (j : Nat) (v : Vl) (s : Sto) : idxG j v s = ixS (rd v s) (rd (.loc j) s) s := by
  unfold idxG ixS ixO; rfl
def agI (n j : Nat) (fi : M Vl) (op : Operator) (f : M Vl) (o : Option Slot) (s : Sto) : R Fl := match o with
  | some (.own _ _) => if isAug op then (fi s).bs n (augI1 n j op f) else .stuck
  | _ => .stuck
@[simp] theorem agI_own (n j : Nat) (fi : M Vl) (op : Operator) (f : M Vl) (k : Bool) (ds : List D) (s : Sto) : agI n j fi op f (some (.own k ds)) s = if isAug op then (fi s).bs n (augI1 n j op f) else .stuck := id rfl
@[simp ↓] theorem run_sAugI (n j : Nat) (fi : M Vl) (op : Operator) (f : M Vl) (s : Sto) : sAugI n j fi op f s = agI n j fi op f s[j]? s := by
  unfold sAugI agI; rfl
def ag1O (n j : Nat) (op : Operator) (f : M Vl) (k : Int) (o : Option D) (s : Sto) : R Fl := match o with
  | some (.int a) => (f s).bs n (augI2 n j op k a)
  | _ => .stuck
@[simp] theorem ag1O_int (n j : Nat) (op : Operator) (f : M Vl) (k a : Int) (s : Sto) : ag1O n j op f k (some (.int a)) s = (f s).bs n (augI2 n j op k a) := id rfl
def ag1 (n j : Nat) (op : Operator) (f : M Vl) (o : Option D) (o' : Option Slot) (s : Sto) : R Fl := match o, o' with
  | some (.int k), some (.own false ds) => if 0 ≤ k then ag1O n j op f k ds[k.toNat]? s else .stuck
  | _, _ => .stuck
@[simp] theorem ag1_own (n j : Nat) (op : Operator) (f : M Vl) (k : Int) (ds : List D) (s : Sto) : ag1 n j op f (some (.int k)) (some (.own false ds)) s = if 0 ≤ k then ag1O n j op f k ds[k.toNat]? s else .stuck := id rfl
@[simp] theorem run_augI1 (n j : Nat) (op : Operator) (f : M Vl) (v : Vl) (s : Sto) : augI1 n j op f v s = ag1 n j op f (rd v s) s[j]? s := by
  unfold augI1 ag1 ag1O bndS R.bs; rfl
def ag2O (n j : Nat) (ds : List D) (o : Option D) (o' : Option Nat) (s : Sto) : R Fl := match o, o' with
  | some z, some m => .ok .next ((s.set j (.own false (ds.set m z))).take n)
  | _, _ => .stuck
@[simp] theorem ag2O_some (n j : Nat) (ds : List D) (z : D) (m : Nat) (s : Sto) : ag2O n j ds (some z) (some m) s = .ok .next ((s.set j (.own false (ds.set m z))).take n) := id rfl
def ag2 (n j : Nat) (op : Operator) (k a : Int) (o : Option D) (o' : Option Slot) (s : Sto) : R Fl := match o, o' with
  | some e, some (.own false ds) => ag2O n j ds (augD op (.int a) e) (ixN ds.length k) s
  | _, _ => .stuck
@[simp] theorem ag2_own (n j : Nat) (op : Operator) (k a : Int) (e : D) (ds : List D) (s : Sto) : ag2 n j op k a (some e) (some (.own false ds)) s = ag2O n j ds (augD op (.int a) e) (ixN ds.length k) s := id rfl
@[simp] theorem run_augI2 (n j : Nat) (op : Operator) (k a : Int) (w : Vl) (s : Sto) : augI2 n j op k a w s = ag2 n j op k a (rd w s) s[j]? s := by
  unfold augI2 ag2 ag2O; rfl
/-! ### walks -/
section
variable {α : Type}
@[simp ↓] theorem run_wOne (f : M Src) (s : Sto) : wOne f s = (f s).bd fun x => PU.ret (.one x) := id rfl
@[simp ↓] theorem run_wEnum (f : M Src) (s : Sto) : wEnum f s = (f s).bd fun x => PU.ret (.enum x) := id rfl
@[simp ↓] theorem run_wZip (f g : M Src) (s : Sto) : wZip f g s = (f s).bd fun x => bnd g fun y => PU.ret (.zip x y) := id rfl
@[simp ↓] theorem run_srcE (f : M Vl) (s : Sto) : srcE f s = (f s).bd fun v => bnd (frz v) fun d => ofO ((asLT d).map .dat) := id rfl
def srO (o : Option (List D)) (s : Sto) : R Src := match o with
  | some ds => .ok (.dat ds) s
  | none => .stuck
@[simp] theorem srO_some (ds : List D) (s : Sto) : srO (some ds) s = .ok (.dat ds) s := id rfl
def srS (P j : Nat) (o : Option Slot) (s : Sto) : R Src := match o with
  | some (.own _ _) => if j < P then .ok (.slot j) s else .stuck
  | some (.val d) => srO (asLT d) s
  | _ => .stuck
@[simp] theorem srS_own (P j : Nat) (k : Bool) (ds : List D) (s : Sto) : srS P j (some (.own k ds)) s = if j < P then .ok (.slot j) s else .stuck := id rfl
@[simp] theorem srS_val (P j : Nat) (d : D) (s : Sto) : srS P j (some (.val d)) s = srO (asLT d) s := id rfl
@[simp ↓] theorem run_srcV (P j : Nat) (s : Sto) : srcV P j s = srS P j s[j]? s := by
  unfold srcV srS srO; rfl
@[simp ↓] theorem run_sForV (n : Nat) (f : M Walk) (g : D → M Unit) (body : M Fl) (s : Sto) : sForV n f g body s = (f s).bs n fun w st => forV n w g body FUEL 0 (st.take n) := id rfl
@[simp ↓] theorem run_xLcV (vs : List Nat) (f : M Walk) (g : D → M Unit) (t : M Bool) (e : M Vl) (s : Sto) : xLcV vs f g t e s = (f s).bd (lcVGo vs g t e) := id rfl
@[simp ↓] theorem run_lcVGo (vs : List Nat) (g : D → M Unit) (t : M Bool) (e : M Vl) (w : Walk) (s : Sto) : lcVGo vs g t e w s = if calmV s vs then lcF (lcV s.length vs w g t e FUEL 0 [] (wipeS s vs)) vs s else .stuck := by
  unfold lcVGo lcF; rfl
theorem forV_succ (n : Nat) (w : Walk) (g : D → M Unit) (body : M Fl) (m i : Nat) (s : Sto) (d : D) (h : w.at i s = some (some d)) : forV n w g body (m + 1) i s = (forT n g body d s).turn (forV n w g body m (i + 1)) := by
  rw [forV]
  simp only [h]
  unfold forT R.bs R.turn
  cases g d s with
  | stuck => rfl
  | exc x t => rfl
  | ok u t => first | rfl | (simp only; done)
theorem wp_forVm {n : Nat} {w : Walk} {g : D → M Unit} {body : M Fl} {Q : Fl → Sto → Prop} {E : Xn → Sto → Prop} (N : Nat) (I : Nat → Sto → Prop)
    (hs : ∀ i s, I i s → (∃ d, i < N ∧ w.at i s = some (some d) ∧ wp (forT n g body d s) (fun fl s => onF (fun s => H1 (I (i + 1)) s) Q fl s) E) ∨ (w.at i s = some none ∧ Q .next s)) :
    ∀ (m i : Nat) (s : Sto), I i s → i ≤ N → N < m + i → wp (forV n w g body m i s) Q E
  | 0, i, s, _, h2, h3 => by omega
  | m + 1, i, s, h, h2, h3 => by
    rcases hs i s h with ⟨d, hi, e, z⟩ | ⟨e, z⟩
    · rw [forV_succ n w g body m i s d e, wp_turn]
      refine wp_mono z (fun fl s1 h1 => ?_) fun _ _ h => h
      cases fl with
      | next => exact wp_forVm N I hs m (i + 1) s1 h1 (by omega) (by omega)
      | cont => exact wp_forVm N I hs m (i + 1) s1 h1 (by omega) (by omega)
      | brk => exact h1
      | ret v => exact h1
    · rw [forV]
      simp only [e]
      exact z
/-- a list in a slot, walked as it stands: N turns at most -/
theorem wp_forV {n : Nat} {w : Walk} {g : D → M Unit} {body : M Fl} {Q : Fl → Sto → Prop} {E : Xn → Sto → Prop} (N : Nat) (hN : N < 1000000000) (I : Nat → Sto → Prop) (s : Sto) (h : I 0 s)
    (hs : ∀ i s, I i s → (∃ d, i < N ∧ w.at i s = some (some d) ∧ wp (forT n g body d s) (fun fl s => onF (fun s => H1 (I (i + 1)) s) Q fl s) E) ∨ (w.at i s = some none ∧ Q .next s)) : wp (forV n w g body FUEL 0 s) Q E := by
  rw [FUEL_eq]; exact wp_forVm N I hs _ 0 s h (Nat.zero_le _) (by omega)
theorem lcV_succ (L : Nat) (vs : List Nat) (w : Walk) (g : D → M Unit) (t : M Bool) (e : M Vl) (m i : Nat) (acc : List D) (s : Sto) (d : D) (h : w.at i s = some (some d)) (hz : acc.length < szL) : lcV L vs w g t e (m + 1) i acc s = (lcT L vs g t e d s).bz fun o s' => lcV L vs w g t e m (i + 1) (snocO acc o) s' := by
  rw [lcV]
  simp only [h]
  unfold lcT R.bz
  cases g d s with
  | stuck => rfl
  | exc x t => rfl
  | ok u st1 =>
    simp only
    cases t st1 with
    | stuck => rfl
    | exc x t => rfl
    | ok k st2 =>
      cases k with
      | false => rfl
      | true =>
        simp only [if_true]
        cases e st2 with
        | stuck => rfl
        | exc x t => rfl
        | ok v st3 =>
          simp only
          cases frz v st3 with
          | stuck => rfl
          | exc x t => rfl
          | ok y st4 => simp only [if_pos hz]; rfl
/-- each turn leaves the state as it was -/
theorem lcV_go {γ : Type} (enc : γ → D) (f : γ → Option D) {L : Nat} {vs : List Nat} {w : Walk} {g : D → M Unit} {t : M Bool} {e : M Vl} {s : Sto} (xs : List γ) (hw : ∀ i, w.at i s = atL (xs.map enc) i) (h : ∀ x ∈ xs, lcT L vs g t e (enc x) s = .ok (f x) s) :
    ∀ (m i : Nat) (acc : List D), i ≤ xs.length → xs.length < m + i → acc.length + (xs.length - i) ≤ szL → lcV L vs w g t e m i acc s = .ok (acc ++ (xs.drop i).filterMap f) s
  | 0, i, acc, h1, h2, _ => by omega
  | m + 1, i, acc, h1, h2, h3 => by
    by_cases hi : i < xs.length
    · have e1 : w.at i s = some (some (enc xs[i])) := by
        rw [hw i]; unfold atL; rw [if_pos (by simp; omega)]; simp [hi]
      rw [lcV_succ _ _ _ _ _ _ _ _ _ _ _ e1 (by omega), h _ (List.getElem_mem hi), bz_ok, lcV_go enc f xs hw h m (i + 1) _ (by omega) (by omega) (by
        cases f xs[i] with
        | none => show acc.length + _ ≤ _; omega
        | some y => show (acc ++ [y]).length + _ ≤ _; simp only [List.length_append, List.length_cons, List.length_nil]; omega), List.drop_eq_getElem_cons hi]
      rw [List.filterMap_cons]
      cases hf : f xs[i] with
      | none => rfl
      | some y => show R.ok (acc ++ [y] ++ _) s = _; rw [List.append_assoc]; rfl
    · have e1 : w.at i s = some none := by
        rw [hw i]; unfold atL; rw [if_pos (by simp; omega)]; simp; omega
      rw [lcV]
      simp only [e1]
      rw [List.drop_eq_nil_of_le (by omega)]; simp
theorem wp_lcVfm {γ : Type} (enc : γ → D) (f : γ → Option D) (xs : List γ) {L : Nat} {vs : List Nat} {w : Walk} {g : D → M Unit} {t : M Bool} {e : M Vl} {s : Sto} {Q : List D → Sto → Prop} {E : Xn → Sto → Prop} (hl : xs.length ≤ szL) (hw : ∀ i, w.at i s = atL (xs.map enc) i)
    (h : ∀ x ∈ xs, lcT L vs g t e (enc x) s = .ok (f x) s) (hq : Q (xs.filterMap f) s) : wp (lcV L vs w g t e FUEL 0 [] s) Q E := by
  have hl' : xs.length ≤ 16777216 := hl
  rw [FUEL_eq, lcV_go enc f xs hw h _ 0 [] (Nat.zero_le _) (by omega) (by simpa using hl), List.drop_zero, List.nil_append]
  exact hq
theorem wp_lcVmap {γ : Type} (enc : γ → D) (f : γ → D) (xs : List γ) {L : Nat} {vs : List Nat} {w : Walk} {g : D → M Unit} {t : M Bool} {e : M Vl} {s : Sto} {Q : List D → Sto → Prop} {E : Xn → Sto → Prop} (hl : xs.length ≤ szL) (hw : ∀ i, w.at i s = atL (xs.map enc) i)
    (h : ∀ x ∈ xs, lcT L vs g t e (enc x) s = .ok (some (f x)) s) (hq : Q (xs.map f) s) : wp (lcV L vs w g t e FUEL 0 [] s) Q E := by
  refine wp_lcVfm enc (fun x => some (f x)) xs hl hw h ?_
  have e1 : xs.filterMap (fun x => some (f x)) = xs.map f := by
    clear h hq hw hl
    induction xs with
    | nil => rfl
    | cons x xs ih => simp
  rw [e1]; exact hq
@[simp] theorem at_one (s : Src) (i : Nat) (st : Sto) : (Walk.one s).at i st = s.at i st := id rfl
@[simp] theorem at_zip (s t : Src) (i : Nat) (st : Sto) : (Walk.zip s t).at i st = zipAt (s.at i st) (t.at i st) := id rfl
@[simp] theorem at_enum (s : Src) (i : Nat) (st : Sto) : (Walk.enum s).at i st = enumAt i (s.at i st) := id rfl
@[simp] theorem at_dat (ds : List D) (i : Nat) (st : Sto) : (Src.dat ds).at i st = atL ds i := id rfl
@[simp] theorem at_slot (j i : Nat) (st : Sto) : (Src.slot j).at i st = slotAt st[j]? i := id rfl
@[simp] theorem slotAt_own (k : Bool) (es : List D) (i : Nat) : slotAt (some (.own k es)) i = atL es i := id rfl
theorem atL_lt {ds : List D} {i : Nat} {d : D} (h : ds[i]? = some d) : atL ds i = some (some d) := by
  unfold atL; rw [if_pos (Nat.le_of_lt (List.getElem?_eq_some_iff.mp h).1), h]
theorem atL_end {ds : List D} {i : Nat} (h : ds.length = i) : atL ds i = some none := by
  unfold atL; rw [if_pos (by omega), List.getElem?_eq_none (by omega)]
@[simp] theorem zipAt_ss (x y : D) : zipAt (some (some x)) (some (some y)) = some (some (.tup [x, y])) := id rfl
@[simp] theorem zipAt_n1 (o : Option D) : zipAt (some none) (some o) = some none := by cases o <;> rfl
@[simp] theorem zipAt_n2 (o : Option D) : zipAt (some o) (some none) = some none := by cases o <;> rfl
@[simp] theorem enumAt_s (i : Nat) (x : D) : enumAt i (some (some x)) = some (some (.tup [.int (i : Nat), x])) := id rfl
@[simp] theorem enumAt_n (i : Nat) : enumAt i (some none) = some none := id rfl
end
/-! ### sets, steps -/
theorem sortSet_ints (ns : List Int) (h1 : ns.length + 1 < 4096) (h2 : (usort ns).length < 64) : sortSetD (.lst (ns.map D.int)) = some (.own false ((usort ns).map .int)) := by
  simp only [sortSetD, setI, asI_ints, Option.bind_some, if_pos h1, if_pos h2]
theorem sortSet_intsT (ns : List Int) (h1 : ns.length + 1 < 4096) (h2 : (usort ns).length < 64) : sortSetD (.tup (ns.map D.int)) = some (.own false ((usort ns).map .int)) := by
  simp only [sortSetD, setI, asI_ints, Option.bind_some, if_pos h1, if_pos h2]
theorem lenSet_ints (ns : List Int) (h1 : ns.length + 1 < 4096) : lenSetD (.lst (ns.map D.int)) = some (.val (.int (usort ns).length)) := by
  simp only [lenSetD, setI, asI_ints, Option.bind_some, if_pos h1, Option.map_some]
theorem lenSet_intsT (ns : List Int) (h1 : ns.length + 1 < 4096) : lenSetD (.tup (ns.map D.int)) = some (.val (.int (usort ns).length)) := by
  simp only [lenSetD, setI, asI_ints, Option.bind_some, if_pos h1, Option.map_some]
@[simp] theorem fw_t (ds : List D) (k : Int) : fwD (.tup ds) (.int k) = if 0 < k then some (.val (.tup (stepPick k.toNat ds))) else none := id rfl
end PU
namespace K35
open PySem PySem.Spec PyProof.Rows L2 PU
def topS (i : Nat) : Stmt := PySem.Challenge.pw_restworld_k35_whole_sums_that_turn.main.body.getD i (.Pass ⟨0, 0, 0, 0⟩)
def d_MOST_BASE : D := .int 1000000000000
def d_MOST_DEGREE : D := .int 12
def d_MOST_PRIME : D := .int 1000
def d_MOST_COEFFICIENT : D := .int 1000000000000
def konT : List (Str × D) := [("MOST_BASE", d_MOST_BASE), ("MOST_DEGREE", d_MOST_DEGREE), ("MOST_PRIME", d_MOST_PRIME), ("MOST_COEFFICIENT", d_MOST_COEFFICIENT)]
def bltN : List Str := ["abs", "all", "bool", "divmod", "enumerate", "int", "isinstance", "len", "list", "max", "min", "range", "set", "tuple"]
def excT : List (Str × List Str) := []
def exmT : List (Str × List (Str × Bool)) := []
def t_0 : List (Str × Fn) := []
/-! ### is_integer -/
def N_is_integer : List Str := ["value"]
def c_is_integer : Cfg := ⟨N_is_integer, 1, t_0, konT, bltN, 1, [], excT, exmT⟩
def r_is_integer : M Slot := fnRun 1 1 (sSeq (sRet 1 1 (xAnd (xIsi .int (xVar 0)) (xNot (xIsi .bool (xVar 0))))) sNil)
def f_is_integer : Fn := ⟨1, r_is_integer, []⟩
@[simp] theorem ar_is_integer : f_is_integer.ar = 1 := id rfl
def t_1 : List (Str × Fn) := ("is_integer", f_is_integer) :: t_0
theorem m_is_integer : runOf c_is_integer (defScope (topS 11)) (defBody (topS 11)) = r_is_integer := by kernel_rfl
theorem s_is_integer : FnScope N_is_integer ["value"] (defScope (topS 11)) := ⟨rfl, rfl, rfl, by decide +kernel, rfl, by decide +kernel, by decide +kernel⟩
/-! ### is_between -/
def N_is_between : List Str := ["value", "least", "most"]
def c_is_between : Cfg := ⟨N_is_between, 3, t_1, konT, bltN, 3, [], excT, exmT⟩
def r_is_between : M Slot := fnRun 3 3 (sSeq (sRet 3 3 (xAnd (xCall f_is_integer (xCons (xVar 0) xNil)) (xChain (cmpD .LtE) (cmpD .LtE) (xVar 1) (xVar 0) (xVar 2)))) sNil)
def f_is_between : Fn := ⟨3, r_is_between, []⟩
@[simp] theorem ar_is_between : f_is_between.ar = 3 := id rfl
def t_2 : List (Str × Fn) := ("is_between", f_is_between) :: t_1
theorem m_is_between : runOf c_is_between (defScope (topS 12)) (defBody (topS 12)) = r_is_between := by kernel_rfl
theorem s_is_between : FnScope N_is_between ["value", "least", "most"] (defScope (topS 12)) := ⟨rfl, rfl, rfl, by decide +kernel, rfl, by decide +kernel, by decide +kernel⟩
/-! ### check_between -/
def N_check_between : List Str := ["value", "least", "most"]
def c_check_between : Cfg := ⟨N_check_between, 3, t_2, konT, bltN, 3, [], excT, exmT⟩
def r_check_between : M Slot := fnRun 3 3 (sSeq (sIf 3 (tNot (tVal (xCall f_is_between (xCons (xVar 0) (xCons (xVar 1) (xCons (xVar 2) xNil)))))) (sSeq bad sNil) sNil) sNil)
def f_check_between : Fn := ⟨3, r_check_between, []⟩
@[simp] theorem ar_check_between : f_check_between.ar = 3 := id rfl
def t_3 : List (Str × Fn) := ("check_between", f_check_between) :: t_2
theorem m_check_between : runOf c_check_between (defScope (topS 13)) (defBody (topS 13)) = r_check_between := by kernel_rfl
theorem s_check_between : FnScope N_check_between ["value", "least", "most"] (defScope (topS 13)) := ⟨rfl, rfl, rfl, by decide +kernel, rfl, by decide +kernel, by decide +kernel⟩
/-! ### check_base -/
def N_check_base : List Str := ["value"]
def c_check_base : Cfg := ⟨N_check_base, 1, t_3, konT, bltN, 1, [], excT, exmT⟩
def r_check_base : M Slot := fnRun 1 1 (sSeq (sExpr 1 (xCall f_check_between (xCons (xVar 0) (xCons (xCon (.int 1)) (xCons (xCon d_MOST_BASE) xNil))))) sNil)
def f_check_base : Fn := ⟨1, r_check_base, []⟩
@[simp] theorem ar_check_base : f_check_base.ar = 1 := id rfl
def t_4 : List (Str × Fn) := ("check_base", f_check_base) :: t_3
theorem m_check_base : runOf c_check_base (defScope (topS 14)) (defBody (topS 14)) = r_check_base := by kernel_rfl
theorem s_check_base : FnScope N_check_base ["value"] (defScope (topS 14)) := ⟨rfl, rfl, rfl, by decide +kernel, rfl, by decide +kernel, by decide +kernel⟩
/-! ### is_sum -/
def N_is_sum : List Str := ["value", "number"]
def c_is_sum : Cfg := ⟨N_is_sum, 1, t_4, konT, bltN, 1, [], excT, exmT⟩
def r_is_sum : M Slot := fnRun 2 1 (sSeq (sIf 2 (tOr (tNot (tVal (xIsi .tuple (xVar 0)))) (tNot (tChainB (cmpD .LtE) (cmpD .LtE) (xCon (.int 1)) (xBlt bLen (xCons (xVar 0) xNil)) (xBin (binD .Add) (xCon d_MOST_DEGREE) (xCon (.int 1)))))) (sSeq (sRet 2 1 (xCon (.bl false))) sNil) sNil) (sSeq (sIf 2 (tNot (tVal (xBlt bAll (xCons (xLc [1] (itS (xVar 0)) (tgN 1 1) (ret true) (xCall f_is_between (xCons (xVar 1) (xCons (xUn (unD .USub) (xCon d_MOST_COEFFICIENT)) (xCons (xCon d_MOST_COEFFICIENT) xNil))))) xNil)))) (sSeq (sRet 2 1 (xCon (.bl false))) sNil) sNil) (sSeq (sRet 2 1 (xOr (xCmp (cmpD .Eq) (xBlt bLen (xCons (xVar 0) xNil)) (xCon (.int 1))) (xCmp (cmpD .NotEq) (xBin ixD (xVar 0) (xUn (unD .USub) (xCon (.int 1)))) (xCon (.int 0))))) sNil)))
def f_is_sum : Fn := ⟨1, r_is_sum, []⟩
@[simp] theorem ar_is_sum : f_is_sum.ar = 1 := id rfl
def t_5 : List (Str × Fn) := ("is_sum", f_is_sum) :: t_4
theorem m_is_sum : runOf c_is_sum (defScope (topS 15)) (defBody (topS 15)) = r_is_sum := by kernel_rfl
theorem s_is_sum : FnScope N_is_sum ["value"] (defScope (topS 15)) := ⟨rfl, rfl, rfl, by decide +kernel, rfl, by decide +kernel, by decide +kernel⟩
/-! ### check_sum -/
def N_check_sum : List Str := ["value"]
def c_check_sum : Cfg := ⟨N_check_sum, 1, t_5, konT, bltN, 1, [], excT, exmT⟩
def r_check_sum : M Slot := fnRun 1 1 (sSeq (sIf 1 (tNot (tVal (xCall f_is_sum (xCons (xVar 0) xNil)))) (sSeq bad sNil) sNil) sNil)
def f_check_sum : Fn := ⟨1, r_check_sum, []⟩
@[simp] theorem ar_check_sum : f_check_sum.ar = 1 := id rfl
def t_6 : List (Str × Fn) := ("check_sum", f_check_sum) :: t_5
theorem m_check_sum : runOf c_check_sum (defScope (topS 16)) (defBody (topS 16)) = r_check_sum := by kernel_rfl
theorem s_check_sum : FnScope N_check_sum ["value"] (defScope (topS 16)) := ⟨rfl, rfl, rfl, by decide +kernel, rfl, by decide +kernel, by decide +kernel⟩
/-! ### apart_of -/
def N_apart_of : List Str := ["number", "found", "step", "often"]
def c_apart_of : Cfg := ⟨N_apart_of, 1, t_6, konT, bltN, 1, [], excT, exmT⟩
def wt_apart_of_0 : M Bool := (tCmp (cmpD .Eq) (xBin (binD .Mod) (xVar 0) (xVar 2)) (xCon (.int 0)))
def wb_apart_of_0 : M Fl := (sSeq (sPar 4 1 [0, 3] (xCons (xBin (binD .FloorDiv) (xVar 0) (xVar 2)) (xCons (xBin (binD .Add) (xVar 3) (xCon (.int 1))) xNil))) sNil)
def wt_apart_of_1 : M Bool := (tCmp (cmpD .LtE) (xBin (binD .Mult) (xVar 2) (xVar 2)) (xVar 0))
def wb_apart_of_1 : M Fl := (sSeq (sSet 4 1 3 (xCon (.int 0))) (sSeq (sWhile 4 wt_apart_of_0 wb_apart_of_0) (sSeq (sIf 4 (tCmp (cmpD .Gt) (xVar 3) (xCon (.int 0))) (sSeq (sExpr 4 (xApp 1 (xTup (xCons (xVar 2) (xCons (xVar 3) xNil))))) sNil) sNil) (sSeq (sSet 4 1 2 (xIf (tCmp (cmpD .Eq) (xVar 2) (xCon (.int 2))) (xBin (binD .Add) (xVar 2) (xCon (.int 1))) (xBin (binD .Add) (xVar 2) (xCon (.int 2))))) sNil))))
def r_apart_of : M Slot := fnRun 4 1 (sSeq (sPar 4 1 [1, 2] (xCons (xLst xNil) (xCons (xCon (.int 2)) xNil))) (sSeq (sWhile 4 wt_apart_of_1 wb_apart_of_1) (sSeq (sRet 4 1 (xIf (tCmp (cmpD .Gt) (xVar 0) (xCon (.int 1))) (xTup (xStar (xVar 1) (xCons (xTup (xCons (xVar 0) (xCons (xCon (.int 1)) xNil))) xNil))) (xBlt bTuple (xCons (xVar 1) xNil)))) sNil)))
def f_apart_of : Fn := ⟨1, r_apart_of, []⟩
@[simp] theorem ar_apart_of : f_apart_of.ar = 1 := id rfl
def t_7 : List (Str × Fn) := ("apart_of", f_apart_of) :: t_6
theorem m_apart_of : runOf c_apart_of (defScope (topS 17)) (defBody (topS 17)) = r_apart_of := by kernel_rfl
theorem s_apart_of : FnScope N_apart_of ["number"] (defScope (topS 17)) := ⟨rfl, rfl, rfl, by decide +kernel, rfl, by decide +kernel, by decide +kernel⟩
/-! ### apart -/
def N_apart : List Str := ["base"]
def c_apart : Cfg := ⟨N_apart, 1, t_7, konT, bltN, 1, [], excT, exmT⟩
def r_apart : M Slot := fnRun 1 1 (sSeq (sExpr 1 (xCall f_check_base (xCons (xVar 0) xNil))) (sSeq (sRet 1 1 (xCall f_apart_of (xCons (xVar 0) xNil))) sNil))
def f_apart : Fn := ⟨1, r_apart, []⟩
@[simp] theorem ar_apart : f_apart.ar = 1 := id rfl
def t_8 : List (Str × Fn) := ("apart", f_apart) :: t_7
theorem m_apart : runOf c_apart (defScope (topS 19)) (defBody (topS 19)) = r_apart := by kernel_rfl
theorem s_apart : FnScope N_apart ["base"] (defScope (topS 19)) := ⟨rfl, rfl, rfl, by decide +kernel, rfl, by decide +kernel, by decide +kernel⟩
/-! ### value_rest -/
def N_value_rest : List Str := ["terms", "number", "base", "found", "term"]
def c_value_rest : Cfg := ⟨N_value_rest, 3, t_8, konT, bltN, 3, [], excT, exmT⟩
def fb_value_rest_0 : M Fl := (sSeq (sSet 5 3 3 (xBin (binD .Mod) (xBin (binD .Add) (xBin (binD .Mult) (xVar 3) (xVar 1)) (xVar 4)) (xVar 2))) sNil)
def r_value_rest : M Slot := fnRun 5 3 (sSeq (sSet 5 3 3 (xCon (.int 0))) (sSeq (sFor 5 (itS (xUn revD (xVar 0))) (tgN 3 4) fb_value_rest_0) (sSeq (sRet 5 3 (xVar 3)) sNil)))
def f_value_rest : Fn := ⟨3, r_value_rest, []⟩
@[simp] theorem ar_value_rest : f_value_rest.ar = 3 := id rfl
def t_9 : List (Str × Fn) := ("value_rest", f_value_rest) :: t_8
theorem m_value_rest : runOf c_value_rest (defScope (topS 21)) (defBody (topS 21)) = r_value_rest := by kernel_rfl
theorem s_value_rest : FnScope N_value_rest ["terms", "number", "base"] (defScope (topS 21)) := ⟨rfl, rfl, rfl, by decide +kernel, rfl, by decide +kernel, by decide +kernel⟩
/-! ### trimmed -/
def N_trimmed : List Str := ["terms", "many"]
def c_trimmed : Cfg := ⟨N_trimmed, 1, t_9, konT, bltN, 1, [], excT, exmT⟩
def wt_trimmed_0 : M Bool := (tAnd (tCmp (cmpD .Gt) (xVar 1) (xCon (.int 1))) (tCmp (cmpD .Eq) (xBin ixD (xVar 0) (xBin (binD .Sub) (xVar 1) (xCon (.int 1)))) (xCon (.int 0))))
def wb_trimmed_0 : M Fl := (sSeq (sSet 2 1 1 (xBin (binD .Sub) (xVar 1) (xCon (.int 1)))) sNil)
def r_trimmed : M Slot := fnRun 2 1 (sSeq (sSet 2 1 1 (xBlt bLen (xCons (xVar 0) xNil))) (sSeq (sWhile 2 wt_trimmed_0 wb_trimmed_0) (sSeq (sRet 2 1 (xBlt bTuple (xCons (xSlice (xVar 0) xNoPart (xPart (xVar 1))) xNil))) sNil)))
def f_trimmed : Fn := ⟨1, r_trimmed, []⟩
@[simp] theorem ar_trimmed : f_trimmed.ar = 1 := id rfl
def t_10 : List (Str × Fn) := ("trimmed", f_trimmed) :: t_9
theorem m_trimmed : runOf c_trimmed (defScope (topS 22)) (defBody (topS 22)) = r_trimmed := by kernel_rfl
theorem s_trimmed : FnScope N_trimmed ["terms"] (defScope (topS 22)) := ⟨rfl, rfl, rfl, by decide +kernel, rfl, by decide +kernel, by decide +kernel⟩
/-! ### slope_of -/
def N_slope_of : List Str := ["terms", "found", "place", "term"]
def c_slope_of : Cfg := ⟨N_slope_of, 1, t_10, konT, bltN, 1, [], excT, exmT⟩
def r_slope_of : M Slot := fnRun 4 1 (sSeq (sSet 4 1 1 (xLc [2, 3] (itE2 (xVar 0)) (tgT 2 (tgsC (tgN 1 2) (tgsC (tgN 1 3) tgs0))) (ret true) (xBin (binD .Mult) (xVar 2) (xVar 3)))) (sSeq (sRet 4 1 (xIf (tCmp (cmpD .Gt) (xBlt bLen (xCons (xVar 1) xNil)) (xCon (.int 1))) (xBlt bTuple (xCons (xSlice (xVar 1) (xPart (xCon (.int 1))) xNoPart) xNil)) (xTup (xCons (xCon (.int 0)) xNil)))) sNil))
def f_slope_of : Fn := ⟨1, r_slope_of, []⟩
@[simp] theorem ar_slope_of : f_slope_of.ar = 1 := id rfl
def t_11 : List (Str × Fn) := ("slope_of", f_slope_of) :: t_10
theorem m_slope_of : runOf c_slope_of (defScope (topS 23)) (defBody (topS 23)) = r_slope_of := by kernel_rfl
theorem s_slope_of : FnScope N_slope_of ["terms"] (defScope (topS 23)) := ⟨rfl, rfl, rfl, by decide +kernel, rfl, by decide +kernel, by decide +kernel⟩
/-! ### multiplied_of -/
def N_multiplied_of : List Str := ["one", "other", "found", "at", "left", "beyond", "right"]
def c_multiplied_of : Cfg := ⟨N_multiplied_of, 2, t_11, konT, bltN, 2, [], excT, exmT⟩
def fb_multiplied_of_0 : M Fl := (sSeq (sAsg 7 (xBin (binD .Add) (xBin ixD (xVar 2) (xBin (binD .Add) (xVar 3) (xVar 5))) (xBin (binD .Mult) (xVar 4) (xVar 6))) (tgI 2 (xBin (binD .Add) (xVar 3) (xVar 5)))) sNil)
def fb_multiplied_of_1 : M Fl := (sSeq (sFor 7 (itE2 (xVar 1)) (tgT 2 (tgsC (tgN 2 5) (tgsC (tgN 2 6) tgs0))) fb_multiplied_of_0) sNil)
def r_multiplied_of : M Slot := fnRun 7 2 (sSeq (sSet 7 2 2 (xBin (binD .Mult) (xLst (xCons (xCon (.int 0)) xNil)) (xBin (binD .Sub) (xBin (binD .Add) (xBlt bLen (xCons (xVar 0) xNil)) (xBlt bLen (xCons (xVar 1) xNil))) (xCon (.int 1))))) (sSeq (sFor 7 (itE2 (xVar 0)) (tgT 2 (tgsC (tgN 2 3) (tgsC (tgN 2 4) tgs0))) fb_multiplied_of_1) (sSeq (sRet 7 2 (xCall f_trimmed (xCons (xVar 2) xNil))) sNil)))
def f_multiplied_of : Fn := ⟨2, r_multiplied_of, []⟩
@[simp] theorem ar_multiplied_of : f_multiplied_of.ar = 2 := id rfl
def t_12 : List (Str × Fn) := ("multiplied_of", f_multiplied_of) :: t_11
theorem m_multiplied_of : runOf c_multiplied_of (defScope (topS 24)) (defBody (topS 24)) = r_multiplied_of := by kernel_rfl
theorem s_multiplied_of : FnScope N_multiplied_of ["one", "other"] (defScope (topS 24)) := ⟨rfl, rfl, rfl, by decide +kernel, rfl, by decide +kernel, by decide +kernel⟩
/-! ### led_of -/
def N_led_of : List Str := ["one", "other", "found", "term"]
def c_led_of : Cfg := ⟨N_led_of, 2, t_12, konT, bltN, 2, [], excT, exmT⟩
def fb_led_of_0 : M Fl := (sSeq (sSet 4 2 2 (xCall f_multiplied_of (xCons (xVar 2) (xCons (xVar 1) xNil)))) (sSeq (sSet 4 2 2 (xTup (xCons (xBin (binD .Add) (xBin ixD (xVar 2) (xCon (.int 0))) (xVar 3)) (xStar (xSlice (xVar 2) (xPart (xCon (.int 1))) xNoPart) xNil)))) sNil))
def r_led_of : M Slot := fnRun 4 2 (sSeq (sSet 4 2 2 (xTup (xCons (xCon (.int 0)) xNil))) (sSeq (sFor 4 (itS (xUn revD (xVar 0))) (tgN 2 3) fb_led_of_0) (sSeq (sRet 4 2 (xCall f_trimmed (xCons (xVar 2) xNil))) sNil)))
def f_led_of : Fn := ⟨2, r_led_of, []⟩
@[simp] theorem ar_led_of : f_led_of.ar = 2 := id rfl
def t_13 : List (Str × Fn) := ("led_of", f_led_of) :: t_12
theorem m_led_of : runOf c_led_of (defScope (topS 25)) (defBody (topS 25)) = r_led_of := by kernel_rfl
theorem s_led_of : FnScope N_led_of ["one", "other"] (defScope (topS 25)) := ⟨rfl, rfl, rfl, by decide +kernel, rfl, by decide +kernel, by decide +kernel⟩
/-! ### check_made -/
def N_check_made : List Str := ["terms", "term"]
def c_check_made : Cfg := ⟨N_check_made, 1, t_13, konT, bltN, 1, [], excT, exmT⟩
def fb_check_made_0 : M Fl := (sSeq (sIf 2 (tCmp (cmpD .Gt) (xBlt bAbs (xCons (xVar 1) xNil)) (xCon d_MOST_COEFFICIENT)) (sSeq bad sNil) sNil) sNil)
def r_check_made : M Slot := fnRun 2 1 (sSeq (sFor 2 (itS (xVar 0)) (tgN 1 1) fb_check_made_0) (sSeq (sIf 2 (tCmp (cmpD .Gt) (xBin (binD .Sub) (xBlt bLen (xCons (xVar 0) xNil)) (xCon (.int 1))) (xCon d_MOST_DEGREE)) (sSeq bad sNil) sNil) (sSeq (sRet 2 1 (xVar 0)) sNil)))
def f_check_made : Fn := ⟨1, r_check_made, []⟩
@[simp] theorem ar_check_made : f_check_made.ar = 1 := id rfl
def t_14 : List (Str × Fn) := ("check_made", f_check_made) :: t_13
theorem m_check_made : runOf c_check_made (defScope (topS 26)) (defBody (topS 26)) = r_check_made := by kernel_rfl
theorem s_check_made : FnScope N_check_made ["terms"] (defScope (topS 26)) := ⟨rfl, rfl, rfl, by decide +kernel, rfl, by decide +kernel, by decide +kernel⟩
/-! ### check_sums -/
def N_check_sums : List Str := ["one", "other"]
def c_check_sums : Cfg := ⟨N_check_sums, 2, t_14, konT, bltN, 2, [], excT, exmT⟩
def r_check_sums : M Slot := fnRun 2 2 (sSeq (sExpr 2 (xCall f_check_sum (xCons (xVar 0) xNil))) (sSeq (sExpr 2 (xCall f_check_sum (xCons (xVar 1) xNil))) sNil))
def f_check_sums : Fn := ⟨2, r_check_sums, []⟩
@[simp] theorem ar_check_sums : f_check_sums.ar = 2 := id rfl
def t_15 : List (Str × Fn) := ("check_sums", f_check_sums) :: t_14
theorem m_check_sums : runOf c_check_sums (defScope (topS 27)) (defBody (topS 27)) = r_check_sums := by kernel_rfl
theorem s_check_sums : FnScope N_check_sums ["one", "other"] (defScope (topS 27)) := ⟨rfl, rfl, rfl, by decide +kernel, rfl, by decide +kernel, by decide +kernel⟩
/-! ### led -/
def N_led : List Str := ["one", "other"]
def c_led : Cfg := ⟨N_led, 2, t_15, konT, bltN, 2, [], excT, exmT⟩
def r_led : M Slot := fnRun 2 2 (sSeq (sExpr 2 (xCall f_check_sums (xCons (xVar 0) (xCons (xVar 1) xNil)))) (sSeq (sRet 2 2 (xCall f_check_made (xCons (xCall f_led_of (xCons (xVar 0) (xCons (xVar 1) xNil))) xNil))) sNil))
def f_led : Fn := ⟨2, r_led, []⟩
@[simp] theorem ar_led : f_led.ar = 2 := id rfl
def t_16 : List (Str × Fn) := ("led", f_led) :: t_15
theorem m_led : runOf c_led (defScope (topS 28)) (defBody (topS 28)) = r_led := by kernel_rfl
theorem s_led : FnScope N_led ["one", "other"] (defScope (topS 28)) := ⟨rfl, rfl, rfl, by decide +kernel, rfl, by decide +kernel, by decide +kernel⟩
/-! ### check_small_primes -/
def N_check_small_primes : List Str := ["base", "found", "great", "prime", "often"]
def c_check_small_primes : Cfg := ⟨N_check_small_primes, 1, t_16, konT, bltN, 1, [], excT, exmT⟩
def r_check_small_primes : M Slot := fnRun 5 1 (sSeq (sSet 5 1 1 (xCall f_apart_of (xCons (xVar 0) xNil))) (sSeq (sSet 5 1 2 (xLc [3, 4] (itS (xVar 1)) (tgT 2 (tgsC (tgN 1 3) (tgsC (tgN 1 4) tgs0))) (tCmp (cmpD .Gt) (xVar 3) (xCon d_MOST_PRIME)) (xVar 3))) (sSeq (sIf 5 (tCmp (cmpD .NotEq) (xVar 2) (xLst xNil)) (sSeq bad sNil) sNil) (sSeq (sRet 5 1 (xVar 1)) sNil))))
def f_check_small_primes : Fn := ⟨1, r_check_small_primes, []⟩
@[simp] theorem ar_check_small_primes : f_check_small_primes.ar = 1 := id rfl
def t_17 : List (Str × Fn) := ("check_small_primes", f_check_small_primes) :: t_16
theorem m_check_small_primes : runOf c_check_small_primes (defScope (topS 30)) (defBody (topS 30)) = r_check_small_primes := by kernel_rfl
theorem s_check_small_primes : FnScope N_check_small_primes ["base"] (defScope (topS 30)) := ⟨rfl, rfl, rfl, by decide +kernel, rfl, by decide +kernel, by decide +kernel⟩
/-! ### turns_by -/
def N_turns_by : List Str := ["terms", "prime", "often", "own", "rest"]
def c_turns_by : Cfg := ⟨N_turns_by, 3, t_17, konT, bltN, 3, [], excT, exmT⟩
def r_turns_by : M Slot := fnRun 5 3 (sSeq (sIf 5 (tCmp (cmpD .Lt) (xLenSc [4] (itR1 (xVar 1)) (tgN 3 4) (ret true) (xCall f_value_rest (xCons (xVar 0) (xCons (xVar 4) (xCons (xVar 1) xNil))))) (xVar 1)) (sSeq (sRet 5 3 (xCon (.bl false))) sNil) sNil) (sSeq (sSet 5 3 3 (xCall f_slope_of (xCons (xVar 0) xNil))) (sSeq (sRet 5 3 (xOr (xCmp (cmpD .Eq) (xVar 2) (xCon (.int 1))) (xBlt bAll (xCons (xLc [4] (itR1 (xVar 1)) (tgN 3 4) (ret true) (xCmp (cmpD .Gt) (xCall f_value_rest (xCons (xVar 3) (xCons (xVar 4) (xCons (xVar 1) xNil)))) (xCon (.int 0)))) xNil)))) sNil)))
def f_turns_by : Fn := ⟨3, r_turns_by, []⟩
@[simp] theorem ar_turns_by : f_turns_by.ar = 3 := id rfl
def t_18 : List (Str × Fn) := ("turns_by", f_turns_by) :: t_17
theorem m_turns_by : runOf c_turns_by (defScope (topS 31)) (defBody (topS 31)) = r_turns_by := by kernel_rfl
theorem s_turns_by : FnScope N_turns_by ["terms", "prime", "often"] (defScope (topS 31)) := ⟨rfl, rfl, rfl, by decide +kernel, rfl, by decide +kernel, by decide +kernel⟩
/-! ### does_turn -/
def N_does_turn : List Str := ["terms", "parts", "prime", "often"]
def c_does_turn : Cfg := ⟨N_does_turn, 2, t_18, konT, bltN, 2, [], excT, exmT⟩
def r_does_turn : M Slot := fnRun 4 2 (sSeq (sRet 4 2 (xBlt bAll (xCons (xLc [2, 3] (itS (xVar 1)) (tgT 2 (tgsC (tgN 2 2) (tgsC (tgN 2 3) tgs0))) (ret true) (xCall f_turns_by (xCons (xVar 0) (xCons (xVar 2) (xCons (xVar 3) xNil))))) xNil))) sNil)
def f_does_turn : Fn := ⟨2, r_does_turn, []⟩
@[simp] theorem ar_does_turn : f_does_turn.ar = 2 := id rfl
def t_19 : List (Str × Fn) := ("does_turn", f_does_turn) :: t_18
theorem m_does_turn : runOf c_does_turn (defScope (topS 32)) (defBody (topS 32)) = r_does_turn := by kernel_rfl
theorem s_does_turn : FnScope N_does_turn ["terms", "parts"] (defScope (topS 32)) := ⟨rfl, rfl, rfl, by decide +kernel, rfl, by decide +kernel, by decide +kernel⟩
/-! ### turns -/
def N_turns : List Str := ["terms", "base"]
def c_turns : Cfg := ⟨N_turns, 2, t_19, konT, bltN, 2, [], excT, exmT⟩
def r_turns : M Slot := fnRun 2 2 (sSeq (sExpr 2 (xCall f_check_sum (xCons (xVar 0) xNil))) (sSeq (sExpr 2 (xCall f_check_base (xCons (xVar 1) xNil))) (sSeq (sRet 2 2 (xCall f_does_turn (xCons (xVar 0) (xCons (xCall f_check_small_primes (xCons (xVar 1) xNil)) xNil)))) sNil)))
def f_turns : Fn := ⟨2, r_turns, [(0, ["base", "terms"], [1, 0])]⟩
@[simp] theorem ar_turns : f_turns.ar = 2 := id rfl
def t_20 : List (Str × Fn) := ("turns", f_turns) :: t_19
theorem m_turns : runOf c_turns (defScope (topS 33)) (defBody (topS 33)) = r_turns := by kernel_rfl
theorem s_turns : FnScope N_turns ["terms", "base"] (defScope (topS 33)) := ⟨rfl, rfl, rfl, by decide +kernel, rfl, by decide +kernel, by decide +kernel⟩
/-! ### _law_cask -/
def N_law_cask : List Str := ["_law_script", "_law_k", "_law_own", "_law_stirred", "_law_entry"]
def c_law_cask : Cfg := ⟨N_law_cask, 2, t_20, konT, bltN, 2, [], excT, exmT⟩
def fb_law_cask_0 : M Fl := (sSeq (sSet 5 2 3 (xBin (binD .Mod) (xBlt bInt (xCons (xBin (binD .Add) (xBin (binD .Mult) (xVar 3) (xCon (.int 55103))) (xBin (binD .Mod) (xBlt bInt (xCons (xVar 4) xNil)) (xCon (.int 1999999267)))) xNil)) (xCon (.int 1999999267)))) sNil)
def r_law_cask : M Slot := fnRun 5 2 (sSeq (sSet 5 2 2 (xIf (tCmp (cmpD .Lt) (xVar 1) (xBlt bLen (xCons (xVar 0) xNil))) (xBlt bInt (xCons (xBin ixD (xVar 0) (xVar 1)) xNil)) (xBin (binD .Add) (xBin (binD .Mult) (xCon (.int 103)) (xVar 1)) (xCon (.int 59))))) (sSeq (sSet 5 2 3 (xBin (binD .Add) (xCon (.int 160073)) (xBin (binD .Mult) (xCon (.int 2801)) (xVar 1)))) (sSeq (sFor 5 (itS (xSlice (xVar 0) xNoPart (xPart (xCon (.int 10))))) (tgN 2 4) fb_law_cask_0) (sSeq (sRet 5 2 (xLst (xCons (xBin (binD .Mod) (xBlt bInt (xCons (xBin (binD .Add) (xBin (binD .Mult) (xVar 3) (xCon (.int 83))) (xBin (binD .Mod) (xVar 2) (xCon (.int 1999999267)))) xNil)) (xCon (.int 1999999267))) (xCons (xCon (.int 17)) (xCons (xIf (tOr (tCmp (cmpD .Lt) (xVar 2) (xCon (.int 0))) (tCmp (cmpD .GtE) (xVar 2) (xBin (binD .Pow) (xCon (.int 10)) (xCon (.int 14))))) (xBlt bAbs (xCons (xVar 2) xNil)) (xCon (.int 0))) xNil))))) sNil))))
def f_law_cask : Fn := ⟨2, r_law_cask, []⟩
@[simp] theorem ar_law_cask : f_law_cask.ar = 2 := id rfl
def t_21 : List (Str × Fn) := ("_law_cask", f_law_cask) :: t_20
theorem m_law_cask : runOf c_law_cask (defScope (topS 35)) (defBody (topS 35)) = r_law_cask := by kernel_rfl
theorem s_law_cask : FnScope N_law_cask ["_law_script", "_law_k"] (defScope (topS 35)) := ⟨rfl, rfl, rfl, by decide +kernel, rfl, by decide +kernel, by decide +kernel⟩
/-! ### _law_tap -/
def N_law_tap : List Str := ["_law_cask_here", "_law_many", "_law_figure"]
def c_law_tap : Cfg := ⟨N_law_tap, 2, t_21, konT, bltN, 2, [], excT, exmT⟩
def r_law_tap : M Slot := fnRun 3 2 (sSeq (sAsg 3 (xBin (binD .Add) (xBin ixD (xVar 0) (xCon (.int 1))) (xCon (.int 11))) (tgI 0 (xCon (.int 1)))) (sSeq (sIf 3 (tCmp (cmpD .Gt) (xBin ixD (xVar 0) (xCon (.int 2))) (xCon (.int 0))) (sSeq (sAsg 3 (xBlt bDivmod (xCons (xBlt bInt (xCons (xBin ixD (xVar 0) (xCon (.int 2))) xNil)) (xCons (xVar 1) xNil))) (tgT 2 (tgsC (tgI 0 (xCon (.int 2))) (tgsC (tgN 2 2) tgs0)))) (sSeq (sRet 3 2 (xVar 2)) sNil)) sNil) (sSeq (sAsg 3 (xBin (binD .Mod) (xBlt bInt (xCons (xBin (binD .Add) (xBin (binD .Add) (xBin (binD .Mult) (xBin ixD (xVar 0) (xCon (.int 0))) (xCon (.int 58099))) (xBin (binD .Mult) (xBin ixD (xVar 0) (xCon (.int 1))) (xCon (.int 70051)))) (xBin (binD .Mult) (xBin (binD .FloorDiv) (xBin ixD (xVar 0) (xCon (.int 0))) (xCon (.int 19013))) (xCon (.int 107)))) xNil)) (xCon (.int 1999999267))) (tgI 0 (xCon (.int 0)))) (sSeq (sRet 3 2 (xBin (binD .Mod) (xBlt bInt (xCons (xBin (binD .FloorDiv) (xBin ixD (xVar 0) (xCon (.int 0))) (xCon (.int 431))) xNil)) (xVar 1))) sNil))))
def f_law_tap : Fn := ⟨2, r_law_tap, []⟩
@[simp] theorem ar_law_tap : f_law_tap.ar = 2 := id rfl
def t_22 : List (Str × Fn) := ("_law_tap", f_law_tap) :: t_21
theorem m_law_tap : runOf c_law_tap (defScope (topS 36)) (defBody (topS 36)) = r_law_tap := by kernel_rfl
theorem s_law_tap : FnScope N_law_tap ["_law_cask_here", "_law_many"] (defScope (topS 36)) := ⟨rfl, rfl, rfl, by decide +kernel, rfl, by decide +kernel, by decide +kernel⟩
/-! ### _law_of -/
def N_law_of : List Str := ["_law_cask_here", "_law_bowl"]
def c_law_of : Cfg := ⟨N_law_of, 2, t_22, konT, bltN, 2, [], excT, exmT⟩
def r_law_of : M Slot := fnRun 2 2 (sSeq (sRet 2 2 (xBin ixD (xVar 1) (xCall f_law_tap (xCons (xVar 0) (xCons (xBlt bLen (xCons (xVar 1) xNil)) xNil))))) sNil)
def f_law_of : Fn := ⟨2, r_law_of, []⟩
@[simp] theorem ar_law_of : f_law_of.ar = 2 := id rfl
def t_23 : List (Str × Fn) := ("_law_of", f_law_of) :: t_22
theorem m_law_of : runOf c_law_of (defScope (topS 37)) (defBody (topS 37)) = r_law_of := by kernel_rfl
theorem s_law_of : FnScope N_law_of ["_law_cask_here", "_law_bowl"] (defScope (topS 37)) := ⟨rfl, rfl, rfl, by decide +kernel, rfl, by decide +kernel, by decide +kernel⟩
/-! ### _law_row -/
def N_law_row : List Str := ["_law_cask_here", "_law_most", "_law_size", "_law_found", "_law_k"]
def c_law_row : Cfg := ⟨N_law_row, 3, t_23, konT, bltN, 3, [], excT, exmT⟩
def wt_law_row_0 : M Bool := (tAnd (tCmp (cmpD .Gt) (xBlt bLen (xCons (xVar 3) xNil)) (xCon (.int 1))) (tCmp (cmpD .Eq) (xBin ixD (xVar 3) (xUn (unD .USub) (xCon (.int 1)))) (xCon (.int 0))))
def wb_law_row_0 : M Fl := (sSeq (sExpr 5 (xPop 3)) sNil)
def r_law_row : M Slot := fnRun 5 3 (sSeq (sSet 5 3 3 (xLc [4] (itR1 (xBin (binD .Add) (xCon (.int 1)) (xCall f_law_tap (xCons (xVar 0) (xCons (xBin (binD .Add) (xVar 1) (xCon (.int 1))) xNil))))) (tgN 3 4) (ret true) (xBin (binD .Sub) (xCall f_law_tap (xCons (xVar 0) (xCons (xBin (binD .Add) (xBin (binD .Mult) (xCon (.int 2)) (xVar 2)) (xCon (.int 1))) xNil))) (xVar 2)))) (sSeq (sWhile 5 wt_law_row_0 wb_law_row_0) (sSeq (sRet 5 3 (xBlt bTuple (xCons (xVar 3) xNil))) sNil)))
def f_law_row : Fn := ⟨3, r_law_row, []⟩
@[simp] theorem ar_law_row : f_law_row.ar = 3 := id rfl
def t_24 : List (Str × Fn) := ("_law_row", f_law_row) :: t_23
theorem m_law_row : runOf c_law_row (defScope (topS 38)) (defBody (topS 38)) = r_law_row := by kernel_rfl
theorem s_law_row : FnScope N_law_row ["_law_cask_here", "_law_most", "_law_size"] (defScope (topS 38)) := ⟨rfl, rfl, rfl, by decide +kernel, rfl, by decide +kernel, by decide +kernel⟩
/-! ### _law_at -/
def N_law_at : List Str := ["_law_row_here", "_law_number", "_law_found", "_law_part"]
def c_law_at : Cfg := ⟨N_law_at, 2, t_24, konT, bltN, 2, [], excT, exmT⟩
def fb_law_at_0 : M Fl := (sSeq (sSet 4 2 2 (xBin (binD .Add) (xBin (binD .Mult) (xVar 2) (xVar 1)) (xVar 3))) sNil)
def r_law_at : M Slot := fnRun 4 2 (sSeq (sSet 4 2 2 (xCon (.int 0))) (sSeq (sFor 4 (itS (xUn revD (xVar 0))) (tgN 2 3) fb_law_at_0) (sSeq (sRet 4 2 (xVar 2)) sNil)))
def f_law_at : Fn := ⟨2, r_law_at, []⟩
@[simp] theorem ar_law_at : f_law_at.ar = 2 := id rfl
def t_25 : List (Str × Fn) := ("_law_at", f_law_at) :: t_24
theorem m_law_at : runOf c_law_at (defScope (topS 39)) (defBody (topS 39)) = r_law_at := by kernel_rfl
theorem s_law_at : FnScope N_law_at ["_law_row_here", "_law_number"] (defScope (topS 39)) := ⟨rfl, rfl, rfl, by decide +kernel, rfl, by decide +kernel, by decide +kernel⟩
/-! ### _law_table -/
def N_law_table : List Str := ["_law_row_here", "_law_base", "_law_number"]
def c_law_table : Cfg := ⟨N_law_table, 2, t_25, konT, bltN, 2, [], excT, exmT⟩
def r_law_table : M Slot := fnRun 3 2 (sSeq (sRet 3 2 (xBlt bTuple (xCons (xLc [2] (itR1 (xVar 1)) (tgN 2 2) (ret true) (xBin (binD .Mod) (xBlt bInt (xCons (xCall f_law_at (xCons (xVar 0) (xCons (xVar 2) xNil))) xNil)) (xVar 1))) xNil))) sNil)
def f_law_table : Fn := ⟨2, r_law_table, []⟩
@[simp] theorem ar_law_table : f_law_table.ar = 2 := id rfl
def t_26 : List (Str × Fn) := ("_law_table", f_law_table) :: t_25
theorem m_law_table : runOf c_law_table (defScope (topS 40)) (defBody (topS 40)) = r_law_table := by kernel_rfl
theorem s_law_table : FnScope N_law_table ["_law_row_here", "_law_base"] (defScope (topS 40)) := ⟨rfl, rfl, rfl, by decide +kernel, rfl, by decide +kernel, by decide +kernel⟩
/-! ### _law_gcd -/
def N_law_gcd : List Str := ["_law_one", "_law_last"]
def c_law_gcd : Cfg := ⟨N_law_gcd, 2, t_26, konT, bltN, 2, [], excT, exmT⟩
def wt_law_gcd_0 : M Bool := (tCmp (cmpD .Gt) (xVar 1) (xCon (.int 0)))
def wb_law_gcd_0 : M Fl := (sSeq (sPar 2 2 [0, 1] (xCons (xVar 1) (xCons (xBin (binD .Mod) (xBlt bInt (xCons (xVar 0) xNil)) (xVar 1)) xNil))) sNil)
def r_law_gcd : M Slot := fnRun 2 2 (sSeq (sPar 2 2 [0, 1] (xCons (xBlt bAbs (xCons (xVar 0) xNil)) (xCons (xBlt bAbs (xCons (xVar 1) xNil)) xNil))) (sSeq (sWhile 2 wt_law_gcd_0 wb_law_gcd_0) (sSeq (sRet 2 2 (xVar 0)) sNil)))
def f_law_gcd : Fn := ⟨2, r_law_gcd, []⟩
@[simp] theorem ar_law_gcd : f_law_gcd.ar = 2 := id rfl
def t_27 : List (Str × Fn) := ("_law_gcd", f_law_gcd) :: t_26
theorem m_law_gcd : runOf c_law_gcd (defScope (topS 41)) (defBody (topS 41)) = r_law_gcd := by kernel_rfl
theorem s_law_gcd : FnScope N_law_gcd ["_law_one", "_law_last"] (defScope (topS 41)) := ⟨rfl, rfl, rfl, by decide +kernel, rfl, by decide +kernel, by decide +kernel⟩
/-! ### _law_power -/
def N_law_power : List Str := ["_law_number", "_law_often", "_law_found", "_law_k"]
def c_law_power : Cfg := ⟨N_law_power, 2, t_27, konT, bltN, 2, [], excT, exmT⟩
def fb_law_power_0 : M Fl := (sSeq (sSet 4 2 2 (xBin (binD .Mult) (xVar 2) (xVar 0))) sNil)
def r_law_power : M Slot := fnRun 4 2 (sSeq (sSet 4 2 2 (xCon (.int 1))) (sSeq (sFor 4 (itR1 (xVar 1)) (tgN 2 3) fb_law_power_0) (sSeq (sRet 4 2 (xVar 2)) sNil)))
def f_law_power : Fn := ⟨2, r_law_power, []⟩
@[simp] theorem ar_law_power : f_law_power.ar = 2 := id rfl
def t_28 : List (Str × Fn) := ("_law_power", f_law_power) :: t_27
theorem m_law_power : runOf c_law_power (defScope (topS 42)) (defBody (topS 42)) = r_law_power := by kernel_rfl
theorem s_law_power : FnScope N_law_power ["_law_number", "_law_often"] (defScope (topS 42)) := ⟨rfl, rfl, rfl, by decide +kernel, rfl, by decide +kernel, by decide +kernel⟩
/-! ### _law_is_turn -/
def N_law_is_turn : List Str := ["_law_row_here", "_law_base"]
def c_law_is_turn : Cfg := ⟨N_law_is_turn, 2, t_28, konT, bltN, 2, [], excT, exmT⟩
def r_law_is_turn : M Slot := fnRun 2 2 (sSeq (sRet 2 2 (xCmp (cmpD .Eq) (xUn lenSetD (xBlt bList (xCons (xCall f_law_table (xCons (xVar 0) (xCons (xVar 1) xNil))) xNil))) (xVar 1))) sNil)
def f_law_is_turn : Fn := ⟨2, r_law_is_turn, []⟩
@[simp] theorem ar_law_is_turn : f_law_is_turn.ar = 2 := id rfl
def t_29 : List (Str × Fn) := ("_law_is_turn", f_law_is_turn) :: t_28
theorem m_law_is_turn : runOf c_law_is_turn (defScope (topS 43)) (defBody (topS 43)) = r_law_is_turn := by kernel_rfl
theorem s_law_is_turn : FnScope N_law_is_turn ["_law_row_here", "_law_base"] (defScope (topS 43)) := ⟨rfl, rfl, rfl, by decide +kernel, rfl, by decide +kernel, by decide +kernel⟩
/-! ### _law_pieces_right -/
def N_law_pieces_right : List Str := ["_law_row_here", "_law_base", "_law_told", "_law_prime", "_law_often"]
def c_law_pieces_right : Cfg := ⟨N_law_pieces_right, 2, t_29, konT, bltN, 2, [], excT, exmT⟩
def r_law_pieces_right : M Slot := fnRun 5 2 (sSeq (sSet 5 2 2 (xLc [3, 4] (itS (xCall f_apart (xCons (xVar 1) xNil))) (tgT 2 (tgsC (tgN 2 3) (tgsC (tgN 2 4) tgs0))) (ret true) (xCall f_turns (xCons (xVar 0) (xCons (xCall f_law_power (xCons (xVar 3) (xCons (xVar 4) xNil))) xNil))))) (sSeq (sRet 5 2 (xCmp (cmpD .Eq) (xCall f_turns (xCons (xVar 0) (xCons (xVar 1) xNil))) (xCmp (cmpD .NotIn) (xCon (.bl false)) (xVar 2)))) sNil))
def f_law_pieces_right : Fn := ⟨2, r_law_pieces_right, []⟩
@[simp] theorem ar_law_pieces_right : f_law_pieces_right.ar = 2 := id rfl
def t_30 : List (Str × Fn) := ("_law_pieces_right", f_law_pieces_right) :: t_29
theorem m_law_pieces_right : runOf c_law_pieces_right (defScope (topS 44)) (defBody (topS 44)) = r_law_pieces_right := by kernel_rfl
theorem s_law_pieces_right : FnScope N_law_pieces_right ["_law_row_here", "_law_base"] (defScope (topS 44)) := ⟨rfl, rfl, rfl, by decide +kernel, rfl, by decide +kernel, by decide +kernel⟩
/-! ### _law_right -/
def N_law_right : List Str := ["_law_cask_here", "_law_row_here", "_law_other", "_law_turn", "_law_base", "_law_prime", "_law_whole", "_law_told", "_law_step", "_law_line"]
def c_law_right : Cfg := ⟨N_law_right, 1, t_30, konT, bltN, 1, [], excT, exmT⟩
def fb_law_right_0 : M Fl := (sSeq (sSet 10 1 4 (xBin (binD .Add) (xCon (.int 1)) (xCall f_law_tap (xCons (xVar 0) (xCons (xCon (.int 40)) xNil))))) (sSeq (sIf 10 (tOr (tCmp (cmpD .NotEq) (xCall f_turns (xCons (xVar 1) (xCons (xVar 4) xNil))) (xCall f_law_is_turn (xCons (xVar 1) (xCons (xVar 4) xNil)))) (tCmp (cmpD .NotEq) (xCallK f_turns 0 2 [1, 0] xNil (xCons (xVar 4) (xCons (xVar 1) xNil))) (xCall f_law_is_turn (xCons (xVar 1) (xCons (xVar 4) xNil))))) (sSeq (sRet 10 1 (xCon (.bl false))) sNil) sNil) (sSeq (sIf 10 (tNot (tVal (xCall f_law_pieces_right (xCons (xVar 1) (xCons (xVar 4) xNil))))) (sSeq (sRet 10 1 (xCon (.bl false))) sNil) sNil) (sSeq (sIf 10 (tAnd (tVal (xCall f_turns (xCons (xVar 1) (xCons (xVar 4) xNil)))) (tAnd (tVal (xCall f_turns (xCons (xVar 2) (xCons (xVar 4) xNil)))) (tNot (tVal (xCall f_turns (xCons (xCall f_led (xCons (xVar 1) (xCons (xVar 2) xNil))) (xCons (xVar 4) xNil))))))) (sSeq (sRet 10 1 (xCon (.bl false))) sNil) sNil) sNil))))
def r_law_right : M Slot := fnRun 10 1 (sSeq (sPar 10 1 [1, 2] (xCons (xCall f_law_row (xCons (xVar 0) (xCons (xCon (.int 4)) (xCons (xCon (.int 12)) xNil)))) (xCons (xCall f_law_row (xCons (xVar 0) (xCons (xCon (.int 2)) (xCons (xCon (.int 6)) xNil)))) xNil))) (sSeq (sFor 10 (itR1 (xCon (.int 4))) (tgN 1 3) fb_law_right_0) (sSeq (sSet 10 1 5 (xCall f_law_of (xCons (xVar 0) (xCons (xLst (xCons (xCon (.int 2)) (xCons (xCon (.int 3)) (xCons (xCon (.int 5)) (xCons (xCon (.int 7)) xNil))))) xNil)))) (sSeq (sSet 10 1 6 (xBin (binD .Mult) (xVar 5) (xVar 5))) (sSeq (sSet 10 1 7 (xLst (xCons (xCall f_turns (xCons (xVar 1) (xCons (xVar 6) xNil))) (xCons (xCall f_turns (xCons (xVar 1) (xCons (xBin (binD .Mult) (xVar 6) (xVar 5)) xNil))) (xCons (xCall f_turns (xCons (xVar 1) (xCons (xBin (binD .Mult) (xBin (binD .Mult) (xVar 6) (xVar 6)) (xVar 6)) xNil))) xNil))))) (sSeq (sIf 10 (tOr (tCmp (cmpD .NotEq) (xVar 7) (xBin (binD .Mult) (xLst (xCons (xCall f_law_is_turn (xCons (xVar 1) (xCons (xVar 6) xNil))) xNil)) (xCon (.int 3)))) (tAnd (tVal (xBin ixD (xVar 7) (xCon (.int 0)))) (tNot (tVal (xCall f_turns (xCons (xVar 1) (xCons (xVar 5) xNil))))))) (sSeq (sRet 10 1 (xCon (.bl false))) sNil) sNil) (sSeq (sPar 10 1 [8, 4] (xCons (xBin (binD .Sub) (xCall f_law_tap (xCons (xVar 0) (xCons (xCon (.int 90)) xNil))) (xCon (.int 45))) (xCons (xBin (binD .Add) (xCon (.int 1)) (xCall f_law_tap (xCons (xVar 0) (xCons (xCon (.int 999)) xNil)))) xNil))) (sSeq (sSet 10 1 9 (xIf (tCmp (cmpD .NotEq) (xVar 8) (xCon (.int 0))) (xTup (xCons (xCall f_law_tap (xCons (xVar 0) (xCons (xCon (.int 50)) xNil))) (xCons (xVar 8) xNil))) (xTup (xCons (xCon (.int 7)) xNil)))) (sSeq (sRet 10 1 (xCmp (cmpD .Eq) (xCall f_turns (xCons (xVar 9) (xCons (xVar 4) xNil))) (xCmp (cmpD .Eq) (xCall f_law_gcd (xCons (xVar 8) (xCons (xVar 4) xNil))) (xCon (.int 1))))) sNil)))))))))
def f_law_right : Fn := ⟨1, r_law_right, []⟩
@[simp] theorem ar_law_right : f_law_right.ar = 1 := id rfl
def t_31 : List (Str × Fn) := ("_law_right", f_law_right) :: t_30
theorem m_law_right : runOf c_law_right (defScope (topS 45)) (defBody (topS 45)) = r_law_right := by kernel_rfl
theorem s_law_right : FnScope N_law_right ["_law_cask_here"] (defScope (topS 45)) := ⟨rfl, rfl, rfl, by decide +kernel, rfl, by decide +kernel, by decide +kernel⟩
/-! ### law -/
def N_law : List Str := ["_law_script", "_law_k"]
def c_law : Cfg := ⟨N_law, 1, t_31, konT, bltN, 1, [], excT, exmT⟩
def r_law : M Slot := fnRun 2 1 (sSeq (sRet 2 1 (xBlt bAll (xCons (xLc [1] (itR1 (xBlt bMax (xCons (xCon (.int 2)) (xCons (xBlt bMin (xCons (xBlt bLen (xCons (xVar 0) xNil)) (xCons (xCon (.int 3)) xNil))) xNil)))) (tgN 1 1) (ret true) (xCall f_law_right (xCons (xCall f_law_cask (xCons (xVar 0) (xCons (xVar 1) xNil))) xNil))) xNil))) sNil)
def f_law : Fn := ⟨1, r_law, []⟩
@[simp] theorem ar_law : f_law.ar = 1 := id rfl
def t_32 : List (Str × Fn) := ("law", f_law) :: t_31
theorem m_law : runOf c_law (defScope (topS 46)) (defBody (topS 46)) = r_law := by kernel_rfl
theorem s_law : FnScope N_law ["_law_script"] (defScope (topS 46)) := ⟨rfl, rfl, rfl, by decide +kernel, rfl, by decide +kernel, by decide +kernel⟩
end K35
namespace PU
open PySem PySem.Spec PyProof.Rows L2 PU
@[simp] theorem rngD_lengthS (i : Int) (n : Nat) : (rngD i n).length = n := rngD_len i n
theorem rng_natD (n : Nat) : rngD 0 n = (List.range n).map fun k : Nat => D.int (k : Int) := rng_nat n
@[simp] theorem repr_bl (b : Bool) : bRepr [.bl b] = some (.val (.str (if b then "True" else "False"))) := id rfl
@[simp] theorem repr_nn : bRepr [.non] = some (.val (.str "None")) := id rfl
end PU
namespace Poly
/-! ### sums of powers as lists -/
def ev : List Int → Int → Int
  | [], _ => 0
  | a :: l, x => a + x * ev l x
theorem ev_append (l m : List Int) (x : Int) : ev (l ++ m) x = ev l x + x ^ l.length * ev m x := by
  induction l with
  | nil => simp [ev]
  | cons a l ih =>
    show a + x * ev (l ++ m) x = a + x * ev l x + x ^ (l.length + 1) * ev m x
    rw [ih, Int.pow_succ, Int.mul_add, Int.add_assoc, ← Int.mul_assoc, Int.mul_comm x (x ^ l.length)]
/-- Horner's way -/
def horner (x : Int) (l : List Int) (f : Int) : Int := l.foldl (fun f t => f * x + t) f
theorem horner_rev (x : Int) : ∀ (l : List Int), horner x l.reverse 0 = ev l x
  | [] => rfl
  | a :: l => by
    unfold horner
    rw [List.reverse_cons, List.foldl_append]
    show horner x l.reverse 0 * x + a = a + x * ev l x
    rw [horner_rev x l, Int.mul_comm, Int.add_comm]
/-! ### no noughts at the end -/
def trim : List Int → List Int
  | [] => []
  | a :: l => match trim l with
    | [] => if a = 0 then [] else [a]
    | b :: m => a :: b :: m
theorem ev_trim (x : Int) : ∀ l : List Int, ev (trim l) x = ev l x
  | [] => rfl
  | a :: l => by
    have ih := ev_trim x l
    unfold trim
    split
    · rename_i h
      rw [h] at ih
      have ih : ev l x = 0 := ih.symm
      split
      · rename_i h0; subst h0; simp [ev, ih]
      · simp [ev, ih]
    · rename_i b m h
      rw [h] at ih
      show a + x * ev (b :: m) x = a + x * ev l x
      rw [ih]
/-- what is nought from 1 on has noughts alone -/
theorem all_zero : ∀ l : List Int, (∀ x : Int, 1 ≤ x → ev l x = 0) → trim l = []
  | [], _ => rfl
  | a :: l, h => by
    have ha : a = 0 := by
      have h1 := h (a.natAbs + 1) (by omega)
      have h2 : a + (a.natAbs + 1 : Int) * ev l (a.natAbs + 1) = 0 := h1
      have h3 : ((a.natAbs : Int) + 1) ∣ a := ⟨-ev l (a.natAbs + 1), by rw [Int.mul_neg]; omega⟩
      have h4 : (a.natAbs + 1) ∣ a.natAbs := by
        have := Int.natAbs_dvd_natAbs.mpr h3
        have e : ((a.natAbs : Int) + 1).natAbs = a.natAbs + 1 := by omega
        rw [e] at this
        exact this
      have h5 := Nat.eq_zero_of_dvd_of_lt h4 (by omega)
      omega
    have hl : trim l = [] := all_zero l fun x hx => by
      have := h x hx
      have e : a + x * ev l x = 0 := this
      rw [ha, Int.zero_add] at e
      rcases Int.mul_eq_zero.mp e with z | z
      · omega
      · exact z
    unfold trim
    rw [hl]
    simp [ha]
/-- the difference of two -/
def sub : List Int → List Int → List Int
  | [], m => m.map (- ·)
  | l, [] => l
  | a :: l, b :: m => (a - b) :: sub l m
theorem ev_neg (x : Int) : ∀ m : List Int, ev (m.map (- ·)) x = -ev m x
  | [] => rfl
  | b :: m => by
    show -b + x * ev (m.map (- ·)) x = -(b + x * ev m x)
    rw [ev_neg x m, Int.mul_neg]; omega
theorem ev_sub (x : Int) : ∀ l m : List Int, ev (sub l m) x = ev l x - ev m x
  | [], m => by unfold sub; rw [ev_neg]; simp [ev]
  | a :: l, [] => by unfold sub; simp [ev]
  | a :: l, b :: m => by
    show (a - b) + x * ev (sub l m) x = a + x * ev l x - (b + x * ev m x)
    rw [ev_sub x l m, Int.mul_sub]; omega
theorem trim_neg : ∀ m : List Int, trim (m.map (- ·)) = [] → trim m = []
  | [], _ => rfl
  | b :: m, h => by
    rw [List.map_cons] at h
    unfold trim at h
    split at h
    · rename_i hm
      have := trim_neg m hm
      split at h
      · rename_i hb
        unfold trim
        rw [this]
        have : b = 0 := by omega
        simp [this]
      · cases h
    · cases h
theorem trim_sub : ∀ l m : List Int, trim (sub l m) = [] → trim l = trim m
  | [], m, h => by
    unfold sub at h
    rw [trim_neg m h]; rfl
  | a :: l, [], h => by unfold sub at h; rw [h]; rfl
  | a :: l, b :: m, h => by
    have h : trim ((a - b) :: sub l m) = [] := h
    unfold trim at h
    split at h
    · rename_i hs
      have ih := trim_sub l m hs
      split at h
      · rename_i hb
        have : a = b := by omega
        subst this
        unfold trim
        rw [ih]
      · cases h
    · cases h
/-- the same values from 1 on: the same sum -/
theorem uniq {l m : List Int} (h : ∀ x : Int, 1 ≤ x → ev l x = ev m x) : trim l = trim m :=
  trim_sub l m (all_zero _ fun x hx => by rw [ev_sub, h x hx]; omega)
/-! ### kept forms -/
structure Canon (l : List Int) : Prop where
  ne : l ≠ []
  end_ : l.length = 1 ∨ l[l.length - 1]? ≠ some 0
theorem trim_last : ∀ (l : List Int), l ≠ [] → l[l.length - 1]? ≠ some 0 → trim l = l
  | [], h, _ => absurd rfl h
  | [a], _, h => by
    have : a ≠ 0 := by simpa using h
    unfold trim
    simp [trim, this]
  | a :: b :: l, _, h => by
    have ih := trim_last (b :: l) (by simp) (by simpa using h)
    unfold trim
    rw [ih]
theorem canon_uniq {l m : List Int} (hl : Canon l) (hm : Canon m) (h : ∀ x : Int, 1 ≤ x → ev l x = ev m x) : l = m := by
  have u := uniq h
  have one : ∀ {l : List Int}, Canon l → (trim l = l ∧ l[l.length - 1]? ≠ some 0) ∨ l = [0] := fun {l} c => by
    by_cases z : l[l.length - 1]? = some 0
    · rcases c.end_ with e | e
      · right
        match l, e with
        | [a], _ => simp at z; rw [z]
      · exact absurd z e
    · exact .inl ⟨trim_last l c.ne z, z⟩
  have t0 : trim [0] = [] := rfl
  rcases one hl with ⟨a, a'⟩ | a
  · rcases one hm with ⟨b, b'⟩ | b
    · rw [← a, ← b]; exact u
    · rw [b, t0, a] at u; exact absurd u hl.ne
  · rcases one hm with ⟨b, b'⟩ | b
    · rw [a, t0, b] at u; exact absurd u.symm hm.ne
    · rw [a, b]
theorem ev_zero (x : Int) : ∀ l : List Int, (∀ a ∈ l, a = 0) → ev l x = 0
  | [], _ => rfl
  | a :: l, h => by
    show a + x * ev l x = 0
    rw [ev_zero x l fun b hb => h b (List.mem_cons_of_mem _ hb), h a (List.mem_cons_self ..)]; simp
/-- the noughts behind the k-th place cut off -/
theorem cut_canon {l : List Int} {k : Nat} (h1 : 1 ≤ k) (h2 : k ≤ l.length) (h3 : k = 1 ∨ l[k - 1]? ≠ some 0) (h4 : ∀ j, k ≤ j → j < l.length → l[j]? = some 0) : Canon (l.take k) ∧ ∀ x, ev (l.take k) x = ev l x := by
  have hl : (l.take k).length = k := by rw [List.length_take]; omega
  refine ⟨⟨fun e => by rw [e] at hl; simp at hl; omega, ?_⟩, fun x => ?_⟩
  · rw [hl]
    rcases h3 with z | z
    · exact .inl z
    · right; rw [List.getElem?_take_of_lt (by omega)]; exact z
  · have e : l = l.take k ++ l.drop k := (List.take_append_drop k l).symm
    have z : ev (l.drop k) x = 0 := ev_zero x _ fun a ha => by
      obtain ⟨i, hi, e⟩ := List.getElem_of_mem ha
      have := h4 (k + i) (by omega) (by rw [List.length_drop] at hi; omega)
      rw [← List.getElem?_drop, List.getElem?_eq_getElem hi, e] at this
      cases this; rfl
    conv => rhs; rw [e]
    rw [ev_append, z]; simp
end Poly
namespace Poly
/-! ### divided by x - p, again and again -/
def sufs (p : Int) : List Int → List Int
  | [] => []
  | a :: m => ev (a :: m) p :: sufs p m
theorem sufs_len (p : Int) : ∀ l : List Int, (sufs p l).length = l.length
  | [] => rfl
  | a :: m => by show (sufs p m).length + 1 = m.length + 1; rw [sufs_len p m]
theorem div_ev (p x : Int) : ∀ (m : List Int) (a : Int), ev (a :: m) x = ev (a :: m) p + (x - p) * ev (sufs p m) x
  | [], a => by simp [ev, sufs]
  | b :: m, a => by
    have ih := div_ev p x m b
    show a + x * ev (b :: m) x = a + p * ev (b :: m) p + (x - p) * (ev (b :: m) p + x * ev (sufs p m) x)
    rw [ih]
    generalize ev (b :: m) p = r
    generalize ev (sufs p m) x = q
    have e1 : x * (r + (x - p) * q) = x * r + x * ((x - p) * q) := Int.mul_add ..
    have e2 : (x - p) * (r + x * q) = (x - p) * r + (x - p) * (x * q) := Int.mul_add ..
    have e3 : x * ((x - p) * q) = (x - p) * (x * q) := Int.mul_left_comm ..
    have e4 : (x - p) * r = x * r - p * r := Int.sub_mul ..
    omega
def scanL (p : Int) : List Int → Int → List Int
  | [], _ => []
  | t :: ts, c => (c * p + t) :: scanL p ts (c * p + t)
theorem scan_app (p a : Int) : ∀ (xs : List Int) (c : Int), scanL p (xs ++ [a]) c = scanL p xs c ++ [horner p xs c * p + a]
  | [], c => rfl
  | t :: ts, c => by
    show (c * p + t) :: scanL p (ts ++ [a]) (c * p + t) = (c * p + t) :: (scanL p ts (c * p + t) ++ [horner p ts (c * p + t) * p + a])
    rw [scan_app p a ts]
theorem scan_rev (p : Int) : ∀ l : List Int, scanL p l.reverse 0 = (sufs p l).reverse
  | [] => rfl
  | a :: m => by
    rw [List.reverse_cons, scan_app, scan_rev p m, horner_rev]
    show _ = (ev (a :: m) p :: sufs p m).reverse
    rw [List.reverse_cons]
    congr 2
    show ev m p * p + a = a + p * ev m p
    rw [Int.mul_comm, Int.add_comm]
def stp (p : Int) : Nat → List Int → List Int
  | 0, _ => []
  | _, [] => []
  | n + 1, a :: m => ev (a :: m) p :: stp (p + 1) n (sufs p m)
def fl (p : Int) : List Int → Int → Int
  | [], _ => 0
  | s :: ss, x => s + (x - p) * fl (p + 1) ss x
theorem fl_stp (x : Int) : ∀ (n : Nat) (p : Int) (l : List Int), l.length ≤ n → fl p (stp p n l) x = ev l x
  | 0, p, l, h => by
    cases l with
    | nil => rfl
    | cons a m => simp at h
  | n + 1, p, [], h => rfl
  | n + 1, p, a :: m, h => by
    show ev (a :: m) p + (x - p) * fl (p + 1) (stp (p + 1) n (sufs p m)) x = ev (a :: m) x
    rw [fl_stp x n (p + 1) (sufs p m) (by rw [sufs_len]; simpa using h), div_ev p x m a]
theorem stp_len : ∀ (n : Nat) (p : Int) (l : List Int), l.length ≤ n → (stp p n l).length = l.length
  | 0, p, l, h => by
    cases l with
    | nil => rfl
    | cons a m => simp at h
  | n + 1, p, [], h => rfl
  | n + 1, p, a :: m, h => by
    show (stp (p + 1) n (sufs p m)).length + 1 = m.length + 1
    rw [stp_len n (p + 1) (sufs p m) (by rw [sufs_len]; simpa using h), sufs_len]
/-! ### slopes -/
def dv : List Int → Int → Int
  | [], _ => 0
  | _ :: m, x => ev m x + x * dv m x
theorem taylor (x h : Int) : ∀ l : List Int, ∃ q : Int, ev l (x + h) = ev l x + h * dv l x + h * h * q
  | [] => ⟨0, by simp [ev, dv]⟩
  | a :: m => by
    obtain ⟨q, e⟩ := taylor x h m
    refine ⟨dv m x + (x + h) * q, ?_⟩
    show a + (x + h) * ev m (x + h) = a + x * ev m x + h * (ev m x + x * dv m x) + h * h * (dv m x + (x + h) * q)
    rw [e]
    generalize ev m x = u
    generalize dv m x = v
    have e1 : (x + h) * (u + h * v + h * h * q) = x * u + h * u + (x + h) * (h * v) + (x + h) * (h * h * q) := by
      rw [Int.mul_add, Int.mul_add, Int.add_mul]
    have e2 : (x + h) * (h * v) = h * (x * v) + h * h * v := by
      rw [Int.add_mul, Int.mul_left_comm, Int.mul_assoc]
    have e3 : h * h * (v + (x + h) * q) = h * h * v + h * h * ((x + h) * q) := Int.mul_add ..
    have e4 : (x + h) * (h * h * q) = h * h * ((x + h) * q) := Int.mul_left_comm ..
    have e5 : h * (u + x * v) = h * u + h * (x * v) := Int.mul_add ..
    omega
end Poly
namespace Poly
/-! ### slopes -/
def gz (k : Nat) (l : List Int) : List Int := (l.zipIdx k).map fun p => ((p.2 : Nat) : Int) * p.1
def slp (l : List Int) : List Int := if 1 < l.length then (gz 0 l).drop 1 else [0]
theorem gz_cons (k : Nat) (a : Int) (l : List Int) : gz k (a :: l) = (k : Int) * a :: gz (k + 1) l := rfl
theorem gz_len (k : Nat) (l : List Int) : (gz k l).length = l.length := by unfold gz; simp
theorem slp_len (l : List Int) : (slp l).length ≤ l.length + 1 := by
  unfold slp
  split
  · rw [List.length_drop, gz_len]; omega
  · simp
theorem slp_len2 (l : List Int) : (slp l).length = max 1 (l.length - 1) := by
  unfold slp
  split
  · rw [List.length_drop, gz_len]; omega
  · simp; omega
theorem ev_gz (x : Int) : ∀ (l : List Int) (k : Nat), ev (gz k l) x = x * dv l x + (k : Int) * ev l x
  | [], k => by simp [gz, ev, dv]
  | a :: l, k => by
    rw [gz_cons]
    show (k : Int) * a + x * ev (gz (k + 1) l) x = x * (ev l x + x * dv l x) + (k : Int) * (a + x * ev l x)
    rw [ev_gz x l (k + 1)]
    generalize ev l x = u
    generalize dv l x = v
    have e1 : x * (x * v + ((k + 1 : Nat) : Int) * u) = x * (x * v) + x * (((k + 1 : Nat) : Int) * u) := Int.mul_add ..
    have e2 : ((k + 1 : Nat) : Int) * u = (k : Int) * u + u := by rw [Int.natCast_add, Int.add_mul]; simp
    have e3 : x * ((k : Int) * u + u) = x * ((k : Int) * u) + x * u := Int.mul_add ..
    have e4 : x * (u + x * v) = x * u + x * (x * v) := Int.mul_add ..
    have e5 : (k : Int) * (a + x * u) = (k : Int) * a + (k : Int) * (x * u) := Int.mul_add ..
    have e6 : x * ((k : Int) * u) = (k : Int) * (x * u) := Int.mul_left_comm ..
    rw [e2] at e1
    rw [e2, e1, e3, e4, e5, e6]
    omega
theorem ev_slp (l : List Int) (h : l ≠ []) (x : Int) : ev (slp l) x = dv l x := by
  unfold slp
  split
  · cases l with
    | nil => exact absurd rfl h
    | cons a m =>
      show ev (gz 1 m) x = ev m x + x * dv m x
      rw [ev_gz]; simp; omega
  · rename_i h1
    match l, h, h1 with
    | [a], _, _ => simp [ev, dv]
    | a :: b :: m, _, h1 => simp at h1
/-! ### steps -/
/-! ### how great the coefficients are in all -/
def n1 : List Int → Nat
  | [] => 0
  | a :: l => a.natAbs + n1 l
theorem n1_mem : ∀ {l : List Int} {a : Int}, a ∈ l → a.natAbs ≤ n1 l
  | b :: l, a, h => by
    rcases List.mem_cons.mp h with rfl | h
    · unfold n1; omega
    · have := n1_mem h; unfold n1; omega
theorem n1_take : ∀ (l : List Int) (k : Nat), n1 (l.take k) ≤ n1 l
  | [], k => by simp
  | a :: l, 0 => by simp [n1]
  | a :: l, k + 1 => by have := n1_take l k; simp [n1]; omega
theorem n1_set : ∀ (l : List Int) (i : Nat) (v d : Int), l[i]? = some v → n1 (l.set i (v + d)) ≤ n1 l + d.natAbs
  | [], i, v, d, h => by simp at h
  | a :: l, 0, v, d, h => by
    simp at h; subst h
    have := Int.natAbs_add_le a d
    simp [n1]; omega
  | a :: l, i + 1, v, d, h => by
    have := n1_set l i v d (by simpa using h)
    simp [n1]; omega
theorem ev_set (x : Int) : ∀ (l : List Int) (i : Nat) (v d : Int), l[i]? = some v → ev (l.set i (v + d)) x = ev l x + d * x ^ i
  | [], i, v, d, h => by simp at h
  | a :: l, 0, v, d, h => by
    simp at h; subst h
    show a + d + x * ev l x = a + x * ev l x + d * x ^ 0
    rw [Int.pow_zero, Int.mul_one]; omega
  | a :: l, i + 1, v, d, h => by
    show a + x * ev (l.set i (v + d)) x = a + x * ev l x + d * x ^ (i + 1)
    rw [ev_set x l i v d (by simpa using h), Int.mul_add, Int.pow_succ, Int.add_assoc]
    congr 2
    rw [← Int.mul_assoc, Int.mul_comm x d, Int.mul_assoc, Int.mul_comm x]
theorem n1_rep0 (n : Nat) : n1 (List.replicate n 0) = 0 := by
  induction n with
  | zero => rfl
  | succ n ih => rw [List.replicate_succ]; unfold n1; rw [ih]; rfl
theorem ev_rep0 (x : Int) (n : Nat) : ev (List.replicate n 0) x = 0 := ev_zero x _ fun a ha => List.eq_of_mem_replicate ha
theorem n1_gz : ∀ (l : List Int) (k m : Nat), k + l.length ≤ m + 1 → n1 (gz k l) ≤ m * n1 l
  | [], k, m, _ => by simp [gz, n1]
  | a :: l, k, m, h => by
    rw [List.length_cons] at h
    have ih := n1_gz l (k + 1) m (by omega)
    have h2 : k * a.natAbs ≤ m * a.natAbs := Nat.mul_le_mul_right _ (by omega)
    rw [gz_cons]
    unfold n1
    rw [Int.natAbs_mul, Int.natAbs_natCast, Nat.mul_add]
    omega
theorem n1_drop : ∀ (l : List Int) (k : Nat), n1 (l.drop k) ≤ n1 l
  | [], k => by simp
  | a :: l, 0 => by simp
  | a :: l, k + 1 => by have := n1_drop l k; simp [n1]; omega
theorem n1_slp (l : List Int) (m : Nat) (h : l.length ≤ m + 1) : n1 (slp l) ≤ m * n1 l := by
  unfold slp
  split
  · exact Nat.le_trans (n1_drop _ _) (n1_gz l 0 m (by omega))
  · simp [n1]
theorem n1_app : ∀ (l m : List Int), n1 (l ++ m) = n1 l + n1 m
  | [], m => by simp [n1]
  | a :: l, m => by simp [n1, n1_app l m]; omega
theorem slp_canon {l : List Int} (h : Canon l) : Canon (slp l) := by
  unfold slp
  split
  · rename_i h1
    refine ⟨fun e => ?_, ?_⟩
    · have := congrArg List.length e
      rw [List.length_drop, gz_len] at this; simp at this; omega
    · right
      rw [List.length_drop, gz_len, List.getElem?_drop, show 1 + (l.length - 1 - 1) = l.length - 1 by omega]
      rcases h.2 with h2 | h2
      · omega
      · intro e
        apply h2
        unfold gz at e
        rw [List.getElem?_map, List.getElem?_zipIdx, List.getElem?_eq_getElem (by omega)] at e
        rw [List.getElem?_eq_getElem (by omega)]
        simp at e ⊢
        rcases Int.mul_eq_zero.mp e with e | e
        · omega
        · exact e
  · exact ⟨by simp, .inl rfl⟩
end Poly
namespace K35
open PySem PySem.Spec PyProof.Rows L2 PU Poly
theorem ok_is_integer (i : Int) : runF f_is_integer [.val (.int i)] = .ok (.val (.bl true)) [.val (.int i)] := by rw [runF_def]; rfl
end K35
namespace K35
open PySem PySem.Spec PyProof.Rows L2 PU Poly
theorem ok_is_between (v l m : Int) : runF f_is_between [.val (.int v), .val (.int l), .val (.int m)] = .ok (.val (.bl (decide (l ≤ v ∧ v ≤ m)))) [.val (.int v), .val (.int l), .val (.int m)] := by
  simp only [runF_def, f_is_between, r_is_between]
  by_cases h1 : l ≤ v <;> by_cases h2 : v ≤ m <;> simp [ok_is_integer, h1, h2]
end K35
namespace K35
open PySem PySem.Spec PyProof.Rows L2 PU Poly
theorem ok_check_between (v l m : Int) (h1 : l ≤ v) (h2 : v ≤ m) : runF f_check_between [.val (.int v), .val (.int l), .val (.int m)] = .ok (.val .non) [.val (.int v), .val (.int l), .val (.int m)] := by
  simp only [runF_def, f_check_between, r_check_between]
  simp [ok_is_between v l m, h1, h2]
end K35
namespace K35
open PySem PySem.Spec PyProof.Rows L2 PU Poly
theorem ok_check_base (v : Int) (h1 : 1 ≤ v) (h2 : v ≤ 1000000000000) : runF f_check_base [.val (.int v)] = .ok (.val .non) [.val (.int v)] := by
  simp only [runF_def, f_check_base, r_check_base, d_MOST_BASE]
  simp [ok_check_between v _ _ h1 h2]
end K35
namespace Poly
structure Sm (l : List Int) : Prop where
  ne : l ≠ []
  len : l.length ≤ 13
  co : ∀ a ∈ l, -1000000000000 ≤ a ∧ a ≤ 1000000000000
  end_ : l.length = 1 ∨ l[l.length - 1]? ≠ some 0
theorem sm_of {l : List Int} (h : Canon l) (hl : l.length ≤ 13) (hc : ∀ a ∈ l, -1000000000000 ≤ a ∧ a ≤ 1000000000000) : Sm l := ⟨h.1, hl, hc, h.2⟩
theorem Sm.canon {l : List Int} (h : Sm l) : Canon l := ⟨h.ne, h.end_⟩
theorem Sm.last {l : List Int} (h : Sm l) : ∃ z, l.getLast? = some z ∧ (l.length = 1 ∨ z ≠ 0) := by
  have h1 : 0 < l.length := List.length_pos_iff.mpr h.ne
  refine ⟨l[l.length - 1], by rw [List.getLast?_eq_getElem?]; exact List.getElem?_eq_getElem (by omega), ?_⟩
  rcases h.end_ with z | z
  · exact .inl z
  · refine .inr fun e => z ?_
    rw [List.getElem?_eq_getElem (by omega), e]
end Poly
namespace K35
open PySem PySem.Spec PyProof.Rows L2 PU Poly
theorem ok_is_sum (l : List Int) (h : Sm l) : runF f_is_sum [.val (tupD l)] = .ok (.val (.bl true)) [.val (tupD l)] := by
  have h0 : 0 < l.length := List.length_pos_iff.mpr h.ne
  have h1 : (1 : Int) ≤ (l.length : Int) := by omega
  have h2 : (l.length : Int) ≤ 13 := by have := h.len; omega
  obtain ⟨z, hz, ho⟩ := h.last
  apply eq_of_wp
  simp only [runF_def, f_is_sum, r_is_sum, d_MOST_DEGREE, d_MOST_COEFFICIENT]
  simp [h1, h2]
  refine wp_lcmap D.int (fun _ => D.bl true) l (by have := h.len; simp; omega) (fun x hx => by simp [ok_is_between, h.co x hx]) ?_
  by_cases h3 : l.length = 1
  · have h3' : (l.length : Int) = 1 := by omega
    simp [h3', hz]
  · have h3' : ¬ (l.length : Int) = 1 := by omega
    have hz0 : z ≠ 0 := by rcases ho with q | q; exact absurd q h3; exact q
    simp [h3', hz, hz0]
end K35
namespace K35
open PySem PySem.Spec PyProof.Rows L2 PU Poly
theorem ok_check_sum (l : List Int) (h : Sm l) : runF f_check_sum [.val (tupD l)] = .ok (.val .non) [.val (tupD l)] := by
  simp only [runF_def, f_check_sum, r_check_sum]
  simp [ok_is_sum l h]
end K35
namespace PU
open PySem PySem.Spec PyProof.Rows L2 PU
/-! ### the gcd by rests -/
theorem gcd_turn {a b k : Nat} (hb : 0 < b) (hk : a * b < 2 ^ k) (h : b ≤ a) : b * (a % b) < 2 ^ (k - 1) ∧ 1 ≤ k := by
  have h1 := Nat.mod_lt a hb
  have e4 : 1 ≤ a / b := (Nat.one_le_div_iff hb).mpr h
  have e5 := Nat.mul_le_mul_left b e4
  have e3 := Nat.div_add_mod a b
  have e6 : b * (2 * (a % b)) ≤ b * a := Nat.mul_le_mul_left b (by omega)
  have e7 : b * (2 * (a % b)) = 2 * (b * (a % b)) := by rw [Nat.mul_left_comm]
  have hp : 0 < b * a := Nat.mul_pos hb (by omega)
  rw [Nat.mul_comm a b] at hk
  have hk1 : 1 ≤ k := by
    apply Classical.byContradiction
    intro hn
    rw [show k = 0 by omega] at hk
    omega
  refine ⟨?_, hk1⟩
  obtain ⟨j, rfl⟩ : ∃ j, k = j + 1 := ⟨k - 1, by omega⟩
  rw [Nat.pow_succ] at hk
  rw [Nat.add_sub_cancel]
  omega
theorem fmod_nat (a b : Nat) : (a : Int).fmod (b : Int) = ((a % b : Nat) : Int) := by
  rw [Int.fmod_eq_emod_of_nonneg _ (Int.natCast_nonneg b)]; rfl
theorem fdiv_nat (a b : Nat) : (a : Int).fdiv (b : Int) = ((a / b : Nat) : Int) := by
  rw [Int.fdiv_eq_ediv_of_nonneg _ (Int.natCast_nonneg b)]; rfl
/-- a number that falls in each turn -/
def gcdM (a b k : Nat) : Nat := 2 * k + (if a < b then 1 else 0)
theorem gcdM_turn {a b k : Nat} (hb : 0 < b) (hk : a * b < 2 ^ k) : ∃ k', gcdM b (a % b) k' < gcdM a b k ∧ b * (a % b) < 2 ^ k' := by
  have h1 := Nat.mod_lt a hb
  unfold gcdM
  rw [if_neg (show ¬ b < a % b by omega)]
  by_cases h : a < b
  · refine ⟨k, by rw [if_pos h]; omega, ?_⟩
    rw [Nat.mod_eq_of_lt h, Nat.mul_comm]; exact hk
  · obtain ⟨q1, q2⟩ := gcd_turn hb hk (by omega)
    exact ⟨k - 1, by rw [if_neg h]; omega, q1⟩
end PU
namespace PU
open PySem PySem.Spec PyProof.Rows L2 PU
theorem bezN : ∀ (b a : Nat), ∃ u v : Int, u * a + v * b = (Nat.gcd a b : Nat)
  | 0, a => ⟨1, 0, by simp⟩
  | b + 1, a => by
    have := Nat.mod_lt a (show 0 < b + 1 by omega)
    obtain ⟨u, v, e⟩ := bezN (a % (b + 1)) (b + 1)
    refine ⟨v, u - v * ((a / (b + 1) : Nat) : Int), ?_⟩
    have h := Nat.div_add_mod a (b + 1)
    have h2 : (a : Int) = ((b + 1 : Nat) : Int) * ((a / (b + 1) : Nat) : Int) + ((a % (b + 1) : Nat) : Int) := by exact_mod_cast h.symm
    have g : Nat.gcd a (b + 1) = Nat.gcd (b + 1) (a % (b + 1)) := by rw [Nat.gcd_comm a, Nat.gcd_rec (b + 1) a, Nat.gcd_comm]
    rw [g, ← e]
    generalize ((b + 1 : Nat) : Int) = B at *
    generalize ((a / (b + 1) : Nat) : Int) = Q at *
    generalize ((a % (b + 1) : Nat) : Int) = R at *
    rw [h2]
    grind
termination_by b => b
theorem bez (a b : Int) : ∃ u v : Int, u * a + v * b = (Int.gcd a b : Nat) := by
  obtain ⟨u, v, e⟩ := bezN b.natAbs a.natAbs
  have h1 : (a.natAbs : Int) = a ∨ (a.natAbs : Int) = -a := by omega
  have h2 : (b.natAbs : Int) = b ∨ (b.natAbs : Int) = -b := by omega
  have e : u * (a.natAbs : Int) + v * (b.natAbs : Int) = (Int.gcd a b : Nat) := e
  rcases h1 with h1 | h1 <;> rcases h2 with h2 | h2 <;> rw [h1, h2] at e
  · exact ⟨u, v, e⟩
  · exact ⟨u, -v, by rw [← e]; grind⟩
  · exact ⟨-u, v, by rw [← e]; grind⟩
  · exact ⟨-u, -v, by rw [← e]; grind⟩
end PU
namespace PU
open PySem PySem.Spec PyProof.Rows L2 PU
theorem hb_step {f x t : Int} {k : Nat} (hf : f.natAbs ≤ 2 ^ (151 * k)) (hx : x.natAbs ≤ 2 ^ 150) (ht : t.natAbs ≤ 2 ^ 150) : (f * x + t).natAbs ≤ 2 ^ (151 * (k + 1)) := by
  have h1 : (f * x + t).natAbs ≤ (f * x).natAbs + t.natAbs := Int.natAbs_add_le ..
  rw [Int.natAbs_mul] at h1
  have h2 : f.natAbs * x.natAbs ≤ 2 ^ (151 * k) * 2 ^ 150 := Nat.mul_le_mul hf hx
  have h3 : 2 ^ 150 ≤ 2 ^ (151 * k) * 2 ^ 150 := Nat.le_mul_of_pos_left _ (Nat.two_pow_pos _)
  have h4 : 2 ^ (151 * (k + 1)) = 2 ^ (151 * k) * 2 ^ 150 + 2 ^ (151 * k) * 2 ^ 150 := by
    rw [Nat.mul_add, Nat.pow_add, show 151 * 1 = 150 + 1 from rfl, Nat.pow_succ, ← Nat.mul_assoc]; omega
  omega
theorem hr_step {f x : Int} {k : Nat} (hf : f.natAbs ≤ 2 ^ (151 * k)) (hx : x.natAbs ≤ 2 ^ 150) (hk : k ≤ 1000) : mulG f x = true :=
  mul_fits (n := 151 * k + 1) (m := 151) (Nat.lt_of_le_of_lt hf (Nat.pow_lt_pow_right (by decide) (by omega))) (Nat.lt_of_le_of_lt hx (Nat.pow_lt_pow_right (by decide) (by decide))) (by omega)
theorem ev_le {x : Int} (hx : x.natAbs ≤ 2 ^ 150) : ∀ l : List Int, (∀ a ∈ l, a.natAbs ≤ 2 ^ 150) → (Poly.ev l x).natAbs ≤ 2 ^ (151 * l.length)
  | [], _ => Nat.zero_le _
  | a :: l, h => by
    have ih := ev_le hx l fun b hb => h b (List.mem_cons_of_mem _ hb)
    have := hb_step ih hx (h a (List.mem_cons_self ..))
    rw [List.length_cons]
    rw [Int.mul_comm, Int.add_comm] at this
    exact this
end PU
namespace K35
open PySem PySem.Spec PyProof.Rows L2 PU Poly
/-- a list or a tuple of ints in a slot -/
inductive Sq : Slot → List Int → Prop
  | lst (l : List Int) : Sq (.val (lstD l)) l
  | own (l : List Int) : Sq (.own false (l.map D.int)) l
  | tup (l : List Int) : Sq (.val (tupD l)) l
theorem ok_trimmed {T : Slot} {l : List Int} (hT : Sq T l) (h0 : l ≠ []) (hl : l.length ≤ 1000000) : ∃ r : List Int, runF f_trimmed [T] = .ok (.val (tupD r)) [T] ∧ Canon r ∧ (∀ x, ev r x = ev l x) ∧ r.length ≤ l.length ∧ n1 r ≤ n1 l := by
  have h1 : 1 ≤ l.length := List.length_pos_iff.mpr h0
  have key : wp (runF f_trimmed [T]) (fun v s => ∃ r, v = .val (tupD r) ∧ s = [T] ∧ Canon r ∧ (∀ x, ev r x = ev l x) ∧ r.length ≤ l.length ∧ n1 r ≤ n1 l) noX := by
    simp only [runF_def, f_trimmed, r_trimmed]
    cases hT <;> (
      simp
      refine wp_sWhile (fun m s => ∃ k : Nat, s = [_, .val (.int k)] ∧ k = m ∧ 1 ≤ k ∧ k ≤ l.length ∧ ∀ j, k ≤ j → j < l.length → l[j]? = some 0) l.length _ ⟨l.length, rfl, rfl, h1, Nat.le_refl _, fun j h2 h3 => by omega⟩ (by omega) ?_
      rintro m _ ⟨k, rfl, rfl, hk1, hk2, hk3⟩
      obtain ⟨z, hz⟩ : ∃ z, l[k - 1]? = some z := ⟨_, List.getElem?_eq_getElem (by omega)⟩
      have ha := at_i hz (show (k : Int) - 1 = ((k - 1 : Nat) : Int) by omega)
      have fin : k = 1 ∨ z ≠ 0 → ∃ r, tupD (l.take k) = tupD r ∧ Canon r ∧ (∀ x, ev r x = ev l x) ∧ r.length ≤ l.length ∧ n1 r ≤ n1 l := fun h => by
        obtain ⟨c1, c2⟩ := cut_canon hk1 hk2 (by rcases h with h | h; exact .inl h; exact .inr (by rw [hz]; simpa using h)) hk3
        exact ⟨_, rfl, c1, c2, by rw [List.length_take]; omega, n1_take _ _⟩
      by_cases h1 : (1 : Int) < (k : Int)
      · by_cases h0 : z = 0
        · subst h0
          simp [wt_trimmed_0, wb_trimmed_0, h1, ha]
          refine H1.mk ⟨k - 1, by omega, k - 1, ?_, rfl, by omega, by omega, fun j hj hl => ?_⟩
          · rw [show ((k - 1 : Nat) : Int) = (k : Int) - 1 by omega]
          · by_cases hjk : j = k - 1
            · subst hjk; exact hz
            · exact hk3 j (by omega) hl
        · obtain ⟨r, e, c⟩ := fin (.inr h0)
          simp only [tupD, List.map_take] at e
          simp [wt_trimmed_0, h1, ha, h0, e]
          exact ⟨r, rfl, c⟩
      · obtain ⟨r, e, c⟩ := fin (.inl (by omega))
        simp only [tupD, List.map_take] at e
        simp [wt_trimmed_0, h1, e]
        exact ⟨r, rfl, c⟩)
  obtain ⟨v, s, e, r, rfl, rfl, c⟩ := wp_ex key
  exact ⟨r, e, c⟩
end K35
namespace K35
open PySem PySem.Spec PyProof.Rows L2 PU Poly
theorem ok_slope_of (l : List Int) (h : ∀ a ∈ l, a.natAbs ≤ 2 ^ 150) (hl : l.length ≤ 500) : runF f_slope_of [.val (tupD l)] = .ok (.val (tupD (slp l))) [.val (tupD l)] := by
  apply eq_of_wp
  simp only [runF_def, f_slope_of, r_slope_of]
  have en : enumD (l.map D.int) = (l.zipIdx 0).map fun p => .tup [.int ((p.2 : Nat) : Int), .int p.1] := by
    unfold enumD; rw [List.zipIdx_map]; simp
  simp [en]
  refine wp_lcmap (fun p : Int × Nat => D.tup [.int ((p.2 : Nat) : Int), .int p.1]) (fun p => D.int ((p.2 : Int) * p.1)) (l.zipIdx 0) (by simp; omega) (fun p hp => by
    have h1 := List.mem_zipIdx hp
    have h2 := h p.1 (by rw [h1.2.2]; exact List.getElem_mem _)
    have hg : mulG (p.2 : Int) p.1 = true := mul_fits (n := 10) (m := 151) (by rw [Int.natAbs_natCast]; omega) (Nat.lt_of_le_of_lt h2 (Nat.pow_lt_pow_right (by decide) (by decide))) (by decide)
    simp [hg]) ?_
  have e : (l.zipIdx 0).map (fun p => D.int ((p.2 : Int) * p.1)) = (gz 0 l).map D.int := by unfold gz; rw [List.map_map]; rfl
  rw [e]
  by_cases h1 : 1 < l.length
  · have h1' : (1 : Int) < ((gz 0 l).length : Int) := by rw [gz_len]; omega
    have e : slp l = (gz 0 l).drop 1 := by unfold slp; rw [if_pos h1]
    rw [e]
    simp [h1', List.map_drop]
  · have h1' : ¬ (1 : Int) < ((gz 0 l).length : Int) := by rw [gz_len]; omega
    have e : slp l = [0] := by unfold slp; rw [if_neg h1]
    rw [e]
    simp [h1']
end K35
namespace K35
open PySem PySem.Spec PyProof.Rows L2 PU Poly
theorem ok_check_made (l : List Int) (h : ∀ a ∈ l, -1000000000000 ≤ a ∧ a ≤ 1000000000000) (hl : l.length ≤ 13) : runF f_check_made [.val (tupD l)] = .ok (.val (tupD l)) [.val (tupD l)] := by
  have hn : ¬ (12 : Int) < (l.length : Int) - 1 := by omega
  apply eq_of_wp
  simp only [runF_def, f_check_made, r_check_made, d_MOST_DEGREE]
  simp
  refine wp_for D.int (fun rest s => ∃ s1, s = [.val (tupD l), s1]) _ _ ⟨_, rfl⟩ ?_ ?_
  · rintro a rest _ ha - ⟨s1, rfl⟩
    have hn : ¬ (1000000000000 : Int) < (a.natAbs : Int) := by have := h a ha; omega
    simp [fb_check_made_0, d_MOST_COEFFICIENT, hn]
    exact H1.mk ⟨_, rfl⟩
  · rintro _ ⟨s1, rfl⟩
    simp [hn]
end K35
namespace Poly
def pad (l : List Int) (n : Nat) : List Int := l ++ List.replicate (n - l.length) 0
theorem ev_pad (l : List Int) (n : Nat) (x : Int) : ev (pad l n) x = ev l x := by
  unfold pad; rw [ev_append, ev_rep0, Int.mul_zero, Int.add_zero]
theorem n1_pad (l : List Int) (n : Nat) : n1 (pad l n) = n1 l := by
  unfold pad; rw [n1_app, n1_rep0, Nat.add_zero]
theorem pad_len (l : List Int) (n : Nat) (h : l.length ≤ n) : (pad l n).length = n := by unfold pad; simp; omega
def addL (l m : List Int) : List Int := (l.zip m).map fun p => p.1 + p.2
theorem ev_addL (x : Int) : ∀ l m : List Int, l.length = m.length → ev (addL l m) x = ev l x + ev m x
  | [], [], _ => rfl
  | a :: l, b :: m, h => by
    show a + b + x * ev (addL l m) x = a + x * ev l x + (b + x * ev m x)
    rw [ev_addL x l m (by simpa using h), Int.mul_add]; omega
theorem n1_addL : ∀ l m : List Int, l.length = m.length → n1 (addL l m) ≤ n1 l + n1 m
  | [], [], _ => Nat.le_refl _
  | a :: l, b :: m, h => by
    have := n1_addL l m (by simpa using h)
    have := Int.natAbs_add_le a b
    show (a + b).natAbs + n1 (addL l m) ≤ a.natAbs + n1 l + (b.natAbs + n1 m)
    omega
theorem n1_c {l : List Int} {B : Nat} (h : n1 l ≤ B) (hB : B ≤ 1000000000000) : ∀ a ∈ l, -1000000000000 ≤ a ∧ a ≤ 1000000000000 := fun a ha => by
  have := n1_mem ha
  omega
theorem sm_n1 {l : List Int} (h : Canon l) (hl : l.length ≤ 13) (hc : n1 l ≤ 1000000000000) : Sm l := sm_of h hl (n1_c hc (Nat.le_refl _))
end Poly
namespace K35
open PySem PySem.Spec PyProof.Rows L2 PU Poly
theorem ok_multiplied_of (l m : List Int) (hl : l ≠ []) (hm : m ≠ []) (h1 : l.length ≤ 400) (h2 : m.length ≤ 400) (b1 : n1 l ≤ 2 ^ 1000) (b2 : n1 m ≤ 2 ^ 1000) : ∃ r : List Int, runF f_multiplied_of [.val (tupD l), .val (tupD m)] = .ok (.val (tupD r)) [.val (tupD l), .val (tupD m)] ∧ Canon r ∧ (∀ x, ev r x = ev l x * ev m x) ∧ r.length ≤ l.length + m.length - 1 ∧ n1 r ≤ n1 l * n1 m := by
  have hl0 : 0 < l.length := List.length_pos_iff.mpr hl
  have hm0 : 0 < m.length := List.length_pos_iff.mpr hm
  have key : wp (runF f_multiplied_of [.val (tupD l), .val (tupD m)]) (fun v s => ∃ r, v = .val (tupD r) ∧ s = [.val (tupD l), .val (tupD m)] ∧ Canon r ∧ (∀ x, ev r x = ev l x * ev m x) ∧ r.length ≤ l.length + m.length - 1 ∧ n1 r ≤ n1 l * n1 m) noX := by
    have e1 : ((l.length : Int) + (m.length : Int) - 1).toNat = l.length + m.length - 1 := by omega
    have g1 : -9223372036854775808 ≤ (l.length : Int) + (m.length : Int) - 1 ∧ (l.length : Int) + (m.length : Int) - 1 < 9223372036854775808 := by omega
    have g2 : l.length + m.length - 1 ≤ 16777216 := by omega
    simp only [runF_def, f_multiplied_of, r_multiplied_of]
    simp [e1, g1, g2, enumI]
    rw [show List.replicate (l.length + m.length - 1) (D.int 0) = (List.replicate (l.length + m.length - 1) (0 : Int)).map D.int by simp]
    refine wp_for (fun p : Int × Nat => D.tup [.int ((p.2 : Nat) : Int), .int p.1]) (fun rest s => ∃ (F : List Int) (k : Nat) (l' : List Int) (s3 s4 s5 s6 : Slot), s = [.val (tupD l), .val (tupD m), .own false (F.map D.int), s3, s4, s5, s6] ∧ rest = l'.zipIdx k ∧ k + l'.length = l.length ∧ F.length = l.length + m.length - 1 ∧ (∀ x, ev F x + x ^ k * ev l' x * ev m x = ev l x * ev m x) ∧ n1 F + n1 l' * n1 m ≤ n1 l * n1 m) _ _
      ⟨List.replicate (l.length + m.length - 1) 0, 0, l, _, _, _, _, rfl, rfl, by omega, by simp, fun x => by rw [ev_rep0]; simp, by rw [n1_rep0]; omega⟩ ?_ ?_
    · rintro ⟨a, k'⟩ rest _ ha - ⟨F, k, l', s3, s4, s5, s6, rfl, hr, hk, hF, he, hn⟩
      cases l' with
      | nil => simp at hr
      | cons a' l' =>
        rw [List.zipIdx_cons] at hr
        obtain ⟨hh, rfl⟩ := List.cons.inj hr
        obtain ⟨rfl, rfl⟩ := Prod.mk.inj hh
        rw [List.length_cons] at hk
        simp [fb_multiplied_of_1, enumI]
        refine wp_for (fun p : Int × Nat => D.tup [.int ((p.2 : Nat) : Int), .int p.1]) (fun rest s => ∃ (G : List Int) (j : Nat) (m' : List Int) (s5 s6 : Slot), s = [.val (tupD l), .val (tupD m), .own false (G.map D.int), .val (.int k'), .val (.int a), s5, s6] ∧ rest = m'.zipIdx j ∧ j + m'.length = m.length ∧ (∀ b ∈ m', b ∈ m) ∧ G.length = l.length + m.length - 1 ∧ (∀ x, ev G x + a * x ^ (k' + j) * ev m' x = ev F x + a * x ^ k' * ev m x) ∧ n1 G + a.natAbs * n1 m' ≤ n1 F + a.natAbs * n1 m) _ _
          ⟨F, 0, m, _, _, rfl, rfl, by omega, fun b hb => hb, hF, fun x => rfl, Nat.le_refl _⟩ ?_ ?_
        · rintro ⟨b, j'⟩ rest _ hb - ⟨G, j, m', s5, s6, rfl, hr, hj, hmm, hG, hge, hgn⟩
          cases m' with
          | nil => simp at hr
          | cons b' m' =>
            rw [List.zipIdx_cons] at hr
            obtain ⟨hh, rfl⟩ := List.cons.inj hr
            obtain ⟨rfl, rfl⟩ := Prod.mk.inj hh
            rw [List.length_cons] at hj
            obtain ⟨z, hz⟩ : ∃ z, G[k' + j']? = some z := ⟨_, List.getElem?_eq_getElem (by omega)⟩
            have hat := at_i hz (show (k' : Int) + (j' : Int) = ((k' + j' : Nat) : Int) by omega)
            have hix : ixN G.length ((k' : Int) + (j' : Int)) = some (k' + j') := by rw [ixN_nn _ _ (by omega) (by omega)]; congr 1
            have hal : a.natAbs ≤ n1 l := n1_mem (by have := List.mem_zipIdx ha; rw [this.2.2]; exact List.getElem_mem _)
            have hbm : b.natAbs ≤ n1 m := n1_mem (hmm b (List.mem_cons_self ..))
            have hg : mulG a b = true := mul_fits (n := 1001) (m := 1001) (Nat.lt_of_le_of_lt (Nat.le_trans hal b1) (Nat.pow_lt_pow_right (by decide) (by decide))) (Nat.lt_of_le_of_lt (Nat.le_trans hbm b2) (Nat.pow_lt_pow_right (by decide) (by decide))) (by decide)
            simp [fb_multiplied_of_0, hat, hix, hg]
            refine H1.mk ⟨G.set (k' + j') (z + a * b), j' + 1, m', _, _, by rw [List.map_set], rfl, by omega, fun c hc => hmm c (List.mem_cons_of_mem _ hc), by simpa using hG, fun x => ?_, ?_⟩
            · rw [ev_set x G _ z _ hz, ← hge x]
              show _ = ev G x + a * x ^ (k' + j') * (b + x * ev m' x)
              rw [show k' + (j' + 1) = k' + j' + 1 by omega, Int.pow_succ, Int.mul_add]
              have e1 : a * b * x ^ (k' + j') = a * x ^ (k' + j') * b := by rw [Int.mul_assoc, Int.mul_comm b, ← Int.mul_assoc]
              have e2 : a * (x ^ (k' + j') * x) * ev m' x = a * x ^ (k' + j') * (x * ev m' x) := by rw [← Int.mul_assoc, Int.mul_assoc (a * x ^ (k' + j'))]
              omega
            · have e1 := n1_set G (k' + j') z (a * b) hz
              rw [Int.natAbs_mul] at e1
              have e2 : a.natAbs * n1 (b :: m') = a.natAbs * b.natAbs + a.natAbs * n1 m' := by rw [show n1 (b :: m') = b.natAbs + n1 m' from rfl, Nat.mul_add]
              omega
        · rintro _ ⟨G, j, m', s5, s6, rfl, hr, hj, hmm, hG, hge, hgn⟩
          have hm' : m' = [] := by
            cases m' with
            | nil => rfl
            | cons b m' => rw [List.zipIdx_cons] at hr; cases hr
          subst hm'
          simp
          refine H1.mk ⟨G, k' + 1, l', _, _, _, _, rfl, rfl, by omega, hG, fun x => ?_, ?_⟩
          · have h := hge x
            rw [show ev [] x = 0 from rfl, Int.mul_zero, Int.add_zero] at h
            rw [h, ← he x]
            show _ = ev F x + x ^ k' * (a + x * ev l' x) * ev m x
            rw [Int.pow_succ, Int.mul_add, Int.add_mul]
            have e1 : a * x ^ k' * ev m x = x ^ k' * a * ev m x := by rw [Int.mul_comm a]
            have e2 : x ^ k' * x * ev l' x * ev m x = x ^ k' * (x * ev l' x) * ev m x := by rw [Int.mul_assoc (x ^ k')]
            omega
          · have e1 : n1 (a :: l') * n1 m = a.natAbs * n1 m + n1 l' * n1 m := by rw [show n1 (a :: l') = a.natAbs + n1 l' from rfl, Nat.add_mul]
            have e2 : n1 ([] : List Int) = 0 := rfl
            rw [e2, Nat.mul_zero] at hgn
            omega
    · rintro _ ⟨F, k, l', s3, s4, s5, s6, rfl, hr, hk, hF, he, hn⟩
      have hl' : l' = [] := by
        cases l' with
        | nil => rfl
        | cons b m' => rw [List.zipIdx_cons] at hr; cases hr
      subst hl'
      obtain ⟨r, rr, r1, r2, r3, r4⟩ := ok_trimmed (Sq.own F) (fun e => by rw [e] at hF; simp at hF; omega) (by omega)
      simp [rr]
      refine ⟨r, rfl, r1, fun x => ?_, by omega, ?_⟩
      · have h := he x
        rw [r2, ← h]
        show _ = ev F x + x ^ k * 0 * ev m x
        rw [Int.mul_zero, Int.zero_mul, Int.add_zero]
      · omega
  obtain ⟨v, s, e, r, rfl, rfl, c⟩ := wp_ex key
  exact ⟨r, e, c⟩
end K35
namespace K35
open PySem PySem.Spec PyProof.Rows L2 PU Poly
theorem ok_led_of (l m : List Int) (B : Nat) (hl : l ≠ []) (hm : m ≠ []) (h1 : l.length ≤ 20) (h2 : m.length ≤ 20) (hB : 1 ≤ B) (b2 : n1 m ≤ B) (hb : n1 l * B ^ (l.length - 1) ≤ 2 ^ 900) (hB2 : B ≤ 2 ^ 900) : ∃ r : List Int, runF f_led_of [.val (tupD l), .val (tupD m)] = .ok (.val (tupD r)) [.val (tupD l), .val (tupD m)] ∧ Canon r ∧ (∀ x, ev r x = ev l (ev m x)) ∧ r.length ≤ (l.length - 1) * (m.length - 1) + 1 ∧ n1 r ≤ n1 l * B ^ (l.length - 1) := by
  have hl0 : 0 < l.length := List.length_pos_iff.mpr hl
  have hm0 : 0 < m.length := List.length_pos_iff.mpr hm
  have e9 : 2 ^ 900 ≤ 2 ^ 1000 := two_le (by decide)
  have n1r : ∀ l : List Int, n1 l.reverse = n1 l := fun l => by
    induction l with
    | nil => rfl
    | cons a l ih => rw [List.reverse_cons, n1_app, ih]; show n1 l + (a.natAbs + 0) = a.natAbs + n1 l; omega
  have key : wp (runF f_led_of [.val (tupD l), .val (tupD m)]) (fun v s => ∃ r, v = .val (tupD r) ∧ s = [.val (tupD l), .val (tupD m)] ∧ Canon r ∧ (∀ x, ev r x = ev l (ev m x)) ∧ r.length ≤ (l.length - 1) * (m.length - 1) + 1 ∧ n1 r ≤ n1 l * B ^ (l.length - 1)) noX := by
    simp only [runF_def, f_led_of, r_led_of]
    simp
    rw [← List.map_reverse, show [D.int 0] = [(0 : Int)].map D.int from rfl]
    refine wp_for D.int (fun rest s => ∃ (F : List Int) (k S : Nat) (s3 : Slot), s = [.val (tupD l), .val (tupD m), .val (tupD F), s3] ∧ k + rest.length = l.length ∧ S + n1 rest = n1 l ∧ F ≠ [] ∧ (k = 0 → F = [0]) ∧ F.length ≤ (k - 1) * (m.length - 1) + 1 ∧ n1 F ≤ S * B ^ (k - 1) ∧ ∀ x, horner (ev m x) rest (ev F x) = ev l (ev m x)) _ _
      ⟨[0], 0, 0, _, rfl, by simp, by rw [n1r]; omega, by simp, fun _ => rfl, by simp, by simp [n1], fun x => by rw [show ev [0] x = 0 by simp [ev]]; exact horner_rev _ _⟩ ?_ ?_
    · rintro t rest _ ht - ⟨F, k, S, s3, rfl, hk, hS, hF, hk0, hFl, hFn, he⟩
      rw [List.length_cons] at hk
      have hS' : S + (t.natAbs + n1 rest) = n1 l := hS
      have hFn' : n1 F ≤ 2 ^ 900 := by
        refine Nat.le_trans hFn (Nat.le_trans ?_ hb)
        exact Nat.mul_le_mul (by omega) (Nat.pow_le_pow_right (by omega) (by omega))
      have hk19 : (k - 1) * (m.length - 1) ≤ 19 * 19 := Nat.mul_le_mul (by omega) (by omega)
      obtain ⟨r, rr, r1, r2, r3, r4⟩ := ok_multiplied_of F m hF hm (by omega) (by omega) (Nat.le_trans hFn' e9) (Nat.le_trans b2 (Nat.le_trans hB2 e9))
      have rl : r.length ≤ (k + 1 - 1) * (m.length - 1) + 1 := by
        by_cases h0 : k = 0
        · have : r = [0] := canon_uniq r1 ⟨by simp, .inl rfl⟩ fun x _ => by rw [r2, hk0 h0]; simp [ev]
          rw [this]; simp
        · have e : (k + 1 - 1) * (m.length - 1) = (k - 1) * (m.length - 1) + (m.length - 1) := by
            rw [show k + 1 - 1 = (k - 1) + 1 by omega, Nat.add_mul, Nat.one_mul]
          omega
      have rn : n1 r + t.natAbs ≤ (S + t.natAbs) * B ^ (k + 1 - 1) := by
        have hp : 1 ≤ B ^ k := Nat.one_le_pow _ _ (by omega)
        have h3 : t.natAbs ≤ t.natAbs * B ^ k := Nat.le_mul_of_pos_right _ (by omega)
        rw [Nat.add_sub_cancel, Nat.add_mul]
        by_cases h0 : k = 0
        · have hF0 := hk0 h0
          rw [hF0] at r4
          have : n1 r ≤ 0 := by simpa [n1] using r4
          omega
        · have h4 : n1 F * n1 m ≤ S * B ^ (k - 1) * B := Nat.mul_le_mul hFn b2
          rw [Nat.mul_assoc, ← Nat.pow_succ, show (k - 1).succ = k by omega] at h4
          omega
      cases r with
      | nil => exact absurd rfl r1.ne
      | cons a r =>
        have z1 : r.length ≤ 16777215 := by rw [List.length_cons] at r3; omega
        simp [fb_led_of_0, rr, z1]
        refine H1.mk ⟨(a + t) :: r, k + 1, S + t.natAbs, _, rfl, by omega, by omega, by simp, by omega, rl, ?_, fun x => ?_⟩
        · have h5 := Int.natAbs_add_le a t
          have h6 : n1 (a :: r) = a.natAbs + n1 r := rfl
          show (a + t).natAbs + n1 r ≤ _
          omega
        · rw [← he x]
          show horner (ev m x) rest (a + t + x * ev r x) = horner (ev m x) rest (ev F x * ev m x + t)
          rw [← r2 x]
          congr 1
          show _ = a + x * ev r x + t
          omega
    · rintro _ ⟨F, k, S, s3, rfl, hk, hS, hF, hk0, hFl, hFn, he⟩
      simp at hk
      have hS' : S = n1 l := by simpa [n1] using hS
      subst hk
      subst hS'
      have hk19 : (l.length - 1) * (m.length - 1) ≤ 19 * 19 := Nat.mul_le_mul (by omega) (by omega)
      obtain ⟨r, rr, r1, r2, r3, r4⟩ := ok_trimmed (Sq.tup F) hF (by omega)
      simp [rr]
      exact ⟨r, rfl, r1, fun x => by rw [r2, ← he x]; rfl, by omega, by omega⟩
  obtain ⟨v, s, e, r, rfl, rfl, c⟩ := wp_ex key
  exact ⟨r, e, c⟩
end K35
namespace K35
open PySem PySem.Spec PyProof.Rows L2 PU Poly
theorem ok_check_sums (l m : List Int) (h : Sm l) (hm : Sm m) : runF f_check_sums [.val (tupD l), .val (tupD m)] = .ok (.val .non) [.val (tupD l), .val (tupD m)] := by
  simp only [runF_def, f_check_sums, r_check_sums]
  simp [ok_check_sum l h, ok_check_sum m hm]
end K35
namespace K35
open PySem PySem.Spec PyProof.Rows L2 PU Poly
theorem ok_led (l m : List Int) (B : Nat) (h : Sm l) (hm : Sm m) (hl : (l.length - 1) * (m.length - 1) ≤ 12) (hB : 1 ≤ B) (b2 : n1 m ≤ B) (hb : n1 l * B ^ (l.length - 1) ≤ 1000000000000) (hB2 : B ≤ 1000000000000) : ∃ r : List Int, runF f_led [.val (tupD l), .val (tupD m)] = .ok (.val (tupD r)) [.val (tupD l), .val (tupD m)] ∧ Sm r ∧ (∀ x, ev r x = ev l (ev m x)) ∧ r.length ≤ (l.length - 1) * (m.length - 1) + 1 ∧ n1 r ≤ n1 l * B ^ (l.length - 1) := by
  have e : 1000000000000 ≤ 2 ^ 900 := Nat.le_trans (by decide : 1000000000000 ≤ 2 ^ 40) (two_le (by decide))
  have h1 := h.len
  have h2 := hm.len
  obtain ⟨r, rr, r1, r2, r3, r4⟩ := ok_led_of l m B h.ne hm.ne (by omega) (by omega) hB b2 (Nat.le_trans hb e) (Nat.le_trans hB2 e)
  have hs := sm_n1 r1 (by omega) (Nat.le_trans r4 hb)
  refine ⟨r, ?_, hs, r2, r3, r4⟩
  simp only [runF_def, f_led, r_led]
  simp [ok_check_sums l m h hm, rr, ok_check_made r hs.co hs.len]
end K35
namespace PU
open PySem PySem.Spec PyProof.Rows L2 PU
open Poly
/-- x (x - 1) .. (x - k + 1) -/
def ffn : Nat → Nat → Nat
  | _, 0 => 1
  | 0, _ + 1 => 0
  | x + 1, k + 1 => (x + 1) * ffn x k
def fac : Nat → Nat
  | 0 => 1
  | n + 1 => (n + 1) * fac n
theorem fac_pos : ∀ n, 0 < fac n
  | 0 => Nat.one_pos
  | n + 1 => Nat.mul_pos (Nat.succ_pos n) (fac_pos n)
theorem ffn_zero : ∀ {x k : Nat}, x < k → ffn x k = 0
  | 0, 0, h => by omega
  | 0, k + 1, _ => rfl
  | x + 1, 0, h => by omega
  | x + 1, k + 1, h => by show (x + 1) * ffn x k = 0; rw [ffn_zero (by omega)]; rfl
theorem ffn_self : ∀ k : Nat, ffn k k = fac k
  | 0 => rfl
  | k + 1 => by show (k + 1) * ffn k k = (k + 1) * fac k; rw [ffn_self k]
theorem ffn_succ : ∀ (x k : Nat), (ffn x (k + 1) : Int) = ffn x k * ((x : Int) - k)
  | 0, 0 => rfl
  | 0, k + 1 => by simp [ffn]
  | x + 1, 0 => by
    show (((x + 1) * ffn x 0 : Nat) : Int) = ((1 : Nat) : Int) * (((x + 1 : Nat) : Int) - ((0 : Nat) : Int))
    rw [show ffn x 0 = 1 by cases x <;> rfl]; simp
  | x + 1, k + 1 => by
    show (((x + 1) * ffn x (k + 1) : Nat) : Int) = (((x + 1) * ffn x k : Nat) : Int) * (((x + 1 : Nat) : Int) - ((k + 1 : Nat) : Int))
    rw [Int.natCast_mul, ffn_succ x k, Int.natCast_mul, Int.mul_assoc]
    congr 2
    omega
/-- the product of k numbers in a row is a multiple of k! -/
theorem fac_dvd : ∀ (x k : Nat), fac k ∣ ffn x k
  | x, 0 => by cases x <;> exact Nat.dvd_refl 1
  | 0, k + 1 => Nat.dvd_zero _
  | x + 1, k + 1 => by
    obtain ⟨u, hu⟩ := fac_dvd x k
    obtain ⟨v, hv⟩ := fac_dvd x (k + 1)
    refine ⟨u + v, ?_⟩
    have h := ffn_succ x k
    rw [hv, hu] at h
    show (x + 1) * ffn x k = (k + 1) * fac k * (u + v)
    rw [hu]
    have e : fac (k + 1) = (k + 1) * fac k := rfl
    rw [e] at h
    have h2 : (((x + 1) * (fac k * u) : Nat) : Int) = (((k + 1) * fac k * (u + v) : Nat) : Int) := by
      simp only [Int.natCast_mul, Int.natCast_add] at h ⊢
      grind
    exact_mod_cast h2
theorem dvd_fac : ∀ {b n : Nat}, 0 < b → b ≤ n → b ∣ fac n
  | b, 0, h, h2 => by omega
  | b, n + 1, h, h2 => by
    by_cases e : b = n + 1
    · subst e; exact Nat.dvd_mul_right ..
    · exact Nat.dvd_trans (dvd_fac h (by omega)) (Nat.dvd_mul_left ..)
/-- by places: the sum of f k x (x - 1) .. -/
def SN (f : Nat → Int) (x : Nat) : Nat → Int
  | 0 => 0
  | n + 1 => SN f x n + f n * ffn x n
def co (c : List Int) (k : Nat) : Int := c.getD k 0
theorem SN_shift (f : Nat → Int) (x : Nat) : ∀ (c : List Int) (p n : Nat), (∀ j, f (p + j) = co c j) → c.length ≤ n → SN f x p + ffn x p * fl p c x = SN f x (p + n)
  | c, p, 0, h, hl => by
    have : c = [] := List.length_eq_zero_iff.mp (by omega)
    subst this
    simp [fl]
  | [], p, n + 1, h, hl => by
    have ih := SN_shift f x [] p n h (Nat.zero_le _)
    have h1 : f (p + n) = 0 := by rw [h n]; rfl
    show _ = SN f x (p + n) + f (p + n) * ffn x (p + n)
    rw [← ih, h1]; simp
  | s :: c, p, n + 1, h, hl => by
    have ih := SN_shift f x c (p + 1) n (fun j => by
      rw [show p + 1 + j = p + (j + 1) by omega, h (j + 1)]; rfl) (by simpa using hl)
    have h0 : f p = s := by have := h 0; simpa [co] using this
    rw [show p + (n + 1) = p + 1 + n by omega, ← ih]
    show SN f x p + ffn x p * (s + ((x : Int) - p) * fl ((p : Int) + 1) c x) = SN f x p + f p * ffn x p + ffn x (p + 1) * fl ((p + 1 : Nat) : Int) c x
    rw [h0, ffn_succ]
    have : ((p + 1 : Nat) : Int) = (p : Int) + 1 := by omega
    rw [this]
    grind
theorem fl_SN (c : List Int) (x : Nat) {n : Nat} (h : c.length ≤ n) : fl 0 c x = SN (co c) x n := by
  have := SN_shift (co c) x c 0 n (fun j => by rw [Nat.zero_add]) h
  rw [Nat.zero_add] at this
  rw [← this]
  show _ = 0 + ((ffn x 0 : Nat) : Int) * _
  rw [show ffn x 0 = 1 by cases x <;> rfl]
  simp
theorem SN_sub (f g : Nat → Int) (x : Nat) : ∀ n, SN f x n - SN g x n = SN (fun k => f k - g k) x n
  | 0 => rfl
  | n + 1 => by
    have ih := SN_sub f g x n
    show SN f x n + f n * ffn x n - (SN g x n + g n * ffn x n) = SN (fun k => f k - g k) x n + (f n - g n) * ffn x n
    rw [← ih, Int.sub_mul]; omega
theorem SN_dvd {b : Int} {f : Nat → Int} (x : Nat) : ∀ {n : Nat}, (∀ k, k < n → b ∣ f k * fac k) → b ∣ SN f x n
  | 0, _ => Int.dvd_zero b
  | n + 1, h => by
    refine Int.dvd_add (SN_dvd x fun k hk => h k (by omega)) ?_
    obtain ⟨u, hu⟩ := fac_dvd x n
    rw [hu, Int.natCast_mul, ← Int.mul_assoc]
    exact Int.dvd_trans (h n (by omega)) (Int.dvd_mul_right ..)
/-- beyond x nothing is added -/
theorem SN_stop (f : Nat → Int) (x : Nat) : ∀ n, x < n → SN f x n = SN f x (x + 1)
  | 0, h => by omega
  | n + 1, h => by
    by_cases e : n = x
    · subst e; rfl
    · show SN f x n + f n * ffn x n = _
      rw [SN_stop f x n (by omega), ffn_zero (show x < n by omega)]; simp
theorem SN_at {b : Int} {f : Nat → Int} {x n : Nat} (hx : x < n) (h : ∀ k, k < x → b ∣ f k * fac k) : b ∣ SN f x n - f x * fac x := by
  rw [SN_stop f x n hx]
  show b ∣ SN f x x + f x * ffn x x - f x * fac x
  rw [ffn_self, Int.add_sub_cancel]
  exact SN_dvd x h
/-- nought everywhere: each term by itself -/
theorem all_dvd {b : Int} {f : Nat → Int} {n : Nat} (h : ∀ x, x < n → b ∣ SN f x n) : ∀ k, k < n → b ∣ f k * fac k := by
  intro k
  induction k using Nat.strongRecOn with
  | _ k ih =>
    intro hk
    have h1 := SN_at hk fun j hj => ih j hj (by omega)
    have h2 := h k hk
    have := Int.dvd_sub h2 h1
    rwa [show SN f k n - (SN f k n - f k * fac k) = f k * fac k by omega] at this
theorem dvd_lt {b n : Nat} (hb : 0 < b) {f : Int} (h : ¬ (b : Int) ∣ f * fac n) : n < b := by
  by_cases h1 : n < b
  · exact h1
  · exact absurd (Int.dvd_trans (Int.natCast_dvd_natCast.mpr (dvd_fac hb (by omega))) (Int.dvd_mul_left ..)) h
/-- sums repeat by the base -/
theorem ev_mod (l : List Int) (b x y : Int) (h : b ∣ x - y) : b ∣ ev l x - ev l y := by
  induction l with
  | nil => simp [ev]
  | cons a m ih =>
    show b ∣ a + x * ev m x - (a + y * ev m y)
    have e : a + x * ev m x - (a + y * ev m y) = (x - y) * ev m x + y * (ev m x - ev m y) := by grind
    rw [e]
    exact Int.dvd_add (Int.dvd_trans h (Int.dvd_mul_right ..)) (Int.dvd_trans ih (Int.dvd_mul_left ..))
/-- the first place where a term does not vanish by the base -/
def fstU (b : Nat) (c : List Int) (k : Nat) : Option Nat := match c with
  | [] => none
  | s :: c => if (b : Int) ∣ s * fac k then fstU b c (k + 1) else some k
theorem fstU_none {b : Nat} : ∀ {c : List Int} {k : Nat}, fstU b c k = none → ∀ j, (b : Int) ∣ co c j * fac (k + j)
  | [], k, _, j => by simp [co]
  | s :: c, k, h, j => by
    unfold fstU at h
    split at h
    · rename_i h1
      cases j with
      | zero => exact h1
      | succ j => have := fstU_none h j; rw [show k + 1 + j = k + (j + 1) by omega] at this; exact this
    · cases h
theorem fstU_some {b : Nat} : ∀ {c : List Int} {k K : Nat}, fstU b c k = some K → k ≤ K ∧ K < k + c.length ∧ (∀ j, k + j < K → (b : Int) ∣ co c j * fac (k + j)) ∧ ¬ (b : Int) ∣ co c (K - k) * fac K
  | [], k, K, h => by cases h
  | s :: c, k, K, h => by
    unfold fstU at h
    split at h
    · rename_i h1
      obtain ⟨a1, a2, a3, a4⟩ := fstU_some h
      refine ⟨by omega, by rw [List.length_cons]; omega, fun j hj => ?_, ?_⟩
      · cases j with
        | zero => exact h1
        | succ j => have := a3 j (by omega); rw [show k + 1 + j = k + (j + 1) by omega] at this; exact this
      · rw [show K - k = K - (k + 1) + 1 by omega]; exact a4
    · rename_i h1
      cases h
      refine ⟨Nat.le_refl _, by rw [List.length_cons]; omega, fun j hj => by omega, ?_⟩
      rw [Nat.sub_self]; exact h1
/-- what the first such place tells -/
structure UK (b : Nat) (g : Nat → Int) (o : Option Nat) : Prop where
  none_ : o = none → ∀ x : Nat, (b : Int) ∣ g x
  some_ : ∀ K, o = some K → K < b ∧ (∀ x, x < K → (b : Int) ∣ g x) ∧ ¬ (b : Int) ∣ g K
theorem fstU_uk {b : Nat} (hb : 0 < b) (c : List Int) : UK b (fun x => fl 0 c x) (fstU b c 0) := by
  refine ⟨fun h x => ?_, fun K h => ?_⟩
  · show (b : Int) ∣ fl 0 c x
    rw [fl_SN c x (Nat.le_refl _)]
    exact SN_dvd x fun k _ => by have := fstU_none h k; rwa [Nat.zero_add] at this
  · obtain ⟨-, a2, a3, a4⟩ := fstU_some h
    rw [Nat.zero_add] at a2
    refine ⟨dvd_lt hb a4, fun x hx => ?_, fun z => a4 ?_⟩
    · show (b : Int) ∣ fl 0 c x
      rw [fl_SN c x (Nat.le_refl _), SN_stop _ _ _ (by omega)]
      exact SN_dvd x fun k hk => by have := a3 k (by omega); rwa [Nat.zero_add] at this
    · replace z : (b : Int) ∣ fl 0 c K := z
      rw [fl_SN c K (Nat.le_refl _)] at z
      have := SN_at a2 fun k hk => by have := a3 k (by omega); rwa [Nat.zero_add] at this
      have := Int.dvd_sub z this
      rw [Nat.sub_zero]
      rwa [show SN (co c) K c.length - (SN (co c) K c.length - co c K * fac K) = co c K * fac K by omega] at this
/-- the reduced terms say the same -/
theorem red_dvd {b : Nat} (hb : 0 < b) (s : Int) (k : Nat) : (b : Int) ∣ (s - s % ((b / Nat.gcd b (fac k) : Nat) : Int)) * fac k := by
  have g1 : Nat.gcd b (fac k) ∣ b := Nat.gcd_dvd_left ..
  obtain ⟨u, hu⟩ := g1
  obtain ⟨v, hv⟩ : Nat.gcd b (fac k) ∣ fac k := Nat.gcd_dvd_right ..
  have gp : 0 < Nat.gcd b (fac k) := Nat.gcd_pos_of_pos_left _ hb
  have e : b / Nat.gcd b (fac k) = u := by
    conv => lhs; lhs; rw [hu]
    exact Nat.mul_div_cancel_left _ gp
  rw [e]
  obtain ⟨t, ht⟩ : (u : Int) ∣ s - s % u := Int.dvd_self_sub_emod
  refine ⟨t * v, ?_⟩
  rw [ht]
  generalize hg : Nat.gcd b (fac k) = g at *
  rw [hu, hv]
  simp only [Int.natCast_mul]
  grind
theorem red_uniq {b : Nat} (hb : 0 < b) {s t : Int} {k : Nat} (h : (b : Int) ∣ (s - t) * fac k) : s % ((b / Nat.gcd b (fac k) : Nat) : Int) = t % ((b / Nat.gcd b (fac k) : Nat) : Int) := by
  obtain ⟨u, hu⟩ : Nat.gcd b (fac k) ∣ b := Nat.gcd_dvd_left ..
  obtain ⟨v, hv⟩ : Nat.gcd b (fac k) ∣ fac k := Nat.gcd_dvd_right ..
  have gp : 0 < Nat.gcd b (fac k) := Nat.gcd_pos_of_pos_left _ hb
  have cop : Nat.Coprime (b / Nat.gcd b (fac k)) (fac k / Nat.gcd b (fac k)) := Nat.coprime_div_gcd_div_gcd gp
  have e : b / Nat.gcd b (fac k) = u := by
    conv => lhs; lhs; rw [hu]
    exact Nat.mul_div_cancel_left _ gp
  have e2 : fac k / Nat.gcd b (fac k) = v := by
    conv => lhs; lhs; rw [hv]
    exact Nat.mul_div_cancel_left _ gp
  rw [e, e2] at cop
  rw [e]
  generalize hg : Nat.gcd b (fac k) = g at *
  rw [hu, hv] at h
  have h2 : (u : Int) ∣ (s - t) * v := by
    rw [Int.natCast_mul, Int.natCast_mul, Int.mul_left_comm] at h
    exact Int.dvd_of_mul_dvd_mul_left (by omega) h
  have h3 : (u : Int) ∣ s - t := by
    have h4 : u ∣ (s - t).natAbs * v := by
      have := Int.natAbs_dvd_natAbs.mpr h2
      rwa [Int.natAbs_natCast, Int.natAbs_mul, Int.natAbs_natCast] at this
    have := cop.dvd_of_dvd_mul_right h4
    exact Int.ofNat_dvd_left.mpr this
  exact Int.emod_eq_emod_iff_emod_sub_eq_zero.mpr (Int.emod_eq_zero_of_dvd h3)
end PU
namespace K35
open PySem PySem.Spec PyProof.Rows L2 PU Poly
theorem ok_trimmed2 {T : Slot} {l : List Int} (hT : Sq T l) (h0 : l ≠ []) (hl : l.length ≤ 1000000) : ∃ k, runF f_trimmed [T] = .ok (.val (tupD (l.take k))) [T] ∧ 1 ≤ k ∧ k ≤ l.length ∧ (k = 1 ∨ l[k - 1]? ≠ some 0) ∧ ∀ j, k ≤ j → co l j = 0 := by
  have h1 : 1 ≤ l.length := List.length_pos_iff.mpr h0
  have fin : ∀ {k : Nat}, (∀ j, k ≤ j → j < l.length → l[j]? = some 0) → ∀ j, k ≤ j → co l j = 0 := fun h j hj => by
    unfold co
    rw [List.getD_eq_getElem?_getD]
    by_cases hl : j < l.length
    · rw [h j hj hl]; rfl
    · rw [List.getElem?_eq_none (by omega)]; rfl
  have key : wp (runF f_trimmed [T]) (fun v s => ∃ k, v = .val (tupD (l.take k)) ∧ s = [T] ∧ 1 ≤ k ∧ k ≤ l.length ∧ (k = 1 ∨ l[k - 1]? ≠ some 0) ∧ ∀ j, k ≤ j → co l j = 0) noX := by
    simp only [runF_def, f_trimmed, r_trimmed]
    cases hT <;> (
      simp
      refine wp_sWhile (fun m s => ∃ k : Nat, s = [_, .val (.int k)] ∧ k = m ∧ 1 ≤ k ∧ k ≤ l.length ∧ ∀ j, k ≤ j → j < l.length → l[j]? = some 0) l.length _ ⟨l.length, rfl, rfl, h1, Nat.le_refl _, fun j h2 h3 => by omega⟩ (by omega) ?_
      rintro m _ ⟨k, rfl, rfl, hk1, hk2, hk3⟩
      obtain ⟨z, hz⟩ : ∃ z, l[k - 1]? = some z := ⟨_, List.getElem?_eq_getElem (by omega)⟩
      have ha := at_i hz (show (k : Int) - 1 = ((k - 1 : Nat) : Int) by omega)
      by_cases h1 : (1 : Int) < (k : Int)
      · by_cases h0 : z = 0
        · subst h0
          simp [wt_trimmed_0, wb_trimmed_0, h1, ha]
          refine H1.mk ⟨k - 1, by omega, k - 1, ?_, rfl, by omega, by omega, fun j hj hl => ?_⟩
          · rw [show ((k - 1 : Nat) : Int) = (k : Int) - 1 by omega]
          · by_cases hjk : j = k - 1
            · subst hjk; exact hz
            · exact hk3 j (by omega) hl
        · simp [wt_trimmed_0, h1, ha, h0]
          exact ⟨k, by simp [tupD, List.map_take], hk1, hk2, .inr (by rw [hz]; simpa using h0), fin hk3⟩
      · simp [wt_trimmed_0, h1]
        exact ⟨k, by simp [tupD, List.map_take], hk1, hk2, .inl (by omega), fin hk3⟩)
  obtain ⟨v, s, e, k, rfl, rfl, c⟩ := wp_ex key
  exact ⟨k, e, c⟩
end K35
namespace PU
open PySem PySem.Spec PyProof.Rows L2 PU
def Pr (p : Nat) : Prop := 2 ≤ p ∧ ∀ d, d ∣ p → d = 1 ∨ d = p
def prP : List (Nat × Nat) → Nat
  | [] => 1
  | q :: l => q.1 ^ q.2 * prP l
theorem prP_snoc (q : Nat × Nat) : ∀ l, prP (l ++ [q]) = prP l * q.1 ^ q.2
  | [] => by simp [prP]
  | r :: l => by show r.1 ^ r.2 * prP (l ++ [q]) = r.1 ^ r.2 * prP l * q.1 ^ q.2; rw [prP_snoc q l, Nat.mul_assoc]
structure Apart (n : Nat) (ps : List (Nat × Nat)) : Prop where
  pr : ∀ q ∈ ps, Pr q.1 ∧ 1 ≤ q.2
  prod : prP ps = n
  asc : ps.Pairwise fun a b => a.1 < b.1
def ppD (q : Nat × Nat) : PU.D := .tup [.int (q.1 : Nat), .int (q.2 : Nat)]
theorem prP_pos : ∀ {l : List (Nat × Nat)}, (∀ q ∈ l, Pr q.1 ∧ 1 ≤ q.2) → 0 < prP l
  | [], _ => Nat.one_pos
  | q :: l, h => Nat.mul_pos (Nat.pow_pos (by have := (h q (List.mem_cons_self ..)).1.1; omega)) (prP_pos fun r hr => h r (List.mem_cons_of_mem _ hr))
theorem prP_mem : ∀ {l : List (Nat × Nat)} {q : Nat × Nat}, q ∈ l → q.1 ^ q.2 ∣ prP l
  | r :: l, q, h => by
    rcases List.mem_cons.mp h with rfl | h
    · exact Nat.dvd_mul_right ..
    · exact Nat.dvd_trans (prP_mem h) (Nat.dvd_mul_left ..)
theorem Apart.le {n : Nat} {ps : List (Nat × Nat)} (h : Apart n ps) (hn : 0 < n) {q : Nat × Nat} (hq : q ∈ ps) : 2 ≤ q.1 ∧ q.1 ≤ n ∧ 2 ^ q.2 ≤ n := by
  have h1 := (h.pr q hq).1.1
  have h2 := (h.pr q hq).2
  have h3 : q.1 ^ q.2 ≤ n := by have := prP_mem hq; rw [h.prod] at this; exact Nat.le_of_dvd hn this
  refine ⟨h1, Nat.le_trans ?_ h3, Nat.le_trans (Nat.pow_le_pow_left h1 _) h3⟩
  have : q.1 ^ 1 ≤ q.1 ^ q.2 := Nat.pow_le_pow_right (by omega) h2
  simpa using this
end PU
namespace K35
open PySem PySem.Spec PyProof.Rows L2 PU Poly
theorem ap_inner {Q : Fl → Sto → Prop} {E : Xn → Sto → Prop} (N s : Nat) (Fd : Slot) (hN : 1 ≤ N) (hN2 : N ≤ 1000000000000) (hs : 2 ≤ s) (hs2 : s ≤ 1000000000000)
    (hQ : ∀ (M o : Nat), N = M * s ^ o → 1 ≤ M → ¬ s ∣ M → Q .next [.val (.int M), Fd, .val (.int s), .val (.int o)]) :
    wp (sWhile 4 wt_apart_of_0 wb_apart_of_0 [.val (.int N), Fd, .val (.int s), .val (.int 0)]) Q E := by
  refine wp_sWhile (fun m st => ∃ M o : Nat, st = [.val (.int M), Fd, .val (.int s), .val (.int o)] ∧ N = M * s ^ o ∧ 1 ≤ M ∧ M < 2 ^ m) 60 _ ⟨N, 0, rfl, by simp, hN, Nat.lt_of_le_of_lt hN2 (by decide)⟩ (by decide) ?_
  rintro m _ ⟨M, o, rfl, e, h1, h2⟩
  have hM : M ≤ 1000000000000 := Nat.le_trans (by rw [e]; exact Nat.le_mul_of_pos_right _ (Nat.pow_pos (by omega))) hN2
  have d1 : divG (s : Int) = true := div_lit (by omega) (by omega) (by omega)
  have fm : ((M : Int)).fmod (s : Int) = ((M % s : Nat) : Int) := fmod_nat ..
  have fd : ((M : Int)).fdiv (s : Int) = ((M / s : Nat) : Int) := fdiv_nat ..
  have s0 : ¬ s = 0 := by omega
  simp only [wt_apart_of_0, wb_apart_of_0]
  by_cases hd : M % s = 0
  · have fm' : ((M : Int)).fmod (s : Int) = 0 := by rw [fm, hd]; rfl
    have hm : M = M / s * s := by have := Nat.div_add_mod M s; rw [Nat.mul_comm] at this; omega
    have hM1 : 1 ≤ M / s := by
      rcases Nat.eq_zero_or_pos (M / s) with h | h
      · rw [h] at hm; omega
      · exact h
    obtain ⟨m, rfl⟩ : ∃ k, m = k + 1 := by
      cases m with
      | zero => simp at h2; omega
      | succ k => exact ⟨k, rfl⟩
    have hlt : M / s < 2 ^ m := by
      rw [Nat.pow_succ] at h2
      have : M / s * 2 ≤ M := by
        conv => rhs; rw [hm]
        exact Nat.mul_le_mul_left _ hs
      omega
    simp [d1, fm', fd, s0]
    exact H1.mk ⟨m, by omega, M / s, o + 1, by simp, by rw [Nat.pow_succ, Nat.mul_comm (s ^ o), ← Nat.mul_assoc, ← hm]; exact e, hM1, hlt⟩
  · have fm' : ¬ ((M : Int)).fmod (s : Int) = 0 := by rw [fm]; omega
    simp [d1, fm', s0]
    exact hQ M o e h1 fun z => hd (Nat.mod_eq_zero_of_dvd z)
theorem ok_apart_of (n : Nat) (hn : 1 ≤ n) (hn2 : n ≤ 1000000000000) : ∃ ps t, runF f_apart_of [.val (.int n)] = .ok (.val (.tup (ps.map ppD))) [t] ∧ Apart n ps := by
  have key : wp (runF f_apart_of [.val (.int n)]) (fun v st => ∃ ps t, v = .val (.tup (ps.map ppD)) ∧ st = [t] ∧ Apart n ps) noX := by
    simp only [runF_def, f_apart_of, r_apart_of]
    simp
    refine wp_sWhile (fun m st => ∃ (N : Nat) (fd : List (Nat × Nat)) (s : Nat) (s3 : Slot), st = [.val (.int N), .own false (fd.map ppD), .val (.int s), s3] ∧ prP fd * N = n ∧ 1 ≤ N ∧ (∀ d, 2 ≤ d → d < s → ¬ d ∣ N) ∧ (∀ q ∈ fd, (Pr q.1 ∧ 1 ≤ q.2) ∧ q.1 < s) ∧ (fd.Pairwise fun a b => a.1 < b.1) ∧ (s = 2 ∨ (3 ≤ s ∧ s % 2 = 1)) ∧ fd.length ≤ s ∧ m + s = 1000010) 1000008 _ ⟨n, [], 2, .emp, rfl, by simp [prP], hn, fun d h1 h2 => by omega, nofun, .nil, .inl rfl, by simp, rfl⟩ (by decide) ?_
    rintro m _ ⟨N, fd, s, s3, rfl, e1, e2, e3, e4, e5, e6, e7, e8⟩
    have hN : N ≤ 1000000000000 := Nat.le_trans (by rw [← e1]; exact Nat.le_mul_of_pos_left _ (prP_pos fun q hq => (e4 q hq).1)) hn2
    have hs2 : 2 ≤ s := by omega
    have hsm : s ≤ 1000010 := by omega
    have g1 : mulG (s : Int) (s : Int) = true := mul_lit (by omega) (by omega) (by omega) (by omega)
    simp only [wt_apart_of_1, wb_apart_of_1]
    by_cases hc : s * s ≤ N
    · have hc' : (s : Int) * (s : Int) ≤ (N : Int) := by exact_mod_cast hc
      have hs6 : s ≤ 1000000 := by
        by_cases h : s ≤ 1000000
        · exact h
        · have : 1000001 * 1000001 ≤ s * s := Nat.mul_le_mul (by omega) (by omega)
          omega
      simp [g1, hc']
      refine ap_inner N s _ e2 hN hs2 (by omega) fun M o h1 h2 h3 => ?_
      have hMd : M ∣ N := ⟨s ^ o, h1⟩
      have hz : fd.length < 16777216 := by omega
      have nx : ∃ s' : Nat, (if s = 2 then s + 1 else s + 2) = s' ∧ s < s' ∧ s' ≤ s + 2 ∧ (3 ≤ s' ∧ s' % 2 = 1) ∧ ∀ d, 2 ≤ d → d < s' → ¬ d ∣ M := by
        refine ⟨_, rfl, by split <;> omega, by split <;> omega, by split <;> omega, fun d h4 h5 hd => ?_⟩
        by_cases h6 : d < s
        · exact e3 d h4 h6 (Nat.dvd_trans hd hMd)
        · by_cases h7 : d = s
          · subst h7; exact h3 hd
          · split at h5
            · omega
            · have h8 : d = s + 1 := by omega
              have h9 : 2 ∣ d := by omega
              exact e3 2 (by omega) (by omega) (Nat.dvd_trans h9 (Nat.dvd_trans hd hMd))
      obtain ⟨s', es, s1, s2, s4, s5⟩ := nx
      have prs : 1 ≤ o → Pr s := fun ho => ⟨hs2, fun d hd => by
        have hsN : s ∣ N := by rw [h1, show o = o - 1 + 1 by omega, Nat.pow_succ, ← Nat.mul_assoc]; exact Nat.dvd_mul_left ..
        by_cases h6 : d = 1
        · exact .inl h6
        · by_cases h7 : d = s
          · exact .inr h7
          · have h8 := Nat.le_of_dvd (by omega) hd
            have h9 := Nat.pos_of_dvd_of_pos hd (by omega)
            exact absurd (Nat.dvd_trans hd hsN) (e3 d (by omega) (by omega))⟩
      have fin : ∀ fd' : List (Nat × Nat), prP fd' * M = n → (∀ q ∈ fd', (Pr q.1 ∧ 1 ≤ q.2) ∧ q.1 < s') → (fd'.Pairwise fun a b => a.1 < b.1) → fd'.length ≤ s' → ∀ s3 : Slot, ∃ m', m' < m ∧ ∃ (N : Nat) (fd : List (Nat × Nat)) (s : Nat) (s3' : Slot), ([.val (.int M), .own false (fd'.map ppD), .val (.int s'), s3] : Sto) = [.val (.int N), .own false (fd.map ppD), .val (.int s), s3'] ∧ prP fd * N = n ∧ 1 ≤ N ∧ (∀ d, 2 ≤ d → d < s → ¬ d ∣ N) ∧ (∀ q ∈ fd, (Pr q.1 ∧ 1 ≤ q.2) ∧ q.1 < s) ∧ (fd.Pairwise fun a b => a.1 < b.1) ∧ (s = 2 ∨ (3 ≤ s ∧ s % 2 = 1)) ∧ fd.length ≤ s ∧ m' + s = 1000010 :=
        fun fd' a1 a2 a3 a4 s3 => ⟨1000010 - s', by omega, M, fd', s', s3, rfl, a1, h2, s5, a2, a3, .inr s4, a4, by omega⟩
      have old : ∀ q ∈ fd, (Pr q.1 ∧ 1 ≤ q.2) ∧ q.1 < s' := fun q hq => ⟨(e4 q hq).1, by have := (e4 q hq).2; omega⟩
      rcases Nat.eq_zero_or_pos o with ho | ho
      · subst ho
        have f1 := fin fd (by rw [← e1, h1]; simp) old e5 (by omega) (.val (.int 0))
        rcases Classical.em (s = 2) with h2s | h2s
        · subst h2s
          rw [if_pos rfl] at es; subst es
          simp
          exact H1.mk f1
        · rw [if_neg h2s] at es; subst es
          have h2s' : ¬ (s : Int) = 2 := by omega
          simp [h2s, h2s']
          exact H1.mk f1
      · have ho' : (0 : Int) < (o : Int) := by omega
        have f1 := fin (fd ++ [(s, o)]) (by rw [prP_snoc, ← e1, h1, Nat.mul_assoc, Nat.mul_comm (s ^ o)]) (fun q hq => by
          rcases List.mem_append.mp hq with hq | hq
          · exact old q hq
          · have := List.mem_singleton.mp hq; subst this; exact ⟨⟨prs ho, ho⟩, s1⟩) (List.pairwise_append.mpr ⟨e5, by simp, fun a ha b hb => by have := List.mem_singleton.mp hb; subst this; exact (e4 a ha).2⟩) (by simp; omega) (.val (.int o))
        have ep : (fd ++ [(s, o)]).map ppD = fd.map ppD ++ [.tup [.int (s : Nat), .int (o : Nat)]] := by simp [ppD]
        rw [ep] at f1
        rcases Classical.em (s = 2) with h2s | h2s
        · subst h2s
          rw [if_pos rfl] at es; subst es
          simp [ho, ho', hz]
          exact H1.mk f1
        · rw [if_neg h2s] at es; subst es
          have h2s' : ¬ (s : Int) = 2 := by omega
          simp [h2s, h2s', ho, ho', hz]
          exact H1.mk f1
    · have hc' : ¬ (s : Int) * (s : Int) ≤ (N : Int) := by exact_mod_cast hc
      by_cases h1 : 1 < N
      · have h1' : (1 : Int) < (N : Int) := by omega
        have hz : fd.length + 1 ≤ 16777216 := by omega
        have prN : Pr N := ⟨h1, fun d hd => by
          by_cases h6 : d = 1
          · exact .inl h6
          · by_cases h7 : d = N
            · exact .inr h7
            · exfalso
              obtain ⟨k, hk⟩ := hd
              have hd0 : 0 < d := by
                rcases Nat.eq_zero_or_pos d with h | h
                · subst h; simp at hk; omega
                · exact h
              have hk0 : 0 < k := by
                rcases Nat.eq_zero_or_pos k with h | h
                · subst h; simp at hk; omega
                · exact h
              have hk1 : k ≠ 1 := fun h => by subst h; simp at hk; exact h7 hk.symm
              have a1 : s ≤ d := by
                by_cases h : s ≤ d
                · exact h
                · exact absurd ⟨k, hk⟩ (e3 d (by omega) (by omega))
              have a2 : s ≤ k := by
                by_cases h : s ≤ k
                · exact h
                · exact absurd ⟨d, by rw [hk, Nat.mul_comm]⟩ (e3 k (by omega) (by omega))
              have := Nat.mul_le_mul a1 a2
              omega⟩
        have big : ∀ q ∈ fd, q.1 < N := fun q hq => by
          have h2 := (e4 q hq).2
          by_cases h : N < s
          · exact absurd (Nat.dvd_refl N) (e3 N h1 h)
          · omega
        simp [g1, hc', h1, h1', hz]
        refine ⟨fd ++ [(N, 1)], by simp [ppD], ⟨fun q hq => ?_, by rw [prP_snoc]; simpa using e1, List.pairwise_append.mpr ⟨e5, by simp, fun a ha b hb => by have := List.mem_singleton.mp hb; subst this; exact big a ha⟩⟩⟩
        rcases List.mem_append.mp hq with hq | hq
        · exact (e4 q hq).1
        · have := List.mem_singleton.mp hq; subst this; exact ⟨prN, Nat.le_refl _⟩
      · have hN1 : N = 1 := by omega
        have h1' : ¬ (1 : Int) < (N : Int) := by omega
        simp [g1, hc', h1, h1']
        exact ⟨fd, rfl, fun q hq => (e4 q hq).1, by rw [hN1] at e1; simpa using e1, e5⟩
  obtain ⟨v, st, e, ps, t, rfl, rfl, c⟩ := wp_ex key
  exact ⟨ps, t, e, c⟩
end K35
namespace PU
open PySem PySem.Spec PyProof.Rows L2 PU
open Poly
theorem n1_bd : ∀ (l : List Int) (B : Nat), (∀ z ∈ l, z.natAbs ≤ B) → n1 l ≤ l.length * B
  | [], B, _ => Nat.zero_le _
  | a :: l, B, h => by
    have h1 := h a (List.mem_cons_self ..)
    have h2 := n1_bd l B fun z hz => h z (List.mem_cons_of_mem _ hz)
    show a.natAbs + n1 l ≤ (l.length + 1) * B
    rw [Nat.add_mul, Nat.one_mul]; omega
theorem sm_150 {l : List Int} (h : n1 l ≤ 1000000000000) : ∀ a ∈ l, a.natAbs ≤ 2 ^ 150 := fun a ha => by
  have := n1_mem ha
  exact Nat.le_trans (Nat.le_trans this h) (by decide)
end PU
namespace K35
open PySem PySem.Spec PyProof.Rows L2 PU Poly
/-! ### drawing -/
/-- what a cask holds behind m draws -/
structure Keg (m : Nat) (ds : List PU.D) : Prop where
  ex : ∃ a b c : Int, ds = [.int a, .int b, .int c] ∧ 0 ≤ a ∧ a < 1999999267 ∧ 0 ≤ b ∧ b ≤ 17 + 11 * m ∧ 0 ≤ c ∧ c.natAbs < 2 ^ 1100000
theorem Keg.up {m n : Nat} {ds : List PU.D} (h : Keg m ds) (hn : m ≤ n) : Keg n ds := by
  obtain ⟨a, b, c, e, h1, h2, h3, h4, h5, h6⟩ := h.ex
  exact ⟨a, b, c, e, h1, h2, h3, by omega, h5, h6⟩
theorem tap_sp {m : Nat} {ds : List PU.D} (u : Int) (h : Keg m ds) (hm : m ≤ 1000000000) (h0 : 0 < u) (h1 : u < 1000000000000000000000) {Q : Slot → Sto → Prop} {E : Xn → Sto → Prop}
    (hq : ∀ (v : Int) (ds' : List PU.D), 0 ≤ v → v < u → Keg (m + 1) ds' → Q (.val (.int v)) [.own false ds', .val (.int u)]) : wp (runF f_law_tap [.own false ds, .val (.int u)]) Q E := by
  obtain ⟨a, b, c, rfl, ha0, ha1, hb0, hb1, hc0, hc1⟩ := h.ex
  have hu : u ≠ 0 := by omega
  by_cases hc : 0 < c
  · refine wp_of ?_ (hq (c % u) [.int a, .int (b + 11), .int (c / u)] (Int.emod_nonneg _ hu) (Int.emod_lt_of_pos _ h0) ⟨a, b + 11, c / u, rfl, ha0, ha1, by omega, by omega, Int.ediv_nonneg hc0 (by omega), ?_⟩)
    · simp only [runF_def, f_law_tap, r_law_tap]
      simp [hc, h0, log_lit (show -90000000000000000000000000000000000000000000000000 < u by omega) (by omega)]
    · have e := Int.ediv_le_self (b := u) hc0
      have e2 := Int.ediv_nonneg hc0 (show 0 ≤ u by omega)
      omega
  · obtain rfl : c = 0 := by omega
    have q1 : 0 ≤ a.fdiv 19013 := by rw [Int.fdiv_eq_ediv_of_nonneg _ (by decide)]; exact Int.ediv_nonneg ha0 (by decide)
    have q2 : a.fdiv 19013 ≤ a := by rw [Int.fdiv_eq_ediv_of_nonneg _ (by decide)]; exact Int.ediv_le_self _ ha0
    have g1 : mulG a 58099 = true := mul_lit (by omega) (by omega) (by omega) (by omega)
    have g2 : mulG (b + 11) 70051 = true := mul_lit (by omega) (by omega) (by omega) (by omega)
    have g3 : mulG (a.fdiv 19013) 107 = true := mul_lit (by omega) (by omega) (by omega) (by omega)
    have d1 : divG 431 = true := by decide
    have d2 : divG 19013 = true := by decide
    generalize hB : (a * 58099 + (b + 11) * 70051 + a.fdiv 19013 * 107).fmod 1999999267 = B
    have r1 : 0 ≤ B := by rw [← hB]; exact Int.fmod_nonneg_of_pos _ (by decide)
    have r2 : B < 1999999267 := by rw [← hB]; exact Int.fmod_lt_of_pos _ (by decide)
    refine wp_of ?_ (hq ((B.fdiv 431).fmod u) [.int B, .int (b + 11), .int 0] (Int.fmod_nonneg_of_pos _ h0) (Int.fmod_lt_of_pos _ h0) ⟨B, b + 11, 0, rfl, r1, r2, by omega, by omega, by decide, Nat.two_pow_pos _⟩)
    simp only [runF_def, f_law_tap, r_law_tap]
    simp [g1, g2, g3, hB, hu, d1, d2]
theorem cask_sp (ns : List Int) (hl : ns.length ≤ 63) (hb : ∀ z ∈ ns, Builtin.Int.intBits z ≤ 1048576) (i : Nat) (hi : i ≤ 10) : ∃ ds, runF f_law_cask [cellsD ns, .val (.int i)] = .ok (.own false ds) [cellsD ns, .val (.int i)] ∧ Keg 0 ds := by
  have key : wp (runF f_law_cask [cellsD ns, .val (.int i)]) (fun v s => ∃ ds, v = .own false ds ∧ s = [cellsD ns, .val (.int i)] ∧ Keg 0 ds) noX := by
    obtain ⟨o, ho, hob⟩ : ∃ o : Int, (xIf (PU.tCmp (cmpD .Lt) (xVar 1) (xBlt bLen (xCons (xVar 0) xNil))) (xBlt bInt (xCons (xBin ixD (xVar 0) (xVar 1)) xNil)) (xBin (binD .Add) (xBin (binD .Mult) (xCon (.int 103)) (xVar 1)) (xCon (.int 59)))) [cellsD ns, .val (.int i), .emp, .emp, .emp] = .ok (.dat (.int o)) [cellsD ns, .val (.int i), .emp, .emp, .emp] ∧ o.natAbs < 2 ^ 1048576 := by
      by_cases h : i < ns.length
      · have ha := at_i (List.getElem?_eq_getElem h) rfl
        exact ⟨ns[i], by simp [h, ha], bits_lt (hb _ (List.getElem_mem h))⟩
      · have g : mulG 103 (i : Int) = true := mul_lit (by omega) (by omega) (by omega) (by omega)
        exact ⟨103 * (i : Int) + 59, by simp [h, g], lt_two (show (103 * (i : Int) + 59).natAbs < 2 ^ 11 by omega) (by decide)⟩
    have g0 : mulG 2801 (i : Int) = true := mul_lit (by omega) (by omega) (by omega) (by omega)
    simp only [runF_def, f_law_cask, r_law_cask]
    simp [ho, -run_xIf, g0]
    rw [← List.map_take]
    refine wp_for D.int (fun rest s => ∃ f s4, s = [cellsD ns, .val (.int i), .val (.int o), .val (.int f), s4] ∧ 0 ≤ f ∧ f < 1999999267) _ _ ⟨_, _, rfl, by omega, by omega⟩ ?_ ?_
    · rintro x rest _ hx - ⟨f, s4, rfl, h0, h1⟩
      have g2 : mulG f 55103 = true := mul_lit (by omega) (by omega) (by omega) (by omega)
      simp [fb_law_cask_0, g2]
      exact H1.mk ⟨_, _, rfl, Int.fmod_nonneg_of_pos _ (by decide), Int.fmod_lt_of_pos _ (by decide)⟩
    · rintro _ ⟨f, s4, rfl, h0, h1⟩
      have g1 : mulG f 83 = true := mul_lit (by omega) (by omega) (by omega) (by omega)
      have hoo : o.natAbs < 2 ^ 1100000 := lt_two hob (by decide)
      by_cases h1 : o < 0 ∨ 100000000000000 ≤ o
      · have kk : ∀ z : Int, Keg 0 [.int (z.fmod 1999999267), .int 17, .int o.natAbs] := fun z => ⟨_, _, _, rfl, Int.fmod_nonneg_of_pos _ (by decide), Int.fmod_lt_of_pos _ (by decide), by decide, by decide, by omega, by rw [Int.natAbs_natCast]; exact hoo⟩
        rcases h1 with h1 | h1
        · simp [h1, g1]; exact kk _
        · have h2 : ¬ o < 0 := by omega
          simp [h1, h2, g1]; exact kk _
      · have kk : ∀ z : Int, Keg 0 [.int (z.fmod 1999999267), .int 17, .int 0] := fun z => ⟨_, _, _, rfl, Int.fmod_nonneg_of_pos _ (by decide), Int.fmod_lt_of_pos _ (by decide), by decide, by decide, by decide, Nat.two_pow_pos _⟩
        have h2 : ¬ o < 0 := by omega
        have h3 : ¬ 100000000000000 ≤ o := by omega
        simp [h2, h3, g1]; exact kk _
  obtain ⟨v, s, e, ds, rfl, rfl, c⟩ := wp_ex key
  exact ⟨ds, e, c⟩
end K35
namespace K35
open PySem PySem.Spec PyProof.Rows L2 PU Poly
theorem of_sp {m : Nat} {ds : List PU.D} (ts : List Int) (h : Keg m ds) (hm : m ≤ 1000000) (h0 : ts ≠ []) (h1 : ts.length ≤ 1000) {Q : Slot → Sto → Prop} {E : Xn → Sto → Prop}
    (hq : ∀ (v : Int) (ds' : List PU.D), v ∈ ts → Keg (m + 1) ds' → Q (.val (.int v)) [.own false ds', .own false (ts.map D.int)]) : wp (runF f_law_of [.own false ds, .own false (ts.map D.int)]) Q E := by
  have hl : 0 < ts.length := List.length_pos_iff.mpr h0
  simp only [runF_def, f_law_of, r_law_of]
  simp
  refine tap_sp _ h (by omega) (by omega) (by omega) fun v ds' v0 v1 k => ?_
  obtain ⟨n, rfl⟩ : ∃ n : Nat, v = n := ⟨v.toNat, by omega⟩
  have hn : n < ts.length := by omega
  have ha := at_i (List.getElem?_eq_getElem hn) rfl
  simp [ha]
  exact hq _ _ (List.getElem_mem hn) k
end K35
namespace K35
open PySem PySem.Spec PyProof.Rows L2 PU Poly
theorem row_sp {m : Nat} {ds : List PU.D} (mo sm : Int) (h : Keg m ds) (hm : m ≤ 100000) (h0 : 0 ≤ mo) (h1 : mo ≤ 100) (hs0 : 0 ≤ sm) (hs1 : sm ≤ 1000000000000) {Q : Slot → Sto → Prop} {E : Xn → Sto → Prop}
    (hq : ∀ (r : List Int) (ds' : List PU.D), Canon r → (r.length : Int) ≤ mo + 1 → (∀ z ∈ r, -sm ≤ z ∧ z ≤ sm) → Keg (m + 200) ds' → Q (.val (tupD r)) [.own false ds', .val (.int mo), .val (.int sm)]) :
    wp (runF f_law_row [.own false ds, .val (.int mo), .val (.int sm)]) Q E := by
  have hg : mulG 2 sm = true := mul_lit (by omega) (by omega) (by omega) (by omega)
  simp only [runF_def, f_law_row, r_law_row]
  simp
  refine tap_sp _ h (by omega) (by omega) (by omega) fun v ds1 v0 v1 k1 => ?_
  have hsm : sm62 (1 + v) = true := sm62_of _ (by omega) (by omega)
  simp [hsm]
  refine wp_lcR 0 _ (fun i acc s => ∃ (out : List Int) (ds : List PU.D), acc = out.map D.int ∧ s = [.own false ds, .val (.int mo), .val (.int sm), .emp, .emp] ∧ Keg (m + 1 + i) ds ∧ out.length = i ∧ ∀ z ∈ out, -sm ≤ z ∧ z ≤ sm) _ ⟨[], _, rfl, rfl, k1, rfl, nofun⟩ (by rw [szL_n]; omega) ?_ ?_
  · rintro i _ _ hi ⟨out, ds, rfl, rfl, k, hl, ho⟩
    simp [hg]
    refine tap_sp _ k (by omega) (by omega) (by omega) fun w ds2 w0 w1 k2 => ?_
    simp
    refine H2.mk ⟨out ++ [w - sm], ds2, by simp, rfl, k2.up (by omega), by simp [hl], fun z hz => ?_⟩
    rcases List.mem_append.mp hz with hz | hz
    · exact ho z hz
    · simp at hz; omega
  · rintro _ _ ⟨out, ds2, rfl, rfl, k, hl, ho⟩
    simp
    refine wp_sWhile (fun n s => ∃ l : List Int, s = [.own false ds2, .val (.int mo), .val (.int sm), .own false (l.map D.int), .emp] ∧ l.length = n ∧ 1 ≤ n ∧ l.length ≤ out.length ∧ ∀ a ∈ l, a ∈ out) out.length _ ⟨out, rfl, rfl, by omega, by omega, fun a ha => ha⟩ (by omega) ?_
    rintro n _ ⟨l, rfl, rfl, hn, hle, hmem⟩
    obtain ⟨z, hz⟩ : ∃ z, l.getLast? = some z := ⟨_, List.getLast?_eq_some_getLast (fun e => by rw [e] at hn; simp at hn)⟩
    have hz2 : l[l.length - 1]? = some z := by rw [← List.getLast?_eq_getElem?]; exact hz
    have hne : l ≠ [] := fun e => by rw [e] at hn; simp at hn
    have fin : Canon l → Q (.val (tupD l)) [.own false ds2, .val (.int mo), .val (.int sm)] := fun c => hq l ds2 c (by omega) (fun z hz => ho z (hmem z hz)) (k.up (by omega))
    by_cases h1 : (1 : Int) < (l.length : Int)
    · by_cases h0 : z = 0
      · subst h0
        simp [wt_law_row_0, wb_law_row_0, h1, hz, hz2]
        exact H1.mk ⟨l.length - 1, by omega, l.dropLast, by rw [List.map_dropLast], by simp, by omega, by simp; omega, fun a ha => hmem a (List.dropLast_subset l ha)⟩
      · simp [wt_law_row_0, h1, hz, h0]
        exact fin ⟨hne, .inr (by rw [hz2]; simpa using h0)⟩
    · simp [wt_law_row_0, h1]
      exact fin ⟨hne, .inl (by omega)⟩
end K35
namespace K35
open PySem PySem.Spec PyProof.Rows L2 PU Poly
theorem ok_law_at (l : List Int) (x : Int) (hx : x.natAbs ≤ 2 ^ 150) (hl : ∀ a ∈ l, a.natAbs ≤ 2 ^ 150) (hn : l.length ≤ 1000) : runF f_law_at [.val (tupD l), .val (.int x)] = .ok (.val (.int (ev l x))) [.val (tupD l), .val (.int x)] := by
  apply eq_of_wp
  simp only [runF_def, f_law_at, r_law_at]
  simp
  rw [← List.map_reverse]
  refine wp_for D.int (fun rest s => ∃ f k s3, s = [.val (tupD l), .val (.int x), .val (.int f), s3] ∧ horner x rest f = ev l x ∧ f.natAbs ≤ 2 ^ (151 * k) ∧ k + rest.length ≤ 1000) _ _ ⟨0, 0, .emp, rfl, horner_rev x l, Nat.zero_le _, by simpa using hn⟩ ?_ ?_
  · rintro a rest _ ha - ⟨f, k, s3, rfl, hf, hb, hk⟩
    rw [List.length_cons] at hk
    simp [fb_law_at_0, hr_step hb hx (by omega)]
    exact H1.mk ⟨f * x + a, k + 1, _, rfl, hf, hb_step hb hx (hl a (List.mem_reverse.mp ha)), by omega⟩
  · rintro _ ⟨f, k, s3, rfl, hf, -, -⟩
    have hf : f = ev l x := hf
    subst hf
    simp
end K35
namespace K35
open PySem PySem.Spec PyProof.Rows L2 PU Poly
def tabL (l : List Int) (b : Nat) : List Int := (List.range b).map fun x : Nat => ev l x % b
theorem ok_law_table (l : List Int) (b : Nat) (hb : 0 < b) (hb2 : b ≤ 1000) (hl : n1 l ≤ 1000000000000) (hn : l.length ≤ 1000) : runF f_law_table [.val (tupD l), .val (.int b)] = .ok (.val (tupD (tabL l b))) [.val (tupD l), .val (.int b)] := by
  apply eq_of_wp
  simp only [runF_def, f_law_table, r_law_table]
  have hs : sm62 (b : Int) = true := sm62_of _ (by omega) (by omega)
  simp [hs, rng_nat]
  refine wp_lcmap (fun k : Nat => D.int (k : Int)) (fun k : Nat => D.int (ev l k % b)) (List.range b) (by rw [szL_n]; simp; omega) (fun x hx => ?_) ?_
  · have hx2 : x < b := List.mem_range.mp hx
    have d1 : divG (b : Int) = true := div_lit (by omega) (by omega) (by omega)
    have b0 : ¬ b = 0 := by omega
    have fm : (ev l x).fmod (b : Int) = ev l x % (b : Int) := Int.fmod_eq_emod_of_nonneg _ (by omega)
    have run := ok_law_at l x (by rw [Int.natAbs_natCast]; exact Nat.le_trans (by omega : x ≤ 1000) (by decide)) (sm_150 hl) hn
    simp [run, d1, b0, fm]
  · rw [show (List.range b).map (fun k : Nat => D.int (ev l k % b)) = (tabL l b).map D.int by unfold tabL; rw [List.map_map]; rfl]
    simp
end K35
namespace K35
open PySem PySem.Spec PyProof.Rows L2 PU Poly
theorem ok_law_gcd (a b : Int) {n : Nat} (ha : a.natAbs < 2 ^ n) (hb : b.natAbs < 2 ^ n) (hn : n ≤ 100000000) : ∃ s, runF f_law_gcd [.val (.int a), .val (.int b)] = .ok (.val (.int (Int.gcd a b))) s ∧ s = [.val (.int a), .val (.int b)] := by
  refine ⟨_, ?_, rfl⟩
  apply eq_of_wp
  simp only [runF_def, f_law_gcd, r_law_gcd]
  simp
  refine wp_sWhile (fun m s => ∃ x y k : Nat, s = [.val (.int x), .val (.int y)] ∧ Nat.gcd x y = Int.gcd a b ∧ x * y < 2 ^ k ∧ m = gcdM x y k) (gcdM a.natAbs b.natAbs (n + n)) _ ⟨_, _, n + n, rfl, rfl, ?_, rfl⟩ ?_ ?_
  · rw [Nat.pow_add]; exact Nat.mul_lt_mul'' ha hb
  · unfold gcdM; split <;> omega
  · rintro m _ ⟨x, y, k, rfl, hg, hk, rfl⟩
    by_cases h0 : 0 < y
    · have hy : ¬ y = 0 := by omega
      have h0' : (0 : Int) < (y : Int) := by omega
      obtain ⟨k', q1, q2⟩ := gcdM_turn h0 hk
      simp [wt_law_gcd_0, wb_law_gcd_0, h0, hy]
      exact H1.mk ⟨_, q1, y, x % y, k', by rw [fmod_nat], by rw [← hg, Nat.gcd_comm x y, Nat.gcd_rec y x, Nat.gcd_comm], q2, rfl⟩
    · have hy : y = 0 := by omega
      subst hy
      simp at hg
      simp [wt_law_gcd_0, hg]
end K35
namespace PU
open PySem PySem.Spec PyProof.Rows L2 PU
theorem Pr.mul {p a b : Nat} (hp : Pr p) (h : p ∣ a * b) : p ∣ a ∨ p ∣ b := by
  rcases hp.2 (Nat.gcd p a) (Nat.gcd_dvd_left ..) with h1 | h1
  · exact .inr (Nat.Coprime.dvd_of_dvd_mul_left h1 h)
  · exact .inl (by rw [← h1]; exact Nat.gcd_dvd_right ..)
theorem Pr.pow {p a : Nat} (hp : Pr p) : ∀ {e : Nat}, p ∣ a ^ e → p ∣ a
  | 0, h => by have := Nat.le_of_dvd Nat.one_pos h; have := hp.1; omega
  | e + 1, h => by
    rw [Nat.pow_succ] at h
    rcases hp.mul h with h | h
    · exact Pr.pow hp h
    · exact h
theorem Pr.eq {p q : Nat} (hp : Pr p) (hq : Pr q) (h : p ∣ q) : p = q := by
  rcases hq.2 p h with h | h
  · have := hp.1; omega
  · exact h
theorem Pr.cop {p a : Nat} (hp : Pr p) (h : ¬ p ∣ a) : Nat.Coprime p a := by
  rcases hp.2 (Nat.gcd p a) (Nat.gcd_dvd_left ..) with h1 | h1
  · exact h1
  · exact absurd (by rw [← h1]; exact Nat.gcd_dvd_right ..) h
theorem Pr.dvd_pow {p : Nat} (hp : Pr p) : ∀ {e d : Nat}, d ∣ p ^ e → ∃ j, j ≤ e ∧ d = p ^ j
  | 0, d, h => ⟨0, Nat.le_refl _, Nat.dvd_one.mp h⟩
  | e + 1, d, h => by
    by_cases hd : p ∣ d
    · obtain ⟨c, rfl⟩ := hd
      rw [Nat.pow_succ, Nat.mul_comm] at h
      obtain ⟨j, h1, rfl⟩ := Pr.dvd_pow hp (Nat.dvd_of_mul_dvd_mul_right (by have := hp.1; omega) h)
      exact ⟨j + 1, by omega, by rw [Nat.pow_succ, Nat.mul_comm]⟩
    · have h1 : Nat.Coprime d (p ^ (e + 1)) := Nat.Coprime.pow_right _ (hp.cop hd).symm
      have h2 : d ∣ 1 := by rw [← h1]; exact Nat.dvd_gcd (Nat.dvd_refl _) h
      exact ⟨0, Nat.zero_le _, Nat.dvd_one.mp h2⟩
theorem Pr.prP {p : Nat} (hp : Pr p) : ∀ {l : List (Nat × Nat)}, (∀ q ∈ l, Pr q.1) → p ∣ prP l → ∃ q ∈ l, q.1 = p
  | [], _, h => by have := Nat.le_of_dvd Nat.one_pos h; have := hp.1; omega
  | q :: l, hl, h => by
    rcases hp.mul h with h | h
    · exact ⟨q, List.mem_cons_self .., (hp.eq (hl q (List.mem_cons_self ..)) (hp.pow h)).symm⟩
    · obtain ⟨r, h1, h2⟩ := Pr.prP hp (fun r hr => hl r (List.mem_cons_of_mem _ hr)) h
      exact ⟨r, List.mem_cons_of_mem _ h1, h2⟩
structure DivOk (m : Nat) (F : List Nat) : Prop where
  nd : F.Nodup
  iff : ∀ d, d ∈ F ↔ d ∣ m
/-- F, p F, p^2 F, .. -/
def powD (p : Nat) (F : List Nat) : Nat → List Nat
  | 0 => F
  | e + 1 => powD p F e ++ F.map fun f => p ^ (e + 1) * f
theorem powD_mem {p : Nat} {F : List Nat} {d : Nat} : ∀ {e : Nat}, d ∈ powD p F e ↔ ∃ j, j ≤ e ∧ ∃ f ∈ F, d = p ^ j * f
  | 0 => by
    constructor
    · intro h; exact ⟨0, Nat.le_refl _, d, h, by simp⟩
    · rintro ⟨j, h1, f, h2, rfl⟩
      have : j = 0 := by omega
      subst this; simpa [powD] using h2
  | e + 1 => by
    show d ∈ powD p F e ++ F.map (fun f => p ^ (e + 1) * f) ↔ _
    rw [List.mem_append, powD_mem]
    constructor
    · rintro (⟨j, h1, f, h2, rfl⟩ | h)
      · exact ⟨j, by omega, f, h2, rfl⟩
      · obtain ⟨f, h2, rfl⟩ := List.mem_map.mp h
        exact ⟨e + 1, Nat.le_refl _, f, h2, rfl⟩
    · rintro ⟨j, h1, f, h2, rfl⟩
      by_cases h : j = e + 1
      · subst h; exact .inr (List.mem_map.mpr ⟨f, h2, rfl⟩)
      · exact .inl ⟨j, by omega, f, h2, rfl⟩
theorem pow_inj {p : Nat} (hp : Pr p) {f g : Nat} (hf : ¬ p ∣ f) (hg : ¬ p ∣ g) : ∀ {i j : Nat}, p ^ i * f = p ^ j * g → i = j ∧ f = g
  | 0, 0, h => ⟨rfl, by simpa using h⟩
  | 0, j + 1, h => by
    exfalso; apply hf
    rw [Nat.pow_zero, Nat.one_mul] at h
    rw [h, Nat.pow_succ, Nat.mul_comm (p ^ j), Nat.mul_assoc]; exact Nat.dvd_mul_right ..
  | i + 1, 0, h => by
    exfalso; apply hg
    rw [Nat.pow_zero, Nat.one_mul] at h
    rw [← h, Nat.pow_succ, Nat.mul_comm (p ^ i), Nat.mul_assoc]; exact Nat.dvd_mul_right ..
  | i + 1, j + 1, h => by
    rw [Nat.pow_succ, Nat.pow_succ, Nat.mul_comm (p ^ i), Nat.mul_comm (p ^ j), Nat.mul_assoc, Nat.mul_assoc] at h
    obtain ⟨a, b⟩ := pow_inj hp hf hg (Nat.eq_of_mul_eq_mul_left (by have := hp.1; omega) h)
    exact ⟨by omega, b⟩
theorem DivOk.step {m p : Nat} {F : List Nat} (h : DivOk m F) (hp : Pr p) (hm : ¬ p ∣ m) (e : Nat) : DivOk (m * p ^ e) (powD p F e) := by
  have hF : ∀ f ∈ F, ¬ p ∣ f := fun f hf z => hm (Nat.dvd_trans z ((h.iff f).mp hf))
  refine ⟨?_, fun d => ?_⟩
  · have key : ∀ e, (powD p F e).Nodup := by
      intro e
      induction e with
      | zero => exact h.nd
      | succ e ih =>
        show (powD p F e ++ F.map fun f => p ^ (e + 1) * f).Nodup
        refine List.nodup_append.mpr ⟨ih, ?_, fun a ha b hb hab => ?_⟩
        · refine List.Pairwise.map _ (fun a b hab hz => hab ?_) h.nd
          exact Nat.eq_of_mul_eq_mul_left (Nat.pow_pos (by have := hp.1; omega)) hz
        · subst hab
          obtain ⟨j, h1, f, h2, rfl⟩ := powD_mem.mp ha
          obtain ⟨g, h3, h4⟩ := List.mem_map.mp hb
          have := (pow_inj hp (hF g h3) (hF f h2) h4).1
          omega
    exact key e
  · rw [powD_mem]
    constructor
    · rintro ⟨j, h1, f, h2, rfl⟩
      rw [Nat.mul_comm m]
      exact Nat.mul_dvd_mul (Nat.pow_dvd_pow p h1) ((h.iff f).mp h2)
    · intro hd
      by_cases hd0 : d = 0
      · subst hd0
        have h0 := Nat.eq_zero_of_zero_dvd hd
        rcases Nat.mul_eq_zero.mp h0 with h0 | h0
        · exact absurd (by rw [h0]; exact Nat.dvd_zero _) hm
        · have := Nat.pow_pos (n := e) (show 0 < p by have := hp.1; omega); omega
      have g1 : Nat.gcd d (p ^ e) ∣ p ^ e := Nat.gcd_dvd_right ..
      obtain ⟨j, h1, h2⟩ := hp.dvd_pow g1
      have gp : 0 < Nat.gcd d (p ^ e) := Nat.gcd_pos_of_pos_left _ (by omega)
      have cop : Nat.Coprime (d / Nat.gcd d (p ^ e)) (p ^ e / Nat.gcd d (p ^ e)) := Nat.coprime_div_gcd_div_gcd gp
      obtain ⟨u, hu⟩ : Nat.gcd d (p ^ e) ∣ d := Nat.gcd_dvd_left ..
      obtain ⟨v, hv⟩ := g1
      have e1 : d / Nat.gcd d (p ^ e) = u := by conv => lhs; lhs; rw [hu]
                                                exact Nat.mul_div_cancel_left _ gp
      have e2 : p ^ e / Nat.gcd d (p ^ e) = v := by conv => lhs; lhs; rw [hv]
                                                    exact Nat.mul_div_cancel_left _ gp
      rw [e1, e2] at cop
      refine ⟨j, h1, u, (h.iff u).mpr ?_, by rw [← h2]; exact hu⟩
      generalize Nat.gcd d (p ^ e) = g at *
      rw [hu, hv, Nat.mul_left_comm] at hd
      have h3 := Nat.dvd_of_mul_dvd_mul_left gp hd
      exact cop.dvd_of_dvd_mul_right h3
end PU
namespace PU
open PySem PySem.Spec PyProof.Rows L2 PU
open Poly
/-! ### bars -/
def Zr (l : List Int) (b : Nat) : Prop := ∃ x : Int, (b : Int) ∣ ev l x
theorem ev_md (l : List Int) (b x y : Int) (h : b ∣ x - y) : b ∣ ev l x - ev l y := by
  induction l with
  | nil => simp [ev]
  | cons a m ih =>
    show b ∣ a + x * ev m x - (a + y * ev m y)
    have e : a + x * ev m x - (a + y * ev m y) = (x - y) * ev m x + y * (ev m x - ev m y) := by grind
    rw [e]
    exact Int.dvd_add (Int.dvd_trans h (Int.dvd_mul_right ..)) (Int.dvd_trans ih (Int.dvd_mul_left ..))
theorem zr_nat {l : List Int} {b : Nat} (hb : 0 < b) : Zr l b ↔ ∃ x : Nat, x < b ∧ (b : Int) ∣ ev l x := by
  constructor
  · rintro ⟨x, hx⟩
    have hb' : (0 : Int) < b := by omega
    have h1 := Int.emod_nonneg x (show (b : Int) ≠ 0 by omega)
    have h2 := Int.emod_lt_of_pos x hb'
    refine ⟨(x % b).toNat, by omega, ?_⟩
    have e : (((x % b).toNat : Nat) : Int) = x % b := by omega
    rw [e]
    have := ev_md l b x (x % b) Int.dvd_self_sub_emod
    have := Int.dvd_sub hx this
    rwa [show ev l x - (ev l x - ev l (x % b)) = ev l (x % b) by omega] at this
  · rintro ⟨x, -, h⟩; exact ⟨x, h⟩
/-- two coprime bases -/
theorem zr_mul {l : List Int} {a b : Nat} (hc : Nat.Coprime a b) (ha : Zr l a) (hb : Zr l b) : Zr l (a * b) := by
  obtain ⟨x, hx⟩ := ha
  obtain ⟨y, hy⟩ := hb
  obtain ⟨u, v, huv⟩ := bezN b a
  have huv : u * (a : Int) + v * (b : Int) = 1 := by rw [huv, hc]; rfl
  have z1 : (a : Int) ∣ ev l (x + (a : Int) * u * (y - x)) := by
    have h1 := ev_md l a (x + (a : Int) * u * (y - x)) x ⟨u * (y - x), by rw [← Int.mul_assoc]; omega⟩
    have := Int.dvd_add h1 hx
    rwa [Int.sub_add_cancel] at this
  have z2 : (b : Int) ∣ ev l (x + (a : Int) * u * (y - x)) := by
    have h1 := ev_md l b (x + (a : Int) * u * (y - x)) y ⟨v * (x - y), by
      have : (1 : Int) - u * a = v * b := by omega
      have e : x + (a : Int) * u * (y - x) - y = (x - y) * (1 - u * a) := by grind
      rw [e, this]; grind⟩
    have := Int.dvd_add h1 hy
    rwa [Int.sub_add_cancel] at this
  refine ⟨x + (a : Int) * u * (y - x), ?_⟩
  have h3 : a * b ∣ (ev l (x + (a : Int) * u * (y - x))).natAbs := Nat.Coprime.mul_dvd_of_dvd_of_dvd hc (Int.ofNat_dvd_left.mp z1) (Int.ofNat_dvd_left.mp z2)
  exact Int.ofNat_dvd_left.mpr h3
/-- the least base without a zero is a power of a prime -/
theorem zr_apart {l : List Int} {b : Nat} {ps : List (Nat × Nat)} (h : Apart b ps) (hb : 2 ≤ b) (hs : ∀ c, 2 ≤ c → c < b → Zr l c) (hn : ps.length ≠ 1) : Zr l b := by
  match ps, h, hn with
  | [], h, _ => have := h.prod; simp [prP] at this; omega
  | [q], _, hn => exact absurd rfl hn
  | q :: r :: ps, h, _ =>
    have hq := h.pr q (by simp)
    have hr := h.pr r (by simp)
    have e : b = q.1 ^ q.2 * prP (r :: ps) := h.prod.symm
    have p1 : 2 ≤ q.1 ^ q.2 := Nat.le_trans hq.1.1 (by have : q.1 ^ 1 ≤ q.1 ^ q.2 := Nat.pow_le_pow_right (by have := hq.1.1; omega) hq.2
                                                       simpa using this)
    have p2 : 2 ≤ prP (r :: ps) := by
      have h1 : r.1 ^ r.2 ∣ prP (r :: ps) := prP_mem (by simp)
      have h2 : 2 ≤ r.1 ^ r.2 := Nat.le_trans hr.1.1 (by have : r.1 ^ 1 ≤ r.1 ^ r.2 := Nat.pow_le_pow_right (by have := hr.1.1; omega) hr.2
                                                         simpa using this)
      exact Nat.le_trans h2 (Nat.le_of_dvd (prP_pos fun q hq => h.pr q (by simp at hq; simp [hq])) h1)
    have c : Nat.Coprime (q.1 ^ q.2) (prP (r :: ps)) := by
      refine Nat.Coprime.pow_left _ (hq.1.cop fun z => ?_)
      obtain ⟨t, h1, h2⟩ := hq.1.prP (fun t ht => (h.pr t (List.mem_cons_of_mem _ ht)).1) z
      have := (List.pairwise_cons.mp h.asc).1 t h1
      omega
    have l1 : q.1 ^ q.2 < b := by
      rw [e]
      have : q.1 ^ q.2 * 1 < q.1 ^ q.2 * prP (r :: ps) := Nat.mul_lt_mul_of_pos_left (by omega) (by omega)
      omega
    have l2 : prP (r :: ps) < b := by
      rw [e]
      have : 1 * prP (r :: ps) < q.1 ^ q.2 * prP (r :: ps) := Nat.mul_lt_mul_of_pos_right (by omega) (by omega)
      omega
    rw [e]
    exact zr_mul c (hs _ p1 l1) (hs _ p2 l2)
structure BarOk (l : List Int) (most : Nat) (o : Option Nat) : Prop where
  none_ : o = none → ∀ b, 2 ≤ b → b ≤ most → Zr l b
  some_ : ∀ B, o = some B → 2 ≤ B ∧ B ≤ most ∧ ¬ Zr l B ∧ ∀ b, 2 ≤ b → b < B → Zr l b
theorem BarOk.uniq {l : List Int} {m : Nat} {o o' : Option Nat} (h : BarOk l m o) (h' : BarOk l m o') : o = o' := by
  cases o with
  | none =>
    cases o' with
    | none => rfl
    | some B => obtain ⟨h1, h2, h3, -⟩ := h'.some_ B rfl; exact absurd (h.none_ rfl B h1 h2) h3
  | some A =>
    obtain ⟨a1, a2, a3, a4⟩ := h.some_ A rfl
    cases o' with
    | none => exact absurd (h'.none_ rfl A a1 a2) a3
    | some B =>
      obtain ⟨h1, h2, h3, h4⟩ := h'.some_ B rfl
      have : A = B := by
        by_cases c : A < B
        · exact absurd (h4 A a1 c) a3
        · by_cases c2 : B < A
          · exact absurd (a4 B h1 c2) h3
          · omega
      rw [this]
end PU
namespace PU
open PySem PySem.Spec PyProof.Rows L2 PU
open Poly
def cf (l : List Int) (k : Nat) : Int := l.getD k 0
theorem cf_get {l : List Int} {k : Nat} {a : Int} (h : l[k]? = some a) : cf l k = a := by unfold cf; rw [List.getD_eq_getElem?_getD, h]; rfl
theorem cf_big {l : List Int} {k : Nat} (h : l.length ≤ k) : cf l k = 0 := by unfold cf; rw [List.getD_eq_getElem?_getD, List.getElem?_eq_none h]; rfl
theorem cf_set {l : List Int} {i : Nat} (k : Nat) (v : Int) (h : i < l.length) : cf (l.set i v) k = if k = i then v else cf l k := by
  unfold cf
  rw [List.getD_eq_getElem?_getD, List.getD_eq_getElem?_getD]
  by_cases hk : k = i
  · subst hk; rw [if_pos rfl, List.getElem?_set_self h]; rfl
  · rw [if_neg hk, List.getElem?_set_ne fun z => hk z.symm]
theorem cf_mem {l : List Int} {k : Nat} (h : k < l.length) : cf l k ∈ l := by
  unfold cf; rw [List.getD_eq_getElem?_getD, List.getElem?_eq_getElem h]; exact List.getElem_mem h
theorem cf_cons (a : Int) (l : List Int) (k : Nat) : cf (a :: l) (k + 1) = cf l k := by unfold cf; simp
theorem cf_zero (a : Int) (l : List Int) : cf (a :: l) 0 = a := by unfold cf; simp
/-- one turn of leading in -/
structure LedS (a s t : Int) (F G : List Int) : Prop where
  len : G.length = F.length + 1
  co : ∀ k, cf G k = a * cf F k + (if k = 0 then t else s * cf F (k - 1))
theorem led_ev {a s : Int} (y : Int) : ∀ {F G : List Int} {t : Int}, LedS a s t F G → ev G y = (a + s * y) * ev F y + t
  | [], G, t, h => by
    match G, h.len with
    | [c], _ =>
      have := h.co 0
      rw [cf_zero, if_pos rfl, cf_big (Nat.zero_le _)] at this
      simp [ev, this]
  | b :: F, G, t, h => by
    match G, h.len with
    | c :: G, hl =>
      have h0 := h.co 0
      rw [cf_zero, cf_zero, if_pos rfl] at h0
      have ih := led_ev y (F := F) (G := G) (t := s * b) ⟨by simpa using hl, fun k => by
        have := h.co (k + 1)
        rw [cf_cons, cf_cons, if_neg (by omega), show k + 1 - 1 = k from rfl] at this
        rw [this]
        cases k with
        | zero => rw [cf_zero]; rfl
        | succ k => rw [cf_cons]; rfl⟩
      show c + y * ev G y = (a + s * y) * (b + y * ev F y) + t
      rw [ih, h0]; grind
end PU
namespace PU
open PySem PySem.Spec PyProof.Rows L2 PU
open Poly
theorem dv_md {l : List Int} (hl : l ≠ []) {b x y : Int} (h : b ∣ x - y) : b ∣ dv l x - dv l y := by
  rw [← ev_slp l hl, ← ev_slp l hl]; exact ev_md _ b x y h
theorem pr_dvd {p : Nat} (hp : Pr p) {a b : Int} (h : (p : Int) ∣ a * b) : (p : Int) ∣ a ∨ (p : Int) ∣ b := by
  have h1 := Int.natAbs_dvd_natAbs.mpr h
  rw [Int.natAbs_mul, Int.natAbs_natCast] at h1
  rcases hp.mul h1 with h | h
  · exact .inl (Int.natAbs_dvd_natAbs.mp (by rwa [Int.natAbs_natCast]))
  · exact .inr (Int.natAbs_dvd_natAbs.mp (by rwa [Int.natAbs_natCast]))
theorem pow_pr {p : Nat} (hp : Pr p) {a b : Int} (hb : ¬ (p : Int) ∣ b) : ∀ {n : Nat}, (p : Int) ^ n ∣ a * b → (p : Int) ^ n ∣ a
  | 0, _ => by rw [Int.pow_zero]; exact Int.one_dvd _
  | n + 1, h => by
    rw [Int.pow_succ] at h
    have h1 := pow_pr hp hb (Int.dvd_trans (Int.dvd_mul_right ..) h)
    obtain ⟨c, rfl⟩ := h1
    have p0 : (p : Int) ^ n ≠ 0 := Int.pow_ne_zero (by have := hp.1; omega)
    rw [Int.mul_assoc] at h
    have h2 := Int.dvd_of_mul_dvd_mul_left p0 h
    rcases pr_dvd hp h2 with h3 | h3
    · obtain ⟨d, rfl⟩ := h3
      exact ⟨d, by rw [Int.pow_succ]; grind⟩
    · exact absurd h3 hb
/-- one turn of Newton's way -/
theorem newton {l : List Int} {B C : Int} (hl : l ≠ []) {F v d r : Int} (hC : B ∣ C * C) (hCB : C ∣ B) (hz : C ∣ ev l F) (hv : B ∣ v - ev l F) (hd : B ∣ d - dv l F) (hr : B ∣ r * d - 1) : B ∣ ev l (F - v * r) ∧ C ∣ v := by
  have cv : C ∣ v := by
    have := Int.dvd_add (Int.dvd_trans hCB hv) hz
    rwa [Int.sub_add_cancel] at this
  refine ⟨?_, cv⟩
  obtain ⟨q, hq⟩ := taylor F (-(v * r)) l
  rw [show F - v * r = F + -(v * r) by omega, hq]
  obtain ⟨w, rfl⟩ := cv
  have h1 : B ∣ -(C * w * r) * -(C * w * r) * q := by
    obtain ⟨k, hk⟩ := hC
    exact ⟨k * w * r * w * r * q, by rw [show -(C * w * r) * -(C * w * r) * q = (C * C) * (w * r * w * r * q) by grind, hk]; grind⟩
  have h2 : B ∣ ev l F + -(C * w * r) * dv l F := by
    obtain ⟨a, ha⟩ := hv
    obtain ⟨b, hb⟩ := hd
    obtain ⟨c, hc⟩ := hr
    refine ⟨-a - C * w * c + C * w * r * b, ?_⟩
    have e1 : ev l F = C * w - B * a := by omega
    have e2 : dv l F = d - B * b := by omega
    have e3 : r * d = 1 + B * c := by omega
    have e4 : C * w * r * d = C * w + C * w * (B * c) := by rw [Int.mul_assoc (C * w) r d, e3, Int.mul_add, Int.mul_one]
    rw [e1, e2]
    have e5 : -(C * w * r) * (d - B * b) = -(C * w * r * d) + B * (C * w * r * b) := by grind
    rw [e5, e4]
    grind
  exact Int.dvd_add h2 h1
/-- above a zero with a slope there is just one -/
theorem hensel_one {l : List Int} (hl : l ≠ []) {p : Nat} (hp : Pr p) {n : Nat} {x y : Int} (hx : (p : Int) ^ n ∣ ev l x) (hs : ¬ (p : Int) ∣ dv l x) (hy : (p : Int) ∣ y - x) : (p : Int) ^ n ∣ ev l y ↔ (p : Int) ^ n ∣ y - x := by
  obtain ⟨q, hq⟩ := taylor x (y - x) l
  rw [show x + (y - x) = y by omega] at hq
  have e : ev l y = ev l x + (y - x) * (dv l x + (y - x) * q) := by rw [hq]; grind
  have hu : ¬ (p : Int) ∣ dv l x + (y - x) * q := fun z => hs (by
    have := Int.dvd_sub z (Int.dvd_trans hy (Int.dvd_mul_right (y - x) q))
    rwa [Int.add_sub_cancel] at this)
  constructor
  · intro h
    have h2 := Int.dvd_sub h hx
    rw [e, show ev l x + (y - x) * (dv l x + (y - x) * q) - ev l x = (y - x) * (dv l x + (y - x) * q) by omega] at h2
    exact pow_pr hp hu h2
  · intro h
    rw [e]
    exact Int.dvd_add hx (Int.dvd_trans h (Int.dvd_mul_right ..))
end PU
namespace K35
open PySem PySem.Spec PyProof.Rows L2 PU Poly
theorem ok_apart (n : Nat) (hn : 1 ≤ n) (hn2 : n ≤ 1000000000000) : ∃ ps, runF f_apart [.val (.int (n : Nat))] = .ok (.val (.tup (ps.map ppD))) [.val (.int (n : Nat))] ∧ Apart n ps := by
  obtain ⟨ps, t, r, ap⟩ := ok_apart_of n hn hn2
  refine ⟨ps, ?_, ap⟩
  simp only [runF_def, f_apart, r_apart]
  simp [ok_check_base (n : Int) (by omega) (by omega), r]
end K35
namespace K35
open PySem PySem.Spec PyProof.Rows L2 PU Poly
/-! ### sums that turn the rests -/
/-- a sum leads numbers of unlike rests to such -/
def Inj (l : List Int) (n : Nat) : Prop := ∀ x y : Int, (n : Int) ∣ ev l x - ev l y → (n : Int) ∣ x - y
/-- it leads to each rest -/
def Sur (l : List Int) (n : Nat) : Prop := ∀ y : Int, ∃ x : Int, (n : Int) ∣ ev l x - y
def rg (n : Nat) : List Int := (List.range n).map fun i => ((i : Nat) : Int)
theorem rg_len (n : Nat) : (rg n).length = n := by simp [rg]
theorem mem_rg {n : Nat} {k : Int} : k ∈ rg n ↔ 0 ≤ k ∧ k < n := by
  unfold rg
  rw [List.mem_map]
  constructor
  · rintro ⟨i, hi, rfl⟩
    have := List.mem_range.mp hi
    omega
  · rintro ⟨h1, h2⟩
    exact ⟨k.toNat, List.mem_range.mpr (by omega), by omega⟩
theorem rg_nodup (n : Nat) : (rg n).Nodup := by
  unfold rg
  rw [List.Nodup, List.pairwise_map]
  exact List.Pairwise.imp (fun h e => h (by omega)) (List.nodup_range (n := n))
def tbl (l : List Int) (n : Nat) : List Int := (rg n).map fun z => ev l z % (n : Int)
theorem tbl_len (l : List Int) (n : Nat) : (tbl l n).length = n := by simp [tbl, rg_len]
theorem tbl_rg {l : List Int} {n : Nat} (hn : 0 < n) {k : Int} (h : k ∈ tbl l n) : k ∈ rg n := by
  obtain ⟨z, hz, rfl⟩ := List.mem_map.mp h
  exact mem_rg.mpr ⟨Int.emod_nonneg _ (by omega), Int.emod_lt_of_pos _ (by omega)⟩
theorem emod_iff {n a b : Int} : n ∣ a - b ↔ a % n = b % n := by
  constructor
  · intro h; exact Int.emod_eq_emod_iff_emod_sub_eq_zero.mpr (Int.emod_eq_zero_of_dvd h)
  · intro h; exact Int.dvd_of_emod_eq_zero (Int.emod_eq_emod_iff_emod_sub_eq_zero.mp h)
theorem self_emod (n a : Int) : n ∣ a % n - a := emod_iff.mpr (Int.emod_emod_of_dvd a (Int.dvd_refl n))
theorem Inj.nodup {l : List Int} {n : Nat} (h : Inj l n) : (tbl l n).Nodup := by
  unfold tbl
  rw [List.Nodup, List.pairwise_map]
  refine List.Pairwise.imp_of_mem (fun {a b} ha hb hab e => ?_) (rg_nodup n)
  have a1 := mem_rg.mp ha
  have b1 := mem_rg.mp hb
  have := emod_iff.mp (h a b (emod_iff.mpr e))
  rw [Int.emod_eq_of_lt a1.1 a1.2, Int.emod_eq_of_lt b1.1 b1.2] at this
  exact hab this
/-- what is not told is one too many -/
theorem told_all {l : List Int} {n : Nat} (hn : 0 < n) {t : List Int} (ht : t.Nodup) (hs : ∀ k ∈ t, k ∈ tbl l n) (hl : t.length = n) : Sur l n := fun y => by
  have hk : y % (n : Int) ∈ rg n := mem_rg.mpr ⟨Int.emod_nonneg _ (by omega), Int.emod_lt_of_pos _ (by omega)⟩
  by_cases h : y % (n : Int) ∈ t
  · obtain ⟨z, hz, e⟩ := List.mem_map.mp (hs _ h)
    exact ⟨z, emod_iff.mpr e⟩
  · have := nodup_le (l := (y % (n : Int)) :: t) (m := rg n) (List.nodup_cons.mpr ⟨h, ht⟩) fun x hx => by
      rcases List.mem_cons.mp hx with rfl | hx
      · exact hk
      · exact tbl_rg hn (hs x hx)
    rw [List.length_cons, hl, rg_len] at this
    omega
theorem Inj.sur {l : List Int} {n : Nat} (hn : 0 < n) (h : Inj l n) : Sur l n := told_all hn h.nodup (fun _ h => h) (tbl_len l n)
theorem Sur.inj {l : List Int} {n : Nat} (hn : 0 < n) (h : Sur l n) : Inj l n := fun x y hxy => by
  by_cases hd : (n : Int) ∣ x - y
  · exact hd
  · exfalso
    have rx : x % (n : Int) ∈ rg n := mem_rg.mpr ⟨Int.emod_nonneg _ (by omega), Int.emod_lt_of_pos _ (by omega)⟩
    have ry : y % (n : Int) ∈ rg n := mem_rg.mpr ⟨Int.emod_nonneg _ (by omega), Int.emod_lt_of_pos _ (by omega)⟩
    have ne : y % (n : Int) ≠ x % (n : Int) := fun e => hd (emod_iff.mpr e.symm)
    have evm : ∀ a : Int, ev l (a % (n : Int)) % (n : Int) = ev l a % (n : Int) := fun a => emod_iff.mp (ev_md l n _ _ (self_emod n a))
    have := nodup_le (l := rg n) (m := ((rg n).erase (x % (n : Int))).map fun z => ev l z % (n : Int)) (rg_nodup n) fun k hk => by
      obtain ⟨z, hz⟩ := h k
      have k1 := mem_rg.mp hk
      have e1 : ev l (z % (n : Int)) % (n : Int) = k := by
        rw [evm, emod_iff.mp hz, Int.emod_eq_of_lt k1.1 k1.2]
      have rz : z % (n : Int) ∈ rg n := mem_rg.mpr ⟨Int.emod_nonneg _ (by omega), Int.emod_lt_of_pos _ (by omega)⟩
      by_cases e : z % (n : Int) = x % (n : Int)
      · refine List.mem_map.mpr ⟨y % (n : Int), (List.mem_erase_of_ne ne).mpr ry, ?_⟩
        rw [← e1, e, evm, evm]
        exact (emod_iff.mp hxy).symm
      · exact List.mem_map.mpr ⟨z % (n : Int), (List.mem_erase_of_ne e).mpr rz, e1⟩
    rw [List.length_map, List.length_erase_of_mem rx, rg_len] at this
    omega
theorem dist_le (l : List Int) (n : Nat) : (usort (tbl l n)).length ≤ n := by
  have := usort_le (tbl l n)
  rwa [tbl_len] at this
theorem dist_iff {l : List Int} {n : Nat} (hn : 0 < n) : (usort (tbl l n)).length = n ↔ Inj l n := by
  constructor
  · intro h
    exact (told_all hn (nodup_of_asc asc_usort) (fun k hk => mem_usort.mp hk) h).inj hn
  · intro h
    rw [nodup_eq (nodup_of_asc asc_usort) h.nodup fun x => mem_usort, tbl_len]
/-! ### parts -/
theorem inj_one (l : List Int) : Inj l 1 := fun x y _ => Int.one_dvd _
theorem inj_left {l : List Int} {a b : Nat} (hc : Nat.Coprime a b) (h : Inj l (a * b)) : Inj l a := fun x y hxy => by
  obtain ⟨u, v, e⟩ : ∃ u v : Int, (a : Int) * u + (b : Int) * v = 1 := by
    obtain ⟨u, v, e⟩ := bezN b a
    have hc : Nat.gcd a b = 1 := hc
    rw [hc] at e
    exact ⟨u, v, by rw [Int.mul_comm (a : Int) u, Int.mul_comm (b : Int) v]; exact e⟩
  -- x', y' lie on x, y by a, on 0 by b
  have hx : ∀ z : Int, (a : Int) ∣ z * (b * v) - z := fun z => ⟨-(z * u), by grind⟩
  have hb : ∀ z : Int, (b : Int) ∣ z * (b * v) := fun z => ⟨z * v, by grind⟩
  have ha1 : (a : Int) ∣ ev l (x * (b * v)) - ev l (y * (b * v)) := by
    have h1 := ev_md l a _ _ (hx x)
    have h2 := ev_md l a _ _ (hx y)
    have := Int.dvd_sub (Int.dvd_add h1 hxy) h2
    rwa [show ev l (x * (b * v)) - ev l x + (ev l x - ev l y) - (ev l (y * (b * v)) - ev l y) = ev l (x * (b * v)) - ev l (y * (b * v)) by omega] at this
  have hb1 : (b : Int) ∣ ev l (x * (b * v)) - ev l (y * (b * v)) := ev_md l b _ _ (Int.dvd_sub (hb x) (hb y))
  have hab : ((a * b : Nat) : Int) ∣ ev l (x * (b * v)) - ev l (y * (b * v)) := by
    refine Int.natAbs_dvd_natAbs.mp ?_
    rw [Int.natAbs_natCast]
    exact Nat.Coprime.mul_dvd_of_dvd_of_dvd hc (by have := Int.natAbs_dvd_natAbs.mpr ha1; rwa [Int.natAbs_natCast] at this) (by have := Int.natAbs_dvd_natAbs.mpr hb1; rwa [Int.natAbs_natCast] at this)
  have h3 := h _ _ hab
  rw [Int.natCast_mul] at h3
  have h4 := Int.dvd_trans (Int.dvd_mul_right ..) h3
  have := Int.dvd_add (Int.dvd_sub h4 (hx x)) (hx y)
  rwa [show x * (↑b * v) - y * (↑b * v) - (x * (↑b * v) - x) + (y * (↑b * v) - y) = x - y by omega] at this
theorem inj_mul {l : List Int} {a b : Nat} (hc : Nat.Coprime a b) : Inj l (a * b) ↔ Inj l a ∧ Inj l b := by
  constructor
  · intro h
    exact ⟨inj_left hc h, inj_left hc.symm (by rwa [Nat.mul_comm])⟩
  · rintro ⟨h1, h2⟩ x y hxy
    rw [Int.natCast_mul] at hxy
    have a1 := h1 x y (Int.dvd_trans (Int.dvd_mul_right ..) hxy)
    have b1 := h2 x y (Int.dvd_trans (Int.dvd_mul_left ..) hxy)
    refine Int.natAbs_dvd_natAbs.mp ?_
    rw [Int.natAbs_natCast]
    exact Nat.Coprime.mul_dvd_of_dvd_of_dvd hc (by have := Int.natAbs_dvd_natAbs.mpr a1; rwa [Int.natAbs_natCast] at this) (by have := Int.natAbs_dvd_natAbs.mpr b1; rwa [Int.natAbs_natCast] at this)
theorem inj_prP {l : List Int} : ∀ {ps : List (Nat × Nat)}, (∀ q ∈ ps, Pr q.1 ∧ 1 ≤ q.2) → (ps.Pairwise fun a b => a.1 < b.1) → (Inj l (prP ps) ↔ ∀ q ∈ ps, Inj l (q.1 ^ q.2))
  | [], _, _ => ⟨fun _ q hq => by simp at hq, fun _ => inj_one l⟩
  | q :: ps, h, ha => by
    obtain ⟨h1, h2⟩ := List.pairwise_cons.mp ha
    have ih := inj_prP (l := l) (ps := ps) (fun r hr => h r (List.mem_cons_of_mem _ hr)) h2
    have hq := (h q (List.mem_cons_self ..)).1
    have nd : ¬ q.1 ∣ prP ps := fun hd => by
      obtain ⟨r, hr, e⟩ := hq.prP (fun r hr => (h r (List.mem_cons_of_mem _ hr)).1) hd
      have := h1 r hr
      omega
    have hc : Nat.Coprime (q.1 ^ q.2) (prP ps) := Nat.Coprime.pow_left _ (hq.cop nd)
    show Inj l (q.1 ^ q.2 * prP ps) ↔ _
    rw [inj_mul hc, ih]
    constructor
    · rintro ⟨a, b⟩ r hr
      rcases List.mem_cons.mp hr with rfl | hr
      · exact a
      · exact b r hr
    · intro a
      exact ⟨a q (List.mem_cons_self ..), fun r hr => a r (List.mem_cons_of_mem _ hr)⟩
theorem inj_apart {l : List Int} {n : Nat} {ps : List (Nat × Nat)} (h : Apart n ps) : Inj l n ↔ ∀ q ∈ ps, Inj l (q.1 ^ q.2) := by
  rw [← h.prod]; exact inj_prP h.pr h.asc
/-! ### powers of a prime -/
theorem inj_down {l : List Int} {m n : Nat} (hm : 0 < m) (hn : 0 < n) (h : Inj l (m * n)) : Inj l m := by
  refine Sur.inj hm fun y => ?_
  obtain ⟨x, hx⟩ := h.sur (Nat.mul_pos hm hn) y
  rw [Int.natCast_mul] at hx
  exact ⟨x, Int.dvd_trans (Int.dvd_mul_right ..) hx⟩
theorem inj_pow {l : List Int} (hl : l ≠ []) {p n : Nat} (hp : Pr p) : Inj l (p ^ (n + 2)) ↔ Inj l p ∧ ∀ x : Int, ¬ (p : Int) ∣ dv l x := by
  have p2 := hp.1
  have pp : 0 < p := by omega
  constructor
  · intro h
    refine ⟨inj_down pp (Nat.pow_pos (n := n + 1) pp) (by rwa [← Nat.pow_succ'] ), fun x hx => ?_⟩
    obtain ⟨q, e⟩ := taylor x ((p : Int) ^ (n + 1)) l
    obtain ⟨c, hc⟩ := hx
    have h1 : ((p ^ (n + 2) : Nat) : Int) ∣ ev l (x + (p : Int) ^ (n + 1)) - ev l x := by
      rw [e, hc, Int.natCast_pow]
      refine ⟨c + (p : Int) ^ n * q, ?_⟩
      have e1 : (p : Int) ^ (n + 2) = (p : Int) ^ n * p * p := by rw [Int.pow_succ, Int.pow_succ]
      have e2 : (p : Int) ^ (n + 1) = (p : Int) ^ n * p := Int.pow_succ ..
      rw [e1, e2]
      grind
    have h2 := h _ _ h1
    rw [show x + (p : Int) ^ (n + 1) - x = (p : Int) ^ (n + 1) by omega, Int.natCast_pow] at h2
    have h3 := Int.natAbs_dvd_natAbs.mpr h2
    rw [Int.natAbs_pow, Int.natAbs_pow, Int.natAbs_natCast] at h3
    have h4 := Nat.le_of_dvd (Nat.pow_pos pp) h3
    have h5 : p ^ (n + 1) < p ^ (n + 2) := Nat.pow_lt_pow_right (by omega) (by omega)
    omega
  · rintro ⟨h1, h2⟩ x y hxy
    rw [Int.natCast_pow] at hxy ⊢
    have hp1 : (p : Int) ∣ x - y := h1 x y (Int.dvd_trans ⟨(p : Int) ^ (n + 1), by rw [Int.pow_succ, Int.mul_comm]⟩ hxy)
    obtain ⟨q, e⟩ := taylor y (x - y) l
    rw [show y + (x - y) = x by omega] at e
    have e2 : ev l x - ev l y = (x - y) * (dv l y + (x - y) * q) := by rw [e]; grind
    rw [e2] at hxy
    refine pow_pr hp (fun hd => h2 y ?_) hxy
    have := Int.dvd_sub hd (Int.dvd_trans hp1 (Int.dvd_mul_right _ q))
    rwa [show dv l y + (x - y) * q - (x - y) * q = dv l y by omega] at this
/-- what turns_by asks -/
theorem inj_often {l : List Int} (hl : l ≠ []) {p k : Nat} (hp : Pr p) (hk : 1 ≤ k) : Inj l (p ^ k) ↔ Inj l p ∧ (k = 1 ∨ ∀ i : Nat, i < p → ¬ (p : Int) ∣ dv l (i : Int)) := by
  have pp : 0 < p := by have := hp.1; omega
  by_cases h1 : k = 1
  · subst h1; simp
  · obtain ⟨n, rfl⟩ : ∃ n, k = n + 2 := ⟨k - 2, by omega⟩
    rw [inj_pow hl hp]
    refine and_congr Iff.rfl ⟨fun h => .inr fun i _ => h i, fun h x hx => ?_⟩
    rcases h with h | h
    · omega
    · have x0 : 0 ≤ x % (p : Int) := Int.emod_nonneg _ (by omega)
      have x1 : x % (p : Int) < p := Int.emod_lt_of_pos _ (by omega)
      refine h (x % (p : Int)).toNat (by omega) ?_
      rw [Int.toNat_of_nonneg x0]
      have := Int.dvd_add (dv_md hl (self_emod p x)) hx
      rwa [show dv l (x % (p : Int)) - dv l x + dv l x = dv l (x % (p : Int)) by omega] at this
/-! ### led into one another, lines -/
theorem inj_led {l m r : List Int} {n : Nat} (hl : Inj l n) (hm : Inj m n) (hr : ∀ x, ev r x = ev l (ev m x)) : Inj r n := fun x y h => by
  rw [hr, hr] at h
  exact hm x y (hl _ _ h)
theorem inj_line {a b : Int} {n : Nat} (hn : 0 < n) : Inj [a, b] n ↔ Int.gcd b n = 1 := by
  have e : ∀ x y : Int, ev [a, b] x - ev [a, b] y = b * (x - y) := fun x y => by simp only [ev]; grind
  constructor
  · intro h
    have h1 := h (((n / Int.gcd b n : Nat) : Nat) : Int) 0 (by
      rw [e]
      obtain ⟨c, hc⟩ := Int.gcd_dvd_left (a := b) (b := (n : Int))
      obtain ⟨d, hd⟩ : Int.gcd b n ∣ n := by
        have := Int.gcd_dvd_right (a := b) (b := (n : Int))
        exact Int.natCast_dvd_natCast.mp this
      have gp : 0 < Int.gcd b n := Nat.pos_of_ne_zero fun z => by rw [z] at hd; omega
      have : n / Int.gcd b n = d := by rw [Nat.div_eq_of_eq_mul_right gp hd]
      rw [this]
      refine ⟨c, ?_⟩
      have hd' : (n : Int) = (Int.gcd b n : Int) * d := by exact_mod_cast hd
      rw [hd']
      generalize (Int.gcd b n : Int) = g at hc ⊢
      rw [hc]
      grind)
    rw [Int.sub_zero] at h1
    have h2 := Int.natCast_dvd_natCast.mp h1
    have gd : Int.gcd b n ∣ n := Int.natCast_dvd_natCast.mp (Int.gcd_dvd_right (a := b) (b := (n : Int)))
    have gp : 0 < Int.gcd b n := Nat.pos_of_dvd_of_pos gd hn
    have h3 := Nat.le_of_dvd (Nat.div_pos (Nat.le_of_dvd hn gd) gp) h2
    have h4 := Nat.div_mul_cancel gd
    by_cases g1 : Int.gcd b n = 1
    · exact g1
    · have g2 : 2 ≤ Int.gcd b n := by omega
      have : n / Int.gcd b n * 2 ≤ n / Int.gcd b n * Int.gcd b n := Nat.mul_le_mul_left _ g2
      omega
  · intro h x y hxy
    rw [e] at hxy
    have h1 := Int.natAbs_dvd_natAbs.mpr hxy
    rw [Int.natAbs_mul, Int.natAbs_natCast] at h1
    have hc : Nat.Coprime n b.natAbs := by
      have h : Nat.gcd b.natAbs (n : Int).natAbs = 1 := h
      rw [Int.natAbs_natCast] at h
      exact Nat.Coprime.symm h
    have h2 := hc.dvd_of_dvd_mul_left h1
    exact Int.natAbs_dvd_natAbs.mp (by rwa [Int.natAbs_natCast])
theorem inj_seven {n : Nat} : Inj [7] n ↔ n = 1 := by
  constructor
  · intro h
    have := h 1 0 (by simp [ev])
    rw [Int.sub_zero] at this
    exact Nat.dvd_one.mp (Int.natCast_dvd_natCast.mp this)
  · rintro rfl
    exact inj_one _
end K35
namespace K35
open PySem PySem.Spec PyProof.Rows L2 PU Poly
def injB (l : List Int) (n : Nat) : Bool := @decide (Inj l n) (Classical.propDecidable _)
theorem injB_iff {l : List Int} {n : Nat} : injB l n = true ↔ Inj l n := by unfold injB; exact @decide_eq_true_iff _ (Classical.propDecidable _)
theorem injB_eq {l : List Int} {n : Nat} {b : Bool} (h : b = true ↔ Inj l n) : injB l n = b := by
  rw [Bool.eq_iff_iff, injB_iff]; exact h.symm
theorem tbl_eq (l : List Int) (n : Nat) : (List.range n).map (fun k : Nat => ev l (k : Int) % (n : Int)) = tbl l n := by
  unfold tbl rg; rw [List.map_map]; rfl
theorem horner_mod (b x : Int) : ∀ (l : List Int) (f g : Int), b ∣ f - g → b ∣ horner x l f - horner x l g
  | [], f, g, h => h
  | a :: l, f, g, h => by
    refine horner_mod b x l (f * x + a) (g * x + a) ?_
    rw [show f * x + a - (g * x + a) = (f - g) * x by rw [Int.sub_mul]; omega]
    exact Int.dvd_trans h (Int.dvd_mul_right ..)
theorem ok_value_rest (l : List Int) (x b : Int) (hb : 0 < b) (hb2 : b ≤ 1000000000000000000) (hx : x.natAbs ≤ 1000000000000000000) : runF f_value_rest [.val (tupD l), .val (.int x), .val (.int b)] = .ok (.val (.int (ev l x % b))) [.val (tupD l), .val (.int x), .val (.int b)] := by
  apply eq_of_wp
  simp only [runF_def, f_value_rest, r_value_rest]
  simp
  rw [← List.map_reverse]
  refine wp_for D.int (fun rest s => ∃ f s4, s = [.val (tupD l), .val (.int x), .val (.int b), .val (.int f), s4] ∧ b ∣ horner x rest f - ev l x ∧ 0 ≤ f ∧ f < b) _ _ ⟨0, .emp, rfl, by rw [horner_rev, Int.sub_self]; exact Int.dvd_zero _, by omega, hb⟩ ?_ ?_
  · rintro a rest _ ha - ⟨f, s4, rfl, hf, h0, h1⟩
    have g1 : mulG f x = true := mul_lit (by omega) (by omega) (by omega) (by omega)
    have d1 : divG b = true := div_lit (by omega) (by omega) (by omega)
    have b0 : ¬ b = 0 := by omega
    have fm : (f * x + a).fmod b = (f * x + a) % b := Int.fmod_eq_emod_of_nonneg _ (by omega)
    simp [fb_value_rest_0, g1, d1, b0, fm]
    refine H1.mk ⟨(f * x + a) % b, _, rfl, ?_, Int.emod_nonneg _ b0, Int.emod_lt_of_pos _ hb⟩
    have e1 : b ∣ (f * x + a) % b - (f * x + a) := by
      have := Int.dvd_neg.mpr (show b ∣ f * x + a - (f * x + a) % b from Int.dvd_self_sub_emod)
      rwa [show -(f * x + a - (f * x + a) % b) = (f * x + a) % b - (f * x + a) by omega] at this
    have e2 := horner_mod b x rest _ _ e1
    have e3 : horner x (a :: rest) f = horner x rest (f * x + a) := rfl
    rw [e3] at hf
    have := Int.dvd_add e2 hf
    rwa [show horner x rest ((f * x + a) % b) - horner x rest (f * x + a) + (horner x rest (f * x + a) - ev l x) = horner x rest ((f * x + a) % b) - ev l x by omega] at this
  · rintro _ ⟨f, s4, rfl, hf, h0, h1⟩
    have hf : b ∣ f - ev l x := hf
    have e : f = ev l x % b := by
      have := Int.emod_eq_emod_iff_emod_sub_eq_zero.mpr (Int.emod_eq_zero_of_dvd hf)
      rwa [Int.emod_eq_of_lt h0 h1] at this
    rw [← e]
    simp
theorem sm_co {l : List Int} (h : Sm l) : ∀ a ∈ l, a.natAbs ≤ 2 ^ 150 := fun a ha => by
  have := h.co a ha
  exact Nat.le_trans (show a.natAbs ≤ 2 ^ 40 by omega) (Nat.pow_le_pow_right (by decide) (by decide))
theorem ok_turns_by (l : List Int) (p k : Nat) (h : Sm l) (hp : Pr p) (hp2 : p ≤ 1000) (hk : 1 ≤ k) : runF f_turns_by [.val (tupD l), .val (.int (p : Nat)), .val (.int (k : Nat))] = .ok (.val (.bl (injB l (p ^ k)))) [.val (tupD l), .val (.int (p : Nat)), .val (.int (k : Nat))] := by
  have p2 := hp.1
  have io := inj_often (l := l) h.ne hp hk
  have hs : sm62 (p : Int) = true := sm62_of _ (by omega) (by omega)
  have runs : ∀ (m : List Int) (x : Nat), x < p → runF f_value_rest [.val (tupD m), .val (.int (x : Nat)), .val (.int (p : Nat))] = .ok (.val (.int (ev m x % p))) [.val (tupD m), .val (.int (x : Nat)), .val (.int (p : Nat))] := fun m x hx => ok_value_rest m x p (by omega) (by omega) (by rw [Int.natAbs_natCast]; omega)
  have sl := ok_slope_of l (sm_co h) (by have := h.len; omega)
  apply eq_of_wp
  simp only [runF_def, f_turns_by, r_turns_by]
  simp [hs, rng_nat]
  refine wp_scmap (fun k : Nat => D.int (k : Int)) (fun k : Nat => ev l k % (p : Int)) (List.range p) (by simp; omega) (fun x hx => ?_) ?_
  · have hx2 : x < p := List.mem_range.mp hx
    simp [runs l x hx2]
  · rw [tbl_eq]
    by_cases hi : Inj l p
    · have hd := (dist_iff (l := l) (n := p) (by omega)).mpr hi
      have hn : ¬ ((usort (tbl l p)).length : Int) < (p : Int) := by omega
      simp [hn, sl]
      by_cases k1 : k = 1
      · subst k1
        have e : injB l (p ^ 1) = true := injB_iff.mpr (by rw [Nat.pow_one]; exact hi)
        simp at e
        simp [e]
      · have k1' : ¬ (k : Int) = 1 := by omega
        simp [k1', k1, hs, rng_nat]
        refine wp_lcmap (fun k : Nat => D.int (k : Int)) (fun k : Nat => D.bl (decide (0 < ev (slp l) k % (p : Int)))) (List.range p) (by rw [szL_n]; simp; omega) (fun x hx => ?_) ?_
        · have hx2 : x < p := List.mem_range.mp hx
          simp [runs (slp l) x hx2]
        · have e : (List.range p).all (fun k : Nat => decide (0 < ev (slp l) k % (p : Int))) = injB l (p ^ k) := by
            symm
            refine injB_eq ?_
            rw [io, List.all_eq_true]
            constructor
            · intro ha
              refine ⟨hi, .inr fun i hi2 hd => ?_⟩
              have := ha i (List.mem_range.mpr hi2)
              rw [decide_eq_true_eq, ev_slp l h.ne, Int.emod_eq_zero_of_dvd hd] at this
              omega
            · rintro ⟨_, ha⟩ i hi2
              have ha := ha.resolve_left k1 i (List.mem_range.mp hi2)
              rw [decide_eq_true_eq, ev_slp l h.ne]
              have h0 := Int.emod_nonneg (dv l i) (show (p : Int) ≠ 0 by omega)
              have h1 : ¬ dv l i % (p : Int) = 0 := fun z => ha (Int.dvd_of_emod_eq_zero z)
              omega
          simp [e]
    · have hd : (usort (tbl l p)).length ≠ p := fun z => hi ((dist_iff (by omega)).mp z)
      have hle := dist_le l p
      have hn : ((usort (tbl l p)).length : Int) < (p : Int) := by omega
      have e : injB l (p ^ k) = false := by
        refine injB_eq (b := false) ⟨by simp, fun z => absurd (io.mp z).1 hi⟩
      simp [hn, e]
theorem ok_does_turn (l : List Int) (ps : List (Nat × Nat)) (h : Sm l) (hp : ∀ q ∈ ps, Pr q.1 ∧ 1 ≤ q.2) (hp2 : ∀ q ∈ ps, q.1 ≤ 1000) (hl : ps.length ≤ 1000) : runF f_does_turn [.val (tupD l), .val (.tup (ps.map ppD))] = .ok (.val (.bl (ps.all fun q => injB l (q.1 ^ q.2)))) [.val (tupD l), .val (.tup (ps.map ppD))] := by
  apply eq_of_wp
  simp only [runF_def, f_does_turn, r_does_turn]
  simp
  refine wp_lcmap ppD (fun q => D.bl (injB l (q.1 ^ q.2))) ps (by rw [szL_n]; omega) (fun q hq => ?_) ?_
  · have run := ok_turns_by l q.1 q.2 h (hp q hq).1 (hp2 q hq) (hp q hq).2
    simp [ppD, run]
  · simp
theorem apart_len {n : Nat} {ps : List (Nat × Nat)} (h : Apart n ps) (hn : 0 < n) (hn2 : n ≤ 1000000000000) : ps.length ≤ 1000 := by
  have key : ∀ {l : List (Nat × Nat)}, (∀ q ∈ l, Pr q.1 ∧ 1 ≤ q.2) → 2 ^ l.length ≤ prP l := by
    intro l
    induction l with
    | nil => intro _; exact Nat.le_refl 1
    | cons q l ih =>
      intro h
      have h1 := ih fun r hr => h r (List.mem_cons_of_mem _ hr)
      have h2 := (h q (List.mem_cons_self ..))
      have h3 : 2 ≤ q.1 ^ q.2 := Nat.le_trans (by have := h2.1.1; simpa using this) (Nat.pow_le_pow_right (show 0 < q.1 by have := h2.1.1; omega) h2.2)
      show 2 ^ (l.length + 1) ≤ q.1 ^ q.2 * prP l
      rw [Nat.pow_succ, Nat.mul_comm]
      exact Nat.mul_le_mul h3 h1
  have h1 := key h.pr
  rw [h.prod] at h1
  by_cases hc : ps.length ≤ 1000
  · exact hc
  · have : 2 ^ 41 ≤ 2 ^ ps.length := Nat.pow_le_pow_right (by decide) (by omega)
    omega
theorem ok_turns (l : List Int) (n : Nat) (h : Sm l) (hn : 1 ≤ n) (hn2 : n ≤ 1000000000000) (hs : ∀ p, Pr p → p ∣ n → p ≤ 1000) : runF f_turns [.val (tupD l), .val (.int (n : Nat))] = .ok (.val (.bl (injB l n))) [.val (tupD l), .val (.int (n : Nat))] := by
  obtain ⟨ps, t, r, ap⟩ := ok_apart_of n hn hn2
  have small : ∀ q ∈ ps, q.1 ≤ 1000 := fun q hq => hs q.1 (ap.pr q hq).1 (by
    rw [← ap.prod]
    exact Nat.dvd_trans (Nat.dvd_of_pow_dvd (ap.pr q hq).2 (Nat.dvd_refl _)) (prP_mem hq))
  have hl := apart_len ap hn hn2
  have rs : runF f_check_small_primes [.val (.int (n : Nat))] = .ok (.val (.tup (ps.map ppD))) [.val (.int (n : Nat))] := by
    apply eq_of_wp
    simp only [runF_def, f_check_small_primes, r_check_small_primes, d_MOST_PRIME]
    simp [r]
    refine wp_lcfm ppD (fun _ => none) ps (by rw [szL_n]; omega) (fun q hq => ?_) ?_
    · have := small q hq
      have hn : ¬ (1000 : Int) < (q.1 : Int) := by omega
      simp [ppD, hn]
    · rw [show ps.filterMap (fun _ => (none : Option D)) = [] by induction ps with | nil => rfl | cons a l ih => simp]
      simp
  have e : (ps.all fun q => injB l (q.1 ^ q.2)) = injB l n := by
    symm
    refine injB_eq ?_
    rw [List.all_eq_true, inj_apart ap]
    exact ⟨fun a q hq => injB_iff.mp (a q hq), fun a q hq => injB_iff.mpr (a q hq)⟩
  have rd := ok_does_turn l ps h ap.pr small hl
  rw [e] at rd
  simp only [runF_def, f_turns, r_turns]
  simp [ok_check_sum l h, ok_check_base (n : Int) (by omega) (by omega), rs, rd]
theorem pr_le {n : Nat} (hn : 0 < n) (h : n ≤ 1000) : ∀ p, Pr p → p ∣ n → p ≤ 1000 := fun p _ hd => Nat.le_trans (Nat.le_of_dvd hn hd) h
theorem pr_pow {q k : Nat} (hq : Pr q) (h : q ≤ 1000) : ∀ p, Pr p → p ∣ q ^ k → p ≤ 1000 := fun p hp hd => by
  rw [hp.eq hq (hp.pow hd)]; exact h
theorem ok_is_turn (l : List Int) (b : Nat) (h : Sm l) (hn : n1 l ≤ 1000000000000) (hb : 0 < b) (hb2 : b ≤ 1000) : runF f_law_is_turn [.val (tupD l), .val (.int (b : Nat))] = .ok (.val (.bl (injB l b))) [.val (tupD l), .val (.int (b : Nat))] := by
  have rt := ok_law_table l b hb hb2 hn (by have := h.len; omega)
  have e1 : tabL l b = tbl l b := tbl_eq l b
  rw [e1] at rt
  have hl := lenSet_ints (tbl l b) (by rw [tbl_len]; omega)
  have e : injB l b = decide (((usort (tbl l b)).length : Int) = (b : Int)) := injB_eq (by
    rw [decide_eq_true_eq, ← dist_iff hb]; omega)
  simp only [runF_def, f_law_is_turn, r_law_is_turn]
  simp [rt, hl, e]
end K35
namespace K35
open PySem PySem.Spec PyProof.Rows L2 PU Poly
theorem ok_law_power (p o : Nat) (hp : 1 ≤ p) (hp2 : p ≤ 1000) (ho : o ≤ 1000) (hpo : p ^ o ≤ 1000000) : runF f_law_power [.val (.int p), .val (.int o)] = .ok (.val (.int ((p ^ o : Nat) : Int))) [.val (.int p), .val (.int o)] := by
  have sm : sm62 (o : Int) = true := sm62_of _ (by omega) (by omega)
  apply eq_of_wp
  simp only [runF_def, f_law_power, r_law_power]
  simp [sm]
  refine wp_rng 0 o (fun i st => ∃ s3 : Slot, st = [.val (.int p), .val (.int o), .val (.int ((p ^ i : Nat) : Int)), s3]) _ ⟨_, by simp; rfl⟩ ?_ ?_
  · intro i st hi hst
    obtain ⟨s3, e0⟩ := hst
    subst e0
    have h1 : p ^ (i + 1) ≤ p ^ o := Nat.pow_le_pow_right (by omega) (by omega)
    have h2 : p ^ i ≤ p ^ o := Nat.pow_le_pow_right (by omega) (by omega)
    have g : mulG ((p ^ i : Nat) : Int) (p : Int) = true := mul_fits (n := 20) (m := 20) (by rw [Int.natAbs_natCast]; omega) (by rw [Int.natAbs_natCast]; omega) (by decide)
    have e : ((p ^ i : Nat) : Int) * p = ((p ^ (i + 1) : Nat) : Int) := by rw [Nat.pow_succ]; simp
    simp only [fb_law_power_0]
    simp [g, e, -Int.natCast_pow]
    exact H1.mk ⟨_, rfl⟩
  · intro st hst
    obtain ⟨s3, e0⟩ := hst
    subst e0
    simp
theorem mem_bl {γ : Type} (f : γ → Bool) : ∀ ps : List γ, memD (.bl false) (ps.map fun q => D.bl (f q)) = !ps.all f
  | [] => rfl
  | q :: ps => by
    rw [List.map_cons, memD_cons, mem_bl f ps, List.all_cons]
    cases f q <;> rfl
theorem ok_pieces_right (l : List Int) (b : Nat) (h : Sm l) (hb : 1 ≤ b) (hb2 : b ≤ 1000) : runF f_law_pieces_right [.val (tupD l), .val (.int (b : Nat))] = .ok (.val (.bl true)) [.val (tupD l), .val (.int (b : Nat))] := by
  obtain ⟨ps, r, ap⟩ := ok_apart b hb (by omega)
  have hl := apart_len ap hb (by omega)
  have rb := ok_turns l b h hb (by omega) (pr_le hb hb2)
  apply eq_of_wp
  simp only [runF_def, f_law_pieces_right, r_law_pieces_right]
  simp [r]
  refine wp_lcmap ppD (fun q => D.bl (injB l (q.1 ^ q.2))) ps (by rw [szL_n]; omega) (fun q hq => ?_) ?_
  · have hq1 := (ap.pr q hq).1
    have hle := ap.le hb hq
    have hd : q.1 ^ q.2 ≤ b := Nat.le_of_dvd hb (by rw [← ap.prod]; exact prP_mem hq)
    have hk : q.2 ≤ 1000 := by
      have := Nat.lt_two_pow_self (n := q.2)
      omega
    have pos : 1 ≤ q.1 ^ q.2 := Nat.one_le_pow _ _ (by omega)
    have rp := ok_law_power q.1 q.2 (by omega) (by omega) hk (by omega)
    have rt := ok_turns l (q.1 ^ q.2) h pos (by omega) (pr_le pos (by omega))
    rw [Int.natCast_pow] at rp rt
    simp [ppD, rp, rt]
  · have e : (!memD (.bl false) (ps.map fun q => D.bl (injB l (q.1 ^ q.2)))) = injB l b := by
      symm
      refine injB_eq ?_
      rw [inj_apart ap, mem_bl, Bool.not_not, List.all_eq_true]
      exact ⟨fun a q hq => injB_iff.mp (a q hq), fun a q hq => injB_iff.mpr (a q hq)⟩
    have fl : (ps.map fun q => D.bl (injB l (q.1 ^ q.2))).all flatD = true := by
      rw [List.all_map]; exact List.all_eq_true.mpr fun q _ => rfl
    have nt := notin_l (.bl false) (ps.map fun q => D.bl (injB l (q.1 ^ q.2))) rfl fl
    rw [e] at nt
    simp [rb, nt]
theorem pr2 : Pr 2 := ⟨by decide, fun d h => by have := Nat.le_of_dvd (by decide) h; exact (by decide : ∀ d < 8, d ∣ 2 → d = 1 ∨ d = 2) d (by omega) h⟩
theorem pr3 : Pr 3 := ⟨by decide, fun d h => by have := Nat.le_of_dvd (by decide) h; exact (by decide : ∀ d < 8, d ∣ 3 → d = 1 ∨ d = 3) d (by omega) h⟩
theorem pr5 : Pr 5 := ⟨by decide, fun d h => by have := Nat.le_of_dvd (by decide) h; exact (by decide : ∀ d < 8, d ∣ 5 → d = 1 ∨ d = 5) d (by omega) h⟩
theorem pr7 : Pr 7 := ⟨by decide, fun d h => by have := Nat.le_of_dvd (by decide) h; exact (by decide : ∀ d < 8, d ∣ 7 → d = 1 ∨ d = 7) d (by omega) h⟩
theorem injB_same {l : List Int} (hl : l ≠ []) {p n : Nat} (hp : Pr p) : injB l (p ^ (n + 2)) = injB l (p ^ 2) :=
  injB_eq (by rw [injB_iff, inj_pow hl hp (n := n), inj_pow hl hp (n := 0)])
theorem injB_down {l : List Int} (hl : l ≠ []) {p : Nat} (hp : Pr p) (h : injB l (p ^ 2) = true) : injB l p = true :=
  injB_iff.mpr ((inj_pow hl hp (n := 0)).mp (injB_iff.mp h)).1
theorem right_sp {ds : List PU.D} (k : Keg 0 ds) : wp (runF f_law_right [.own false ds]) (fun v s => v = .val (.bl true) ∧ ∃ t, s = [t]) noX := by
  simp only [runF_def, f_law_right, r_law_right]
  simp
  refine row_sp 4 12 k (by omega) (by omega) (by omega) (by omega) (by omega) fun l d1 l1 l2 l3 k1 => ?_
  simp
  refine row_sp 2 6 k1 (by omega) (by omega) (by omega) (by omega) (by omega) fun m d2 m1 m2 m3 k2 => ?_
  have nl : n1 l ≤ 60 := by have := n1_bd l 12 (fun z hz => by have := l3 z hz; omega); omega
  have nm : n1 m ≤ 18 := by have := n1_bd m 6 (fun z hz => by have := m3 z hz; omega); omega
  have sl : Sm l := sm_n1 l1 (by omega) (by omega)
  have sm' : Sm m := sm_n1 m1 (by omega) (by omega)
  have bL : n1 l * 18 ^ (l.length - 1) ≤ 60 * 18 ^ 4 := Nat.mul_le_mul nl (Nat.pow_le_pow_right (by decide) (by omega))
  have llm : (l.length - 1) * (m.length - 1) ≤ 4 * 2 := Nat.mul_le_mul (by omega) (by omega)
  obtain ⟨C, rC, C1, C2, C3, C4⟩ := ok_led l m 18 sl sm' (by omega) (by omega) nm (by omega) (by omega)
  simp
  refine wp_rng 0 4 (fun i st => ∃ (d : List PU.D) (s3 s4 : Slot), st = [.own false d, .val (tupD l), .val (tupD m), s3, s4, .emp, .emp, .emp, .emp, .emp] ∧ Keg (400 + i) d) _ ⟨d2, _, _, rfl, k2⟩ ?_ ?_
  · rintro i _ hi ⟨d, s3, s4, rfl, k3⟩
    simp [fb_law_right_0]
    refine tap_sp 40 k3 (by omega) (by omega) (by omega) fun v d4 v0 v1 k4 => ?_
    obtain ⟨b, hb⟩ : ∃ b : Nat, 1 + v = (b : Int) := ⟨(1 + v).toNat, by omega⟩
    have b1 : 1 ≤ b := by omega
    have b2 : b ≤ 1000 := by omega
    have rl := ok_turns l b sl b1 (by omega) (pr_le b1 b2)
    have rm := ok_turns m b sm' b1 (by omega) (pr_le b1 b2)
    have rc := ok_turns C b C1 b1 (by omega) (pr_le b1 b2)
    have ri := ok_is_turn l b sl (by omega) b1 b2
    have rp := ok_pieces_right l b sl b1 b2
    have hled : injB l b = true → injB m b = true → injB C b = true := fun h1 h2 => injB_iff.mpr (inj_led (injB_iff.mp h1) (injB_iff.mp h2) C2)
    simp [hb, rl, ri, rp, rm, rC, rc]
    cases hx : injB l b with
    | false =>
      simp
      exact H1.mk ⟨_, _, _, rfl, k4.up (by omega)⟩
    | true =>
      cases hy : injB m b with
      | false =>
        simp [rm, hy]
        exact H1.mk ⟨_, _, _, rfl, k4.up (by omega)⟩
      | true =>
        have hz := hled hx hy
        simp [rm, hy, rC, rc, hz]
        exact H1.mk ⟨_, _, _, rfl, k4.up (by omega)⟩
  · rintro _ ⟨d3, s3, s4, rfl, k3⟩
    simp
    rw [show [D.int 2, D.int 3, D.int 5, D.int 7] = [2, 3, 5, 7].map D.int from rfl]
    refine of_sp [2, 3, 5, 7] k3 (by omega) (by simp) (by simp) fun v d4 hv k4 => ?_
    obtain ⟨p, rfl, hp, p7⟩ : ∃ p : Nat, v = p ∧ Pr p ∧ (p = 2 ∨ p = 3 ∨ p = 5 ∨ p = 7) := by
      simp at hv
      rcases hv with rfl | rfl | rfl | rfl
      · exact ⟨2, rfl, pr2, by omega⟩
      · exact ⟨3, rfl, pr3, by omega⟩
      · exact ⟨5, rfl, pr5, by omega⟩
      · exact ⟨7, rfl, pr7, by omega⟩
    have g1 : mulG (p : Int) p = true := by rcases p7 with rfl | rfl | rfl | rfl <;> decide
    have g2 : mulG ((p : Int) * p) p = true := by rcases p7 with rfl | rfl | rfl | rfl <;> decide
    have g3 : mulG ((p : Int) * p) ((p : Int) * p) = true := by rcases p7 with rfl | rfl | rfl | rfl <;> decide
    have g4 : mulG ((p : Int) * p * ((p : Int) * p)) ((p : Int) * p) = true := by rcases p7 with rfl | rfl | rfl | rfl <;> decide
    have pb : p ^ 2 ≤ 49 ∧ p ^ 3 ≤ 343 ∧ p ^ 6 ≤ 117649 := by rcases p7 with rfl | rfl | rfl | rfl <;> decide
    have pos : ∀ k, 1 ≤ p ^ k := fun k => Nat.one_le_pow _ _ (by omega)
    have w2 : (p : Int) * p = ((p ^ 2 : Nat) : Int) := by rw [Int.natCast_pow, Int.pow_succ, Int.pow_succ, Int.pow_zero, Int.one_mul]
    have w3 : (p : Int) * p * p = ((p ^ 3 : Nat) : Int) := by rw [Int.natCast_pow, Int.pow_succ, Int.pow_succ, Int.pow_succ, Int.pow_zero, Int.one_mul]
    have w6 : (p : Int) * p * ((p : Int) * p) * ((p : Int) * p) = ((p ^ 6 : Nat) : Int) := by rw [Int.natCast_pow, show (6 : Nat) = 0 + 1 + 1 + 1 + 1 + 1 + 1 from rfl]; simp only [Int.pow_succ, Int.pow_zero, Int.one_mul, Int.mul_assoc]
    have r2 : runF f_turns [.val (tupD l), .val (.int ((p : Int) * p))] = .ok (.val (.bl (injB l (p ^ 2)))) [.val (tupD l), .val (.int ((p : Int) * p))] := by
      rw [w2]; exact ok_turns l (p ^ 2) sl (pos 2) (by omega) (pr_pow hp (by omega))
    have r3 : runF f_turns [.val (tupD l), .val (.int ((p : Int) * p * p))] = .ok (.val (.bl (injB l (p ^ 2)))) [.val (tupD l), .val (.int ((p : Int) * p * p))] := by
      rw [w3, ← injB_same sl.ne hp (n := 1)]; exact ok_turns l (p ^ 3) sl (pos 3) (by omega) (pr_pow hp (by omega))
    have r6 : runF f_turns [.val (tupD l), .val (.int ((p : Int) * p * ((p : Int) * p) * ((p : Int) * p)))] = .ok (.val (.bl (injB l (p ^ 2)))) [.val (tupD l), .val (.int ((p : Int) * p * ((p : Int) * p) * ((p : Int) * p)))] := by
      rw [w6, ← injB_same sl.ne hp (n := 4)]; exact ok_turns l (p ^ 6) sl (pos 6) (by omega) (pr_pow hp (by omega))
    have ri : runF f_law_is_turn [.val (tupD l), .val (.int ((p : Int) * p))] = .ok (.val (.bl (injB l (p ^ 2)))) [.val (tupD l), .val (.int ((p : Int) * p))] := by
      rw [w2]; exact ok_is_turn l (p ^ 2) sl (by omega) (pos 2) (by omega)
    have r1 := ok_turns l p sl (by omega) (by omega) (pr_le (by omega) (by omega))
    have hd := injB_down (l := l) sl.ne hp
    generalize injB l (p ^ 2) = B at r2 r3 r6 ri hd
    clear w2 w3 w6
    simp [g1, g2, g3, g4, r2, r3, r6, ri]
    cases B
    case' true => have h1 := hd rfl; simp [r1, h1]
    case' false => simp
    all_goals
      refine tap_sp 90 k4 (by omega) (by omega) (by omega) fun u d5 u0 u1 k5 => ?_
      simp
      refine tap_sp 999 k5 (by omega) (by omega) (by omega) fun y d6 y0 y1 k6 => ?_
      obtain ⟨b, hb⟩ : ∃ b : Nat, 1 + y = (b : Int) := ⟨(1 + y).toNat, by omega⟩
      have b1 : 1 ≤ b := by omega
      have b2 : b ≤ 1000 := by omega
      obtain ⟨z, hz⟩ : ∃ z : Int, u - 45 = z := ⟨_, rfl⟩
      obtain ⟨sg, rg, hsg⟩ := ok_law_gcd z b (n := 20) (by omega) (by rw [Int.natAbs_natCast]; omega) (by decide)
      subst hsg
      simp [hb, hz]
      by_cases z0 : z = 0
      · have r7 : runF f_turns [.val (.tup [.int 7]), .val (.int (b : Nat))] = .ok (.val (.bl (injB [7] b))) [.val (.tup [.int 7]), .val (.int (b : Nat))] :=
          ok_turns [7] b ⟨by simp, by simp, by simp, .inl rfl⟩ b1 (by omega) (pr_le b1 b2)
        have e : injB [7] b = decide (((Int.gcd z b : Nat) : Int) = 1) := injB_eq (by
          rw [decide_eq_true_eq, inj_seven, z0, Int.gcd_zero_left, Int.natAbs_natCast]; omega)
        simp [z0] at rg e
        simp [z0, r7, rg, e]
      · simp [z0]
        refine tap_sp 50 k6 (by omega) (by omega) (by omega) fun a d7 a0 a1 k7 => ?_
        have r7 : runF f_turns [.val (.tup [.int a, .int z]), .val (.int (b : Nat))] = .ok (.val (.bl (injB [a, z] b))) [.val (.tup [.int a, .int z]), .val (.int (b : Nat))] :=
          ok_turns [a, z] b ⟨by simp, by simp, by simp; omega, .inr (by simpa using z0)⟩ b1 (by omega) (pr_le b1 b2)
        have e : injB [a, z] b = decide (((Int.gcd z b : Nat) : Int) = 1) := injB_eq (by
          rw [decide_eq_true_eq, inj_line b1]; omega)
        simp [r7, rg, e]
theorem law_true : ∀ ns : List Int, ns.length ≤ 63 → (∀ z ∈ ns, Builtin.Int.intBits z ≤ 1048576) → ∃ args', f_law.run [.val (.lst (ns.map D.int))] = .ok (.val (.bl true)) args' := fun ns hl hb => by
  have key : wp (f_law.run [.val (.lst (ns.map D.int))]) (fun v _ => v = .val (.bl true)) noX := by
    have hmx : max 2 (min (ns.length : Int) 3) = ((max 2 (min ns.length 3) : Nat) : Int) := by omega
    have hs : sm62 ((max 2 (min ns.length 3) : Nat) : Int) = true := sm62_of _ (by omega) (by omega)
    simp only [f_law, r_law]
    simp [hmx, hs]
    refine wp_lcR 0 _ (fun i acc s => acc = List.replicate i (.bl true) ∧ s = [cellsD ns, .emp]) _ ⟨rfl, rfl⟩ (by rw [szL_n]; omega) ?_ ?_
    · rintro i _ _ hi ⟨rfl, rfl⟩
      obtain ⟨ds, run, k⟩ := cask_sp ns hl hb i (by omega)
      simp [run]
      refine wp_mono (right_sp k) ?_ (fun _ _ h => False.elim h)
      rintro _ s ⟨rfl, t, rfl⟩
      simp
      exact H2.mk ⟨by rw [List.replicate_succ'], rfl⟩
    · rintro _ _ ⟨rfl, rfl⟩
      simp
  obtain ⟨v, args, h, rfl⟩ := wp_ex key
  exact ⟨args, h⟩
end K35
namespace K35
open PySem PySem.Spec PyProof.Rows L2 PU
theorem all_mk {p : Program} {w : World} {K : PySem.W.Frag} {h : Heap} {mg : Str → Option Value} {fa : Addr} (KX : K.In h) (G : h.Ns mainGlobals mg) (hfa : mg "law" = some (.ref fa))
    (q0 : KonIn K "MOST_BASE" d_MOST_BASE)
    (q1 : KonIn K "MOST_DEGREE" d_MOST_DEGREE)
    (q2 : KonIn K "MOST_PRIME" d_MOST_PRIME)
    (q3 : KonIn K "MOST_COEFFICIENT" d_MOST_COEFFICIENT)
    (z0 : PySem.W.nsIn K mainGlobals "abs" = some none)
    (z1 : PySem.W.nsIn K mainGlobals "all" = some none)
    (z2 : PySem.W.nsIn K mainGlobals "bool" = some none)
    (z3 : PySem.W.nsIn K mainGlobals "divmod" = some none)
    (z4 : PySem.W.nsIn K mainGlobals "enumerate" = some none)
    (z5 : PySem.W.nsIn K mainGlobals "int" = some none)
    (z6 : PySem.W.nsIn K mainGlobals "isinstance" = some none)
    (z7 : PySem.W.nsIn K mainGlobals "len" = some none)
    (z8 : PySem.W.nsIn K mainGlobals "list" = some none)
    (z9 : PySem.W.nsIn K mainGlobals "max" = some none)
    (z10 : PySem.W.nsIn K mainGlobals "min" = some none)
    (z11 : PySem.W.nsIn K mainGlobals "range" = some none)
    (z12 : PySem.W.nsIn K mainGlobals "set" = some none)
    (z13 : PySem.W.nsIn K mainGlobals "tuple" = some none)
    (e0 : DefIn K "is_integer" (topS 11))
    (e1 : DefIn K "is_between" (topS 12))
    (e2 : DefIn K "check_between" (topS 13))
    (e3 : DefIn K "check_base" (topS 14))
    (e4 : DefIn K "is_sum" (topS 15))
    (e5 : DefIn K "check_sum" (topS 16))
    (e6 : DefIn K "apart_of" (topS 17))
    (e7 : DefIn K "apart" (topS 19))
    (e8 : DefIn K "value_rest" (topS 21))
    (e9 : DefIn K "trimmed" (topS 22))
    (e10 : DefIn K "slope_of" (topS 23))
    (e11 : DefIn K "multiplied_of" (topS 24))
    (e12 : DefIn K "led_of" (topS 25))
    (e13 : DefIn K "check_made" (topS 26))
    (e14 : DefIn K "check_sums" (topS 27))
    (e15 : DefIn K "led" (topS 28))
    (e16 : DefIn K "check_small_primes" (topS 30))
    (e17 : DefIn K "turns_by" (topS 31))
    (e18 : DefIn K "does_turn" (topS 32))
    (e19 : DefIn K "turns" (topS 33))
    (e20 : DefIn K "_law_cask" (topS 35))
    (e21 : DefIn K "_law_tap" (topS 36))
    (e22 : DefIn K "_law_of" (topS 37))
    (e23 : DefIn K "_law_row" (topS 38))
    (e24 : DefIn K "_law_at" (topS 39))
    (e25 : DefIn K "_law_table" (topS 40))
    (e26 : DefIn K "_law_gcd" (topS 41))
    (e27 : DefIn K "_law_power" (topS 42))
    (e28 : DefIn K "_law_is_turn" (topS 43))
    (e29 : DefIn K "_law_pieces_right" (topS 44))
    (e30 : DefIn K "_law_right" (topS 45))
    (e31 : DefIn K "law" (topS 46))
    : ∃ fd : FuncData, (∀ (s : Shared) (u : Value), BindsTo s fd ⟨[u], []⟩ [("_law_script", u)]) ∧ ∀ bs : Heap, K.In bs → bs.Ns mainGlobals mg → FnG p w K mg bs (L2.CX p w) 33 fa fd ["_law_script"] (spF K mg f_law) := by
  obtain ⟨a0, fd0, n0, F0⟩ := e0
  obtain ⟨a1, fd1, n1, F1⟩ := e1
  obtain ⟨a2, fd2, n2, F2⟩ := e2
  obtain ⟨a3, fd3, n3, F3⟩ := e3
  obtain ⟨a4, fd4, n4, F4⟩ := e4
  obtain ⟨a5, fd5, n5, F5⟩ := e5
  obtain ⟨a6, fd6, n6, F6⟩ := e6
  obtain ⟨a7, fd7, n7, F7⟩ := e7
  obtain ⟨a8, fd8, n8, F8⟩ := e8
  obtain ⟨a9, fd9, n9, F9⟩ := e9
  obtain ⟨a10, fd10, n10, F10⟩ := e10
  obtain ⟨a11, fd11, n11, F11⟩ := e11
  obtain ⟨a12, fd12, n12, F12⟩ := e12
  obtain ⟨a13, fd13, n13, F13⟩ := e13
  obtain ⟨a14, fd14, n14, F14⟩ := e14
  obtain ⟨a15, fd15, n15, F15⟩ := e15
  obtain ⟨a16, fd16, n16, F16⟩ := e16
  obtain ⟨a17, fd17, n17, F17⟩ := e17
  obtain ⟨a18, fd18, n18, F18⟩ := e18
  obtain ⟨a19, fd19, n19, F19⟩ := e19
  obtain ⟨a20, fd20, n20, F20⟩ := e20
  obtain ⟨a21, fd21, n21, F21⟩ := e21
  obtain ⟨a22, fd22, n22, F22⟩ := e22
  obtain ⟨a23, fd23, n23, F23⟩ := e23
  obtain ⟨a24, fd24, n24, F24⟩ := e24
  obtain ⟨a25, fd25, n25, F25⟩ := e25
  obtain ⟨a26, fd26, n26, F26⟩ := e26
  obtain ⟨a27, fd27, n27, F27⟩ := e27
  obtain ⟨a28, fd28, n28, F28⟩ := e28
  obtain ⟨a29, fd29, n29, F29⟩ := e29
  obtain ⟨a30, fd30, n30, F30⟩ := e30
  obtain ⟨a31, fd31, n31, F31⟩ := e31
  obtain rfl : fa = a31 := by have z := hfa.symm.trans (PySem.W.mg_of KX G n31); cases z; rfl
  refine ⟨fd31, ?_, fun bs KB GB => ?_⟩
  · obtain ⟨oc, od, kV, doc, pm, an, cdv, ct, osl, rfl, lk, hcd⟩ := F31.ex
    exact fun s u => .of_eq rfl
  have hb : ∀ x ∈ bltN, mg x = none := fun x hx => by
    simp only [bltN, List.mem_cons, List.not_mem_nil, or_false] at hx
    rcases hx with rfl | rfl | rfl | rfl | rfl | rfl | rfl | rfl | rfl | rfl | rfl | rfl | rfl | rfl
    · exact PySem.W.mg_none_of KX G z0
    · exact PySem.W.mg_none_of KX G z1
    · exact PySem.W.mg_none_of KX G z2
    · exact PySem.W.mg_none_of KX G z3
    · exact PySem.W.mg_none_of KX G z4
    · exact PySem.W.mg_none_of KX G z5
    · exact PySem.W.mg_none_of KX G z6
    · exact PySem.W.mg_none_of KX G z7
    · exact PySem.W.mg_none_of KX G z8
    · exact PySem.W.mg_none_of KX G z9
    · exact PySem.W.mg_none_of KX G z10
    · exact PySem.W.mg_none_of KX G z11
    · exact PySem.W.mg_none_of KX G z12
    · exact PySem.W.mg_none_of KX G z13
  have hk : ∀ x d, lk konT x = some d → ∃ u v, mg x = some u ∧ RelV v u ∧ ∀ F H, Rp K F H v d := fun x d hx => by
    have hx := lk_mem hx
    simp only [konT, List.mem_cons, List.not_mem_nil, or_false, Prod.mk.injEq] at hx
    rcases hx with ⟨rfl, rfl⟩ | ⟨rfl, rfl⟩ | ⟨rfl, rfl⟩ | ⟨rfl, rfl⟩
    · exact q0.kon KX G
    · exact q1.kon KX G
    · exact q2.kon KX G
    · exact q3.kon KX G
  have hxc : ∀ x fs, lk excT x = some fs → ∃ C, mg x = some (.ref C) ∧ ExCls K C fs := fun x fs hx => nomatch hx
  have hxm : ∀ x l, lk exmT x = some l → ∃ cv, mg x = some cv ∧ ∀ y b, lk l y = some b → ∀ cls, mg y = some cls → PySem.W.exmOne K cls cv = some b := fun x l hx => nomatch hx
  have T0 : Tab p w K mg bs 1 c_is_integer := ⟨hb, hk, (fun x g hx => nomatch hx), hxc, hxm⟩
  have G0 : FnG p w K mg bs (L2.CX p w) 2 a0 fd0 ["value"] (spF K mg f_is_integer) := fnG_by (by decide) T0 F0 s_is_integer ⟨rfl, by decide, by decide⟩ m_is_integer rfl
  have b0 : Binds K fd0 ["value"] [] := F0.binds fun _ _ _ _ _ _ us hl => match us, hl with | [_], _ => rfl
  have w0 : KwOk fd0 ["value"] f_is_integer := fun q hq => nomatch hq
  have T1 : Tab p w K mg bs 2 c_is_between := T0.add rfl rfl ⟨rfl, rfl, rfl⟩ G0 rfl (PySem.W.mg_of KX G n0) F0.kp b0 w0
  have G1 : FnG p w K mg bs (L2.CX p w) 3 a1 fd1 ["value", "least", "most"] (spF K mg f_is_between) := fnG_by (by decide) T1 F1 s_is_between ⟨rfl, by decide, by decide⟩ m_is_between rfl
  have b1 : Binds K fd1 ["value", "least", "most"] [] := F1.binds fun _ _ _ _ _ _ us hl => match us, hl with | [_, _, _], _ => rfl
  have w1 : KwOk fd1 ["value", "least", "most"] f_is_between := fun q hq => nomatch hq
  have T2 : Tab p w K mg bs 3 c_check_between := T1.add rfl rfl ⟨rfl, rfl, rfl⟩ G1 rfl (PySem.W.mg_of KX G n1) F1.kp b1 w1
  have G2 : FnG p w K mg bs (L2.CX p w) 4 a2 fd2 ["value", "least", "most"] (spF K mg f_check_between) := fnG_by (by decide) T2 F2 s_check_between ⟨rfl, by decide, by decide⟩ m_check_between rfl
  have b2 : Binds K fd2 ["value", "least", "most"] [] := F2.binds fun _ _ _ _ _ _ us hl => match us, hl with | [_, _, _], _ => rfl
  have w2 : KwOk fd2 ["value", "least", "most"] f_check_between := fun q hq => nomatch hq
  have T3 : Tab p w K mg bs 4 c_check_base := T2.add rfl rfl ⟨rfl, rfl, rfl⟩ G2 rfl (PySem.W.mg_of KX G n2) F2.kp b2 w2
  have G3 : FnG p w K mg bs (L2.CX p w) 5 a3 fd3 ["value"] (spF K mg f_check_base) := fnG_by (by decide) T3 F3 s_check_base ⟨rfl, by decide, by decide⟩ m_check_base rfl
  have b3 : Binds K fd3 ["value"] [] := F3.binds fun _ _ _ _ _ _ us hl => match us, hl with | [_], _ => rfl
  have w3 : KwOk fd3 ["value"] f_check_base := fun q hq => nomatch hq
  have T4 : Tab p w K mg bs 5 c_is_sum := T3.add rfl rfl ⟨rfl, rfl, rfl⟩ G3 rfl (PySem.W.mg_of KX G n3) F3.kp b3 w3
  have G4 : FnG p w K mg bs (L2.CX p w) 6 a4 fd4 ["value"] (spF K mg f_is_sum) := fnG_by (by decide) T4 F4 s_is_sum ⟨rfl, by decide, by decide⟩ m_is_sum rfl
  have b4 : Binds K fd4 ["value"] [] := F4.binds fun _ _ _ _ _ _ us hl => match us, hl with | [_], _ => rfl
  have w4 : KwOk fd4 ["value"] f_is_sum := fun q hq => nomatch hq
  have T5 : Tab p w K mg bs 6 c_check_sum := T4.add rfl rfl ⟨rfl, rfl, rfl⟩ G4 rfl (PySem.W.mg_of KX G n4) F4.kp b4 w4
  have G5 : FnG p w K mg bs (L2.CX p w) 7 a5 fd5 ["value"] (spF K mg f_check_sum) := fnG_by (by decide) T5 F5 s_check_sum ⟨rfl, by decide, by decide⟩ m_check_sum rfl
  have b5 : Binds K fd5 ["value"] [] := F5.binds fun _ _ _ _ _ _ us hl => match us, hl with | [_], _ => rfl
  have w5 : KwOk fd5 ["value"] f_check_sum := fun q hq => nomatch hq
  have T6 : Tab p w K mg bs 7 c_apart_of := T5.add rfl rfl ⟨rfl, rfl, rfl⟩ G5 rfl (PySem.W.mg_of KX G n5) F5.kp b5 w5
  have G6 : FnG p w K mg bs (L2.CX p w) 8 a6 fd6 ["number"] (spF K mg f_apart_of) := fnG_by (by decide) T6 F6 s_apart_of ⟨rfl, by decide, by decide⟩ m_apart_of rfl
  have b6 : Binds K fd6 ["number"] [] := F6.binds fun _ _ _ _ _ _ us hl => match us, hl with | [_], _ => rfl
  have w6 : KwOk fd6 ["number"] f_apart_of := fun q hq => nomatch hq
  have T7 : Tab p w K mg bs 8 c_apart := T6.add rfl rfl ⟨rfl, rfl, rfl⟩ G6 rfl (PySem.W.mg_of KX G n6) F6.kp b6 w6
  have G7 : FnG p w K mg bs (L2.CX p w) 9 a7 fd7 ["base"] (spF K mg f_apart) := fnG_by (by decide) T7 F7 s_apart ⟨rfl, by decide, by decide⟩ m_apart rfl
  have b7 : Binds K fd7 ["base"] [] := F7.binds fun _ _ _ _ _ _ us hl => match us, hl with | [_], _ => rfl
  have w7 : KwOk fd7 ["base"] f_apart := fun q hq => nomatch hq
  have T8 : Tab p w K mg bs 9 c_value_rest := T7.add rfl rfl ⟨rfl, rfl, rfl⟩ G7 rfl (PySem.W.mg_of KX G n7) F7.kp b7 w7
  have G8 : FnG p w K mg bs (L2.CX p w) 10 a8 fd8 ["terms", "number", "base"] (spF K mg f_value_rest) := fnG_by (by decide) T8 F8 s_value_rest ⟨rfl, by decide, by decide⟩ m_value_rest rfl
  have b8 : Binds K fd8 ["terms", "number", "base"] [] := F8.binds fun _ _ _ _ _ _ us hl => match us, hl with | [_, _, _], _ => rfl
  have w8 : KwOk fd8 ["terms", "number", "base"] f_value_rest := fun q hq => nomatch hq
  have T9 : Tab p w K mg bs 10 c_trimmed := T8.add rfl rfl ⟨rfl, rfl, rfl⟩ G8 rfl (PySem.W.mg_of KX G n8) F8.kp b8 w8
  have G9 : FnG p w K mg bs (L2.CX p w) 11 a9 fd9 ["terms"] (spF K mg f_trimmed) := fnG_by (by decide) T9 F9 s_trimmed ⟨rfl, by decide, by decide⟩ m_trimmed rfl
  have b9 : Binds K fd9 ["terms"] [] := F9.binds fun _ _ _ _ _ _ us hl => match us, hl with | [_], _ => rfl
  have w9 : KwOk fd9 ["terms"] f_trimmed := fun q hq => nomatch hq
  have T10 : Tab p w K mg bs 11 c_slope_of := T9.add rfl rfl ⟨rfl, rfl, rfl⟩ G9 rfl (PySem.W.mg_of KX G n9) F9.kp b9 w9
  have G10 : FnG p w K mg bs (L2.CX p w) 12 a10 fd10 ["terms"] (spF K mg f_slope_of) := fnG_by (by decide) T10 F10 s_slope_of ⟨rfl, by decide, by decide⟩ m_slope_of rfl
  have b10 : Binds K fd10 ["terms"] [] := F10.binds fun _ _ _ _ _ _ us hl => match us, hl with | [_], _ => rfl
  have w10 : KwOk fd10 ["terms"] f_slope_of := fun q hq => nomatch hq
  have T11 : Tab p w K mg bs 12 c_multiplied_of := T10.add rfl rfl ⟨rfl, rfl, rfl⟩ G10 rfl (PySem.W.mg_of KX G n10) F10.kp b10 w10
  have G11 : FnG p w K mg bs (L2.CX p w) 13 a11 fd11 ["one", "other"] (spF K mg f_multiplied_of) := fnG_by (by decide) T11 F11 s_multiplied_of ⟨rfl, by decide, by decide⟩ m_multiplied_of rfl
  have b11 : Binds K fd11 ["one", "other"] [] := F11.binds fun _ _ _ _ _ _ us hl => match us, hl with | [_, _], _ => rfl
  have w11 : KwOk fd11 ["one", "other"] f_multiplied_of := fun q hq => nomatch hq
  have T12 : Tab p w K mg bs 13 c_led_of := T11.add rfl rfl ⟨rfl, rfl, rfl⟩ G11 rfl (PySem.W.mg_of KX G n11) F11.kp b11 w11
  have G12 : FnG p w K mg bs (L2.CX p w) 14 a12 fd12 ["one", "other"] (spF K mg f_led_of) := fnG_by (by decide) T12 F12 s_led_of ⟨rfl, by decide, by decide⟩ m_led_of rfl
  have b12 : Binds K fd12 ["one", "other"] [] := F12.binds fun _ _ _ _ _ _ us hl => match us, hl with | [_, _], _ => rfl
  have w12 : KwOk fd12 ["one", "other"] f_led_of := fun q hq => nomatch hq
  have T13 : Tab p w K mg bs 14 c_check_made := T12.add rfl rfl ⟨rfl, rfl, rfl⟩ G12 rfl (PySem.W.mg_of KX G n12) F12.kp b12 w12
  have G13 : FnG p w K mg bs (L2.CX p w) 15 a13 fd13 ["terms"] (spF K mg f_check_made) := fnG_by (by decide) T13 F13 s_check_made ⟨rfl, by decide, by decide⟩ m_check_made rfl
  have b13 : Binds K fd13 ["terms"] [] := F13.binds fun _ _ _ _ _ _ us hl => match us, hl with | [_], _ => rfl
  have w13 : KwOk fd13 ["terms"] f_check_made := fun q hq => nomatch hq
  have T14 : Tab p w K mg bs 15 c_check_sums := T13.add rfl rfl ⟨rfl, rfl, rfl⟩ G13 rfl (PySem.W.mg_of KX G n13) F13.kp b13 w13
  have G14 : FnG p w K mg bs (L2.CX p w) 16 a14 fd14 ["one", "other"] (spF K mg f_check_sums) := fnG_by (by decide) T14 F14 s_check_sums ⟨rfl, by decide, by decide⟩ m_check_sums rfl
  have b14 : Binds K fd14 ["one", "other"] [] := F14.binds fun _ _ _ _ _ _ us hl => match us, hl with | [_, _], _ => rfl
  have w14 : KwOk fd14 ["one", "other"] f_check_sums := fun q hq => nomatch hq
  have T15 : Tab p w K mg bs 16 c_led := T14.add rfl rfl ⟨rfl, rfl, rfl⟩ G14 rfl (PySem.W.mg_of KX G n14) F14.kp b14 w14
  have G15 : FnG p w K mg bs (L2.CX p w) 17 a15 fd15 ["one", "other"] (spF K mg f_led) := fnG_by (by decide) T15 F15 s_led ⟨rfl, by decide, by decide⟩ m_led rfl
  have b15 : Binds K fd15 ["one", "other"] [] := F15.binds fun _ _ _ _ _ _ us hl => match us, hl with | [_, _], _ => rfl
  have w15 : KwOk fd15 ["one", "other"] f_led := fun q hq => nomatch hq
  have T16 : Tab p w K mg bs 17 c_check_small_primes := T15.add rfl rfl ⟨rfl, rfl, rfl⟩ G15 rfl (PySem.W.mg_of KX G n15) F15.kp b15 w15
  have G16 : FnG p w K mg bs (L2.CX p w) 18 a16 fd16 ["base"] (spF K mg f_check_small_primes) := fnG_by (by decide) T16 F16 s_check_small_primes ⟨rfl, by decide, by decide⟩ m_check_small_primes rfl
  have b16 : Binds K fd16 ["base"] [] := F16.binds fun _ _ _ _ _ _ us hl => match us, hl with | [_], _ => rfl
  have w16 : KwOk fd16 ["base"] f_check_small_primes := fun q hq => nomatch hq
  have T17 : Tab p w K mg bs 18 c_turns_by := T16.add rfl rfl ⟨rfl, rfl, rfl⟩ G16 rfl (PySem.W.mg_of KX G n16) F16.kp b16 w16
  have G17 : FnG p w K mg bs (L2.CX p w) 19 a17 fd17 ["terms", "prime", "often"] (spF K mg f_turns_by) := fnG_by (by decide) T17 F17 s_turns_by ⟨rfl, by decide, by decide⟩ m_turns_by rfl
  have b17 : Binds K fd17 ["terms", "prime", "often"] [] := F17.binds fun _ _ _ _ _ _ us hl => match us, hl with | [_, _, _], _ => rfl
  have w17 : KwOk fd17 ["terms", "prime", "often"] f_turns_by := fun q hq => nomatch hq
  have T18 : Tab p w K mg bs 19 c_does_turn := T17.add rfl rfl ⟨rfl, rfl, rfl⟩ G17 rfl (PySem.W.mg_of KX G n17) F17.kp b17 w17
  have G18 : FnG p w K mg bs (L2.CX p w) 20 a18 fd18 ["terms", "parts"] (spF K mg f_does_turn) := fnG_by (by decide) T18 F18 s_does_turn ⟨rfl, by decide, by decide⟩ m_does_turn rfl
  have b18 : Binds K fd18 ["terms", "parts"] [] := F18.binds fun _ _ _ _ _ _ us hl => match us, hl with | [_, _], _ => rfl
  have w18 : KwOk fd18 ["terms", "parts"] f_does_turn := fun q hq => nomatch hq
  have T19 : Tab p w K mg bs 20 c_turns := T18.add rfl rfl ⟨rfl, rfl, rfl⟩ G18 rfl (PySem.W.mg_of KX G n18) F18.kp b18 w18
  have G19 : FnG p w K mg bs (L2.CX p w) 21 a19 fd19 ["terms", "base"] (spF K mg f_turns) := fnG_by (by decide) T19 F19 s_turns ⟨rfl, by decide, by decide⟩ m_turns rfl
  have b19 : Binds K fd19 ["terms", "base"] [] := F19.binds fun _ _ _ _ _ _ us hl => match us, hl with | [_, _], _ => rfl
  have w19 : KwOk fd19 ["terms", "base"] f_turns := by
    obtain ⟨oc, od, kV, doc, pm, an, cdv, ct, osl, rfl, lk, hcd⟩ := F19.ex
    intro q hq s us ws h1 h2
    simp only [f_turns, List.mem_cons, List.not_mem_nil, or_false] at hq
    subst hq
    · exact match us, ws, h1, h2 with | [], [_, _], _, _ => .of_eq rfl
  have T20 : Tab p w K mg bs 21 c_law_cask := T19.add rfl rfl ⟨rfl, rfl, rfl⟩ G19 rfl (PySem.W.mg_of KX G n19) F19.kp b19 w19
  have G20 : FnG p w K mg bs (L2.CX p w) 22 a20 fd20 ["_law_script", "_law_k"] (spF K mg f_law_cask) := fnG_by (by decide) T20 F20 s_law_cask ⟨rfl, by decide, by decide⟩ m_law_cask rfl
  have b20 : Binds K fd20 ["_law_script", "_law_k"] [] := F20.binds fun _ _ _ _ _ _ us hl => match us, hl with | [_, _], _ => rfl
  have w20 : KwOk fd20 ["_law_script", "_law_k"] f_law_cask := fun q hq => nomatch hq
  have T21 : Tab p w K mg bs 22 c_law_tap := T20.add rfl rfl ⟨rfl, rfl, rfl⟩ G20 rfl (PySem.W.mg_of KX G n20) F20.kp b20 w20
  have G21 : FnG p w K mg bs (L2.CX p w) 23 a21 fd21 ["_law_cask_here", "_law_many"] (spF K mg f_law_tap) := fnG_by (by decide) T21 F21 s_law_tap ⟨rfl, by decide, by decide⟩ m_law_tap rfl
  have b21 : Binds K fd21 ["_law_cask_here", "_law_many"] [] := F21.binds fun _ _ _ _ _ _ us hl => match us, hl with | [_, _], _ => rfl
  have w21 : KwOk fd21 ["_law_cask_here", "_law_many"] f_law_tap := fun q hq => nomatch hq
  have T22 : Tab p w K mg bs 23 c_law_of := T21.add rfl rfl ⟨rfl, rfl, rfl⟩ G21 rfl (PySem.W.mg_of KX G n21) F21.kp b21 w21
  have G22 : FnG p w K mg bs (L2.CX p w) 24 a22 fd22 ["_law_cask_here", "_law_bowl"] (spF K mg f_law_of) := fnG_by (by decide) T22 F22 s_law_of ⟨rfl, by decide, by decide⟩ m_law_of rfl
  have b22 : Binds K fd22 ["_law_cask_here", "_law_bowl"] [] := F22.binds fun _ _ _ _ _ _ us hl => match us, hl with | [_, _], _ => rfl
  have w22 : KwOk fd22 ["_law_cask_here", "_law_bowl"] f_law_of := fun q hq => nomatch hq
  have T23 : Tab p w K mg bs 24 c_law_row := T22.add rfl rfl ⟨rfl, rfl, rfl⟩ G22 rfl (PySem.W.mg_of KX G n22) F22.kp b22 w22
  have G23 : FnG p w K mg bs (L2.CX p w) 25 a23 fd23 ["_law_cask_here", "_law_most", "_law_size"] (spF K mg f_law_row) := fnG_by (by decide) T23 F23 s_law_row ⟨rfl, by decide, by decide⟩ m_law_row rfl
  have b23 : Binds K fd23 ["_law_cask_here", "_law_most", "_law_size"] [] := F23.binds fun _ _ _ _ _ _ us hl => match us, hl with | [_, _, _], _ => rfl
  have w23 : KwOk fd23 ["_law_cask_here", "_law_most", "_law_size"] f_law_row := fun q hq => nomatch hq
  have T24 : Tab p w K mg bs 25 c_law_at := T23.add rfl rfl ⟨rfl, rfl, rfl⟩ G23 rfl (PySem.W.mg_of KX G n23) F23.kp b23 w23
  have G24 : FnG p w K mg bs (L2.CX p w) 26 a24 fd24 ["_law_row_here", "_law_number"] (spF K mg f_law_at) := fnG_by (by decide) T24 F24 s_law_at ⟨rfl, by decide, by decide⟩ m_law_at rfl
  have b24 : Binds K fd24 ["_law_row_here", "_law_number"] [] := F24.binds fun _ _ _ _ _ _ us hl => match us, hl with | [_, _], _ => rfl
  have w24 : KwOk fd24 ["_law_row_here", "_law_number"] f_law_at := fun q hq => nomatch hq
  have T25 : Tab p w K mg bs 26 c_law_table := T24.add rfl rfl ⟨rfl, rfl, rfl⟩ G24 rfl (PySem.W.mg_of KX G n24) F24.kp b24 w24
  have G25 : FnG p w K mg bs (L2.CX p w) 27 a25 fd25 ["_law_row_here", "_law_base"] (spF K mg f_law_table) := fnG_by (by decide) T25 F25 s_law_table ⟨rfl, by decide, by decide⟩ m_law_table rfl
  have b25 : Binds K fd25 ["_law_row_here", "_law_base"] [] := F25.binds fun _ _ _ _ _ _ us hl => match us, hl with | [_, _], _ => rfl
  have w25 : KwOk fd25 ["_law_row_here", "_law_base"] f_law_table := fun q hq => nomatch hq
  have T26 : Tab p w K mg bs 27 c_law_gcd := T25.add rfl rfl ⟨rfl, rfl, rfl⟩ G25 rfl (PySem.W.mg_of KX G n25) F25.kp b25 w25
  have G26 : FnG p w K mg bs (L2.CX p w) 28 a26 fd26 ["_law_one", "_law_last"] (spF K mg f_law_gcd) := fnG_by (by decide) T26 F26 s_law_gcd ⟨rfl, by decide, by decide⟩ m_law_gcd rfl
  have b26 : Binds K fd26 ["_law_one", "_law_last"] [] := F26.binds fun _ _ _ _ _ _ us hl => match us, hl with | [_, _], _ => rfl
  have w26 : KwOk fd26 ["_law_one", "_law_last"] f_law_gcd := fun q hq => nomatch hq
  have T27 : Tab p w K mg bs 28 c_law_power := T26.add rfl rfl ⟨rfl, rfl, rfl⟩ G26 rfl (PySem.W.mg_of KX G n26) F26.kp b26 w26
  have G27 : FnG p w K mg bs (L2.CX p w) 29 a27 fd27 ["_law_number", "_law_often"] (spF K mg f_law_power) := fnG_by (by decide) T27 F27 s_law_power ⟨rfl, by decide, by decide⟩ m_law_power rfl
  have b27 : Binds K fd27 ["_law_number", "_law_often"] [] := F27.binds fun _ _ _ _ _ _ us hl => match us, hl with | [_, _], _ => rfl
  have w27 : KwOk fd27 ["_law_number", "_law_often"] f_law_power := fun q hq => nomatch hq
  have T28 : Tab p w K mg bs 29 c_law_is_turn := T27.add rfl rfl ⟨rfl, rfl, rfl⟩ G27 rfl (PySem.W.mg_of KX G n27) F27.kp b27 w27
  have G28 : FnG p w K mg bs (L2.CX p w) 30 a28 fd28 ["_law_row_here", "_law_base"] (spF K mg f_law_is_turn) := fnG_by (by decide) T28 F28 s_law_is_turn ⟨rfl, by decide, by decide⟩ m_law_is_turn rfl
  have b28 : Binds K fd28 ["_law_row_here", "_law_base"] [] := F28.binds fun _ _ _ _ _ _ us hl => match us, hl with | [_, _], _ => rfl
  have w28 : KwOk fd28 ["_law_row_here", "_law_base"] f_law_is_turn := fun q hq => nomatch hq
  have T29 : Tab p w K mg bs 30 c_law_pieces_right := T28.add rfl rfl ⟨rfl, rfl, rfl⟩ G28 rfl (PySem.W.mg_of KX G n28) F28.kp b28 w28
  have G29 : FnG p w K mg bs (L2.CX p w) 31 a29 fd29 ["_law_row_here", "_law_base"] (spF K mg f_law_pieces_right) := fnG_by (by decide) T29 F29 s_law_pieces_right ⟨rfl, by decide, by decide⟩ m_law_pieces_right rfl
  have b29 : Binds K fd29 ["_law_row_here", "_law_base"] [] := F29.binds fun _ _ _ _ _ _ us hl => match us, hl with | [_, _], _ => rfl
  have w29 : KwOk fd29 ["_law_row_here", "_law_base"] f_law_pieces_right := fun q hq => nomatch hq
  have T30 : Tab p w K mg bs 31 c_law_right := T29.add rfl rfl ⟨rfl, rfl, rfl⟩ G29 rfl (PySem.W.mg_of KX G n29) F29.kp b29 w29
  have G30 : FnG p w K mg bs (L2.CX p w) 32 a30 fd30 ["_law_cask_here"] (spF K mg f_law_right) := fnG_by (by decide) T30 F30 s_law_right ⟨rfl, by decide, by decide⟩ m_law_right rfl
  have b30 : Binds K fd30 ["_law_cask_here"] [] := F30.binds fun _ _ _ _ _ _ us hl => match us, hl with | [_], _ => rfl
  have w30 : KwOk fd30 ["_law_cask_here"] f_law_right := fun q hq => nomatch hq
  have T31 : Tab p w K mg bs 32 c_law := T30.add rfl rfl ⟨rfl, rfl, rfl⟩ G30 rfl (PySem.W.mg_of KX G n30) F30.kp b30 w30
  have G31 : FnG p w K mg bs (L2.CX p w) 33 fa fd31 ["_law_script"] (spF K mg f_law) := fnG_by (by decide) T31 F31 s_law ⟨rfl, by decide, by decide⟩ m_law rfl
  exact G31
end K35
open PySem PySem.W PyProof.Rows
set_option maxHeartbeats 0 in
theorem PySem.Challenge.cw_restworld_k35_whole_sums_that_turn_holds : PySem.Challenge.rw_restworld_k35_whole_sums_that_turn.Holds := by
  w_on; o_law; k_head; (case hw => w_witness2)
  k_fill
  refine PU.pu_walk (l := PySem.Challenge.rw_restworld_k35_whole_sums_that_turn) (n := 63) (k := 33) (x := "_law_script") (g := K35.f_law) rfl (by decide) rfl ⟨rfl, by decide, by decide⟩ (fun w h Y => PySem.W.kIn_of Y) ?KL rfl ?F K35.law_true
  case KL =>
    intro w
    kernel_rfl
  case F =>
    intro w mg fa h KX G hmg
    refine' K35.all_mk KX G hmg (PU.kon_mk ?q0) (PU.kon_mk ?q1) (PU.kon_mk ?q2) (PU.kon_mk ?q3) ?z0 ?z1 ?z2 ?z3 ?z4 ?z5 ?z6 ?z7 ?z8 ?z9 ?z10 ?z11 ?z12 ?z13 (PU.def_mk ?a0 ?l0 ?c0 ?k0) (PU.def_mk ?a1 ?l1 ?c1 ?k1) (PU.def_mk ?a2 ?l2 ?c2 ?k2) (PU.def_mk ?a3 ?l3 ?c3 ?k3) (PU.def_mk ?a4 ?l4 ?c4 ?k4) (PU.def_mk ?a5 ?l5 ?c5 ?k5) (PU.def_mk ?a6 ?l6 ?c6 ?k6) (PU.def_mk ?a7 ?l7 ?c7 ?k7) (PU.def_mk ?a8 ?l8 ?c8 ?k8) (PU.def_mk ?a9 ?l9 ?c9 ?k9) (PU.def_mk ?a10 ?l10 ?c10 ?k10) (PU.def_mk ?a11 ?l11 ?c11 ?k11) (PU.def_mk ?a12 ?l12 ?c12 ?k12) (PU.def_mk ?a13 ?l13 ?c13 ?k13) (PU.def_mk ?a14 ?l14 ?c14 ?k14) (PU.def_mk ?a15 ?l15 ?c15 ?k15) (PU.def_mk ?a16 ?l16 ?c16 ?k16) (PU.def_mk ?a17 ?l17 ?c17 ?k17) (PU.def_mk ?a18 ?l18 ?c18 ?k18) (PU.def_mk ?a19 ?l19 ?c19 ?k19) (PU.def_mk ?a20 ?l20 ?c20 ?k20) (PU.def_mk ?a21 ?l21 ?c21 ?k21) (PU.def_mk ?a22 ?l22 ?c22 ?k22) (PU.def_mk ?a23 ?l23 ?c23 ?k23) (PU.def_mk ?a24 ?l24 ?c24 ?k24) (PU.def_mk ?a25 ?l25 ?c25 ?k25) (PU.def_mk ?a26 ?l26 ?c26 ?k26) (PU.def_mk ?a27 ?l27 ?c27 ?k27) (PU.def_mk ?a28 ?l28 ?c28 ?k28) (PU.def_mk ?a29 ?l29 ?c29 ?k29) (PU.def_mk ?a30 ?l30 ?c30 ?k30) (PU.def_mk ?a31 ?l31 ?c31 ?k31)
    (case q0 => k_is)
    (case q1 => k_is)
    (case q2 => k_is)
    (case q3 => k_is)
    (case z0 => k_is)
    (case z1 => k_is)
    (case z2 => k_is)
    (case z3 => k_is)
    (case z4 => k_is)
    (case z5 => k_is)
    (case z6 => k_is)
    (case z7 => k_is)
    (case z8 => k_is)
    (case z9 => k_is)
    (case z10 => k_is)
    (case z11 => k_is)
    (case z12 => k_is)
    (case z13 => k_is)
    (case a0 => k_is)
    (case l0 => k_is)
    (case c0 => k_is)
    (case k0 => k_is)
    (case a1 => k_is)
    (case l1 => k_is)
    (case c1 => k_is)
    (case k1 => k_is)
    (case a2 => k_is)
    (case l2 => k_is)
    (case c2 => k_is)
    (case k2 => k_is)
    (case a3 => k_is)
    (case l3 => k_is)
    (case c3 => k_is)
    (case k3 => k_is)
    (case a4 => k_is)
    (case l4 => k_is)
    (case c4 => k_is)
    (case k4 => k_is)
    (case a5 => k_is)
    (case l5 => k_is)
    (case c5 => k_is)
    (case k5 => k_is)
    (case a6 => k_is)
    (case l6 => k_is)
    (case c6 => k_is)
    (case k6 => k_is)
    (case a7 => k_is)
    (case l7 => k_is)
    (case c7 => k_is)
    (case k7 => k_is)
    (case a8 => k_is)
    (case l8 => k_is)
    (case c8 => k_is)
    (case k8 => k_is)
    (case a9 => k_is)
    (case l9 => k_is)
    (case c9 => k_is)
    (case k9 => k_is)
    (case a10 => k_is)
    (case l10 => k_is)
    (case c10 => k_is)
    (case k10 => k_is)
    (case a11 => k_is)
    (case l11 => k_is)
    (case c11 => k_is)
    (case k11 => k_is)
    (case a12 => k_is)
    (case l12 => k_is)
    (case c12 => k_is)
    (case k12 => k_is)
    (case a13 => k_is)
    (case l13 => k_is)
    (case c13 => k_is)
    (case k13 => k_is)
    (case a14 => k_is)
    (case l14 => k_is)
    (case c14 => k_is)
    (case k14 => k_is)
    (case a15 => k_is)
    (case l15 => k_is)
    (case c15 => k_is)
    (case k15 => k_is)
    (case a16 => k_is)
    (case l16 => k_is)
    (case c16 => k_is)
    (case k16 => k_is)
    (case a17 => k_is)
    (case l17 => k_is)
    (case c17 => k_is)
    (case k17 => k_is)
    (case a18 => k_is)
    (case l18 => k_is)
    (case c18 => k_is)
    (case k18 => k_is)
    (case a19 => k_is)
    (case l19 => k_is)
    (case c19 => k_is)
    (case k19 => k_is)
    (case a20 => k_is)
    (case l20 => k_is)
    (case c20 => k_is)
    (case k20 => k_is)
    (case a21 => k_is)
    (case l21 => k_is)
    (case c21 => k_is)
    (case k21 => k_is)
    (case a22 => k_is)
    (case l22 => k_is)
    (case c22 => k_is)
    (case k22 => k_is)
    (case a23 => k_is)
    (case l23 => k_is)
    (case c23 => k_is)
    (case k23 => k_is)
    (case a24 => k_is)
    (case l24 => k_is)
    (case c24 => k_is)
    (case k24 => k_is)
    (case a25 => k_is)
    (case l25 => k_is)
    (case c25 => k_is)
    (case k25 => k_is)
    (case a26 => k_is)
    (case l26 => k_is)
    (case c26 => k_is)
    (case k26 => k_is)
    (case a27 => k_is)
    (case l27 => k_is)
    (case c27 => k_is)
    (case k27 => k_is)
    (case a28 => k_is)
    (case l28 => k_is)
    (case c28 => k_is)
    (case k28 => k_is)
    (case a29 => k_is)
    (case l29 => k_is)
    (case c29 => k_is)
    (case k29 => k_is)
    (case a30 => k_is)
    (case l30 => k_is)
    (case c30 => k_is)
    (case k30 => k_is)
    (case a31 => k_is)
    (case l31 => k_is)
    (case c31 => k_is)
    (case k31 => k_is)
