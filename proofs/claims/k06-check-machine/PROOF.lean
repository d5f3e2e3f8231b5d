import PyProof.Rows.All
import Wide.All
import OpenK.AllK
import Wide.FinOn
import HandS.ForMost
import HandS.ForExc
import HandS.CallSlots
import HandS.Flow
import HandS.TupAny
import HandS.IsInst
import HandS.Wide
import HandS.Deep
import HandS.Conv
import HandS.SetFor
import HandS.TupLe
import HandS.Text
import HandS.Iter
import HandS.Zip
import KE.GoesEnum
import KE.SortData
import PyProof.ListStr
import HandS.Style
import HandS.More
import HandS.ExcInit
import HandS.ExcField
import HandS.WordsExc
import PySem.Challenge.RW_fewmends_k06_check_machine
set_option Elab.async false
set_option linter.all false
set_option maxRecDepth 100000
set_option maxHeartbeats 4000000
namespace Y
open PySem PySem.Spec L2

/-! ### data, stores, answers -/
/-- values of the mirror: lst is a list that nobody changes any more, ref a list (dict) that may change -/
inductive D where
  | non | bl (b : Bool) | int (i : Int) | str (s : Str) | tup (ds : List D) | lst (ds : List D) | ref (n : Nat)
inductive Ob where
  | lst (ds : List D)
abbrev Sto := List (Option Ob)
abbrev En := List (Option D)
inductive Res (α : Type) where
  | ok (a : α) (S : Sto) | exc (c : Str) (fs : List (Str × D)) (S : Sto) | err
/-- what a statement comes to -/
inductive SR where
  | nx (e : En) (S : Sto) | ret (d : D) (S : Sto) | brk (e : En) (S : Sto) | ct (e : En) (S : Sto) | exc (c : Str) (fs : List (Str × D)) (e : En) (S : Sto) | err

def bd {α β : Type} (r : Res α) (k : α → Sto → Res β) : Res β := match r with
  | .ok a S => k a S
  | .exc c fs S => .exc c fs S
  | .err => .err
def wpM {α : Type} (r : Res α) (Q : α → Sto → Prop) (E : Str → List (Str × D) → Sto → Prop) : Prop := match r with
  | .ok a S => Q a S
  | .exc c fs S => E c fs S
  | .err => False
theorem wpM_bd {α β : Type} {r : Res α} {k : α → Sto → Res β} {Q : β → Sto → Prop} {E : Str → List (Str × D) → Sto → Prop} (h : wpM (bd r k) Q E) : wpM r (fun a S => wpM (k a S) Q E) E := by
  cases r <;> exact h
theorem wpM_mono {α : Type} {r : Res α} {Q Q' : α → Sto → Prop} {E E' : Str → List (Str × D) → Sto → Prop} (h : wpM r Q E) (hq : ∀ a S, Q a S → Q' a S) (he : ∀ c f S, E c f S → E' c f S) : wpM r Q' E' := by
  cases r
  · exact hq _ _ h
  · exact he _ _ _ h
  · exact h

/-! ### what stands for what -/
def KLst (K : PySem.W.Frag) (a : Addr) (xs : List V) : Prop := ∃ (o : Obj) (its : Array Value) (n : Nat), K.lookup a = some o ∧ o.cls = .type "list" ∧ o.dict = none ∧ o.data = .seq its n ∧ its.size ≤ sizeLine ∧ Vals xs its.toList
/-- a list that nobody changes -/
def FzL (K : PySem.W.Frag) (H : Hp) (A : Addr → Prop) (a : Addr) (xs : List V) : Prop := (Rd H a (.lst xs) ∧ ¬ A a) ∨ KLst K a xs
theorem FzL.sq {K : PySem.W.Frag} {H : Hp} {A : Addr → Prop} {a : Addr} {xs : List V} (h : FzL K H A a xs) : SqL K H a xs := h.elim (fun h => .inl h.1) .inr
mutual
def RelD (K : PySem.W.Frag) (H : Hp) (A : Addr → Prop) (ρ : List Addr) (v : V) : D → Prop
  | .non => v = .non
  | .bl b => v = .bl b
  | .int i => v = .int i
  | .str s => v = .str s
  | .tup ds => ∃ a xs, v = .ref a ∧ SqT K H a xs ∧ RelL K H A ρ xs ds
  | .lst ds => ∃ a xs, v = .ref a ∧ FzL K H A a xs ∧ RelL K H A ρ xs ds
  | .ref n => ∃ a, v = .ref a ∧ ρ[n]? = some a
def RelL (K : PySem.W.Frag) (H : Hp) (A : Addr → Prop) (ρ : List Addr) (vs : List V) : List D → Prop
  | [] => vs = []
  | d :: ds => ∃ x xs, vs = x :: xs ∧ RelD K H A ρ x d ∧ RelL K H A ρ xs ds
end
section
variable {K : PySem.W.Frag} {H H' : Hp} {A A' : Addr → Prop} {ρ ρ' : List Addr}
mutual
theorem RelD.mono (hl : ∀ a xs, Rd H a (.lst xs) → ¬ A a → Rd H' a (.lst xs) ∧ ¬ A' a) (ht : ∀ a xs, SqT K H a xs → SqT K H' a xs) (hr : ∀ (n : Nat) a, ρ[n]? = some a → ρ'[n]? = some a) : ∀ (d : D) (v : V), RelD K H A ρ v d → RelD K H' A' ρ' v d
  | .non, _, h => h
  | .bl _, _, h => h
  | .int _, _, h => h
  | .str _, _, h => h
  | .tup ds, _, ⟨a, xs, e, h1, h2⟩ => ⟨a, xs, e, ht a xs h1, RelL.mono hl ht hr ds xs h2⟩
  | .lst ds, _, ⟨a, xs, e, h1, h3⟩ => ⟨a, xs, e, h1.imp (fun h => hl a xs h.1 h.2) id, RelL.mono hl ht hr ds xs h3⟩
  | .ref n, _, ⟨a, e, h⟩ => ⟨a, e, hr n a h⟩
theorem RelL.mono (hl : ∀ a xs, Rd H a (.lst xs) → ¬ A a → Rd H' a (.lst xs) ∧ ¬ A' a) (ht : ∀ a xs, SqT K H a xs → SqT K H' a xs) (hr : ∀ (n : Nat) a, ρ[n]? = some a → ρ'[n]? = some a) : ∀ (ds : List D) (vs : List V), RelL K H A ρ vs ds → RelL K H' A' ρ' vs ds
  | [], _, h => h
  | d :: ds, _, ⟨x, xs, e, h1, h2⟩ => ⟨x, xs, e, RelD.mono hl ht hr d x h1, RelL.mono hl ht hr ds xs h2⟩
end
theorem RelL.length : ∀ {ds : List D} {vs : List V}, RelL K H A ρ vs ds → vs.length = ds.length
  | [], _, h => by
    have h' : _ = [] := h
    rw [h']; rfl
  | d :: ds, _, ⟨x, xs, e, h1, h2⟩ => by rw [e, List.length_cons, List.length_cons, RelL.length h2]
theorem RelL.nil : RelL K H A ρ [] [] := rfl
theorem RelL.cons {x : V} {xs : List V} {d : D} {ds : List D} (h : RelD K H A ρ x d) (t : RelL K H A ρ xs ds) : RelL K H A ρ (x :: xs) (d :: ds) := ⟨x, xs, rfl, h, t⟩
theorem RelL.append : ∀ {ds es : List D} {vs us : List V}, RelL K H A ρ vs ds → RelL K H A ρ us es → RelL K H A ρ (vs ++ us) (ds ++ es)
  | [], _, _, _, h, k => by
    have h' : _ = [] := h
    rw [h']; exact k
  | d :: ds, es, _, us, ⟨x, xs, e, h1, h2⟩, k => by
    rw [e]
    exact RelL.cons h1 (RelL.append h2 k)
theorem RelL.get : ∀ {ds : List D} {vs : List V} {i : Nat} {d : D}, RelL K H A ρ vs ds → ds[i]? = some d → ∃ v, vs[i]? = some v ∧ RelD K H A ρ v d
  | [], _, _, _, _, h => by simp at h
  | d :: ds, _, 0, d', ⟨x, xs, e, h1, h2⟩, h => by
    have q : d = d' := Option.some.inj h
    rw [e, ← q]; exact ⟨x, rfl, h1⟩
  | d :: ds, _, i + 1, d', ⟨x, xs, e, h1, h2⟩, h => by
    rw [e]; exact RelL.get (i := i) h2 h
theorem RelL.take : ∀ {ds : List D} {vs : List V} (n : Nat), RelL K H A ρ vs ds → RelL K H A ρ (vs.take n) (ds.take n)
  | [], _, n, h => by
    have h' : _ = [] := h
    rw [h']; simp only [List.take_nil]; rfl
  | d :: ds, _, 0, _ => rfl
  | d :: ds, _, n + 1, ⟨x, xs, e, h1, h2⟩ => by rw [e]; exact RelL.cons h1 (RelL.take n h2)
theorem RelL.drop : ∀ {ds : List D} {vs : List V} (n : Nat), RelL K H A ρ vs ds → RelL K H A ρ (vs.drop n) (ds.drop n)
  | [], _, n, h => by
    have h' : _ = [] := h
    rw [h']; simp only [List.drop_nil]; rfl
  | d :: ds, _, 0, h => h
  | d :: ds, _, n + 1, ⟨x, xs, e, h1, h2⟩ => by rw [e]; exact RelL.drop n h2
theorem RelL.set {v : V} {d : D} (r : RelD K H A ρ v d) : ∀ {ds : List D} {vs : List V} (n : Nat), RelL K H A ρ vs ds → RelL K H A ρ (vs.set n v) (ds.set n d)
  | [], _, n, h => by
    have h' : _ = [] := h
    rw [h']; rfl
  | d :: ds, _, 0, ⟨x, xs, e, h1, h2⟩ => by rw [e]; exact RelL.cons r h2
  | d :: ds, _, n + 1, ⟨x, xs, e, h1, h2⟩ => by rw [e]; exact RelL.cons h1 (RelL.set r n h2)
theorem RelL.erase : ∀ {ds : List D} {vs : List V} (n : Nat), RelL K H A ρ vs ds → RelL K H A ρ (vs.eraseIdx n) (ds.eraseIdx n)
  | [], _, n, h => by
    have h' : _ = [] := h
    rw [h']; rfl
  | d :: ds, _, 0, ⟨x, xs, e, h1, h2⟩ => by rw [e]; exact h2
  | d :: ds, _, n + 1, ⟨x, xs, e, h1, h2⟩ => by rw [e]; exact RelL.cons h1 (RelL.erase n h2)
theorem RelL.dropLast {ds : List D} {vs : List V} (h : RelL K H A ρ vs ds) : RelL K H A ρ vs.dropLast ds.dropLast := by
  rw [List.dropLast_eq_take, List.dropLast_eq_take, h.length]
  exact h.take _
theorem RelL.reverse : ∀ {ds : List D} {vs : List V}, RelL K H A ρ vs ds → RelL K H A ρ vs.reverse ds.reverse
  | [], _, h => by
    have h' : _ = [] := h
    rw [h']; rfl
  | d :: ds, _, ⟨x, xs, e, h1, h2⟩ => by
    rw [e, List.reverse_cons, List.reverse_cons]
    exact (RelL.reverse h2).append (RelL.cons h1 RelL.nil)
theorem RelL.getLast {ds : List D} {vs : List V} {d : D} (h : RelL K H A ρ vs ds) (e : ds[ds.length - 1]? = some d) : ∃ v, vs[vs.length - 1]? = some v ∧ RelD K H A ρ v d := by
  rw [h.length]
  exact h.get e
theorem RelL.ints : ∀ (ns : List Int), RelL K H A ρ (ns.map V.int) (ns.map D.int)
  | [] => rfl
  | n :: ns => RelL.cons rfl (RelL.ints ns)
theorem RelL.of_ints : ∀ {ns : List Int} {vs : List V}, RelL K H A ρ vs (ns.map D.int) → vs = ns.map V.int
  | [], _, h => h
  | n :: ns, _, ⟨x, xs, e, h1, h2⟩ => by
    have h1' : x = .int n := h1
    rw [e, h1', RelL.of_ints h2]; rfl
theorem RelL.strs : ∀ (ns : List Str), RelL K H A ρ (ns.map V.str) (ns.map D.str)
  | [] => rfl
  | n :: ns => RelL.cons rfl (RelL.strs ns)
theorem RelL.of_strs : ∀ {ns : List Str} {vs : List V}, RelL K H A ρ vs (ns.map D.str) → vs = ns.map V.str
  | [], _, h => h
  | n :: ns, _, ⟨x, xs, e, h1, h2⟩ => by
    have h1' : x = .str n := h1
    rw [e, h1', RelL.of_strs h2]; rfl
end

/-- the addresses whose objects may change -/
def Al (ρ : List Addr) (S : Sto) (a : Addr) : Prop := ∃ (n : Nat) (o : Ob), S[n]? = some (some o) ∧ ρ[n]? = some a
def ObR (K : PySem.W.Frag) (H : Hp) (A : Addr → Prop) (ρ : List Addr) (a : Addr) : Ob → Prop
  | .lst ds => ∃ xs, H a = some (.lst xs) ∧ RelL K H A ρ xs ds
structure RS (K : PySem.W.Frag) (ρ : List Addr) (H : Hp) (S : Sto) : Prop where
  len : ρ.length = S.length
  obj : ∀ (n : Nat) (o : Ob) (a : Addr), S[n]? = some (some o) → ρ[n]? = some a → ObR K H (Al ρ S) ρ a o
  inj : ∀ (n m : Nat) (o o' : Ob) (a : Addr), S[n]? = some (some o) → S[m]? = some (some o') → ρ[n]? = some a → ρ[m]? = some a → n = m
def RV (K : PySem.W.Frag) (ρ : List Addr) (σ : St) (H : Hp) (S : Sto) (env : En) : Prop :=
  env.length = σ.length ∧ ∀ (i : Nat) (d : D), env[i]? = some (some d) → ∃ v, σ[i]? = some (some v) ∧ RelD K H (Al ρ S) ρ v d
/-- what stays from a state to a later one -/
structure Up (K : PySem.W.Frag) (ρ : List Addr) (H : Hp) (S : Sto) (ρ' : List Addr) (H' : Hp) (S' : Sto) : Prop where
  pre : ∀ (n : Nat) a, ρ[n]? = some a → ρ'[n]? = some a
  ext : ∀ a o, H a = some o → ¬ Al ρ S a → H' a = some o ∧ ¬ Al ρ' S' a
  tup : ∀ a xs, SqT K H a xs → SqT K H' a xs
section
variable {K : PySem.W.Frag} {H H' H1 H2 : Hp} {ρ ρ' ρ1 ρ2 : List Addr} {S S' S1 S2 : Sto} {σ : St} {env : En} {v : V} {d : D} {vs : List V} {ds : List D}
theorem Up.refl : Up K ρ H S ρ H S := ⟨fun _ _ h => h, fun _ _ h n => ⟨h, n⟩, fun _ _ h => h⟩
theorem Up.trans (a : Up K ρ H S ρ1 H1 S1) (b : Up K ρ1 H1 S1 ρ2 H2 S2) : Up K ρ H S ρ2 H2 S2 :=
  ⟨fun n x h => b.pre n x (a.pre n x h), fun x o h n => b.ext x o (a.ext x o h n).1 (a.ext x o h n).2, fun x xs h => b.tup x xs (a.tup x xs h)⟩
theorem Up.rd (u : Up K ρ H S ρ' H' S') (a : Addr) (xs : List V) (h : Rd H a (.lst xs)) (n : ¬ Al ρ S a) : Rd H' a (.lst xs) ∧ ¬ Al ρ' S' a := by
  rcases h with h | ⟨o, h⟩
  · exact ⟨.inl (u.ext a _ h n).1, (u.ext a _ h n).2⟩
  · exact ⟨.inr ⟨o, (u.ext a _ h n).1⟩, (u.ext a _ h n).2⟩
theorem Up.relD (u : Up K ρ H S ρ' H' S') (h : RelD K H (Al ρ S) ρ v d) : RelD K H' (Al ρ' S') ρ' v d := RelD.mono u.rd u.tup u.pre d v h
theorem Up.relL (u : Up K ρ H S ρ' H' S') (h : RelL K H (Al ρ S) ρ vs ds) : RelL K H' (Al ρ' S') ρ' vs ds := RelL.mono u.rd u.tup u.pre ds vs h
theorem Up.rv (u : Up K ρ H S ρ' H' S') (h : RV K ρ σ H S env) : RV K ρ' σ H' S' env := ⟨h.1, fun i d e => let ⟨v, e1, r⟩ := h.2 i d e; ⟨v, e1, u.relD r⟩⟩
theorem Up.fz (u : Up K ρ H S ρ' H' S') {a : Addr} {xs : List V} (h : FzL K H (Al ρ S) a xs) : FzL K H' (Al ρ' S') a xs := h.imp (fun h => u.rd a xs h.1 h.2) id
theorem RS.alive (R : RS K ρ H S) {a : Addr} (h : Al ρ S a) : ∃ xs, H a = some (.lst xs) := by
  obtain ⟨n, o, h1, h2⟩ := h
  have := R.obj n o a h1 h2
  cases o with
  | lst ds => obtain ⟨xs, e, _⟩ := this; exact ⟨xs, e⟩
theorem RS.noal (R : RS K ρ H S) {a : Addr} (h : H a = none) : ¬ Al ρ S a := fun q => by
  obtain ⟨xs, e⟩ := R.alive q
  rw [h] at e; cases e
/-- a heap that only grew: the same store -/
theorem sqT_same (s : Same H H') {a : Addr} {xs : List V} (h : SqT K H a xs) : SqT K H' a xs := by
  rcases h with (h | ⟨o, h⟩) | h
  · exact .inl (.inl (s _ _ h))
  · exact .inl (.inr ⟨o, s _ _ h⟩)
  · exact .inr h
theorem Up.same (s : Same H H') : Up K ρ H S ρ H' S := ⟨fun _ _ h => h, fun a o h n => ⟨s a o h, n⟩, fun a xs h => sqT_same s h⟩
theorem RS.same (R : RS K ρ H S) (s : Same H H') : RS K ρ H' S := ⟨R.len, fun n o a h1 h2 => by
  have := R.obj n o a h1 h2
  cases o with
  | lst ds => obtain ⟨xs, e, r⟩ := this; exact ⟨xs, s _ _ e, (Up.same s).relL r⟩, R.inj⟩
theorem same_new {p : Addr} {o : HO} (h : H p = none) : Same H (upd H p o) := fun b x e => by
  rw [upd_ne (ne_of_none e h)]
  exact e
/-! #### a list that is to change comes in -/
theorem al_snoc {p : Addr} {o : Ob} (hl : ρ.length = S.length) {a : Addr} : Al (ρ ++ [p]) (S ++ [some o]) a ↔ Al ρ S a ∨ a = p := by
  constructor
  · rintro ⟨n, o', h1, h2⟩
    by_cases hn : n < S.length
    · rw [List.getElem?_append_left hn] at h1
      rw [List.getElem?_append_left (by omega)] at h2
      exact .inl ⟨n, o', h1, h2⟩
    · rw [List.getElem?_append_right (by omega)] at h2
      have : n - ρ.length = 0 := by
        by_cases z : n - ρ.length = 0
        · exact z
        · rw [List.getElem?_eq_none (by simp; omega)] at h2; cases h2
      rw [this] at h2
      exact .inr (Option.some.inj h2).symm
  · rintro (⟨n, o', h1, h2⟩ | rfl)
    · have hn : n < S.length := (List.getElem?_eq_some_iff.mp h1).1
      exact ⟨n, o', by rw [List.getElem?_append_left hn]; exact h1, by rw [List.getElem?_append_left (by omega)]; exact h2⟩
    · exact ⟨S.length, o, by simp, by rw [← hl]; simp⟩
theorem Up.new {p : Addr} {o : Ob} (hl : ρ.length = S.length) (hp : H p = none) (s : Same H H') : Up K ρ H S (ρ ++ [p]) H' (S ++ [some o]) :=
  ⟨fun n a h => by rw [List.getElem?_append_left (List.getElem?_eq_some_iff.mp h).1]; exact h,
   fun a u h n => ⟨s a u h, fun q => ((al_snoc hl).mp q).elim n fun e => by rw [e, hp] at h; cases h⟩, fun a xs h => sqT_same s h⟩
theorem RS.new {p : Addr} {xs : List V} (R : RS K ρ H S) (hp : H p = none) (s : Same H H') (hp' : H' p = some (.lst xs)) (r : RelL K H (Al ρ S) ρ xs ds) : RS K (ρ ++ [p]) H' (S ++ [some (.lst ds)]) := by
  have u : Up K ρ H S (ρ ++ [p]) H' (S ++ [some (.lst ds)]) := Up.new R.len hp s
  have len := R.len
  refine ⟨by simp [len], fun n o a h1 h2 => ?_, fun n m o o' a h1 h2 h3 h4 => ?_⟩
  · by_cases hn : n < S.length
    · rw [List.getElem?_append_left hn] at h1
      rw [List.getElem?_append_left (by omega)] at h2
      have := R.obj n o a h1 h2
      cases o with
      | lst es => obtain ⟨ys, e, q⟩ := this; exact ⟨ys, s _ _ e, u.relL q⟩
    · have hn' : n < (ρ ++ [p]).length := (List.getElem?_eq_some_iff.mp h2).1
      have e : n = S.length := by simp at hn'; omega
      subst e
      rw [List.getElem?_append_right (Nat.le_refl _), Nat.sub_self] at h1
      rw [List.getElem?_append_right (by omega), len, Nat.sub_self] at h2
      have e1 : some (Ob.lst ds) = some o := Option.some.inj h1
      have e2 : p = a := Option.some.inj h2
      cases e1
      subst e2
      exact ⟨xs, hp', u.relL r⟩
  · have old : ∀ {k : Nat} {q : Ob} {b : Addr}, k < S.length → (S ++ [some (Ob.lst ds)])[k]? = some (some q) → (ρ ++ [p])[k]? = some b → b ≠ p := fun {k q b} hk e1 e2 z => by
      rw [List.getElem?_append_left hk] at e1
      rw [List.getElem?_append_left (by omega)] at e2
      obtain ⟨ys, e3⟩ := R.alive ⟨k, q, e1, e2⟩
      rw [z, hp] at e3; cases e3
    have last : ∀ {k : Nat} {b : Addr}, ¬ k < S.length → (ρ ++ [p])[k]? = some b → k = S.length ∧ b = p := fun {k b} hk e => by
      have hn' : k < (ρ ++ [p]).length := (List.getElem?_eq_some_iff.mp e).1
      have e' : k = S.length := by simp at hn'; omega
      refine ⟨e', ?_⟩
      rw [e', List.getElem?_append_right (by omega), len, Nat.sub_self] at e
      exact (Option.some.inj e).symm
    by_cases hn : n < S.length
    · by_cases hm : m < S.length
      · rw [List.getElem?_append_left hn] at h1
        rw [List.getElem?_append_left hm] at h2
        rw [List.getElem?_append_left (by omega)] at h3 h4
        exact R.inj n m o o' a h1 h2 h3 h4
      · exact absurd (last hm h4).2 (old hn h1 h3)
    · by_cases hm : m < S.length
      · exact absurd (last hn h3).2 (old hm h2 h4)
      · rw [(last hn h3).1, (last hm h4).1]
/-! #### a list changes -/
theorem al_set {n : Nat} {o o' : Ob} (h : S[n]? = some (some o)) {a : Addr} : Al ρ (S.set n (some o')) a ↔ Al ρ S a := by
  have hn : n < S.length := (List.getElem?_eq_some_iff.mp h).1
  constructor
  · rintro ⟨m, q, h1, h2⟩
    by_cases e : n = m
    · subst e; exact ⟨n, o, h, h2⟩
    · rw [List.getElem?_set_ne e] at h1; exact ⟨m, q, h1, h2⟩
  · rintro ⟨m, q, h1, h2⟩
    by_cases e : n = m
    · subst e; exact ⟨n, o', by rw [List.getElem?_set_self hn], h2⟩
    · exact ⟨m, q, by rw [List.getElem?_set_ne e]; exact h1, h2⟩
theorem sqT_upd {a b : Addr} {xs ys zs : List V} (h : H a = some (.lst ys)) (q : SqT K H b xs) : SqT K (upd H a (.lst zs)) b xs := by
  rcases q with (q | ⟨o, q⟩) | q
  · exact .inl (.inl (by rw [upd_ne (ne_of q h (fun z => by cases z))]; exact q))
  · exact .inl (.inr ⟨o, by rw [upd_ne (ne_of q h (fun z => by cases z))]; exact q⟩)
  · exact .inr q
theorem Up.set {n : Nat} {a : Addr} {ys zs : List V} {o o' : Ob} (h : S[n]? = some (some o)) (ha : ρ[n]? = some a) (hH : H a = some (.lst ys)) : Up K ρ H S ρ (upd H a (.lst zs)) (S.set n (some o')) :=
  ⟨fun _ _ e => e, fun b u e nb => ⟨by rw [upd_ne (fun z => nb (by rw [z]; exact ⟨n, o, h, ha⟩))]; exact e, fun q => nb ((al_set h).mp q)⟩, fun b xs q => sqT_upd hH q⟩
theorem RS.set {n : Nat} {a : Addr} {ys zs : List V} {es : List D} (R : RS K ρ H S) (h : S[n]? = some (some (.lst es))) (ha : ρ[n]? = some a) (hH : H a = some (.lst ys)) (r : RelL K H (Al ρ S) ρ zs ds) : RS K ρ (upd H a (.lst zs)) (S.set n (some (.lst ds))) := by
  have u : Up K ρ H S ρ (upd H a (.lst zs)) (S.set n (some (.lst ds))) := Up.set h ha hH
  have hn : n < S.length := (List.getElem?_eq_some_iff.mp h).1
  refine ⟨by simp [R.len], fun m o b h1 h2 => ?_, fun m k o o' b h1 h2 h3 h4 => ?_⟩
  · by_cases e : n = m
    · subst e
      rw [List.getElem?_set_self hn] at h1
      cases h1
      rw [ha] at h2; cases h2
      exact ⟨zs, upd_same, u.relL r⟩
    · rw [List.getElem?_set_ne e] at h1
      have nb : b ≠ a := fun z => e (R.inj n m _ _ a h h1 ha (z ▸ h2))
      have := R.obj m o b h1 h2
      cases o with
      | lst fs => obtain ⟨ws, e1, q⟩ := this; exact ⟨ws, by rw [upd_ne nb]; exact e1, u.relL q⟩
  · have back : ∀ {j : Nat} {q : Ob}, (S.set n (some (Ob.lst ds)))[j]? = some (some q) → ∃ q', S[j]? = some (some q') := fun {j q} e => by
      by_cases z : n = j
      · subst z; exact ⟨_, h⟩
      · rw [List.getElem?_set_ne z] at e; exact ⟨_, e⟩
    obtain ⟨q1, e1⟩ := back h1
    obtain ⟨q2, e2⟩ := back h2
    exact R.inj m k q1 q2 b e1 e2 h3 h4
/-! #### a list will not change any more -/
theorem al_kill {n : Nat} {a : Addr} (h : Al ρ (S.set n none) a) : Al ρ S a := by
  obtain ⟨m, q, h1, h2⟩ := h
  by_cases e : n = m
  · subst e
    by_cases hn : n < S.length
    · rw [List.getElem?_set_self hn] at h1; cases h1
    · rw [List.getElem?_eq_none (by simp; omega)] at h1; cases h1
  · rw [List.getElem?_set_ne e] at h1; exact ⟨m, q, h1, h2⟩
theorem Up.kill {n : Nat} : Up K ρ H S ρ H (S.set n none) := ⟨fun _ _ e => e, fun _ _ e nb => ⟨e, fun q => nb (al_kill q)⟩, fun _ _ q => q⟩
theorem RS.kill {n : Nat} (R : RS K ρ H S) : RS K ρ H (S.set n none) := by
  have back : ∀ {j : Nat} {q : Ob}, (S.set n none)[j]? = some (some q) → S[j]? = some (some q) := fun {j q} e => by
    by_cases z : n = j
    · subst z
      by_cases hn : n < S.length
      · rw [List.getElem?_set_self hn] at e; cases e
      · rw [List.getElem?_eq_none (by simp; omega)] at e; cases e
    · rw [List.getElem?_set_ne z] at e; exact e
  refine ⟨by simp [R.len], fun m o b h1 h2 => ?_, fun m k o o' b h1 h2 h3 h4 => R.inj m k o o' b (back h1) (back h2) h3 h4⟩
  have := R.obj m o b (back h1) h2
  cases o with
  | lst fs => obtain ⟨ws, e1, q⟩ := this; exact ⟨ws, e1, Up.kill.relL q⟩
theorem RS.frozen {n : Nat} {a : Addr} {es : List D} (R : RS K ρ H S) (h : S[n]? = some (some (.lst es))) (ha : ρ[n]? = some a) : RelD K H (Al ρ (S.set n none)) ρ (.ref a) (.lst es) := by
  obtain ⟨xs, e, r⟩ := R.obj n _ a h ha
  refine ⟨a, xs, rfl, .inl ⟨.inl e, ?_⟩, Up.kill.relL r⟩
  rintro ⟨m, q, h1, h2⟩
  by_cases z : n = m
  · subst z
    rw [List.getElem?_set_self (List.getElem?_eq_some_iff.mp h).1] at h1; cases h1
  · rw [List.getElem?_set_ne z] at h1
    exact z (R.inj n m _ _ a h h1 ha h2)
end

/-! ### the readings that a mirror gives -/
/-- an exception: its class, its fields -/
def ExcR (K : PySem.W.Frag) (mg : Str → Option Value) (H : Hp) (A : Addr → Prop) (ρ : List Addr) (c : Str) (fs : List (Str × D)) (cls : Value) (dx : Option Addr) : Prop :=
  ∃ (C dd : Addr) (ys : List (Str × V)), mg c = some (.ref C) ∧ cls = .ref C ∧ dx = some dd ∧ H dd = some (.xd ys) ∧ ∀ p ∈ fs, ∃ v, ys.lookup p.1 = some v ∧ RelD K H A ρ v p.2
abbrev EM := En → Sto → Res D
abbrev TM := En → Sto → Res Bool
abbrev LM := En → Sto → Res (List D)
abbrev SM := En → Sto → SR
/-- what is wanted behind an expression: of a value, of an exception -/
def PostX (K : PySem.W.Frag) (mg : Str → Option Value) (W : WX) (ρ : List Addr) (σ : St) (H : Hp) (S : Sto) : Str → List (Str × D) → Sto → Prop := fun c fs S' =>
  ∀ ρ' H' cls dx, RS K ρ' H' S' → Up K ρ H S ρ' H' S' → ExcR K mg H' (Al ρ' S') ρ' c fs cls dx → W cls dx σ H'
def PostV (K : PySem.W.Frag) (ρ : List Addr) (H : Hp) (S : Sto) (Q : VK) : D → Sto → Prop := fun d S' => ∀ ρ' v H', RS K ρ' H' S' → Up K ρ H S ρ' H' S' → RelD K H' (Al ρ' S') ρ' v d → Q v H'
def PostL (K : PySem.W.Frag) (ρ : List Addr) (H : Hp) (S : Sto) (Q : List V → Hp → Prop) : List D → Sto → Prop := fun ds S' => ∀ ρ' vs H', RS K ρ' H' S' → Up K ρ H S ρ' H' S' → RelL K H' (Al ρ' S') ρ' vs ds → Q vs H'
def PostB (K : PySem.W.Frag) (ρ : List Addr) (H : Hp) (S : Sto) (Q : Bool → Hp → Prop) : Bool → Sto → Prop := fun b S' => ∀ ρ' H', RS K ρ' H' S' → Up K ρ H S ρ' H' S' → Q b H'
/-- .. behind one that gives a new list -/
def PostF (K : PySem.W.Frag) (ρ : List Addr) (H : Hp) (S : Sto) (Q : VK) : List D → Sto → Prop := fun ds S' => ∀ ρ' p xs H' H2, RS K ρ' H' S' → Up K ρ H S ρ' H' S' → RelL K H' (Al ρ' S') ρ' xs ds → H' p = none → Same H' H2 → H2 p = some (.lst xs) → Q (.ref p) H2
section
variable (K : PySem.W.Frag) (mg : Str → Option Value) (W : WX)
def tE (m : EM) : TE := fun σ H Q => ∃ ρ env S, RS K ρ H S ∧ RV K ρ σ H S env ∧ wpM (m env S) (PostV K ρ H S Q) (PostX K mg W ρ σ H S)
def tT (m : TM) : TT := fun σ H Q => ∃ ρ env S, RS K ρ H S ∧ RV K ρ σ H S env ∧ wpM (m env S) (PostB K ρ H S Q) (PostX K mg W ρ σ H S)
def tA (m : LM) : TA := fun σ H Q => ∃ ρ env S, RS K ρ H S ∧ RV K ρ σ H S env ∧ wpM (m env S) (PostL K ρ H S Q) (PostX K mg W ρ σ H S)
def tF (m : LM) : TE := fun σ H Q => ∃ ρ env S, RS K ρ H S ∧ RV K ρ σ H S env ∧ wpM (m env S) (PostF K ρ H S Q) (PostX K mg W ρ σ H S)
/-- what is wanted behind a statement -/
def wpS (ρ : List Addr) (H : Hp) (S : Sto) (Dn : Ends) : SR → Prop
  | .nx env S' => ∀ ρ' σ' H', RS K ρ' H' S' → RV K ρ' σ' H' S' env → Up K ρ H S ρ' H' S' → Dn.nx σ' H'
  | .brk env S' => ∀ ρ' σ' H', RS K ρ' H' S' → RV K ρ' σ' H' S' env → Up K ρ H S ρ' H' S' → Dn.bk σ' H'
  | .ct env S' => ∀ ρ' σ' H', RS K ρ' H' S' → RV K ρ' σ' H' S' env → Up K ρ H S ρ' H' S' → Dn.ct σ' H'
  | .ret d S' => ∀ ρ' v H', RS K ρ' H' S' → Up K ρ H S ρ' H' S' → RelD K H' (Al ρ' S') ρ' v d → Dn.rt v H'
  | .exc c fs env S' => ∀ ρ' σ' H' cls dx, RS K ρ' H' S' → RV K ρ' σ' H' S' env → Up K ρ H S ρ' H' S' → ExcR K mg H' (Al ρ' S') ρ' c fs cls dx → W cls dx σ' H'
  | .err => False
def tS (m : SM) : TS := fun Dn σ H => ∃ ρ env S, RS K ρ H S ∧ RV K ρ σ H S env ∧ wpS K mg W ρ H S Dn (m env S)
end
end Y
open PySem PySem.Spec L2 in
theorem L2.PE.imp {X : Cx} {e : Expr} {t t' : TE} (h : PE X e t) (i : ∀ σ H Q, t' σ H Q → t σ H Q) : PE X e t' := ⟨fun pins s σ H Q I q => h.run pins s σ H Q I (i σ H Q q)⟩
open PySem PySem.Spec L2 in
theorem L2.PT.imp {X : Cx} {e : Expr} {t t' : TT} (h : PT X e t) (i : ∀ σ H Q, t' σ H Q → t σ H Q) : PT X e t' := ⟨fun pins s σ H Q I q => h.run pins s σ H Q I (i σ H Q q)⟩
open PySem PySem.Spec L2 in
theorem L2.PW.imp {X : Cx} {e : Expr} {t t' : TT} (h : PW X e t) (i : ∀ σ H Q, t' σ H Q → t σ H Q) : PW X e t' := ⟨fun wh pins s σ H Q I q => h.run wh pins s σ H Q I (i σ H Q q)⟩
open PySem PySem.Spec L2 in
theorem L2.PA.imp {X : Cx} {es : List Expr} {t t' : TA} (h : PA X es t) (i : ∀ σ H Q, t' σ H Q → t σ H Q) : PA X es t' := ⟨fun pos pins s σ H Q I q => h.run pos pins s σ H Q I (i σ H Q q)⟩
open PySem PySem.Spec L2 in
theorem L2.PS.imp {X : Cx} {st : Stmt} {t t' : TS} (h : PS X st t) (i : ∀ Dn σ H, t' Dn σ H → t Dn σ H) : PS X st t' := ⟨fun pins s σ H Dn I q => h.run pins s σ H Dn I (i Dn σ H q)⟩
open PySem PySem.Spec L2 in
theorem L2.PSs.imp {X : Cx} {st : List Stmt} {t t' : TS} (h : PSs X st t) (i : ∀ Dn σ H, t' Dn σ H → t Dn σ H) : PSs X st t' := ⟨fun pins s σ H Dn I q => h.run pins s σ H Dn I (i Dn σ H q)⟩

set_option Elab.async false
set_option linter.all false
set_option maxRecDepth 100000
set_option maxHeartbeats 4000000
namespace Y
open PySem PySem.Spec L2

section
variable {K : PySem.W.Frag} {mg : Str → Option Value} {W : WX} {H H1 : Hp} {ρ ρ1 : List Addr} {S S1 S' : Sto} {σ : L2.St} {d : D} {ds : List D} {b : Bool} {Q : VK} {c : Str} {fs : List (Str × D)}
theorem PostV.up (u : Up K ρ H S ρ1 H1 S1) (h : PostV K ρ H S Q d S') : PostV K ρ1 H1 S1 Q d S' := fun ρ' v H' r u' q => h ρ' v H' r (u.trans u') q
theorem PostL.up {Q : List V → Hp → Prop} (u : Up K ρ H S ρ1 H1 S1) (h : PostL K ρ H S Q ds S') : PostL K ρ1 H1 S1 Q ds S' := fun ρ' v H' r u' q => h ρ' v H' r (u.trans u') q
theorem PostB.up {Q : Bool → Hp → Prop} (u : Up K ρ H S ρ1 H1 S1) (h : PostB K ρ H S Q b S') : PostB K ρ1 H1 S1 Q b S' := fun ρ' H' r u' => h ρ' H' r (u.trans u')
theorem PostF.up (u : Up K ρ H S ρ1 H1 S1) (h : PostF K ρ H S Q ds S') : PostF K ρ1 H1 S1 Q ds S' := fun ρ' p xs H' H2 r u' => h ρ' p xs H' H2 r (u.trans u')
theorem PostX.up (u : Up K ρ H S ρ1 H1 S1) (h : PostX K mg W ρ σ H S c fs S') : PostX K mg W ρ1 σ H1 S1 c fs S' := fun ρ' H' cls dx r u' q => h ρ' H' cls dx r (u.trans u') q
/-- a value that comes by itself -/
theorem PostV.same {H' : Hp} {v : V} (h : PostV K ρ H S Q d S) (R : RS K ρ H S) (s : Same H H') (r : RelD K H' (Al ρ S) ρ v d) : Q v H' := h ρ v H' (R.same s) (Up.same s) r
/-- an expression, then what follows -/
theorem tE_seq {m : EM} {env : En} {R : VK} (h1 : RS K ρ H S) (h2 : RV K ρ σ H S env) (h : wpM (m env S) (fun d S1 => ∀ ρ1 v H1, RS K ρ1 H1 S1 → RV K ρ1 σ H1 S1 env → Up K ρ H S ρ1 H1 S1 → RelD K H1 (Al ρ1 S1) ρ1 v d → R v H1) (PostX K mg W ρ σ H S)) : tE K mg W m σ H R :=
  ⟨ρ, env, S, h1, h2, wpM_mono h (fun d S1 q ρ1 v H1 r u k => q ρ1 v H1 r (u.rv h2) u k) fun _ _ _ q => q⟩
theorem tA_seq {m : LM} {env : En} {R : List V → Hp → Prop} (h1 : RS K ρ H S) (h2 : RV K ρ σ H S env) (h : wpM (m env S) (fun ds S1 => ∀ ρ1 vs H1, RS K ρ1 H1 S1 → RV K ρ1 σ H1 S1 env → Up K ρ H S ρ1 H1 S1 → RelL K H1 (Al ρ1 S1) ρ1 vs ds → R vs H1) (PostX K mg W ρ σ H S)) : tA K mg W m σ H R :=
  ⟨ρ, env, S, h1, h2, wpM_mono h (fun d S1 q ρ1 v H1 r u k => q ρ1 v H1 r (u.rv h2) u k) fun _ _ _ q => q⟩
theorem tT_seq {m : TM} {env : En} {R : Bool → Hp → Prop} (h1 : RS K ρ H S) (h2 : RV K ρ σ H S env) (h : wpM (m env S) (fun b S1 => ∀ ρ1 H1, RS K ρ1 H1 S1 → RV K ρ1 σ H1 S1 env → Up K ρ H S ρ1 H1 S1 → R b H1) (PostX K mg W ρ σ H S)) : tT K mg W m σ H R :=
  ⟨ρ, env, S, h1, h2, wpM_mono h (fun d S1 q ρ1 H1 r u => q ρ1 H1 r (u.rv h2) u) fun _ _ _ q => q⟩
end
def lf {α : Type} (o : Option α) (S : Sto) : Res α := match o with
  | some a => .ok a S
  | none => .err
theorem wpM_lf {α : Type} {o : Option α} {S : Sto} {Q : α → Sto → Prop} {E : Str → List (Str × D) → Sto → Prop} (h : wpM (lf o S) Q E) : ∃ a, o = some a ∧ Q a S := by
  cases o with
  | none => exact h.elim
  | some a => exact ⟨a, rfl, h⟩

/-! ### names, constants -/
def vr (i : Nat) : EM := fun env S => match env[i]? with
  | some (some d) => .ok d S
  | _ => .err
def ct (d : D) : EM := fun _ S => .ok d S
section
variable {X : Cx} {W : WX} {pos : Pos}
theorem y_vr (i : Nat) {x : Str} (hN : X.N[i]? = some x := by rfl) (hv : Vis X.env.scope x := by first | exact Or.inl rfl | exact Or.inr (Or.inl rfl) | exact Or.inr (Or.inr rfl)) (hd : (x == ("__debug__" : Str)) = false := by decide)
    (hcd : (x == ("__classdict__" : Str)) = false := by decide) : PE X (.Name x pos) (tE X.K X.mg W (vr i)) := by
  refine (pe_var hN hv hd hcd).imp fun σ H Q h => ?_
  obtain ⟨ρ, env, S, R, V, w⟩ := h
  unfold vr at w
  cases e : env[i]? with
  | none => rw [e] at w; exact w.elim
  | some o =>
    cases o with
    | none => rw [e] at w; exact w.elim
    | some d =>
      rw [e] at w
      obtain ⟨v, e1, r⟩ := V.2 i d e
      exact ⟨v, e1, w.same R (Same.refl H) r⟩
theorem ct_imp {v : V} {d : D} (h : ∀ K H A ρ, RelD K H A ρ v d) : ∀ σ H Q, tE X.K X.mg W (ct d) σ H Q → tC v σ H Q := fun σ H Q ⟨ρ, env, S, R, V, w⟩ => PostV.same (show PostV X.K ρ H S Q d S from w) R (Same.refl H) (h _ _ _ _)
theorem y_int {i j} : PE X (.Constant (.int i) j pos) (tE X.K X.mg W (ct (.int i))) := pe_int.imp (ct_imp fun _ _ _ _ => rfl)
theorem y_bl {b j} : PE X (.Constant (.bool b) j pos) (tE X.K X.mg W (ct (.bl b))) := pe_bl.imp (ct_imp fun _ _ _ _ => rfl)
theorem y_non {j} : PE X (.Constant .none j pos) (tE X.K X.mg W (ct .non)) := pe_non.imp (ct_imp fun _ _ _ _ => rfl)
theorem y_str {x j} : PE X (.Constant (.str x) j pos) (tE X.K X.mg W (ct (.str x))) := pe_str.imp (ct_imp fun _ _ _ _ => rfl)
theorem y_globI {x : Str} {i : Int} (hm : ∃ t, X.mg x = some (.int i t)) (hg : Gl X x := by rfl) (hd : (x == ("__debug__" : Str)) = false := by decide) : PE X (.Name x pos) (tE X.K X.mg W (ct (.int i))) := by
  obtain ⟨t, h⟩ := hm
  exact (pe_glob (v := .int i) hg h ⟨t, rfl⟩ hd).imp (ct_imp fun _ _ _ _ => rfl)
theorem y_globS {x : Str} {s : Str} (hm : ∃ t, X.mg x = some (.str s t)) (hg : Gl X x := by rfl) (hd : (x == ("__debug__" : Str)) = false := by decide) : PE X (.Name x pos) (tE X.K X.mg W (ct (.str s))) := by
  obtain ⟨t, h⟩ := hm
  exact (pe_glob (v := .str s) hg h ⟨t, rfl⟩ hd).imp (ct_imp fun _ _ _ _ => rfl)
end

/-! ### operators on values -/
def op2 (f : Sto → D → D → Option D) (a b : EM) : EM := fun env S => bd (a env S) fun x S1 => bd (b env S1) fun y S2 => lf (f S2 x y) S2
def op1 (f : Sto → D → Option D) (a : EM) : EM := fun env S => bd (a env S) fun x S1 => lf (f S1 x) S1
/-- f tells what the rule r needs -/
def OpS (K : PySem.W.Frag) (r : R2) (f : Sto → D → D → Option D) : Prop := ∀ (ρ : List Addr) (H : Hp) (S : Sto) (x y d : D) (v u : V) (Q : VK), RS K ρ H S → RelD K H (Al ρ S) ρ v x → RelD K H (Al ρ S) ρ u y → f S x y = some d →
  (∀ w H', Same H H' → RelD K H' (Al ρ S) ρ w d → Q w H') → r v u H Q
def UnS (K : PySem.W.Frag) (r : V → Hp → VK → Prop) (f : Sto → D → Option D) : Prop := ∀ (ρ : List Addr) (H : Hp) (S : Sto) (x d : D) (v : V) (Q : VK), RS K ρ H S → RelD K H (Al ρ S) ρ v x → f S x = some d →
  (∀ w H', Same H H' → RelD K H' (Al ρ S) ρ w d → Q w H') → r v H Q
section
variable {X : Cx} {W : WX} {pos : Pos} {a b c : Expr} {ma mb mc : EM}
theorem op2_imp {r : R2} {f : Sto → D → D → Option D} (hf : OpS X.K r f) : ∀ σ H Q, tE X.K X.mg W (op2 f ma mb) σ H Q → tOp r (tE X.K X.mg W ma) (tE X.K X.mg W mb) σ H Q := fun σ H Q ⟨ρ, env, S, R, V, w⟩ => by
  refine tE_seq R V (wpM_mono (wpM_bd w) (fun x S1 w1 ρ1 v H1 R1 V1 U1 r1 => ?_) fun _ _ _ q => q)
  refine tE_seq R1 V1 (wpM_mono (wpM_bd w1) (fun y S2 w2 ρ2 u H2 R2 V2 U2 r2 => ?_) fun _ _ _ q => q.up U1)
  obtain ⟨d, e, q⟩ := wpM_lf w2
  exact hf ρ2 H2 S2 x y d v u Q R2 (U2.relD r1) r2 e fun w' H' s k => q ρ2 w' H' (R2.same s) ((U1.trans U2).trans (Up.same s)) k
theorem op1_imp {r : V → Hp → VK → Prop} {f : Sto → D → Option D} (hf : UnS X.K r f) : ∀ σ H Q, tE X.K X.mg W (op1 f ma) σ H Q → tUn r (tE X.K X.mg W ma) σ H Q := fun σ H Q ⟨ρ, env, S, R, V, w⟩ => by
  refine tE_seq R V (wpM_mono (wpM_bd w) (fun x S1 w1 ρ1 v H1 R1 V1 U1 r1 => ?_) fun _ _ _ q => q)
  obtain ⟨d, e, q⟩ := wpM_lf w1
  exact hf ρ1 H1 S1 x d v Q R1 r1 e fun w' H' s k => q ρ1 w' H' (R1.same s) (U1.trans (Up.same s)) k
theorem y_op {op : Operator} {r : R2} {f : Sto → D → D → Option D} (ho : OpR X (binaryOp op) r) (hf : OpS X.K r f) (ha : PE X a (tE X.K X.mg W ma)) (hb : PE X b (tE X.K X.mg W mb)) : PE X (.BinOp a op b pos) (tE X.K X.mg W (op2 f ma mb)) :=
  (pe_op ho ha hb).imp (op2_imp hf)
theorem y_un {op : UnaryOp} {r : V → Hp → VK → Prop} {f : Sto → D → Option D} (ho : UnR X (unaryOp op) r) (hf : UnS X.K r f) (ha : PE X a (tE X.K X.mg W ma)) : PE X (.UnaryOp op a pos) (tE X.K X.mg W (op1 f ma)) :=
  (pe_un ho ha).imp (op1_imp hf)
theorem y_ix {r : R2} {f : Sto → D → D → Option D} (ho : IxR X r) (hf : OpS X.K r f) (ha : PE X a (tE X.K X.mg W ma)) (hb : PE X b (tE X.K X.mg W mb)) (hs : PlainIx b := by exact fun _ _ => rfl) : PE X (.Subscript a b pos) (tE X.K X.mg W (op2 f ma mb)) :=
  (pe_ix ho ha hb hs).imp (op2_imp hf)
theorem y_cmp {op : CmpOp} {r : R2} {f : Sto → D → D → Option D} (ho : OpR X (compareOp op) r) (hf : OpS X.K r f) (ha : PE X a (tE X.K X.mg W ma)) (hb : PE X b (tE X.K X.mg W mb)) (hm : behindInMarks op b = false := by first | exact nomark _ | with_unfolding_all rfl) :
    PE X (.Compare a [op] [b] pos) (tE X.K X.mg W (op2 f ma mb)) := (pe_cmpR ho ha hb hm).imp (op2_imp hf)
/-! tests -/
/-- a mirror whose value is a bool, as a test -/
def asT (m : EM) : TM := fun env S => bd (m env S) fun x S1 => match x with
  | .bl b => .ok b S1
  | _ => .err
theorem asT_imp {m : EM} {t : TE} (h : ∀ σ H Q, tE X.K X.mg W m σ H Q → t σ H Q) : ∀ σ H Q, tT X.K X.mg W (asT m) σ H Q → tTest t σ H Q := fun σ H Q ⟨ρ, env, S, R, V, w⟩ => by
  refine h σ H _ (tE_seq R V (wpM_mono (wpM_bd w) (fun x S1 w1 ρ1 v H1 R1 V1 U1 r1 => ?_) fun _ _ _ q => q))
  cases x with
  | bl k => exact ⟨k, r1, w1 ρ1 H1 R1 U1⟩
  | _ => exact w1.elim
theorem y_tcmp {op : CmpOp} {r : R2} {f : Sto → D → D → Option D} (ho : OpR X (compareOp op) r) (hf : OpS X.K r f) (ha : PE X a (tE X.K X.mg W ma)) (hb : PE X b (tE X.K X.mg W mb)) (hm : behindInMarks op b = false := by first | exact nomark _ | with_unfolding_all rfl) :
    PT X (.Compare a [op] [b] pos) (tT X.K X.mg W (asT (op2 f ma mb))) := (pt_cmpR ho ha hb hm).imp (asT_imp (op2_imp hf))
/-- a op1 b op2 c -/
def chn (f g : Sto → D → D → Option D) (a b c : EM) : EM := fun env S => bd (a env S) fun x S1 => bd (b env S1) fun y S2 => bd (lf (f S2 x y) S2) fun k S3 => match k with
  | .bl true => bd (c env S3) fun z S4 => lf (g S4 y z) S4
  | .bl false => .ok (.bl false) S3
  | _ => .err
theorem chn_imp {r r' : R2} {f g : Sto → D → D → Option D} (hf : OpS X.K r f) (hg : OpS X.K r' g) : ∀ σ H Q, tE X.K X.mg W (chn f g ma mb mc) σ H Q → tChain r r' (tE X.K X.mg W ma) (tE X.K X.mg W mb) (tE X.K X.mg W mc) σ H Q := fun σ H Q ⟨ρ, env, S, R, V, w⟩ => by
  refine tE_seq R V (wpM_mono (wpM_bd w) (fun x S1 w1 ρ1 v H1 R1 V1 U1 r1 => ?_) fun _ _ _ q => q)
  refine tE_seq R1 V1 (wpM_mono (wpM_bd w1) (fun y S2 w2 ρ2 u H2 R2 V2 U2 r2 => ?_) fun _ _ _ q => q.up U1)
  obtain ⟨k, e, w3⟩ := wpM_lf (wpM_bd w2)
  have U := U1.trans U2
  refine hf ρ2 H2 S2 x y k v u _ R2 (U2.relD r1) r2 e fun z H3 s rk => ?_
  have U3 : Up X.K ρ2 H2 S2 ρ2 H3 S2 := Up.same s
  cases k with
  | bl k =>
    refine ⟨k, rk, ?_⟩
    cases k with
    | false =>
      rw [if_neg Bool.false_ne_true]
      exact w3 ρ2 (.bl false) H3 (R2.same s) (U.trans U3) rfl
    | true =>
      rw [if_pos rfl]
      refine tE_seq (R2.same s) (U3.rv V2) (wpM_mono (wpM_bd w3) (fun z' S4 w4 ρ4 t H4 R4 V4 U4 r4 => ?_) fun _ _ _ q => q.up (U.trans U3))
      obtain ⟨d, e2, q⟩ := wpM_lf w4
      exact hg ρ4 H4 S4 y z' d u t Q R4 ((U3.trans U4).relD r2) r4 e2 fun w' H' s' k' => q ρ4 w' H' (R4.same s') (((U.trans U3).trans U4).trans (Up.same s')) k'
  | _ => exact w3.elim
theorem y_chn {op op' : CmpOp} {r r' : R2} {f g : Sto → D → D → Option D} (ho : OpR X (compareOp op) r) (hf : OpS X.K r f) (ho' : OpR X (compareOp op') r') (hg : OpS X.K r' g) (ha : PE X a (tE X.K X.mg W ma)) (hb : PE X b (tE X.K X.mg W mb)) (hc : PE X c (tE X.K X.mg W mc))
    (hm : lastMarks [op, op'] [b, c] = false := by with_unfolding_all rfl) : PE X (.Compare a [op, op'] [b, c] pos) (tE X.K X.mg W (chn f g ma mb mc)) := (pe_chain ho ho' ha hb hc hm).imp (chn_imp hf hg)
theorem y_tchn {op op' : CmpOp} {r r' : R2} {f g : Sto → D → D → Option D} (ho : OpR X (compareOp op) r) (hf : OpS X.K r f) (ho' : OpR X (compareOp op') r') (hg : OpS X.K r' g) (ha : PE X a (tE X.K X.mg W ma)) (hb : PE X b (tE X.K X.mg W mb)) (hc : PE X c (tE X.K X.mg W mc))
    (hm : lastMarks [op, op'] [b, c] = false := by with_unfolding_all rfl) : PT X (.Compare a [op, op'] [b, c] pos) (tT X.K X.mg W (asT (chn f g ma mb mc))) := (pt_chain ho ho' ha hb hc hm).imp (asT_imp (chn_imp hf hg))
/-- truth of a value -/
def tru (S : Sto) : D → Option Bool
  | .non => some false
  | .bl b => some b
  | .int i => some (i != 0)
  | .str s => if s.length ≤ sizeLine then some (s.length != 0) else none
  | .tup ds => some (!ds.isEmpty)
  | .lst ds => some (!ds.isEmpty)
  | .ref n => match S[n]? with
    | some (some (.lst ds)) => some (!ds.isEmpty)
    | _ => none
theorem relL_empty {K : PySem.W.Frag} {H : Hp} {A : Addr → Prop} {ρ : List Addr} {xs : List V} {ds : List D} (h : RelL K H A ρ xs ds) : (!ds.isEmpty) = !xs.isEmpty := by
  have e := h.length
  cases xs <;> cases ds <;> first | rfl | simp at e
theorem tru_ok' {K : PySem.W.Frag} {ρ : List Addr} {H : Hp} {S : Sto} {d : D} {v : V} {k : Bool} (R : RS K ρ H S) (r : RelD K H (Al ρ S) ρ v d) (h : tru S d = some k) : TruV K v H k := by
  cases d with
  | non =>
    have r' : v = .non := r
    have h' : some false = some k := h
    cases h'; subst r'; rfl
  | bl b =>
    have r' : v = .bl b := r
    have h' : some b = some k := h
    cases h'; subst r'; rfl
  | int i =>
    have r' : v = .int i := r
    have h' : some (i != 0) = some k := h
    cases h'; subst r'; rfl
  | str s =>
    have r' : v = .str s := r
    subst r'
    simp only [tru] at h
    split at h
    · rename_i hl
      cases h
      refine ⟨hl, ?_⟩
      rw [Bool.eq_iff_iff]; simp
    · cases h
  | tup ds =>
    obtain ⟨a, xs, e, h1, h2⟩ := r
    have h' : some (!ds.isEmpty) = some k := h
    cases h'; subst e
    exact .inr (.inl ⟨xs, h1, relL_empty h2⟩)
  | lst ds =>
    obtain ⟨a, xs, e, h1, h2⟩ := r
    have h' : some (!ds.isEmpty) = some k := h
    cases h'; subst e
    exact .inl ⟨xs, h1.sq, relL_empty h2⟩
  | ref n =>
    obtain ⟨a, e, h1⟩ := r
    subst e
    simp only [tru] at h
    split at h
    · rename_i ds hS
      cases h
      obtain ⟨xs, e1, r1⟩ := R.obj n _ a hS h1
      exact .inl ⟨xs, .inl (.inl e1), relL_empty r1⟩
    · cases h
def trt (m : EM) : TM := fun env S => bd (m env S) fun x S1 => lf (tru S1 x) S1
theorem y_truth (ha : PE X a (tE X.K X.mg W ma)) (he : ∀ whole, isTrue a X.env whole = (do let v ← whole; standAt a.pos; holding [v] (truthy v)) := by intro _; rfl) : PT X a (tT X.K X.mg W (trt ma)) :=
  (pt_truth ha he).imp fun σ H Q ⟨ρ, env, S, R, V, w⟩ => tE_seq R V (wpM_mono (wpM_bd w) (fun x S1 w1 ρ1 v H1 R1 V1 U1 r1 => by
    obtain ⟨k, e, q⟩ := wpM_lf w1
    exact ⟨k, tru_ok' R1 r1 e, q ρ1 H1 R1 U1⟩) fun _ _ _ q => q)
def notT (m : TM) : TM := fun env S => bd (m env S) fun b S1 => .ok (!b) S1
def andT (m n : TM) : TM := fun env S => bd (m env S) fun b S1 => match b with
  | true => n env S1
  | false => .ok false S1
def orT (m n : TM) : TM := fun env S => bd (m env S) fun b S1 => match b with
  | true => .ok true S1
  | false => n env S1
variable {ta tb : TM} {rest : List Expr}
theorem y_tnot (ha : PT X a (tT X.K X.mg W ta)) : PT X (.UnaryOp .Not a pos) (tT X.K X.mg W (notT ta)) :=
  (pt_not ha).imp fun σ H Q ⟨ρ, env, S, R, V, w⟩ => tT_seq R V (wpM_mono (wpM_bd w) (fun x S1 w1 ρ1 H1 R1 V1 U1 => w1 ρ1 H1 R1 U1) fun _ _ _ q => q)
theorem y_tand1 (ha : PT X a (tT X.K X.mg W ta)) : PW X (.BoolOp .And [a] pos) (tT X.K X.mg W ta) := pw_and1 ha
theorem y_tor1 (ha : PT X a (tT X.K X.mg W ta)) : PW X (.BoolOp .Or [a] pos) (tT X.K X.mg W ta) := pw_or1 ha
theorem y_tand (ha : PT X a (tT X.K X.mg W ta)) (hb : PW X (.BoolOp .And (b :: rest) pos) (tT X.K X.mg W tb)) : PW X (.BoolOp .And (a :: b :: rest) pos) (tT X.K X.mg W (andT ta tb)) :=
  (pw_and ha hb).imp fun σ H Q ⟨ρ, env, S, R, V, w⟩ => tT_seq R V (wpM_mono (wpM_bd w) (fun x S1 w1 ρ1 H1 R1 V1 U1 => by
    cases x with
    | true => exact iteT (tT_seq R1 V1 (wpM_mono w1 (fun y S2 w2 ρ2 H2 R2 V2 U2 => w2 ρ2 H2 R2 (U1.trans U2)) fun _ _ _ q => q.up U1))
    | false => exact iteF (w1 ρ1 H1 R1 U1)) fun _ _ _ q => q)
theorem y_tor (ha : PT X a (tT X.K X.mg W ta)) (hb : PW X (.BoolOp .Or (b :: rest) pos) (tT X.K X.mg W tb)) : PW X (.BoolOp .Or (a :: b :: rest) pos) (tT X.K X.mg W (orT ta tb)) :=
  (pw_or ha hb).imp fun σ H Q ⟨ρ, env, S, R, V, w⟩ => tT_seq R V (wpM_mono (wpM_bd w) (fun x S1 w1 ρ1 H1 R1 V1 U1 => by
    cases x with
    | false => exact iteF (tT_seq R1 V1 (wpM_mono w1 (fun y S2 w2 ρ2 H2 R2 V2 U2 => w2 ρ2 H2 R2 (U1.trans U2)) fun _ _ _ q => q.up U1))
    | true => exact iteT (w1 ρ1 H1 R1 U1)) fun _ _ _ q => q)
/-! values -/
def notV (m : TM) : EM := fun env S => bd (m env S) fun b S1 => .ok (.bl (!b)) S1
def andV (m n : EM) : EM := fun env S => bd (m env S) fun x S1 => bd (lf (tru S1 x) S1) fun k S2 => match k with
  | true => n env S2
  | false => .ok x S2
def orV (m n : EM) : EM := fun env S => bd (m env S) fun x S1 => bd (lf (tru S1 x) S1) fun k S2 => match k with
  | true => .ok x S2
  | false => n env S2
theorem y_one {op} (h : PE X a (tE X.K X.mg W ma)) : PE X (.BoolOp op [a] pos) (tE X.K X.mg W ma) := pe_one h
theorem y_and (ha : PE X a (tE X.K X.mg W ma)) (hb : PE X (.BoolOp .And (b :: rest) pos) (tE X.K X.mg W mb)) : PE X (.BoolOp .And (a :: b :: rest) pos) (tE X.K X.mg W (andV ma mb)) :=
  (pe_andT ha hb).imp fun σ H Q ⟨ρ, env, S, R, V, w⟩ => tE_seq R V (wpM_mono (wpM_bd w) (fun x S1 w1 ρ1 v H1 R1 V1 U1 r1 => by
    obtain ⟨k, e, w2⟩ := wpM_lf (wpM_bd w1)
    refine ⟨k, tru_ok' R1 r1 e, ?_⟩
    cases k with
    | true => exact iteT (tE_seq R1 V1 (wpM_mono w2 (fun y S2 w2 ρ2 u H2 R2 V2 U2 r2 => w2 ρ2 u H2 R2 (U1.trans U2) r2) fun _ _ _ q => q.up U1))
    | false => exact iteF (w2 ρ1 v H1 R1 U1 r1)) fun _ _ _ q => q)
theorem y_or (ha : PE X a (tE X.K X.mg W ma)) (hb : PE X (.BoolOp .Or (b :: rest) pos) (tE X.K X.mg W mb)) : PE X (.BoolOp .Or (a :: b :: rest) pos) (tE X.K X.mg W (orV ma mb)) :=
  (pe_orT ha hb).imp fun σ H Q ⟨ρ, env, S, R, V, w⟩ => tE_seq R V (wpM_mono (wpM_bd w) (fun x S1 w1 ρ1 v H1 R1 V1 U1 r1 => by
    obtain ⟨k, e, w2⟩ := wpM_lf (wpM_bd w1)
    refine ⟨k, tru_ok' R1 r1 e, ?_⟩
    cases k with
    | false => exact iteF (tE_seq R1 V1 (wpM_mono w2 (fun y S2 w2 ρ2 u H2 R2 V2 U2 r2 => w2 ρ2 u H2 R2 (U1.trans U2) r2) fun _ _ _ q => q.up U1))
    | true => exact iteT (w2 ρ1 v H1 R1 U1 r1)) fun _ _ _ q => q)
def notE (m : EM) : EM := fun env S => bd (m env S) fun x S1 => bd (lf (tru S1 x) S1) fun k S2 => .ok (.bl (!k)) S2
theorem y_not (ha : PE X a (tE X.K X.mg W ma)) : PE X (.UnaryOp .Not a pos) (tE X.K X.mg W (notE ma)) :=
  (pe_notT ha).imp fun σ H Q ⟨ρ, env, S, R, V, w⟩ => tE_seq R V (wpM_mono (wpM_bd w) (fun x S1 w1 ρ1 v H1 R1 V1 U1 r1 => by
    obtain ⟨k, e, w2⟩ := wpM_lf (wpM_bd w1)
    exact ⟨k, tru_ok' R1 r1 e, w2 ρ1 (.bl (!k)) H1 R1 U1 rfl⟩) fun _ _ _ q => q)
def ifE (c : TM) (a b : EM) : EM := fun env S => bd (c env S) fun k S1 => match k with
  | true => a env S1
  | false => b env S1
theorem y_if {mt : TM} (hc : PT X c (tT X.K X.mg W mt)) (ha : PE X a (tE X.K X.mg W ma)) (hb : PE X b (tE X.K X.mg W mb)) : PE X (.IfExp c a b pos) (tE X.K X.mg W (ifE mt ma mb)) :=
  (pe_ifExp hc ha hb).imp fun σ H Q ⟨ρ, env, S, R, V, w⟩ => tT_seq R V (wpM_mono (wpM_bd w) (fun x S1 w1 ρ1 H1 R1 V1 U1 => by
    cases x with
    | true => exact iteT (tE_seq R1 V1 (wpM_mono w1 (fun y S2 w2 ρ2 u H2 R2 V2 U2 r2 => w2 ρ2 u H2 R2 (U1.trans U2) r2) fun _ _ _ q => q.up U1))
    | false => exact iteF (tE_seq R1 V1 (wpM_mono w1 (fun y S2 w2 ρ2 u H2 R2 V2 U2 r2 => w2 ρ2 u H2 R2 (U1.trans U2) r2) fun _ _ _ q => q.up U1))) fun _ _ _ q => q)
end

/-! ### arguments, displays -/
def lnil : LM := fun _ S => .ok [] S
def lcons (a : EM) (r : LM) : LM := fun env S => bd (a env S) fun x S1 => bd (r env S1) fun xs S2 => .ok (x :: xs) S2
/-- a tuple -/
def tupE (l : LM) : EM := fun env S => bd (l env S) fun xs S1 => if xs.length ≤ sizeLine then .ok (.tup xs) S1 else .err
def lstF (l : LM) : LM := fun env S => bd (l env S) fun xs S1 => if xs.length ≤ sizeLine then .ok xs S1 else .err
/-- a new list that nobody will change, one that is to change -/
def frz (l : LM) : EM := fun env S => bd (l env S) fun xs S1 => .ok (.lst xs) S1
def new (l : LM) : EM := fun env S => bd (l env S) fun xs S1 => .ok (.ref S1.length) (S1 ++ [some (.lst xs)])
section
variable {X : Cx} {W : WX} {pos : Pos} {e : Expr} {es : List Expr} {m : EM} {l : LM}
theorem y_nil : PA X [] (tA X.K X.mg W lnil) := pa_nil.imp fun σ H Q ⟨ρ, env, S, R, V, w⟩ => (show PostL X.K ρ H S Q [] S from w) ρ [] H R Up.refl rfl
theorem y_cons (ha : PE X e (tE X.K X.mg W m)) (hr : PA X es (tA X.K X.mg W l)) (hs : starEach (e :: es) X.env = (false, eval e X.env) :: starEach es X.env := by rfl) : PA X (e :: es) (tA X.K X.mg W (lcons m l)) :=
  (pa_cons ha hr hs).imp fun σ H Q ⟨ρ, env, S, R, V, w⟩ => tE_seq R V (wpM_mono (wpM_bd w) (fun x S1 w1 ρ1 v H1 R1 V1 U1 r1 =>
    tA_seq R1 V1 (wpM_mono (wpM_bd w1) (fun xs S2 w2 ρ2 vs H2 R2 V2 U2 r2 => w2 ρ2 (v :: vs) H2 R2 (U1.trans U2) (RelL.cons (U2.relD r1) r2)) fun _ _ _ q => q.up U1)) fun _ _ _ q => q)
theorem y_tup {k} (h : PA X es (tA X.K X.mg W l)) : PE X (.Tuple es k pos) (tE X.K X.mg W (tupE l)) :=
  (pe_tup h).imp fun σ H Q ⟨ρ, env, S, R, V, w⟩ => tA_seq R V (wpM_mono (wpM_bd w) (fun xs S1 w1 ρ1 vs H1 R1 V1 U1 r1 => by
    split at w1
    · rename_i hl
      refine ⟨by rw [r1.length]; exact hl, fun p np => ?_⟩
      have s : Same H1 (upd H1 p (.tup vs)) := same_new np
      exact w1 ρ1 (.ref p) _ (R1.same s) (U1.trans (Up.same s)) ⟨p, vs, rfl, SqT.of upd_same, (Up.same (K := X.K) (ρ := ρ1) (S := S1) s).relL r1⟩
    · exact w1.elim) fun _ _ _ q => q)
theorem y_lst (h : PA X es (tA X.K X.mg W l)) : PE X (.List es pos) (tF X.K X.mg W (lstF l)) :=
  (pe_lst h).imp fun σ H Q ⟨ρ, env, S, R, V, w⟩ => tA_seq R V (wpM_mono (wpM_bd w) (fun xs S1 w1 ρ1 vs H1 R1 V1 U1 r1 => by
    split at w1
    · rename_i hl
      exact ⟨by rw [r1.length]; exact hl, fun p np => w1 ρ1 p vs H1 _ R1 U1 r1 np (same_new np) upd_same⟩
    · exact w1.elim) fun _ _ _ q => q)
theorem y_frz (h : PE X e (tF X.K X.mg W l)) : PE X e (tE X.K X.mg W (frz l)) :=
  h.imp fun σ H Q ⟨ρ, env, S, R, V, w⟩ => ⟨ρ, env, S, R, V, wpM_mono (wpM_bd w) (fun xs S1 w1 ρ1 p ys H1 H2 R1 U1 r1 np s hp => by
    have U2 : Up X.K ρ1 H1 S1 ρ1 H2 S1 := Up.same s
    exact w1 ρ1 (.ref p) H2 (R1.same s) (U1.trans U2) ⟨p, ys, rfl, .inl ⟨.inl hp, R1.noal np⟩, U2.relL r1⟩) fun _ _ _ q => q⟩
theorem y_new (h : PE X e (tF X.K X.mg W l)) : PE X e (tE X.K X.mg W (new l)) :=
  h.imp fun σ H Q ⟨ρ, env, S, R, V, w⟩ => ⟨ρ, env, S, R, V, wpM_mono (wpM_bd w) (fun xs S1 w1 ρ1 p ys H1 H2 R1 U1 r1 np s hp =>
    w1 (ρ1 ++ [p]) (.ref p) H2 (R1.new np s hp r1) (U1.trans (Up.new R1.len np s)) ⟨p, rfl, by rw [← R1.len]; simp⟩) fun _ _ _ q => q⟩
end

/-! ### calls -/
/-- a def's promise: what its mirror tells -/
def spM (K : PySem.W.Frag) (mg : Str → Option Value) (n : Nat) (f : List D → Sto → Res D) : Sp := fun vs H Q E => vs.length = n ∧ ∃ ρ S ds, RS K ρ H S ∧ RelL K H (Al ρ S) ρ vs ds ∧ wpM (f ds S) (PostV K ρ H S Q)
  (fun c fs S' => ∀ ρ' H' cls dx, RS K ρ' H' S' → Up K ρ H S ρ' H' S' → ExcR K mg H' (Al ρ' S') ρ' c fs cls dx → E cls dx H')
def cal (f : List D → Sto → Res D) (l : LM) : EM := fun env S => bd (l env S) fun ds S1 => f ds S1
theorem bd_len {α : Type} {X : Cx} {W : WX} : True := trivial
section
variable {X : Cx} {W : WX} {k n : Nat} {f : Addr} {fd : FuncData} {ps : List Str} {x : Str} {p pos : Pos} {e : Expr} {es : List Expr} {l : LM} {mf : List D → Sto → Res D}
/-- l gives as many values as there are expressions -/
def Len (l : LM) (n : Nat) : Prop := ∀ env S ds S', l env S = .ok ds S' → ds.length = n
theorem len_nil : Len lnil 0 := fun _ _ ds _ h => by cases h; rfl
theorem len_cons {m : EM} {n : Nat} (h : Len l n) : Len (lcons m l) (n + 1) := fun env S ds S' e => by
  unfold lcons at e
  cases e1 : m env S with
  | ok x S1 =>
    rw [e1] at e
    simp only [bd] at e
    cases e2 : l env S1 with
    | ok xs S2 =>
      rw [e2] at e
      cases e
      simp [h env S1 xs _ e2]
    | exc c fs S2 => rw [e2] at e; cases e
    | err => rw [e2] at e; cases e
  | exc c fs S1 => rw [e1] at e; cases e
  | err => rw [e1] at e; cases e
theorem y_call (F : FnOk X.prog X.w X.K X.mg X.base (L2.CX X.prog X.w) k f fd ps (spM X.K X.mg n mf)) (hr : Room k X.A) (tk : Takes X W) (hm : X.mg x = some (.ref f)) (hk : PySem.W.keepIn X.K (.ref f) = true) (hb : Binds X.K fd ps []) (ha : PA X (e :: es) (tA X.K X.mg W l)) (hn : Len l n)
    (hg : Gl X x := by rfl) (hdb : (x == ("__debug__" : Str)) = false := by decide) (he : starEach (e :: es) X.env = (false, eval e X.env) :: starEach es X.env := by rfl) (hpl : (backTo pos (starEach es X.env)).any (·.1) = false := by rfl) :
    PE X (.Call (.Name x p) (e :: es) [] pos) (tE X.K X.mg W (cal mf l)) :=
  (pe_callSD (E := fun σ cls dx H => W cls dx σ H) F hr hg hm hk hb .nil (fun σ => passAt tk σ) ha hdb he hpl).imp fun σ H Q ⟨ρ, env, S, R, V, w⟩ => by
    unfold tCallSD
    have w0 := wpM_bd w
    refine ⟨ρ, env, S, R, V, ?_⟩
    cases e1 : l env S with
    | ok ds S1 =>
      rw [e1] at w0
      have w1 : wpM (mf ds S1) (PostV X.K ρ H S Q) (PostX X.K X.mg W ρ σ H S) := w0
      intro ρ1 vs H1 R1 U1 r1
      rw [List.append_nil]
      exact ⟨by rw [r1.length]; exact hn env S ds S1 e1, ρ1, S1, ds, R1, r1, wpM_mono w1 (fun d S2 q => q.up U1) fun c fs S2 q ρ' H' cls dx r u k => q ρ' H' cls dx r (U1.trans u) k⟩
    | exc c fs S1 => rw [e1] at w0; exact w0
    | err => rw [e1] at w0; exact w0
end
end Y

set_option Elab.async false
set_option linter.all false
set_option maxRecDepth 100000
set_option maxHeartbeats 4000000
namespace Y
open PySem PySem.Spec L2

/-! ### statements -/
def bS {α : Type} (r : Res α) (env : En) (k : α → Sto → SR) : SR := match r with
  | .ok a S => k a S
  | .exc c fs S => .exc c fs env S
  | .err => .err
def seqS (a b : SM) : SM := fun env S => match a env S with
  | .nx e S1 => b e S1
  | r => r
def nxS : SM := fun env S => .nx env S
def brkS : SM := fun env S => .brk env S
def ctS : SM := fun env S => .ct env S
def exS (e : EM) : SM := fun env S => bS (e env S) env fun _ S1 => .nx env S1
def retS (e : EM) : SM := fun env S => bS (e env S) env fun d S1 => .ret d S1
def retN : SM := fun _ S => .ret .non S
def ifS (c : TM) (a b : SM) : SM := fun env S => bS (c env S) env fun k S1 => match k with
  | true => a env S1
  | false => b env S1
/-- a target -/
abbrev TgM := D → En → Option En
def asg (g : TgM) (e : EM) : SM := fun env S => bS (e env S) env fun d S1 => match g d env with
  | some env1 => .nx env1 S1
  | none => .err
def tgN (i : Nat) : TgM := fun d env => some (env.set i (some d))
def tgs : List TgM → List D → En → Option En
  | [], [], env => some env
  | g :: gs, d :: ds, env => (g d env).bind fun env1 => tgs gs ds env1
  | _, _, _ => none
def tgT (gs : List TgM) : TgM := fun d env => match d with
  | .tup ds => tgs gs ds env
  | _ => none
def setAt (S : Sto) : D → D → D → Option Sto
  | .ref n, .int k, d => match S[n]? with
    | some (some (.lst ds)) => (ixN ds.length k).map fun j => S.set n (some (.lst (ds.set j d)))
    | _ => none
  | _, _, _ => none
def setS (e o i : EM) : SM := fun env S => bS (e env S) env fun d S1 => bS (o env S1) env fun x S2 => bS (i env S2) env fun k S3 => match setAt S3 x k d with
  | some S4 => .nx env S4
  | none => .err

section
variable {K : PySem.W.Frag} {mg : Str → Option Value} {W : WX} {H H1 : Hp} {ρ ρ1 : List Addr} {S S1 : Sto} {σ σ1 : L2.St} {env env1 : En} {Dn : Ends}
theorem wpS_up {r : SR} (u : Up K ρ H S ρ1 H1 S1) (h : wpS K mg W ρ H S Dn r) : wpS K mg W ρ1 H1 S1 Dn r := by
  cases r with
  | nx e S' => exact fun ρ' σ' H' r v k => h ρ' σ' H' r v (u.trans k)
  | brk e S' => exact fun ρ' σ' H' r v k => h ρ' σ' H' r v (u.trans k)
  | ct e S' => exact fun ρ' σ' H' r v k => h ρ' σ' H' r v (u.trans k)
  | ret d S' => exact fun ρ' v H' r k => h ρ' v H' r (u.trans k)
  | exc c fs e S' => exact fun ρ' σ' H' cls dx r v k => h ρ' σ' H' cls dx r v (u.trans k)
  | err => exact h
theorem wpS_bS {α : Type} {r : Res α} {k : α → Sto → SR} (V : RV K ρ σ H S env) (h : wpS K mg W ρ H S Dn (bS r env k)) : wpM r (fun a S1 => wpS K mg W ρ H S Dn (k a S1)) (PostX K mg W ρ σ H S) := by
  cases r with
  | ok a S1 => exact h
  | exc c fs S1 => exact fun ρ' H' cls dx r u e => h ρ' σ H' cls dx r (u.rv V) u e
  | err => exact h
theorem RV.set {i : Nat} {v : V} {d : D} (V : RV K ρ σ H S env) (r : RelD K H (Al ρ S) ρ v d) : RV K ρ (σ.set i (some v)) H S (env.set i (some d)) := by
  refine ⟨by simp [V.1], fun j e h => ?_⟩
  by_cases hj : i = j
  · subst hj
    by_cases hi : i < env.length
    · rw [List.getElem?_set_self hi] at h
      cases h
      exact ⟨v, by rw [List.getElem?_set_self (by rw [← V.1]; exact hi)], r⟩
    · rw [List.getElem?_eq_none (by simp; omega)] at h; cases h
  · rw [List.getElem?_set_ne hj] at h ⊢
    exact V.2 j e h
end
section
variable {X : Cx} {W : WX} {pos : Pos} {st : Stmt} {rest : List Stmt} {a b : SM} {e : Expr} {m : EM}
theorem s_nil : PSs X [] (tS X.K X.mg W nxS) := pss_nil.imp fun Dn σ H ⟨ρ, env, S, R, V, w⟩ => w ρ σ H R V Up.refl
theorem s_cons (h1 : PS X st (tS X.K X.mg W a)) (h2 : PSs X rest (tS X.K X.mg W b)) : PSs X (st :: rest) (tS X.K X.mg W (seqS a b)) :=
  (pss_cons h1 h2).imp fun Dn σ H ⟨ρ, env, S, R, V, w⟩ => by
    refine ⟨ρ, env, S, R, V, ?_⟩
    unfold seqS at w
    cases e1 : a env S with
    | nx env1 S1 =>
      rw [e1] at w
      exact fun ρ' σ' H' r v u => ⟨ρ', env1, S1, r, v, wpS_up u w⟩
    | brk env1 S1 => rw [e1] at w; exact w
    | ct env1 S1 => rw [e1] at w; exact w
    | ret d S1 => rw [e1] at w; exact w
    | exc c fs env1 S1 => rw [e1] at w; exact w
    | err => rw [e1] at w; exact w
theorem s_one (h1 : PS X st (tS X.K X.mg W a)) : PSs X [st] (tS X.K X.mg W a) := pss_one h1
theorem s_pass : PS X (.Pass pos) (tS X.K X.mg W nxS) := ps_pass.imp fun Dn σ H ⟨ρ, env, S, R, V, w⟩ => w ρ σ H R V Up.refl
theorem s_break : PS X (.Break pos) (tS X.K X.mg W brkS) := ps_break.imp fun Dn σ H ⟨ρ, env, S, R, V, w⟩ => w ρ σ H R V Up.refl
theorem s_continue : PS X (.Continue pos) (tS X.K X.mg W ctS) := ps_continue.imp fun Dn σ H ⟨ρ, env, S, R, V, w⟩ => w ρ σ H R V Up.refl
theorem s_expr (he : PE X e (tE X.K X.mg W m)) (hs : swapsWith e none pos.line X.env = pure false := by rfl) : PS X (.Expr e pos) (tS X.K X.mg W (exS m)) :=
  (ps_expr he hs).imp fun Dn σ H ⟨ρ, env, S, R, V, w⟩ => tE_seq R V (wpM_mono (wpS_bS V w) (fun d S1 w1 ρ1 v H1 R1 V1 U1 r1 => w1 ρ1 σ H1 R1 V1 U1) fun _ _ _ q => q)
theorem s_ret (he : PE X e (tE X.K X.mg W m)) : PS X (.Return (some e) pos) (tS X.K X.mg W (retS m)) :=
  (ps_ret he).imp fun Dn σ H ⟨ρ, env, S, R, V, w⟩ => tE_seq R V (wpM_mono (wpS_bS V w) (fun d S1 w1 ρ1 v H1 R1 V1 U1 r1 => w1 ρ1 v H1 R1 U1 r1) fun _ _ _ q => q)
theorem s_retN : PS X (.Return none pos) (tS X.K X.mg W retN) := ps_retN.imp fun Dn σ H ⟨ρ, env, S, R, V, w⟩ => w ρ .non H R Up.refl rfl
theorem s_if {c : Expr} {mc : TM} {p q : List Stmt} (hc : PT X c (tT X.K X.mg W mc)) (ha : PSs X p (tS X.K X.mg W a)) (hb : PSs X q (tS X.K X.mg W b)) : PS X (.If c p q pos) (tS X.K X.mg W (ifS mc a b)) :=
  (ps_if hc ha hb).imp fun Dn σ H ⟨ρ, env, S, R, V, w⟩ => tT_seq R V (wpM_mono (wpS_bS V w) (fun k S1 w1 ρ1 H1 R1 V1 U1 => by
    cases k with
    | true => exact iteT ⟨ρ1, env, S1, R1, V1, wpS_up U1 w1⟩
    | false => exact iteF ⟨ρ1, env, S1, R1, V1, wpS_up U1 w1⟩) fun _ _ _ q => q)
/-! targets -/
def tG (K : PySem.W.Frag) (ix : List Nat) (g : TgM) : TG := fun v σ H Q => ∃ ρ env S d env', RS K ρ H S ∧ RV K ρ σ H S env ∧ RelD K H (Al ρ S) ρ v d ∧ g d env = some env' ∧ ∀ σ', RV K ρ σ' H S env' → wipe σ' ix = wipe σ ix → Q σ' H
def tGs (K : PySem.W.Frag) (ix : List Nat) (gs : List TgM) : TGs := fun vs σ H Q => ∃ ρ env S ds env', RS K ρ H S ∧ RV K ρ σ H S env ∧ RelL K H (Al ρ S) ρ vs ds ∧ tgs gs ds env = some env' ∧ ∀ σ', RV K ρ σ' H S env' → wipe σ' ix = wipe σ ix → Q σ' H
theorem wipe_get {σ : L2.St} : ∀ {ix : List Nat} {j : Nat}, (wipe σ ix)[j]? = if j ∈ ix then σ[j]?.map (fun _ => none) else σ[j]?
  | [], j => by simp [wipe]
  | i :: ix, j => by
    unfold wipe
    by_cases h : i = j
    · subst h
      rw [if_pos (List.mem_cons_self), List.getElem?_set]
      simp only [if_true]
      by_cases hl : i < σ.length
      · rw [if_pos (by rw [wipe_length]; exact hl), List.getElem?_eq_getElem hl]; rfl
      · rw [if_neg (by rw [wipe_length]; exact hl), List.getElem?_eq_none (by omega)]; rfl
    · rw [List.getElem?_set_ne h, wipe_get]
      have e : (j ∈ i :: ix) ↔ j ∈ ix := by simp [Ne.symm h]
      by_cases hj : j ∈ ix
      · rw [if_pos hj, if_pos (e.mpr hj)]
      · rw [if_neg hj, if_neg (fun q => hj (e.mp q))]
theorem wipe_set {σ : L2.St} {ix : List Nat} {i : Nat} {x : Option V} (h : i ∈ ix) : wipe (σ.set i x) ix = wipe σ ix := by
  apply List.ext_getElem?
  intro j
  rw [wipe_get, wipe_get]
  by_cases hj : j ∈ ix
  · rw [if_pos hj, if_pos hj, List.getElem?_set]
    split
    · rename_i e; subst e
      split
      · rename_i hl; rw [List.getElem?_eq_getElem hl]; rfl
      · rename_i hl; rw [List.getElem?_eq_none (by omega)]
    · rfl
  · rw [if_neg hj, if_neg hj, List.getElem?_set_ne (fun e => hj (by rw [← e]; exact h))]
theorem PG_imp {tg : Expr} {t t' : TG} (h : PG X tg t) (i : ∀ v σ H Q, t' v σ H Q → t v σ H Q) : PG X tg t' := ⟨fun pins s σ H v u Q I r q => h.run pins s σ H v u Q I r (i v σ H Q q)⟩
theorem PGs_imp {tg : List Expr} {t t' : TGs} (h : PGs X tg t) (i : ∀ v σ H Q, t' v σ H Q → t v σ H Q) : PGs X tg t' := ⟨fun pins s σ H v u Q I r q => h.run pins s σ H v u Q I r (i v σ H Q q)⟩
theorem g_name (i : Nat) {x : Str} (hN : X.N.Nodup) (hi : X.N[i]? = some x := by rfl) (hx : Loc X.env.scope x := by first | exact Or.inl rfl | exact Or.inr rfl) (hf : X.fn x = true ∨ X.env.scope.names.lookup x = some .local := by first | exact .inl rfl | exact .inr rfl | assumption)
    {ix : List Nat} (hix : i ∈ ix := by decide) : PG X (.Name x pos) (tG X.K ix (tgN i)) := PG_imp (pg_name hN hi hx hf) fun v σ H Q ⟨ρ, env, S, d, env', R, V, r, e, q⟩ => by
  cases e
  exact q _ (V.set r) (wipe_set hix)
theorem g_nil {ix : List Nat} : PGs X [] (tGs X.K ix []) := PGs_imp pgs_nil fun v σ H Q ⟨ρ, env, S, ds, env', R, V, r, e, q⟩ => by
  cases ds with
  | nil => cases e; exact ⟨r, q σ V rfl⟩
  | cons d ds => cases e
theorem g_cons {t : Expr} {ts : List Expr} {g : TgM} {gs : List TgM} {ix : List Nat} (h1 : PG X t (tG X.K ix g)) (h2 : PGs X ts (tGs X.K ix gs)) (hs : (assignEach (t :: ts) X.env).map (·.2) = assign t X.env :: (assignEach ts X.env).map (·.2) := by rfl) : PGs X (t :: ts) (tGs X.K ix (g :: gs)) :=
  PGs_imp (pgs_cons h1 h2 hs) fun vs σ H Q ⟨ρ, env, S, ds, env', R, V, r, e, q⟩ => by
    cases ds with
    | nil => cases e
    | cons d ds =>
      obtain ⟨x, xs, rfl, r1, r2⟩ := r
      have e' : (g d env).bind (fun env1 => tgs gs ds env1) = some env' := e
      cases e1 : g d env with
      | none => rw [e1] at e'; cases e'
      | some env1 =>
        rw [e1] at e'
        exact ⟨x, xs, rfl, ρ, env, S, d, env1, R, V, r1, e1, fun σ' V' hw => ⟨ρ, env1, S, ds, env', R, V', r2, e', fun σ'' V'' hw' => q σ'' V'' (hw'.trans hw)⟩⟩
theorem tgs_len {gs : List TgM} : ∀ {ds : List D} {env env' : En}, tgs gs ds env = some env' → ds.length = gs.length := by
  induction gs with
  | nil => intro ds env env' h; cases ds with
    | nil => rfl
    | cons d ds => cases h
  | cons g gs ih => intro ds env env' h; cases ds with
    | nil => cases h
    | cons d ds =>
      have e' : (g d env).bind (fun env1 => tgs gs ds env1) = some env' := h
      cases e1 : g d env with
      | none => rw [e1] at e'; cases e'
      | some env1 => rw [e1] at e'; simp [ih e']
theorem g_tup {es : List Expr} {k : Nat} {gs : List TgM} {ix : List Nat} (hc : X.calm = true) (h : PGs X es (tGs X.K ix gs)) (hn : (assignEach es X.env).length = gs.length := by rfl) (hst : (assignEach es X.env).findIdx? (·.1) = none := by rfl) : PG X (.Tuple es k pos) (tG X.K ix (tgT gs)) :=
  PG_imp (pg_tup hc h hn hst) fun v σ H Q ⟨ρ, env, S, d, env', R, V, r, e, q⟩ => by
    cases d with
    | tup ds =>
      obtain ⟨a, xs, rfl, h1, h2⟩ := r
      have e' : tgs gs ds env = some env' := e
      exact ⟨a, xs, rfl, h1, by rw [h2.length, tgs_len e'], ρ, env, S, ds, env', R, V, h2, e', q⟩
    | _ => cases e
theorem asg_imp {g : TgM} {ix : List Nat} : ∀ Dn σ H, tS X.K X.mg W (asg g m) Dn σ H → tAsg (tE X.K X.mg W m) (tG X.K ix g) Dn σ H := fun Dn σ H ⟨ρ, env, S, R, V, w⟩ => tE_seq R V (wpM_mono (wpS_bS V w) (fun d S1 w1 ρ1 v H1 R1 V1 U1 r1 => by
  cases e1 : g d env with
  | none => rw [e1] at w1; exact w1.elim
  | some env1 => rw [e1] at w1; exact ⟨ρ1, env, S1, d, env1, R1, V1, r1, e1, fun σ' V' _ => w1 ρ1 σ' H1 R1 V' U1⟩) fun _ _ _ q => q)
theorem s_asg {tg : Expr} {g : TgM} {ix : List Nat} (he : PE X e (tE X.K X.mg W m)) (hg : PG X tg (tG X.K ix g)) (hs : swapsWithSole [tg] e pos.line X.env = pure false := by rfl) (hw : swappedStores [tg] e X.env = pure none := by rfl)
    (h1 : (assignEach [tg] X.env).map (·.2) = [assign tg X.env] := by rfl) : PS X (.Assign [tg] e pos) (tS X.K X.mg W (asg g m)) := (ps_asg he hg hs hw h1).imp asg_imp
/-- name = value -/
theorem s_set (i : Nat) {x : Str} {pos' : Pos} (hN : X.N.Nodup) (he : PE X e (tE X.K X.mg W m)) (hi : X.N[i]? = some x := by rfl) (hx : Loc X.env.scope x := by first | exact Or.inl rfl | exact Or.inr rfl) (hs : swapsWith e (some (.Name x pos')) pos.line X.env = pure false := by rfl)
    (hf : X.fn x = true ∨ X.env.scope.names.lookup x = some .local := by first | exact .inl rfl | exact .inr rfl | assumption) : PS X (.Assign [.Name x pos'] e pos) (tS X.K X.mg W (asg (tgN i) m)) :=
  (ps_set hN hi hx he hs hf).imp fun Dn σ H ⟨ρ, env, S, R, V, w⟩ => tE_seq R V (wpM_mono (wpS_bS V w) (fun d S1 w1 ρ1 v H1 R1 V1 U1 r1 => w1 ρ1 _ H1 R1 (V1.set r1) U1) fun _ _ _ q => q)
theorem setAt_ok {K : PySem.W.Frag} {ρ : List Addr} {H : Hp} {S S' : Sto} {o i d : D} {ov iv v : V} {Q : Hp → Prop} (R : RS K ρ H S) (ro : RelD K H (Al ρ S) ρ ov o) (ri : RelD K H (Al ρ S) ρ iv i) (r : RelD K H (Al ρ S) ρ v d) (h : setAt S o i d = some S')
    (q : ∀ H', RS K ρ H' S' → Up K ρ H S ρ H' S' → Q H') : rSetL ov iv v H Q := by
  cases o with
  | ref n =>
    cases i with
    | int k =>
      obtain ⟨a, rfl, ha⟩ := ro
      have ri' : iv = .int k := ri
      subst ri'
      simp only [setAt] at h
      split at h
      · rename_i ds hS
        obtain ⟨xs, e1, r1⟩ := R.obj n _ a hS ha
        cases e2 : ixN ds.length k with
        | none => rw [e2] at h; cases h
        | some j =>
          rw [e2] at h
          cases h
          exact ⟨a, xs, k, j, rfl, rfl, e1, by rw [r1.length]; exact e2, q _ (R.set hS ha e1 (RelL.set r j r1)) (Up.set hS ha e1)⟩
      · cases h
    | _ => cases h
  | _ => cases h
theorem s_sub {o i : Expr} {mo mi : EM} {p2 : Pos} (he : PE X e (tE X.K X.mg W m)) (ho : PE X o (tE X.K X.mg W mo)) (hi : PE X i (tE X.K X.mg W mi))
    (ha : ∀ v, assign (.Subscript o i p2) X.env v = (do
      let ov ← holding [v] (eval o X.env)
      let iv ← holding [v, ov] (eval i X.env)
      standAt p2
      holding [v, ov, iv] (setItem ov iv v)
      release [v, ov, iv] []) := by intro _; rfl)
    (hs : swapsWithSole [.Subscript o i p2] e pos.line X.env = pure false := by rfl) (hw : swappedStores [.Subscript o i p2] e X.env = pure none := by rfl)
    (h1 : (assignEach [.Subscript o i p2] X.env).map (·.2) = [assign (.Subscript o i p2) X.env] := by rfl) : PS X (.Assign [.Subscript o i p2] e pos) (tS X.K X.mg W (setS m mo mi)) :=
  (ps_asg he (pg_sub ho hi set_list ha) hs hw h1).imp fun Dn σ H ⟨ρ, env, S, R, V, w⟩ => tE_seq R V (wpM_mono (wpS_bS V w) (fun d S1 w1 ρ1 v H1 R1 V1 U1 r1 =>
    tE_seq R1 V1 (wpM_mono (wpS_bS V1 (wpS_up U1 w1)) (fun x S2 w2 ρ2 u H2 R2 V2 U2 r2 => tE_seq R2 V2 (wpM_mono (wpS_bS V2 (wpS_up U2 w2)) (fun k S3 w3 ρ3 t H3 R3 V3 U3 r3 => by
      cases e1 : setAt S3 x k d with
      | none => rw [e1] at w3; exact w3.elim
      | some S4 =>
        rw [e1] at w3
        exact setAt_ok R3 (U3.relD r2) r3 ((U2.trans U3).relD r1) e1 fun H' R4 U4 => w3 ρ3 σ H' R4 (U4.rv V3) (U3.trans U4)) fun _ _ _ q => q)) fun _ _ _ q => q)) fun _ _ _ q => q)
end

/-! ### a def -/
mutual
def D.pure : D → Bool
  | .non => true
  | .bl _ => true
  | .int _ => true
  | .str _ => true
  | .tup ds => pureL ds
  | .lst ds => pureL ds
  | .ref _ => false
def pureL : List D → Bool
  | [] => true
  | d :: ds => d.pure && pureL ds
end
mutual
def D.bel (n : Nat) : D → Bool
  | .non => true
  | .bl _ => true
  | .int _ => true
  | .str _ => true
  | .tup ds => belL n ds
  | .lst ds => belL n ds
  | .ref m => decide (m < n)
def belL (n : Nat) : List D → Bool
  | [] => true
  | d :: ds => d.bel n && belL n ds
end
def Ob.bel (n : Nat) : Ob → Bool
  | .lst ds => belL n ds
mutual
theorem bel_of_pure {n : Nat} : ∀ d : D, d.pure = true → d.bel n = true
  | .non, _ => rfl
  | .bl _, _ => rfl
  | .int _, _ => rfl
  | .str _, _ => rfl
  | .tup ds, h => belL_of_pure ds h
  | .lst ds, h => belL_of_pure ds h
  | .ref _, h => by cases h
theorem belL_of_pure {n : Nat} : ∀ ds : List D, pureL ds = true → belL n ds = true
  | [], _ => rfl
  | d :: ds, h => by
    have h' : (d.pure && pureL ds) = true := h
    obtain ⟨h1, h2⟩ := Bool.and_eq_true_iff.mp h'
    show (d.bel n && belL n ds) = true
    rw [bel_of_pure d h1, belL_of_pure ds h2]; rfl
end
def mapS (f : D → Sto → Option (D × Sto)) : List D → Sto → Option (List D × Sto)
  | [], S => some ([], S)
  | d :: ds, S => (f d S).bind fun p => (mapS f ds p.2).map fun q => (p.1 :: q.1, q.2)
/-- from n0 on no list of it will change any more -/
def frzD (n0 : Nat) : Nat → D → Sto → Option (D × Sto)
  | 0, d, S => if d.pure then some (d, S) else none
  | k + 1, d, S => if d.pure then some (d, S) else match d with
    | .ref n => if n < n0 then some (d, S) else match S[n]? with
      | some (some (.lst ds)) => (mapS (frzD n0 k) ds (S.set n none)).map fun p => (.lst p.1, p.2)
      | _ => none
    | .tup ds => (mapS (frzD n0 k) ds S).map fun p => (.tup p.1, p.2)
    | .lst ds => (mapS (frzD n0 k) ds S).map fun p => (.lst p.1, p.2)
    | _ => none
section
variable {K : PySem.W.Frag} {H : Hp} {ρ : List Addr}
theorem mapS_ok {f : D → Sto → Option (D × Sto)} (hf : ∀ d S d' S' v, f d S = some (d', S') → RS K ρ H S → RelD K H (Al ρ S) ρ v d → RS K ρ H S' ∧ Up K ρ H S ρ H S' ∧ RelD K H (Al ρ S') ρ v d') :
    ∀ (ds : List D) (S : Sto) (es : List D) (S' : Sto) (vs : List V), mapS f ds S = some (es, S') → RS K ρ H S → RelL K H (Al ρ S) ρ vs ds → RS K ρ H S' ∧ Up K ρ H S ρ H S' ∧ RelL K H (Al ρ S') ρ vs es
  | [], S, es, S', vs, h, R, r => by
    cases h
    exact ⟨R, Up.refl, r⟩
  | d :: ds, S, es, S', vs, h, R, r => by
    obtain ⟨x, xs, rfl, r1, r2⟩ := r
    have h' : (f d S).bind (fun p => (mapS f ds p.2).map fun q => (p.1 :: q.1, q.2)) = some (es, S') := h
    cases e1 : f d S with
    | none => rw [e1] at h'; cases h'
    | some p =>
      obtain ⟨d', S1⟩ := p
      rw [e1] at h'
      obtain ⟨R1, U1, q1⟩ := hf d S d' S1 x e1 R r1
      cases e2 : mapS f ds S1 with
      | none => rw [Option.bind_some, e2] at h'; cases h'
      | some q =>
        obtain ⟨es', S2⟩ := q
        rw [Option.bind_some, e2] at h'
        cases h'
        obtain ⟨R2, U2, q2⟩ := mapS_ok hf ds S1 es' S2 xs e2 R1 (U1.relL r2)
        exact ⟨R2, U1.trans U2, RelL.cons (U2.relD q1) q2⟩
theorem frzD_ok {n0 : Nat} : ∀ (k : Nat) (d : D) (S : Sto) (d' : D) (S' : Sto) (v : V), frzD n0 k d S = some (d', S') → RS K ρ H S → RelD K H (Al ρ S) ρ v d → RS K ρ H S' ∧ Up K ρ H S ρ H S' ∧ RelD K H (Al ρ S') ρ v d'
  | 0, d, S, d', S', v, h, R, r => by
    simp only [frzD] at h
    split at h
    · cases h; exact ⟨R, Up.refl, r⟩
    · cases h
  | k + 1, d, S, d', S', v, h, R, r => by
    simp only [frzD] at h
    split at h
    · cases h; exact ⟨R, Up.refl, r⟩
    · cases d with
      | ref n =>
        simp only at h
        split at h
        · cases h; exact ⟨R, Up.refl, r⟩
        · split at h
          · rename_i ds hS
            cases e1 : mapS (frzD n0 k) ds (S.set n none) with
            | none => rw [e1] at h; cases h
            | some p =>
              obtain ⟨es, S1⟩ := p
              rw [e1] at h
              cases h
              obtain ⟨a, rfl, ha⟩ := r
              have fz := R.frozen hS ha
              obtain ⟨b, xs, e2, h1, h3⟩ := fz
              cases e2
              obtain ⟨R1, U1, q1⟩ := mapS_ok (fun d S d' S' v => frzD_ok k d S d' S' v) ds (S.set n none) es S1 xs e1 R.kill h3
              exact ⟨R1, Up.kill.trans U1, a, xs, rfl, U1.fz h1, q1⟩
          · cases h
      | tup ds =>
        simp only at h
        cases e1 : mapS (frzD n0 k) ds S with
        | none => rw [e1] at h; cases h
        | some p =>
          obtain ⟨es, S1⟩ := p
          rw [e1] at h
          cases h
          obtain ⟨a, xs, rfl, h1, h2⟩ := r
          obtain ⟨R1, U1, q1⟩ := mapS_ok (fun d S d' S' v => frzD_ok k d S d' S' v) ds S es S1 xs e1 R h2
          exact ⟨R1, U1, a, xs, rfl, U1.tup a xs h1, q1⟩
      | lst ds =>
        simp only at h
        cases e1 : mapS (frzD n0 k) ds S with
        | none => rw [e1] at h; cases h
        | some p =>
          obtain ⟨es, S1⟩ := p
          rw [e1] at h
          cases h
          obtain ⟨a, xs, rfl, h1, h3⟩ := r
          obtain ⟨R1, U1, q1⟩ := mapS_ok (fun d S d' S' v => frzD_ok k d S d' S' v) ds S es S1 xs e1 R h3
          exact ⟨R1, U1, a, xs, rfl, U1.fz h1, q1⟩
      | _ => cases h
/-! #### what a def has made goes -/
mutual
theorem bel_of {A : Addr → Prop} : ∀ (d : D) (v : V), RelD K H A ρ v d → d.bel ρ.length = true
  | .non, _, _ => rfl
  | .bl _, _, _ => rfl
  | .int _, _, _ => rfl
  | .str _, _, _ => rfl
  | .tup ds, _, ⟨_, xs, _, _, h⟩ => belL_of ds xs h
  | .lst ds, _, ⟨_, xs, _, _, h⟩ => belL_of ds xs h
  | .ref n, _, ⟨a, _, h⟩ => decide_eq_true (List.getElem?_eq_some_iff.mp h).1
theorem belL_of {A : Addr → Prop} : ∀ (ds : List D) (vs : List V), RelL K H A ρ vs ds → belL ρ.length ds = true
  | [], _, _ => rfl
  | d :: ds, _, ⟨x, xs, _, h1, h2⟩ => by
    show (d.bel ρ.length && belL ρ.length ds) = true
    rw [bel_of d x h1, belL_of ds xs h2]; rfl
end
mutual
theorem RelD.cut {A A' : Addr → Prop} {n : Nat} (hA : ∀ a, A' a → A a) : ∀ (d : D) (v : V), d.bel n = true → RelD K H A ρ v d → RelD K H A' (ρ.take n) v d
  | .non, _, _, h => h
  | .bl _, _, _, h => h
  | .int _, _, _, h => h
  | .str _, _, _, h => h
  | .tup ds, _, b, ⟨a, xs, e, h1, h2⟩ => ⟨a, xs, e, h1, RelL.cut hA ds xs b h2⟩
  | .lst ds, _, b, ⟨a, xs, e, h1, h3⟩ => ⟨a, xs, e, h1.imp (fun h => ⟨h.1, fun q => h.2 (hA a q)⟩) id, RelL.cut hA ds xs b h3⟩
  | .ref m, _, b, ⟨a, e, h⟩ => ⟨a, e, by rw [List.getElem?_take_of_lt (of_decide_eq_true b)]; exact h⟩
theorem RelL.cut {A A' : Addr → Prop} {n : Nat} (hA : ∀ a, A' a → A a) : ∀ (ds : List D) (vs : List V), belL n ds = true → RelL K H A ρ vs ds → RelL K H A' (ρ.take n) vs ds
  | [], _, _, h => h
  | d :: ds, _, b, ⟨x, xs, e, h1, h2⟩ => by
    have b' : (d.bel n && belL n ds) = true := b
    obtain ⟨b1, b2⟩ := Bool.and_eq_true_iff.mp b'
    exact ⟨x, xs, e, RelD.cut hA d x b1 h1, RelL.cut hA ds xs b2 h2⟩
end
theorem al_take {S : Sto} {n : Nat} {a : Addr} (h : Al (ρ.take n) (S.take n) a) : Al ρ S a := by
  obtain ⟨m, o, h1, h2⟩ := h
  rw [List.getElem?_take] at h1 h2
  split at h1
  · rename_i hm
    rw [if_pos hm] at h2
    exact ⟨m, o, h1, h2⟩
  · cases h1
theorem RS.take {S : Sto} {n : Nat} (R : RS K ρ H S) (h : ∀ (i : Nat) (o : Ob), i < n → S[i]? = some (some o) → o.bel n = true) : RS K (ρ.take n) H (S.take n) := by
  have sub : ∀ {m : Nat} {β : Type} {l : List β} {x : β}, (l.take n)[m]? = some x → m < n ∧ l[m]? = some x := fun {m β l x} e => by
    rw [List.getElem?_take] at e
    split at e
    · rename_i hm; exact ⟨hm, e⟩
    · cases e
  refine ⟨by rw [List.length_take, List.length_take, R.len], fun m o a h1 h2 => ?_, fun m k o o' a h1 h2 h3 h4 => R.inj m k o o' a (sub h1).2 (sub h2).2 (sub h3).2 (sub h4).2⟩
  obtain ⟨hm, h1'⟩ := sub h1
  have b := h m o hm h1'
  have q := R.obj m o a h1' (sub h2).2
  cases o with
  | lst ds =>
    obtain ⟨xs, e, r⟩ := q
    exact ⟨xs, e, RelL.cut (fun a q => al_take q) ds xs b r⟩
end
open Classical in
/-- what was made from n = S0.length on goes, where nothing that stays speaks of it -/
noncomputable def trunc (S0 : Sto) (S : Sto) : Sto := if S.take S0.length = S0 ∨ ∀ (i : Nat) (o : Ob), i < S0.length → S[i]? = some (some o) → S0[i]? = some (some o) ∨ o.bel S0.length = true then S.take S0.length else S
noncomputable def scope (S0 : Sto) (r : Res D) : Res D := match r with
  | .ok d S => match frzD S0.length 9 d S with
    | some (d', S') => if d'.bel S0.length then .ok d' (trunc S0 S') else .ok d' S'
    | none => .ok d S
  | .exc c fs S => if fs.all (fun p => p.2.pure) then .exc c fs (trunc S0 S) else .exc c fs S
  | .err => .err
/-- the body at the arguments' values -/
def run (n : Nat) (body : SM) (ds : List D) (S : Sto) : Res D := match body (ds.map some ++ List.replicate (n - ds.length) none) S with
  | .nx _ S' => .ok .non S'
  | .ret d S' => .ok d S'
  | .exc c fs _ S' => .exc c fs S'
  | _ => .err
noncomputable def fn (n : Nat) (body : SM) (ds : List D) (S : Sto) : Res D := scope S (run n body ds S)
section
variable {K : PySem.W.Frag} {mg : Str → Option Value} {H H0 : Hp} {ρ ρ0 : List Addr} {S S0 : Sto}
theorem take_old (R0 : RS K ρ0 H0 S0) (h : S.take S0.length = S0) (i : Nat) (o : Ob) (hi : i < S0.length) (e : S[i]? = some (some o)) : S0[i]? = some (some o) := by
  rw [← h, List.getElem?_take_of_lt hi]; exact e
theorem trunc_ok (R0 : RS K ρ0 H0 S0) (U : Up K ρ0 H0 S0 ρ H S) (R : RS K ρ H S) : ∃ ρ', RS K ρ' H (trunc S0 S) ∧ Up K ρ0 H0 S0 ρ' H (trunc S0 S) ∧ (∀ (d : D) v, d.bel S0.length = true → RelD K H (Al ρ S) ρ v d → RelD K H (Al ρ' (trunc S0 S)) ρ' v d) := by
  unfold trunc
  split
  · rename_i hc
    have old : ∀ (i : Nat) (o : Ob), i < S0.length → S[i]? = some (some o) → S0[i]? = some (some o) ∨ o.bel S0.length = true := by
      rcases hc with hc | hc
      · exact fun i o hi e => .inl (take_old R0 hc i o hi e)
      · exact hc
    refine ⟨ρ.take S0.length, R.take fun i o hi e => ?_, ⟨fun m a h => ?_, fun a u h nb => ⟨(U.ext a u h nb).1, fun q => (U.ext a u h nb).2 (al_take q)⟩, U.tup⟩, fun d v b r => RelD.cut (fun a q => al_take q) d v b r⟩
    · rcases old i o hi e with h | h
      · have hi' : i < ρ0.length := by rw [R0.len]; exact hi
        have q := R0.obj i o ρ0[i] h (List.getElem?_eq_getElem hi')
        cases o with
        | lst ds =>
          obtain ⟨xs, _, r⟩ := q
          have := belL_of ds xs r
          rw [R0.len] at this
          exact this
      · exact h
    · rw [List.getElem?_take_of_lt (by rw [← R0.len]; exact (List.getElem?_eq_some_iff.mp h).1)]
      exact U.pre m a h
  · exact ⟨ρ, R, U, fun d v _ r => r⟩
theorem scope_ok {r : Res D} {Q : VK} {E : XK} (R0 : RS K ρ0 H0 S0) (h : wpM (scope S0 r) (PostV K ρ0 H0 S0 Q) (fun c fs S' => ∀ ρ' H' cls dx, RS K ρ' H' S' → Up K ρ0 H0 S0 ρ' H' S' → ExcR K mg H' (Al ρ' S') ρ' c fs cls dx → E cls dx H')) :
    wpM r (PostV K ρ0 H0 S0 Q) (fun c fs S' => ∀ ρ' H' cls dx, RS K ρ' H' S' → Up K ρ0 H0 S0 ρ' H' S' → ExcR K mg H' (Al ρ' S') ρ' c fs cls dx → E cls dx H') := by
  cases r with
  | err => exact h
  | exc c fs S =>
    simp only [scope] at h
    split at h
    · rename_i hp
      intro ρ' H' cls dx R U x
      obtain ⟨ρ'', R2, U2, k⟩ := trunc_ok R0 U R
      obtain ⟨C, dd, ys, h1, h2, h3, h4, h5⟩ := x
      refine h ρ'' H' cls dx R2 U2 ⟨C, dd, ys, h1, h2, h3, h4, fun p hp' => ?_⟩
      obtain ⟨v, e, r⟩ := h5 p hp'
      exact ⟨v, e, k _ _ (bel_of_pure _ (List.all_eq_true.mp hp p hp')) r⟩
    · exact h
  | ok d S =>
    simp only [scope] at h
    intro ρ' v H' R U r
    split at h
    · rename_i d' S' e
      obtain ⟨R1, U1, r1⟩ := frzD_ok _ d S d' S' v e R r
      split at h
      · rename_i hb
        obtain ⟨ρ'', R2, U2, k⟩ := trunc_ok R0 (U.trans U1) R1
        exact h ρ'' v H' R2 U2 (k _ _ hb r1)
      · exact h ρ' v H' R1 (U.trans U1) r1
    · exact h ρ' v H' R U r
end
section
variable {P : Program} {w : World} {K : PySem.W.Frag} {mg : Str → Option Value} {base : Heap}
theorem rv_start {ρ : List Addr} {H : Hp} {S : Sto} {N : List Str} {vs : List V} {ds : List D} (r : RelL K H (Al ρ S) ρ vs ds) : RV K ρ (L2.start N vs) H S (ds.map some ++ List.replicate (N.length - ds.length) none) := by
  have hl := r.length
  refine ⟨by simp [L2.start, hl], fun i d e => ?_⟩
  have hi : i < ds.length := by
    by_cases hi : i < ds.length
    · exact hi
    · rw [List.getElem?_append_right (by simpa using hi), List.getElem?_replicate] at e
      split at e <;> cases e
  rw [List.getElem?_append_left (by simpa using hi), List.getElem?_map] at e
  have e' : ds[i]? = some d := by
    cases q : ds[i]? with
    | none => rw [q] at e; cases e
    | some z => rw [q] at e; cases e; rfl
  obtain ⟨v, h1, h2⟩ := r.get e'
  refine ⟨v, ?_, h2⟩
  unfold L2.start
  rw [List.getElem?_append_left (by simp; omega), List.getElem?_map, h1]; rfl
/-- THE RULE for a def whose body has the mirror m -/
theorem okM {x qual : Str} {st : Stmt} {f : Addr} {fd : FuncData} {N ps : List Str} {k : Nat} {m : SM} {g : List D → Sto → Res D} (F : Fun K x qual st f fd) (Sc : FnScope N ps (defScope st))
    (hg : ∀ (ρ : List Addr) (H : Hp) (S : Sto) (ds : List D) (Q : VK) (E : XK), RS K ρ H S → wpM (g ds S) (PostV K ρ H S Q) (fun c fs S' => ∀ ρ' H' cls dx, RS K ρ' H' S' → Up K ρ H S ρ' H' S' → ExcR K mg H' (Al ρ' S') ρ' c fs cls dx → E cls dx H') →
      wpM (run N.length m ds S) (PostV K ρ H S Q) (fun c fs S' => ∀ ρ' H' cls dx, RS K ρ' H' S' → Up K ρ H S ρ' H' S' → ExcR K mg H' (Al ρ' S') ρ' c fs cls dx → E cls dx H'))
    (hb : ∀ (cdv : Value) (A : Around) (outer : List Env) (s : Shared) (H : Hp) (E : XK), Room k (A.deeper (PyProof.Rows.envOfC qual (defScope st) s.heap.objs.size f cdv)) →
      PSs (cxOf (L2.CX P w) P w K mg base N qual (defScope st) f cdv A outer s H E) (defBody st) (tS K mg (fun cls d _ H => E cls d H) m)) : FnOk P w K mg base (L2.CX P w) (k + 1) f fd ps (spM K mg ps.length g) := by
  refine F.okX Sc (fun vs H Q E h => h.1) fun cdv A outer s H vs Q E hr h => ?_
  refine ⟨_, hb cdv A outer s H E hr, ?_⟩
  obtain ⟨hl, ρ, S, ds, R, r, w0⟩ := h
  have w1 := hg ρ H S ds Q E R w0
  refine ⟨ρ, _, S, R, rv_start r, ?_⟩
  unfold run at w1
  split at w1
  · rename_i e1; rw [e1]; exact fun ρ' σ' H' r v u => w1 ρ' .non H' r u rfl
  · rename_i e1; rw [e1]; exact w1
  · rename_i e1; rw [e1]; exact fun ρ' σ' H' cls dx r v u x => w1 ρ' H' cls dx r u x
  · exact w1.elim
theorem ok_fn {x qual : Str} {st : Stmt} {f : Addr} {fd : FuncData} {N ps : List Str} {k n : Nat} {m : SM} (F : Fun K x qual st f fd) (Sc : FnScope N ps (defScope st)) (hn : N.length = n)
    (hb : ∀ (cdv : Value) (A : Around) (outer : List Env) (s : Shared) (H : Hp) (E : XK), Room k (A.deeper (PyProof.Rows.envOfC qual (defScope st) s.heap.objs.size f cdv)) →
      PSs (cxOf (L2.CX P w) P w K mg base N qual (defScope st) f cdv A outer s H E) (defBody st) (tS K mg (fun cls d _ H => E cls d H) m)) : FnOk P w K mg base (L2.CX P w) (k + 1) f fd ps (spM K mg ps.length (fn n m)) := by
  subst hn
  exact okM F Sc (fun ρ H S ds Q E R h => scope_ok R h) hb
/-- .. that hands back what may change -/
theorem ok_run {x qual : Str} {st : Stmt} {f : Addr} {fd : FuncData} {N ps : List Str} {k n : Nat} {m : SM} (F : Fun K x qual st f fd) (Sc : FnScope N ps (defScope st)) (hn : N.length = n)
    (hb : ∀ (cdv : Value) (A : Around) (outer : List Env) (s : Shared) (H : Hp) (E : XK), Room k (A.deeper (PyProof.Rows.envOfC qual (defScope st) s.heap.objs.size f cdv)) →
      PSs (cxOf (L2.CX P w) P w K mg base N qual (defScope st) f cdv A outer s H E) (defBody st) (tS K mg (fun cls d _ H => E cls d H) m)) : FnOk P w K mg base (L2.CX P w) (k + 1) f fd ps (spM K mg ps.length (run n m)) := by
  subst hn
  exact okM F Sc (fun ρ H S ds Q E R h => h) hb
end
end Y

set_option Elab.async false
set_option linter.all false
set_option maxRecDepth 100000
set_option maxHeartbeats 4000000
set_option autoImplicit false
namespace Y
open PySem PySem.Spec L2

/-! ### arithmetic -/
def o_add (_ : Sto) : D → D → Option D
  | .int i, .int j => some (.int (i + j))
  | .str a, .str b => if a.length + b.length ≤ sizeLine then some (.str (a ++ b)) else none
  | .tup a, .tup b => if a.length + b.length ≤ sizeLine then some (.tup (a ++ b)) else none
  | _, _ => none
def o_sub (_ : Sto) : D → D → Option D
  | .int i, .int j => some (.int (i - j))
  | _, _ => none
open Classical in
noncomputable def o_mul (_ : Sto) : D → D → Option D
  | .int i, .int j => if IntMulOk i j then some (.int (i * j)) else none
  | _, _ => none
def o_fdiv (_ : Sto) : D → D → Option D
  | .int i, .int j => if 0 < j ∧ j < 1073741824 then some (.int (i / j)) else none
  | _, _ => none
def o_mod (_ : Sto) : D → D → Option D
  | .int i, .int j => if 0 < j then some (.int (i % j)) else none
  | _, _ => none
def o_pow (_ : Sto) : D → D → Option D
  | .int i, .int j => if 0 ≤ j ∧ j ≤ 1000000 ∧ i.natAbs < 2 ^ 64 then some (.int (i ^ j.toNat)) else none
  | _, _ => none
def o_shl (_ : Sto) : D → D → Option D
  | .int i, .int j => if 0 ≤ j ∧ j ≤ 1000000 ∧ i.natAbs < 2 ^ 64 then some (.int (i * 2 ^ j.toNat)) else none
  | _, _ => none
def o_neg (_ : Sto) : D → Option D
  | .int i => some (.int (-i))
  | _ => none
def o_cmp (f : Int → Int → Bool) (_ : Sto) : D → D → Option D
  | .int i, .int j => some (.bl (f i j))
  | _, _ => none
section
variable {K : PySem.W.Frag}
theorem os_int {r : R2} {f : Sto → D → D → Option D} {C : Int → Int → Prop} {g : Int → Int → V} {h : Int → Int → D}
    (hf : ∀ S x y d, f S x y = some d → ∃ i j, x = .int i ∧ y = .int j ∧ C i j ∧ d = h i j) (hr : ∀ i j H Q, C i j → Q (g i j) H → r (.int i) (.int j) H Q) (hd : ∀ i j H A ρ, RelD K H A ρ (g i j) (h i j)) : OpS K r f := by
  intro ρ H S x y d v u Q R r1 r2 e q
  obtain ⟨i, j, rfl, rfl, c, rfl⟩ := hf S x y d e
  have r1' : v = .int i := r1
  have r2' : u = .int j := r2
  subst r1' r2'
  exact hr i j H Q c (q _ H (Same.refl H) (hd _ _ _ _ _))
theorem os_sub : OpS K (rI0 fun i j => .int (i - j)) o_sub := os_int (C := fun _ _ => True) (h := fun i j => .int (i - j)) (fun S x y d e => by
  cases x <;> cases y <;> first | (cases e; exact ⟨_, _, rfl, rfl, trivial, rfl⟩) | cases e) (fun i j H Q _ q => ⟨i, j, rfl, rfl, q⟩) fun _ _ _ _ _ => rfl
theorem os_mul : OpS K (rI IntMulOk fun i j => .int (i * j)) o_mul := os_int (C := IntMulOk) (h := fun i j => .int (i * j)) (fun S x y d e => by
  cases x <;> cases y <;> first | (simp only [o_mul] at e; split at e <;> first | (cases e; exact ⟨_, _, rfl, rfl, by assumption, rfl⟩) | cases e) | cases e) (fun i j H Q c q => ⟨i, j, rfl, rfl, c, q⟩) fun _ _ _ _ _ => rfl
theorem op_mulG {X : Cx} : OpR X (binaryOp .Mult) (rI IntMulOk fun i j => .int (i * j)) := opI fun _ _ _ _ _ _ _ hc q => PyProof.Rows.mul_int q hc
theorem os_fdiv : OpS K (rI CDiv fun i j => .int (i / j)) o_fdiv := os_int (C := CDiv) (h := fun i j => .int (i / j)) (fun S x y d e => by
  cases x <;> cases y <;> first | (simp only [o_fdiv] at e; split at e <;> first | (cases e; exact ⟨_, _, rfl, rfl, by assumption, rfl⟩) | cases e) | cases e) (fun i j H Q c q => ⟨i, j, rfl, rfl, c, q⟩) fun _ _ _ _ _ => rfl
theorem os_mod : OpS K (rI (fun _ j => 0 < j) fun i j => .int (i % j)) o_mod := os_int (C := fun _ j => 0 < j) (h := fun i j => .int (i % j)) (fun S x y d e => by
  cases x <;> cases y <;> first | (simp only [o_mod] at e; split at e <;> first | (cases e; exact ⟨_, _, rfl, rfl, by assumption, rfl⟩) | cases e) | cases e) (fun i j H Q c q => ⟨i, j, rfl, rfl, c, q⟩) fun _ _ _ _ _ => rfl
theorem os_pow : OpS K (rI CPow fun i j => .int (i ^ j.toNat)) o_pow := os_int (C := CPow) (h := fun i j => .int (i ^ j.toNat)) (fun S x y d e => by
  cases x <;> cases y <;> first | (simp only [o_pow] at e; split at e <;> first | (cases e; exact ⟨_, _, rfl, rfl, by assumption, rfl⟩) | cases e) | cases e) (fun i j H Q c q => ⟨i, j, rfl, rfl, c, q⟩) fun _ _ _ _ _ => rfl
theorem os_shl : OpS K (rI CPow fun i j => .int (i * 2 ^ j.toNat)) o_shl := os_int (C := CPow) (h := fun i j => .int (i * 2 ^ j.toNat)) (fun S x y d e => by
  cases x <;> cases y <;> first | (simp only [o_shl] at e; split at e <;> first | (cases e; exact ⟨_, _, rfl, rfl, by assumption, rfl⟩) | cases e) | cases e) (fun i j H Q c q => ⟨i, j, rfl, rfl, c, q⟩) fun _ _ _ _ _ => rfl
theorem os_cmp {f : Int → Int → Bool} : OpS K (rI0 fun i j => .bl (f i j)) (o_cmp f) := os_int (C := fun _ _ => True) (h := fun i j => .bl (f i j)) (fun S x y d e => by
  cases x <;> cases y <;> first | (cases e; exact ⟨_, _, rfl, rfl, trivial, rfl⟩) | cases e) (fun i j H Q _ q => ⟨i, j, rfl, rfl, q⟩) fun _ _ _ _ _ => rfl
abbrev o_lt := o_cmp fun i j => decide (i < j)
abbrev o_gt := o_cmp fun i j => decide (j < i)
abbrev o_ge := o_cmp fun i j => decide (j ≤ i)
abbrev o_leI := o_cmp fun i j => decide (i ≤ j)
theorem us_neg : UnS K (rU fun i => .int (-i)) o_neg := by
  intro ρ H S x d v Q R r1 e q
  cases x with
  | int i =>
    cases e
    have r1' : v = .int i := r1
    subst r1'
    exact ⟨i, rfl, q _ H (Same.refl H) rfl⟩
  | _ => cases e
/-! + -/
def rAddS : R2 := fun x y H Q => ∃ i j, x = .str i ∧ y = .str j ∧ i.length + j.length ≤ sizeLine ∧ Q (.str (i ++ j)) H
def rAddA (K : PySem.W.Frag) : R2 := fun x y H Q => (rI0 (fun i j => .int (i + j)) x y H Q ∨ rAddS x y H Q) ∨ rCatA K x y H Q
theorem op_addA {X : Cx} : OpR X (binaryOp .Add) (rAddA X.K) := (op_add.or op_add_str).or op_catA
theorem os_add : OpS K (rAddA K) o_add := by
  intro ρ H S x y d v u Q R r1 r2 e q
  cases x with
  | int i =>
    cases y with
    | int j =>
      cases e
      have r1' : v = .int i := r1
      have r2' : u = .int j := r2
      subst r1' r2'
      exact .inl (.inl ⟨i, j, rfl, rfl, q _ H (Same.refl H) rfl⟩)
    | _ => cases e
  | str a =>
    cases y with
    | str b =>
      simp only [o_add] at e
      split at e
      · rename_i hl
        cases e
        have r1' : v = .str a := r1
        have r2' : u = .str b := r2
        subst r1' r2'
        exact .inl (.inr ⟨a, b, rfl, rfl, hl, q _ H (Same.refl H) rfl⟩)
      · cases e
    | _ => cases e
  | tup a =>
    cases y with
    | tup b =>
      simp only [o_add] at e
      split at e
      · rename_i hl
        cases e
        obtain ⟨p, xs, rfl, h1, k1⟩ := r1
        obtain ⟨p2, ys, rfl, h2, k2⟩ := r2
        have l1 := k1.length
        have l2 := k2.length
        refine .inr ⟨p, p2, xs, ys, rfl, rfl, h1, h2, by rw [l1, l2]; exact hl, fun z => ?_, fun z1 z2 => ?_, fun z1 z2 n np => ?_⟩
        · have za : a = [] := by cases a with
            | nil => rfl
            | cons => rw [z] at l1; cases l1
          subst za
          exact q _ H (Same.refl H) ⟨p2, ys, rfl, h2, k2⟩
        · have zb : b = [] := by cases b with
            | nil => rfl
            | cons => rw [z2] at l2; cases l2
          subst zb
          rw [List.append_nil] at q
          exact q _ H (Same.refl H) ⟨p, xs, rfl, h1, k1⟩
        · have s : Same H (upd H n (.tup (xs ++ ys))) := same_new np
          exact q _ _ s ⟨n, xs ++ ys, rfl, SqT.of upd_same, (Up.same (K := K) (ρ := ρ) (S := S) s).relL (k1.append k2)⟩
      · cases e
    | _ => cases e
  | _ => cases e

/-! ### comparisons -/
mutual
def toP : D → Option PyData
  | .non => some .none
  | .bl b => some (.bool b)
  | .int i => some (.int i)
  | .str s => some (.str s)
  | .tup ds => (toPL ds).map .tuple
  | .lst ds => (toPL ds).map .list
  | .ref _ => none
def toPL : List D → Option (List PyData)
  | [] => some []
  | d :: ds => (toP d).bind fun p => (toPL ds).map fun ps => p :: ps
end
/-- a list that may change, of data -/
def toPS (S : Sto) : D → Option PyData
  | .ref n => match S[n]? with
    | some (some (.lst ds)) => (toPL ds).map .list
    | _ => none
  | d => toP d
section
variable {H : Hp} {A : Addr → Prop} {ρ : List Addr}
mutual
theorem dp_of : ∀ (d : D) (p : PyData) (v : V), toP d = some p → RelD K H A ρ v d → Dp K H v p
  | .non, p, v, h, r => by
    have h' : some PyData.none = some p := h
    have r' : v = .non := r
    cases h'; subst r'; exact .non
  | .bl b, p, v, h, r => by
    have h' : some (PyData.bool b) = some p := h
    have r' : v = .bl b := r
    cases h'; subst r'; exact .bl b
  | .int i, p, v, h, r => by
    have h' : some (PyData.int i) = some p := h
    have r' : v = .int i := r
    cases h'; subst r'; exact .int i
  | .str s, p, v, h, r => by
    have h' : some (PyData.str s) = some p := h
    have r' : v = .str s := r
    cases h'; subst r'; exact .str s
  | .tup ds, p, v, h, r => by
    have h' : (toPL ds).map PyData.tuple = some p := h
    obtain ⟨ps, e, rfl⟩ := Option.map_eq_some_iff.mp h'
    obtain ⟨a, xs, rfl, h1, h2⟩ := r
    exact .tup h1 (dpAll_of ds ps xs e h2)
  | .lst ds, p, v, h, r => by
    have h' : (toPL ds).map PyData.list = some p := h
    obtain ⟨ps, e, rfl⟩ := Option.map_eq_some_iff.mp h'
    obtain ⟨a, xs, rfl, h1, h2⟩ := r
    exact .lst h1.sq (dpAll_of ds ps xs e h2)
  | .ref n, p, v, h, r => by
    have h' : none = some p := h
    cases h'
theorem dpAll_of : ∀ (ds : List D) (ps : List PyData) (vs : List V), toPL ds = some ps → RelL K H A ρ vs ds → DpAll K H vs ps
  | [], ps, vs, h, r => by
    have h' : some [] = some ps := h
    have r' : vs = [] := r
    cases h'; subst r'; exact .nil
  | d :: ds, ps, vs, h, r => by
    have h' : (toP d).bind (fun p => (toPL ds).map fun ps => p :: ps) = some ps := h
    obtain ⟨p, e1, h2⟩ := Option.bind_eq_some_iff.mp h'
    obtain ⟨qs, e2, rfl⟩ := Option.map_eq_some_iff.mp h2
    obtain ⟨x, xs, rfl, k1, k2⟩ := r
    exact .cons (dp_of d p x e1 k1) (dpAll_of ds qs xs e2 k2)
end
end
theorem dpS_of {ρ : List Addr} {H : Hp} {S : Sto} {d : D} {p : PyData} {v : V} (R : RS K ρ H S) (h : toPS S d = some p) (r : RelD K H (Al ρ S) ρ v d) : Dp K H v p := by
  cases d with
  | ref n =>
    simp only [toPS] at h
    split at h
    · rename_i ds hS
      obtain ⟨ps, e, rfl⟩ := Option.map_eq_some_iff.mp h
      obtain ⟨a, rfl, ha⟩ := r
      obtain ⟨xs, e1, r1⟩ := R.obj n _ a hS ha
      exact .lst (.inl (.inl e1)) (dpAll_of ds ps xs e r1)
    · cases h
  | _ => exact dp_of _ p v h r
def o_eq (S : Sto) (x y : D) : Option D := (toPS S x).bind fun p => (toPS S y).bind fun q => if (SeqAt.shaped p && SeqAt.shaped q) = true then some (.bl (PyData.eqv p q)) else none
def o_ne (S : Sto) (x y : D) : Option D := (toPS S x).bind fun p => (toPS S y).bind fun q => if (SeqAt.shaped p && SeqAt.shaped q) = true then some (.bl (!PyData.eqv p q)) else none
theorem os_eq : OpS K (rEqD K) o_eq := by
  intro ρ H S x y d v u Q R r1 r2 e q
  obtain ⟨p, e1, e2⟩ := Option.bind_eq_some_iff.mp e
  obtain ⟨p2, e3, e4⟩ := Option.bind_eq_some_iff.mp e2
  split at e4
  · rename_i h
    cases e4
    obtain ⟨h1, h2⟩ := Bool.and_eq_true_iff.mp h
    exact ⟨p, p2, dpS_of R e1 r1, dpS_of R e3 r2, h1, h2, q _ H (Same.refl H) rfl⟩
  · cases e4
theorem os_ne : OpS K (rNeD K) o_ne := by
  intro ρ H S x y d v u Q R r1 r2 e q
  obtain ⟨p, e1, e2⟩ := Option.bind_eq_some_iff.mp e
  obtain ⟨p2, e3, e4⟩ := Option.bind_eq_some_iff.mp e2
  split at e4
  · rename_i h
    cases e4
    obtain ⟨h1, h2⟩ := Bool.and_eq_true_iff.mp h
    exact ⟨p, p2, dpS_of R e1 r1, dpS_of R e3 r2, h1, h2, q _ H (Same.refl H) rfl⟩
  · cases e4
/-! is None -/
def D.isN : D → Bool
  | .non => true
  | _ => false
def o_is (_ : Sto) (x y : D) : Option D := if y.isN then some (.bl x.isN) else none
def o_isnot (_ : Sto) (x y : D) : Option D := if y.isN then some (.bl (!x.isN)) else none
theorem isN_rel {H : Hp} {A : Addr → Prop} {ρ : List Addr} {v : V} {d : D} (r : RelD K H A ρ v d) : decide (v = .non) = d.isN := by
  cases d with
  | non => have r' : v = .non := r; subst r'; rfl
  | bl b => have r' : v = .bl b := r; subst r'; rfl
  | int b => have r' : v = .int b := r; subst r'; rfl
  | str b => have r' : v = .str b := r; subst r'; rfl
  | tup ds => obtain ⟨a, xs, rfl, _⟩ := r; rfl
  | lst ds => obtain ⟨a, xs, rfl, _⟩ := r; rfl
  | ref n => obtain ⟨a, rfl, _⟩ := r; rfl
theorem non_of {H : Hp} {A : Addr → Prop} {ρ : List Addr} {v : V} {d : D} (r : RelD K H A ρ v d) (h : d.isN = true) : v = .non := of_decide_eq_true ((isN_rel r).trans h)
theorem os_is : OpS K (fun x y H Q => y = .non ∧ Q (.bl (decide (x = .non))) H) o_is := by
  intro ρ H S x y d v u Q R r1 r2 e q
  simp only [o_is] at e
  split at e
  · rename_i h
    cases e
    exact ⟨non_of r2 h, q _ H (Same.refl H) (by rw [isN_rel r1]; rfl)⟩
  · cases e
theorem os_isnot : OpS K (fun x y H Q => y = .non ∧ Q (.bl (!decide (x = .non))) H) o_isnot := by
  intro ρ H S x y d v u Q R r1 r2 e q
  simp only [o_isnot] at e
  split at e
  · rename_i h
    cases e
    exact ⟨non_of r2 h, q _ H (Same.refl H) (by rw [isN_rel r1]; rfl)⟩
  · cases e
/-! in -/
def inStr (x y : Str) : Bool := !(Builtin.Str.occurrences y x 0 y.length 1).isEmpty
def o_inS (neg : Bool) (_ : Sto) : D → D → Option D
  | .str x, .str y => some (.bl (if neg then !inStr x y else inStr x y))
  | _, _ => none
theorem os_inS : OpS K (fun x y H Q => ∃ i j, x = .str i ∧ y = .str j ∧ Q (.bl (!(Builtin.Str.occurrences j i 0 j.length 1).isEmpty)) H) (o_inS false) := by
  intro ρ H S x y d v u Q R r1 r2 e q
  cases x <;> cases y <;> first | (cases e; rename_i a b; exact ⟨a, b, r1, r2, q _ H (Same.refl H) rfl⟩) | cases e
theorem os_ninS : OpS K (fun x y H Q => ∃ i j, x = .str i ∧ y = .str j ∧ Q (.bl (!(!(Builtin.Str.occurrences j i 0 j.length 1).isEmpty))) H) (o_inS true) := by
  intro ρ H S x y d v u Q R r1 r2 e q
  cases x <;> cases y <;> first | (cases e; rename_i a b; exact ⟨a, b, r1, r2, q _ H (Same.refl H) rfl⟩) | cases e
/-- in a list -/
def o_inL (neg : Bool) (S : Sto) (x y : D) : Option D := (toP x).bind fun p => (toPS S y).bind fun q => match q with
  | .list ps => if (SeqAt.shaped p && SeqAt.shaped (.list ps)) = true then some (.bl (if neg then !(ps.any fun z => PyData.eqv z p) else ps.any fun z => PyData.eqv z p)) else none
  | _ => none
theorem os_inL : OpS K (rInD K) (o_inL false) := by
  intro ρ H S x y d v u Q R r1 r2 e q
  obtain ⟨p, e1, e2⟩ := Option.bind_eq_some_iff.mp e
  obtain ⟨p2, e3, e4⟩ := Option.bind_eq_some_iff.mp e2
  cases p2 with
  | list ps =>
    simp only at e4
    split at e4
    · rename_i h
      cases e4
      obtain ⟨h1, h2⟩ := Bool.and_eq_true_iff.mp h
      exact ⟨p, ps, dp_of _ _ _ e1 r1, dpS_of R e3 r2, h1, h2, q _ H (Same.refl H) rfl⟩
    · cases e4
  | _ => cases e4
theorem os_ninL : OpS K (rNotInD K) (o_inL true) := by
  intro ρ H S x y d v u Q R r1 r2 e q
  obtain ⟨p, e1, e2⟩ := Option.bind_eq_some_iff.mp e
  obtain ⟨p2, e3, e4⟩ := Option.bind_eq_some_iff.mp e2
  cases p2 with
  | list ps =>
    simp only at e4
    split at e4
    · rename_i h
      cases e4
      obtain ⟨h1, h2⟩ := Bool.and_eq_true_iff.mp h
      exact ⟨p, ps, dp_of _ _ _ e1 r1, dpS_of R e3 r2, h1, h2, q _ H (Same.refl H) rfl⟩
    · cases e4
  | _ => cases e4
/-! <= of ints, texts, tuples of these -/
def sameK : D → D → Bool
  | .int _, .int _ => true
  | .str _, .str _ => true
  | _, _ => false
def strLe (a b : Str) : Bool := !(decide (b.cps.toList < a.cps.toList))
def eq1 : D → D → Bool
  | .int i, .int j => i == j
  | .str a, .str b => a == b
  | _, _ => false
def le1 : D → D → Bool
  | .int i, .int j => decide (i ≤ j)
  | .str a, .str b => strLe a b
  | _, _ => false
def leT : List D → List D → Bool
  | [], _ => true
  | _ :: _, [] => false
  | x :: xs, y :: ys => if eq1 x y = true then leT xs ys else le1 x y
def o_le (_ : Sto) : D → D → Option D
  | .int i, .int j => some (.bl (decide (i ≤ j)))
  | .str a, .str b => some (.bl (strLe a b))
  | .tup xs, .tup ys => if ((xs.zip ys).all fun p => sameK p.1 p.2) = true then some (.bl (leT xs ys)) else none
  | _, _ => none
def rLeA (K : PySem.W.Frag) : R2 := fun x y H Q => rI0 (fun i j => .bl (decide (i ≤ j))) x y H Q ∨ (∃ i j, x = .str i ∧ y = .str j ∧ Q (.bl (strLe i j)) H) ∨
  ∃ (a b : Addr) (xs ys : List V) (e r : Nat → Bool), x = .ref a ∧ y = .ref b ∧ SqT K H a xs ∧ SqT K H b ys ∧
    (∀ (j : Nat) (u w : V), xs[j]? = some u → ys[j]? = some w → (∃ m n, u = .int m ∧ w = .int n ∧ e j = (m == n) ∧ r j = decide (m ≤ n)) ∨ ∃ m n, u = .str m ∧ w = .str n ∧ e j = (m == n) ∧ r j = strLe m n) ∧
    Q (.bl (Ob.lexAt e r (decide (xs.length ≤ ys.length)) 0 (min xs.length ys.length))) H
theorem op_leA {X : Cx} (hu : X.A.units < cLine) : OpR X (compareOp .LtE) (rLeA X.K) := by
  intro pins s σ H x y v u Q I rx ry h
  rcases h with h | h | h
  · exact op_le pins s σ H x y v u Q I rx ry h
  · obtain ⟨i, j, rfl, rfl, q⟩ := h
    obtain ⟨t, rfl⟩ := rx
    obtain ⟨t', rfl⟩ := ry
    exact PySem.P.le_str ⟨.bl _, H, I, rfl, q⟩
  · obtain ⟨a, b, xs, ys, e, r, rfl, rfl, ha, hb, hk, q⟩ := h
    cases rx
    cases ry
    obtain ⟨its, r1, p1, _⟩ := I.tuple ha
    obtain ⟨its2, r2, p2, _⟩ := I.tuple hb
    have e1 : its.toArray.size = xs.length := by rw [List.size_toArray]; exact r1.length.symm
    have e2 : its2.toArray.size = ys.length := by rw [List.size_toArray]; exact r2.length.symm
    have at1 : ∀ j (h1 : j < its.toArray.size), ∃ z, xs[j]? = some z ∧ RelV z its.toArray[j] := fun j h1 => by
      have hx : xs[j]? = some (xs[j]'(by omega)) := List.getElem?_eq_getElem (by omega)
      obtain ⟨w, hw, rw'⟩ := r1.get hx
      refine ⟨_, hx, ?_⟩
      have : its.toArray[j] = w := by
        have h1' : j < its.length := by simpa using h1
        rw [List.getElem?_eq_getElem h1'] at hw
        simpa using Option.some.inj hw
      rw [this]; exact rw'
    have at2 : ∀ j (h1 : j < its2.toArray.size), ∃ z, ys[j]? = some z ∧ RelV z its2.toArray[j] := fun j h1 => by
      have hx : ys[j]? = some (ys[j]'(by omega)) := List.getElem?_eq_getElem (by omega)
      obtain ⟨w, hw, rw'⟩ := r2.get hx
      refine ⟨_, hx, ?_⟩
      have : its2.toArray[j] = w := by
        have h1' : j < its2.length := by simpa using h1
        rw [List.getElem?_eq_getElem h1'] at hw
        simpa using Option.some.inj hw
      rw [this]; exact rw'
    have R := Ob.RcOp.tuples_le (A := X.A) (s := s) (e := e) (r := r) p1 p2 hu (fun j h1 h2 => by
      obtain ⟨z1, g1, k1⟩ := at1 j h1
      obtain ⟨z2, g2, k2⟩ := at2 j h2
      rcases hk j z1 z2 g1 g2 with ⟨m, n, rfl, rfl, c1, c2⟩ | ⟨m, n, rfl, rfl, c1, c2⟩
      · obtain ⟨t, et⟩ := k1
        obtain ⟨t', et'⟩ := k2
        rw [et, et', c1]
        exact SeqAt.EqAt.int_int _ _ _ _
      · obtain ⟨t, et⟩ := k1
        obtain ⟨t', et'⟩ := k2
        rw [et, et', c1]
        exact SeqAt.EqAt.str_str _ _ _ _) (fun j h1 h2 _ => by
      obtain ⟨z1, g1, k1⟩ := at1 j h1
      obtain ⟨z2, g2, k2⟩ := at2 j h2
      rcases hk j z1 z2 g1 g2 with ⟨m, n, rfl, rfl, c1, c2⟩ | ⟨m, n, rfl, rfl, c1, c2⟩
      · obtain ⟨t, et⟩ := k1
        obtain ⟨t', et'⟩ := k2
        rw [et, et', c2]
        exact Ob.RcOp.le_int _ _ _ _
      · obtain ⟨t, et⟩ := k1
        obtain ⟨t', et'⟩ := k2
        rw [et, et', c2]
        exact fun _ _ _ _ h => PySem.P.le_str h)
    rw [e1, e2] at R
    have z : wpAny (model X.prog X.w) X.A (compareOp .LtE (.ref a) (.ref b)) (EP X pins σ Q) X.xe s := R X.prog X.w X.xe (EP X pins σ Q) ⟨.bl _, H, I, rfl, q⟩
    exact z
theorem lex_leT : ∀ (k : Nat) (xs ys : List D) (i : Nat), k = min xs.length ys.length → ∀ (e r : Nat → Bool), (∀ j x y, xs[j]? = some x → ys[j]? = some y → e (i + j) = eq1 x y ∧ r (i + j) = le1 x y) →
    Ob.lexAt e r (decide (i + xs.length ≤ i + ys.length)) i k = leT xs ys
  | k, [], ys, i, hk, e, r, h => by
    have : k = 0 := by simp at hk; exact hk
    subst this
    rw [Ob.lexAt_zero]
    simp [leT]
  | k, x :: xs, [], i, hk, e, r, h => by
    have : k = 0 := by simp at hk; exact hk
    subst this
    rw [Ob.lexAt_zero]
    simp [leT]
  | k, x :: xs, y :: ys, i, hk, e, r, h => by
    obtain ⟨k', rfl⟩ : ∃ k', k = k' + 1 := ⟨min xs.length ys.length, by simp at hk; omega⟩
    rw [Ob.lexAt_succ]
    obtain ⟨h1, h2⟩ := h 0 x y rfl rfl
    rw [Nat.add_zero] at h1 h2
    rw [h1, h2]
    show (if eq1 x y = true then _ else _) = if eq1 x y = true then leT xs ys else le1 x y
    have ih := lex_leT k' xs ys (i + 1) (by simp at hk; omega) e r fun j x' y' a b => by
      have := h (j + 1) x' y' a b
      rw [show i + 1 + j = i + (j + 1) by omega]
      exact this
    have ez : decide (i + 1 + xs.length ≤ i + 1 + ys.length) = decide (i + (x :: xs).length ≤ i + (y :: ys).length) := by
      congr 1
      simp only [List.length_cons]
      rw [eq_iff_iff]; omega
    rw [ez] at ih
    rw [ih]
theorem os_le : OpS K (rLeA K) o_le := by
  intro ρ H S x y d v u Q R r1 r2 e q
  cases x with
  | int i =>
    cases y with
    | int j => cases e; exact .inl ⟨i, j, r1, r2, q _ H (Same.refl H) rfl⟩
    | _ => cases e
  | str i =>
    cases y with
    | str j => cases e; exact .inr (.inl ⟨i, j, r1, r2, q _ H (Same.refl H) rfl⟩)
    | _ => cases e
  | tup xs =>
    cases y with
    | tup ys =>
      simp only [o_le] at e
      split at e
      · rename_i hs
        cases e
        obtain ⟨a, vs, rfl, h1, k1⟩ := r1
        obtain ⟨b, us, rfl, h2, k2⟩ := r2
        refine .inr (.inr ⟨a, b, vs, us, fun j => eq1 (xs.getD j .non) (ys.getD j .non), fun j => le1 (xs.getD j .non) (ys.getD j .non), rfl, rfl, h1, h2, fun j w z e1 e2 => ?_, ?_⟩)
        · have hj1 : j < xs.length := by rw [← k1.length]; exact (List.getElem?_eq_some_iff.mp e1).1
          have hj2 : j < ys.length := by rw [← k2.length]; exact (List.getElem?_eq_some_iff.mp e2).1
          obtain ⟨w', f1, g1⟩ := k1.get (List.getElem?_eq_getElem hj1)
          obtain ⟨z', f2, g2⟩ := k2.get (List.getElem?_eq_getElem hj2)
          rw [e1] at f1; cases f1
          rw [e2] at f2; cases f2
          have hsk : sameK xs[j] ys[j] = true := by
            have := List.all_eq_true.mp hs (xs[j], ys[j]) (by
              have hz : j < (xs.zip ys).length := by simp; omega
              have : (xs.zip ys)[j] = (xs[j], ys[j]) := by simp
              rw [← this]; exact List.getElem_mem hz)
            exact this
          dsimp only
          rw [List.getD_eq_getElem?_getD, List.getElem?_eq_getElem hj1, List.getD_eq_getElem?_getD, List.getElem?_eq_getElem hj2]
          show (∃ m n, w = .int m ∧ z = .int n ∧ eq1 xs[j] ys[j] = (m == n) ∧ le1 xs[j] ys[j] = decide (m ≤ n)) ∨ ∃ m n, w = .str m ∧ z = .str n ∧ eq1 xs[j] ys[j] = (m == n) ∧ le1 xs[j] ys[j] = strLe m n
          generalize xs[j] = p at hsk g1 ⊢
          generalize ys[j] = p2 at hsk g2 ⊢
          cases p <;> cases p2 <;> first | exact .inl ⟨_, _, g1, g2, rfl, rfl⟩ | exact .inr ⟨_, _, g1, g2, rfl, rfl⟩ | cases hsk
        · have l1 := k1.length
          have l2 := k2.length
          have ez := lex_leT (min xs.length ys.length) xs ys 0 rfl (fun j => eq1 (xs.getD j .non) (ys.getD j .non)) (fun j => le1 (xs.getD j .non) (ys.getD j .non)) fun j x y a b => by
            simp only [Nat.zero_add, List.getD_eq_getElem?_getD, a, b, Option.getD_some, and_self]
          simp only [Nat.zero_add] at ez
          rw [l1, l2, ez]
          exact q _ H (Same.refl H) rfl
      · cases e
    | _ => cases e
  | _ => cases e
/-! ### items, parts -/
def o_ix (S : Sto) : D → D → Option D
  | .tup ds, .int i => atI ds i
  | .lst ds, .int i => atI ds i
  | .ref n, .int i => match S[n]? with
    | some (some (.lst ds)) => atI ds i
    | _ => none
  | .str z, .int i => if z.length ≤ sizeLine then (atI z.cps.toList i).map fun c => .str ⟨#[c]⟩ else none
  | _, _ => none
theorem relL_atI {H : Hp} {A : Addr → Prop} {ρ : List Addr} {xs : List V} {ds : List D} {i : Int} {d : D} (r : RelL K H A ρ xs ds) (h : atI ds i = some d) : ∃ v, atI xs i = some v ∧ RelD K H A ρ v d := by
  unfold atI at h ⊢
  rw [r.length]
  cases e : ixN ds.length i with
  | none => rw [e] at h; cases h
  | some j =>
    rw [e] at h
    exact r.get h
theorem os_ix : OpS K (rIx K) o_ix := by
  intro ρ H S x y d v u Q R r1 r2 e q
  cases y with
  | int i =>
    have r2' : u = .int i := r2
    subst r2'
    cases x with
    | tup ds =>
      obtain ⟨a, xs, rfl, h1, k1⟩ := r1
      obtain ⟨w, e1, k2⟩ := relL_atI k1 (show atI ds i = some d from e)
      exact .inr (.inl ⟨a, xs, i, w, rfl, rfl, h1, e1, q _ H (Same.refl H) k2⟩)
    | lst ds =>
      obtain ⟨a, xs, rfl, h1, k1⟩ := r1
      obtain ⟨w, e1, k2⟩ := relL_atI k1 (show atI ds i = some d from e)
      exact .inl ⟨a, xs, i, w, rfl, rfl, h1.sq, e1, q _ H (Same.refl H) k2⟩
    | ref n =>
      obtain ⟨a, rfl, ha⟩ := r1
      simp only [o_ix] at e
      split at e
      · rename_i ds hS
        obtain ⟨xs, h1, k1⟩ := R.obj n _ a hS ha
        obtain ⟨w, e1, k2⟩ := relL_atI k1 e
        exact .inl ⟨a, xs, i, w, rfl, rfl, .inl (.inl h1), e1, q _ H (Same.refl H) k2⟩
      · cases e
    | str z =>
      have r1' : v = .str z := r1
      subst r1'
      simp only [o_ix] at e
      split at e
      · rename_i hl
        obtain ⟨c, e1, rfl⟩ := Option.map_eq_some_iff.mp e
        exact .inr (.inr ⟨z, i, c, rfl, rfl, hl, e1, q _ H (Same.refl H) rfl⟩)
      · cases e
    | _ => cases e
  | _ => cases x <;> cases e
end
end Y

set_option Elab.async false
set_option linter.all false
set_option maxRecDepth 100000
set_option maxHeartbeats 4000000
set_option autoImplicit false
namespace Y
open PySem PySem.Spec L2

/-! ### what a loop walks -/
/-- from here on the iterator gives ds, as long as G holds of the store -/
def GoodIt (K : PySem.W.Frag) (ρ0 : List Addr) (H0 : Hp) (S0 : Sto) (G : Sto → Prop) (J : It) (ds : List D) : Prop := ∀ ρ H S, RS K ρ H S → Up K ρ0 H0 S0 ρ H S → G S →
  (∀ i, i < ds.length → J.go i H) ∧ J.stop ds.length H ∧ ∀ (i : Nat) (d : D) x H', ds[i]? = some d → J.yld i H x H' → Same H H' ∧ RelD K H' (Al ρ S) ρ x d
/-- the list that is walked (where it may change) stands as it stood -/
def okSrc (src : List (Nat × List D)) (S : Sto) : Prop := ∀ p ∈ src, S[p.1]? = some (some (.lst p.2))
abbrev IM := En → Sto → Res (List D × List (Nat × List D))
def tI (K : PySem.W.Frag) (mg : Str → Option Value) (W : WX) (m : IM) : TI := fun σ H R => ∃ ρ env S, RS K ρ H S ∧ RV K ρ σ H S env ∧
  wpM (m env S) (fun p S' => ∀ ρ' H' J, RS K ρ' H' S' → Up K ρ H S ρ' H' S' → GoodIt K ρ' H' S' (okSrc p.2) J p.1 → R J H') (PostX K mg W ρ σ H S)
theorem PI_imp {X : Cx} {tg e : Expr} {t t' : TI} (h : PI X tg e t) (i : ∀ σ H R, t' σ H R → t σ H R) : PI X tg e t' := ⟨fun pins s σ H R I q => h.run pins s σ H R I (i σ H R q)⟩
open Classical in
noncomputable def loop (src : List (Nat × List D)) (tg : TgM) (body : SM) : List D → En → Sto → SR
  | [], env, S => if okSrc src S then .nx env S else .err
  | d :: ds, env, S => if okSrc src S then match tg d env with
    | some env1 => match body env1 S with
      | .nx e S1 => loop src tg body ds e S1
      | .ct e S1 => loop src tg body ds e S1
      | .brk e S1 => .nx e S1
      | r => r
    | none => .err else .err
noncomputable def forS (it : IM) (tg : TgM) (body : SM) : SM := fun env S => bS (it env S) env fun p S1 => loop p.2 tg body p.1 env S1
section
variable {X : Cx} {W : WX} {pos : Pos} {a e : Expr} {m : EM} {mi : IM} {tg : Expr} {g : TgM} {body : List Stmt} {mb : SM}
theorem s_for {ix : List Nat} (hp : PassesOwn (model X.prog X.w) X.A X.env X.xe) (hc : X.calm = true) (hi : PI X tg e (tI X.K X.mg W mi)) (hg : PG X tg (tG X.K ix g)) (hb : PSs X body (tS X.K X.mg W mb)) (hs : ∀ x, foldedSetIterable e X.env x = pure x := by intro _; rfl) :
    PS X (.For tg e body [] pos) (tS X.K X.mg W (forS mi g mb)) :=
  (ps_for hp hc hi hg hb hs).imp fun Dn σ H ⟨ρ, env, S, R, V, w⟩ => ⟨ρ, env, S, R, V, wpM_mono (wpS_bS V w) (fun p S1 w1 ρ1 H1 J R1 U1 GI => by
    obtain ⟨all, src⟩ := p
    refine ⟨fun i n σ' H' => n = all.length - i ∧ i ≤ all.length ∧ ∃ ρ' env' S', RS X.K ρ' H' S' ∧ RV X.K ρ' σ' H' S' env' ∧ Up X.K ρ1 H1 S1 ρ' H' S' ∧ wpS X.K X.mg W ρ' H' S' Dn (loop src g mb (all.drop i) env' S'),
      ⟨all.length, by simp, Nat.zero_le _, ρ1, env, S1, R1, U1.rv V, Up.refl, wpS_up U1 (by simpa using w1)⟩, ?_⟩
    rintro i n σ' H' ⟨rfl, hi', ρ', env', S', R', V', U', w'⟩
    by_cases hlt : i < all.length
    · rw [List.drop_eq_getElem_cons hlt] at w'
      unfold loop at w'
      split at w'
      · rename_i hsrc
        obtain ⟨g1, g2, g3⟩ := GI ρ' H' S' R' U' hsrc
        refine .inr ⟨g1 i hlt, fun σ2 H2 => ∃ ρ2 env2 S2, RS X.K ρ2 H2 S2 ∧ RV X.K ρ2 σ2 H2 S2 env2 ∧ Up X.K ρ1 H1 S1 ρ2 H2 S2 ∧ wpS X.K X.mg W ρ2 H2 S2 Dn (loop src g mb (all.drop (i + 1)) env2 S2),
          fun σ2 H2 q => ⟨all.length - (i + 1), by omega, rfl, hlt, q⟩, fun x H2 y => ?_⟩
        obtain ⟨sm, rd⟩ := g3 i all[i] x H2 (List.getElem?_eq_getElem hlt) y
        have U2 : Up X.K ρ' H' S' ρ' H2 S' := Up.same sm
        split at w'
        · rename_i env1 e1
          refine ⟨ρ', env', S', all[i], env1, R'.same sm, U2.rv V', rd, e1, fun σ3 V3 _ => ⟨ρ', env1, S', R'.same sm, V3, ?_⟩⟩
          have w2 := wpS_up (mg := X.mg) (W := W) (Dn := Dn) U2 w'
          split at w2
          · rename_i e2 S2 eb
            rw [eb]
            exact fun ρ4 σ4 H4 R4 V4 U4 => ⟨ρ4, e2, S2, R4, V4, (U'.trans U2).trans U4, wpS_up U4 w2⟩
          · rename_i e2 S2 eb
            rw [eb]
            exact fun ρ4 σ4 H4 R4 V4 U4 => ⟨ρ4, e2, S2, R4, V4, (U'.trans U2).trans U4, wpS_up U4 w2⟩
          · rename_i e2 S2 eb
            rw [eb]
            exact w2
          · rename_i n1 n2 n3
            cases eb : mb env1 S' with
            | nx e2 S2 => exact absurd eb (n1 e2 S2)
            | ct e2 S2 => exact absurd eb (n2 e2 S2)
            | brk e2 S2 => exact absurd eb (n3 e2 S2)
            | ret d S2 => rw [eb] at w2; exact w2
            | exc c fs e2 S2 => rw [eb] at w2; exact w2
            | err => rw [eb] at w2; exact w2.elim
        · exact w'.elim
      · exact w'.elim
    · have ei : i = all.length := by omega
      subst ei
      rw [List.drop_length] at w'
      unfold loop at w'
      split at w'
      · rename_i hsrc
        obtain ⟨g1, g2, g3⟩ := GI ρ' H' S' R' U' hsrc
        exact .inl ⟨g2, w' ρ' σ' H' R' V' Up.refl⟩
      · exact w'.elim) fun _ _ _ q => q⟩
/-! while -/
/-- n turns at most -/
def wloop (c : TM) (body : SM) : Nat → En → Sto → SR
  | 0, _, _ => .err
  | n + 1, env, S => bS (c env S) env fun k S1 => match k with
    | false => .nx env S1
    | true => match body env S1 with
      | .nx e S2 => wloop c body n e S2
      | .ct e S2 => wloop c body n e S2
      | .brk e S2 => .nx e S2
      | r => r
open Classical in
noncomputable def whS (c : TM) (body : SM) : SM := fun env S => if h : ∃ n, wloop c body n env S ≠ .err then wloop c body (Classical.choose h) env S else .err
theorem wloop_mono {c : TM} {body : SM} : ∀ (n : Nat) (env : En) (S : Sto), wloop c body n env S ≠ .err → ∀ m, n ≤ m → wloop c body m env S = wloop c body n env S
  | 0, env, S, h, m, hm => absurd rfl h
  | n + 1, env, S, h, m, hm => by
    obtain ⟨m', rfl⟩ : ∃ m', m = m' + 1 := ⟨m - 1, by omega⟩
    unfold wloop at h ⊢
    cases e : c env S with
    | err => rfl
    | exc cc fs S1 => rfl
    | ok k S1 =>
      rw [e] at h
      cases k with
      | false => rfl
      | true =>
        simp only [bS] at h ⊢
        cases e2 : body env S1 with
        | nx e3 S2 => rw [e2] at h; exact wloop_mono n e3 S2 h m' (by omega)
        | ct e3 S2 => rw [e2] at h; exact wloop_mono n e3 S2 h m' (by omega)
        | _ => rfl
/-- a while by any number of turns that is enough -/
theorem whS_eq {c : TM} {body : SM} {n : Nat} {env : En} {S : Sto} {r : SR} (h : wloop c body n env S = r) (hr : r ≠ .err) : whS c body env S = r := by
  unfold whS
  have hx : ∃ n, wloop c body n env S ≠ .err := ⟨n, by rw [h]; exact hr⟩
  rw [dif_pos hx]
  have h1 := Classical.choose_spec hx
  generalize Classical.choose hx = k at h1 ⊢
  rcases Nat.le_total k n with q | q
  · rw [← wloop_mono k env S h1 n q, h]
  · rw [wloop_mono n env S (by rw [h]; exact hr) k q, h]
theorem s_while {c : Expr} {mc : TM} (hp : PassesOwn (model X.prog X.w) X.A X.env X.xe) (hc : PT X c (tT X.K X.mg W mc)) (hb : PSs X body (tS X.K X.mg W mb)) : PS X (.While c body [] pos) (tS X.K X.mg W (whS mc mb)) :=
  (ps_while hp hc hb).imp fun Dn σ H ⟨ρ, env, S, R, V, w⟩ => by
    unfold whS at w
    split at w
    · rename_i hx
      generalize Classical.choose hx = n at w
      refine ⟨fun n σ H => ∃ ρ env S, RS X.K ρ H S ∧ RV X.K ρ σ H S env ∧ wpS X.K X.mg W ρ H S Dn (wloop mc mb n env S), ⟨n, ρ, env, S, R, V, w⟩, ?_⟩
      rintro n σ H ⟨ρ, env, S, R, V, w⟩
      cases n with
      | zero => exact w.elim
      | succ n =>
        unfold wloop at w
        refine tT_seq R V (wpM_mono (wpS_bS V w) (fun k S1 w1 ρ1 H1 R1 V1 U1 => ?_) fun _ _ _ q => q)
        cases k with
        | false => exact iteF (w1 ρ1 σ H1 R1 V1 U1)
        | true =>
          refine iteT ⟨fun σ' H' => ∃ ρ env S, RS X.K ρ H' S ∧ RV X.K ρ σ' H' S env ∧ wpS X.K X.mg W ρ H' S Dn (wloop mc mb n env S), fun σ' H' q => ⟨n, Nat.lt_succ_self n, q⟩, ρ1, env, S1, R1, V1, ?_⟩
          have w2 := wpS_up (mg := X.mg) (W := W) (Dn := Dn) U1 w1
          simp only at w2
          split at w2
          · rename_i e2 S2 eb
            rw [eb]
            exact fun ρ4 σ4 H4 R4 V4 U4 => ⟨ρ4, e2, S2, R4, V4, wpS_up U4 w2⟩
          · rename_i e2 S2 eb
            rw [eb]
            exact fun ρ4 σ4 H4 R4 V4 U4 => ⟨ρ4, e2, S2, R4, V4, wpS_up U4 w2⟩
          · rename_i e2 S2 eb
            rw [eb]
            exact w2
          · rename_i n1 n2 n3
            cases eb : mb env S1 with
            | nx e2 S2 => exact absurd eb (n1 e2 S2)
            | ct e2 S2 => exact absurd eb (n2 e2 S2)
            | brk e2 S2 => exact absurd eb (n3 e2 S2)
            | ret d S2 => rw [eb] at w2; exact w2
            | exc c fs e2 S2 => rw [eb] at w2; exact w2
            | err => rw [eb] at w2; exact w2.elim
    · exact w.elim
/-! #### sources -/
/-- a range -/
def rgL (a b : Int) : List D := (List.range (b - a).toNat).map fun (i : Nat) => .int (a + i)
theorem good_range {K : PySem.W.Frag} {ρ0 : List Addr} {H0 : Hp} {S0 : Sto} {lo hi : Int} : GoodIt K ρ0 H0 S0 (okSrc []) (Itr lo (hi - lo).toNat) (rgL lo hi) := fun ρ H S R U _ => by
  have hl : (rgL lo hi).length = (hi - lo).toNat := by simp [rgL]
  rw [hl]
  refine ⟨fun i hi => hi, Nat.le_refl _, fun i d x H' e y => ?_⟩
  obtain ⟨rfl, rfl⟩ := y
  have hi' : i < (hi - lo).toNat := by rw [← hl]; exact (List.getElem?_eq_some_iff.mp e).1
  simp only [rgL, List.getElem?_map, List.getElem?_range hi', Option.map_some] at e
  cases e
  exact ⟨Same.refl _, rfl⟩
def i_rg1 (l : LM) : IM := fun env S => bd (l env S) fun ds S1 => match ds with
  | [.int j] => if -(2 ^ 62) ≤ j ∧ j < 2 ^ 62 then .ok (rgL 0 j, []) S1 else .err
  | _ => .err
def i_rg2 (l : LM) : IM := fun env S => bd (l env S) fun ds S1 => match ds with
  | [.int i, .int j] => if -(2 ^ 62) ≤ i ∧ i < 2 ^ 62 ∧ -(2 ^ 62) ≤ j ∧ j < 2 ^ 62 then .ok (rgL i j, []) S1 else .err
  | _ => .err
variable {l : LM} {p : Pos}
theorem y_rg1 (hm : X.mg "range" = none) (ha : PA X [a] (tA X.K X.mg W l)) (hg : Gl X "range" := by rfl) (hs : starEach [a] X.env = [(false, eval a X.env)] := by rfl) : PI X tg (.Call (.Name "range" p) [a] [] pos) (tI X.K X.mg W (i_rg1 l)) :=
  PI_imp (pi_range1 hg hm ha hs) fun σ H Q ⟨ρ, env, S, R, V, w⟩ => tA_seq R V (wpM_mono (wpM_bd w) (fun ds S1 w1 ρ1 vs H1 R1 V1 U1 r1 => by
    split at w1
    · rename_i j
      split at w1
      · rename_i hj
        obtain ⟨x, xs, rfl, h1, h2⟩ := r1
        have h1' : x = .int j := h1
        have h2' : xs = [] := h2
        subst h1' h2'
        refine ⟨j, rfl, hj.1, hj.2, w1 ρ1 H1 _ R1 U1 ?_⟩
        have := good_range (K := X.K) (ρ0 := ρ1) (H0 := H1) (S0 := S1) (lo := 0) (hi := j)
        rw [Int.sub_zero] at this
        exact this
      · exact w1.elim
    · exact w1.elim) fun _ _ _ q => q)
theorem y_rg2 {b : Expr} (hm : X.mg "range" = none) (ha : PA X [a, b] (tA X.K X.mg W l)) (hg : Gl X "range" := by rfl) (hs : starEach [a, b] X.env = [(false, eval a X.env), (false, eval b X.env)] := by rfl) (hs2 : starEach [b] X.env = [(false, eval b X.env)] := by rfl) :
    PI X tg (.Call (.Name "range" p) [a, b] [] pos) (tI X.K X.mg W (i_rg2 l)) :=
  PI_imp (pi_range2 hg hm ha hs hs2) fun σ H Q ⟨ρ, env, S, R, V, w⟩ => tA_seq R V (wpM_mono (wpM_bd w) (fun ds S1 w1 ρ1 vs H1 R1 V1 U1 r1 => by
    split at w1
    · rename_i i j
      split at w1
      · rename_i hj
        obtain ⟨x, xs, rfl, h1, y, ys, rfl, h2, h3⟩ := r1
        have h1' : x = .int i := h1
        have h2' : y = .int j := h2
        have h3' : ys = [] := h3
        subst h1' h2' h3'
        exact ⟨i, j, rfl, hj, w1 ρ1 H1 _ R1 U1 good_range⟩
      · exact w1.elim
    · exact w1.elim) fun _ _ _ q => q)
/-- what a for walks of a value: a tuple, a list, a text -/
def sgns (z : Str) : List D := z.cps.toList.map fun c => .str ⟨#[c]⟩
def srcOf (S : Sto) : D → Option (List D × List (Nat × List D))
  | .tup ds => some (ds, [])
  | .lst ds => some (ds, [])
  | .str z => some (sgns z, [])
  | .ref n => match S[n]? with
    | some (some (.lst ds)) => some (ds, [(n, ds)])
    | _ => none
  | _ => none
def i_of (m : EM) : IM := fun env S => bd (m env S) fun d S1 => lf (srcOf S1 d) S1
def iAny (K : PySem.W.Frag) (tl : TE) : TI := fun σ H R => tl σ H fun x H1 => (∃ a, x = .ref a ∧ (∃ xs, SqL K H1 a xs) ∧ R (Itl K a) H1) ∨ (∃ a, x = .ref a ∧ (∃ xs, SqT K H1 a xs) ∧ R (Itt K a) H1) ∨ ∃ z, x = .str z ∧ R (Its z) H1
theorem pi_any {tl : TE} (hl : PE X e tl) : PI X tg e (iAny X.K tl) := by
  refine ⟨fun pins s σ H R I h => ?_⟩
  refine thn (hl.run pins s σ H _ I h) fun v s1 ⟨x, H1, I1, r1, q1⟩ => ?_
  rcases q1 with ⟨a, rfl, ⟨xs, hq⟩, q⟩ | ⟨a, rfl, ⟨xs, hq⟩, q⟩ | ⟨z, rfl, q⟩
  · cases r1
    obtain ⟨its, rv, p, hz⟩ := I1.list hq
    refine wpAny_pyIter_list p.isList ?_
    refine ⟨s1.heap.objs.size, [s1.heap.objs.size], _, _, H1, rfl, I1.kept (t' := s1.toks) fun b o e => Heap.get?_push_of_some _ e, turn_list a _, ⟨_, Heap.get?_push_size _ rfl, rfl, rfl⟩, fun b hb => ?_, q⟩
    have e : b = s1.heap.objs.size := by simpa using hb
    subst e
    exact I1.fpOk (Nat.le_refl _) (I1.hok.fresh (Nat.le_refl _))
  · cases r1
    obtain ⟨its, rv, p, hz⟩ := I1.tuple hq
    refine wpAny_pyIter_tuple (show s1.heap.IsTuple a its.toArray from p) ?_
    refine ⟨s1.heap.objs.size, [s1.heap.objs.size], _, _, H1, rfl, I1.kept (t' := s1.toks) fun b o e => Heap.get?_push_of_some _ e, turn_tuple a _, ⟨_, Heap.get?_push_size _ rfl, rfl, rfl⟩, fun b hb => ?_, q⟩
    have e : b = s1.heap.objs.size := by simpa using hb
    subst e
    exact I1.fpOk (Nat.le_refl _) (I1.hok.fresh (Nat.le_refl _))
  · obtain ⟨t, rfl⟩ := r1
    cases ha : z.cps.all (· < 128)
    · exact wpAny_pyIter_wide ha (pi_one (tk := s1.toks) I1 _ (turn_str _ z t "str_iterator" (.inr rfl)) ⟨_, Heap.get?_push_size _ rfl, rfl, rfl⟩ q)
    · exact wpAny_pyIter_ascii ha (pi_one (tk := s1.toks) I1 _ (turn_str _ z t "str_ascii_iterator" (.inl rfl)) ⟨_, Heap.get?_push_size _ rfl, rfl, rfl⟩ q)
theorem y_iter (ha : PE X e (tE X.K X.mg W m)) : PI X tg e (tI X.K X.mg W (i_of m)) :=
  PI_imp (pi_any ha) fun σ H Q ⟨ρ, env, S, R, V, w⟩ => tE_seq R V (wpM_mono (wpM_bd w) (fun d S1 w1 ρ1 v H1 R1 V1 U1 r1 => by
    obtain ⟨p, e1, q⟩ := wpM_lf w1
    cases d with
    | tup ds =>
      cases e1
      obtain ⟨a, xs, rfl, h1, h2⟩ := r1
      refine .inr (.inl ⟨a, rfl, ⟨xs, h1⟩, q ρ1 H1 _ R1 U1 fun ρ2 H2 S2 R2 U2 _ => ?_⟩)
      have h1' := U2.tup a xs h1
      have h2' := U2.relL h2
      refine ⟨fun i hi => ⟨xs, xs[i]'(by rw [h2.length]; exact hi), h1', by simp [h2.length, hi]⟩, ⟨xs, h1', by rw [h2.length]; exact Nat.le_refl _⟩, fun i d x H' e2 y => ?_⟩
      obtain ⟨rfl, y⟩ := y
      obtain ⟨v, f1, f2⟩ := h2'.get e2
      rw [y xs h1'] at f1
      cases f1
      exact ⟨Same.refl _, f2⟩
    | lst ds =>
      cases e1
      obtain ⟨a, xs, rfl, h1, h2⟩ := r1
      refine .inl ⟨a, rfl, ⟨xs, h1.sq⟩, q ρ1 H1 _ R1 U1 fun ρ2 H2 S2 R2 U2 _ => ?_⟩
      have h1' : SqL X.K H2 a xs := (U2.fz h1).sq
      have h2' := U2.relL h2
      refine ⟨fun i hi => ⟨xs, xs[i]'(by rw [h2.length]; exact hi), h1', by simp [h2.length, hi]⟩, ⟨xs, h1', by rw [h2.length]; exact Nat.le_refl _⟩, fun i d x H' e2 y => ?_⟩
      obtain ⟨rfl, y⟩ := y
      obtain ⟨v, f1, f2⟩ := h2'.get e2
      rw [y xs h1'] at f1
      cases f1
      exact ⟨Same.refl _, f2⟩
    | ref n =>
      simp only [srcOf] at e1
      split at e1
      · rename_i ds hS
        cases e1
        obtain ⟨a, rfl, ha⟩ := r1
        obtain ⟨xs, h1, h2⟩ := R1.obj n _ a hS ha
        refine .inl ⟨a, rfl, ⟨xs, .inl (.inl h1)⟩, q ρ1 H1 _ R1 U1 fun ρ2 H2 S2 R2 U2 hG => ?_⟩
        obtain ⟨ys, k1, k2⟩ := R2.obj n _ a (hG (n, ds) List.mem_cons_self) (U2.pre n a ha)
        have h1' : SqL X.K H2 a ys := .inl (.inl k1)
        refine ⟨fun i hi => ⟨ys, ys[i]'(by rw [k2.length]; exact hi), h1', by simp [k2.length, hi]⟩, ⟨ys, h1', by rw [k2.length]; exact Nat.le_refl _⟩, fun i d x H' e2 y => ?_⟩
        obtain ⟨rfl, y⟩ := y
        obtain ⟨v, f1, f2⟩ := k2.get e2
        rw [y ys h1'] at f1
        cases f1
        exact ⟨Same.refl _, f2⟩
      · cases e1
    | str z =>
      cases e1
      have r1' : v = .str z := r1
      subst r1'
      refine .inr (.inr ⟨z, rfl, q ρ1 H1 _ R1 U1 fun ρ2 H2 S2 R2 U2 _ => ?_⟩)
      have hl : (sgns z).length = z.cps.size := by simp [sgns]
      rw [hl]
      refine ⟨fun i hi => hi, Nat.le_refl _, fun i d x H' e2 y => ?_⟩
      obtain ⟨rfl, c, e3, rfl⟩ := y
      have e4 : z.cps.toList[i]? = some c := by rw [Array.getElem?_toList]; exact e3
      simp only [sgns, List.getElem?_map, e4, Option.map_some] at e2
      cases e2
      exact ⟨Same.refl _, rfl⟩
    | _ => cases e1) fun _ _ _ q => q)

/-! ### comprehensions -/
theorem wipe_wipe {σ : L2.St} {ix : List Nat} : wipe (wipe σ ix) ix = wipe σ ix := by
  apply List.ext_getElem?
  intro j
  rw [wipe_get, wipe_get]
  by_cases hj : j ∈ ix
  · rw [if_pos hj, if_pos hj]; cases σ[j]? <;> rfl
  · rw [if_neg hj, if_neg hj]
def wipeE (env : En) : List Nat → En
  | [] => env
  | v :: vs => (wipeE env vs).set v none
theorem RV.wipe {K : PySem.W.Frag} {ρ : List Addr} {σ : L2.St} {H : Hp} {S : Sto} {env : En} (h : RV K ρ σ H S env) : ∀ vs : List Nat, RV K ρ (L2.wipe σ vs) H S (wipeE env vs)
  | [] => h
  | v :: vs => by
    have ih := RV.wipe h vs
    unfold L2.wipe wipeE
    refine ⟨by simp [ih.1], fun i d e => ?_⟩
    by_cases hi : v = i
    · subst hi
      rw [List.getElem?_set] at e
      simp only [if_true] at e
      split at e <;> cases e
    · rw [List.getElem?_set_ne hi] at e ⊢
      exact ih.2 i d e
abbrev W0 : WX := fun _ _ _ _ => False
/-- the turns: the new list at n0 -/
def clp (tg : TgM) (ts : TM) (el : EM) (env0 : En) (n0 : Nat) (G : Sto → Bool) : List D → Sto → Res Unit
  | [], S => if G S then .ok () S else .err
  | d :: ds, S => if G S then match tg d env0 with
    | none => .err
    | some env1 => match ts env1 S with
      | .ok true S1 => match el env1 S1 with
        | .ok x S2 => match S2[n0]? with
          | some (some (.lst acc)) => if acc.length < sizeLine then clp tg ts el env0 n0 G ds (S2.set n0 (some (.lst (acc ++ [x])))) else .err
          | _ => .err
        | _ => .err
      | .ok false S1 => clp tg ts el env0 n0 G ds S1
      | _ => .err else .err
theorem clp_ne {tg : TgM} {ts : TM} {el : EM} {env0 : En} {n0 : Nat} {G : Sto → Bool} {c : Str} {fs : List (Str × D)} {S' : Sto} : ∀ (ds : List D) (S : Sto), clp tg ts el env0 n0 G ds S ≠ .exc c fs S'
  | [], S => by
    unfold clp
    split <;> (intro h; cases h)
  | d :: ds, S => by
    unfold clp
    split
    · split
      · intro h; cases h
      · split
        · split
          · split
            · split
              · exact clp_ne ds _
              · intro h; cases h
            · intro h; cases h
          · intro h; cases h
        · exact clp_ne ds _
        · intro h; cases h
    · intro h; cases h
open Classical in
noncomputable def okB (src : List (Nat × List D)) (S : Sto) : Bool := decide (okSrc src S)
open Classical in
theorem okB_iff {src : List (Nat × List D)} {S : Sto} : okB src S = true ↔ okSrc src S := by unfold okB; exact decide_eq_true_iff
noncomputable def compN (it : IM) (tg : TgM) (ts : TM) (el : EM) (vs : List Nat) : EM := fun env S => bd (it env S) fun p S1 =>
  bd (clp tg ts el (wipeE env vs) S1.length (okB p.2) p.1 (S1 ++ [some (.lst [])])) fun _ S2 => .ok (.ref S1.length) S2
/-- .. that nobody will change any more -/
noncomputable def compF (it : IM) (tg : TgM) (ts : TM) (el : EM) (vs : List Nat) : EM := fun env S => bd (it env S) fun p S1 =>
  bd (clp tg ts el (wipeE env vs) S1.length (okB p.2) p.1 (S1 ++ [some (.lst [])])) fun _ S2 => match S2[S1.length]? with
    | some (some (.lst ds)) => if belL S1.length ds then .ok (.lst ds) (trunc S1 (S2.set S1.length none)) else .ok (.lst ds) (S2.set S1.length none)
    | _ => .err
def yesT : TM := fun _ S => .ok true S
theorem y_yes : PTs X [] (tT X.K X.mg W yesT) := ⟨fun pins s σ H Q I h => pts_nil.run pins s σ H Q I (by
  obtain ⟨ρ, env, S, R, V, w⟩ := h
  exact (show PostB X.K ρ H S Q true S from w) ρ H R Up.refl)⟩
theorem y_tst {c : Expr} {mt : TM} (h : PT X c (tT X.K X.mg W mt)) : PTs X [c] (tT X.K X.mg W mt) := pts_one h
section
variable {elt iter : Expr} {ifs : List Expr} {scope : Scope} {own : List (Str × Nat)} {ts : TM} {el : EM}
theorem comp_imp {k : Sto → Res Unit → Res D}
    (hk : ∀ (ρ1 : List Addr) (H1 : Hp) (S1 : Sto) (ρ2 : List Addr) (H2 : Hp) (S2 : Sto) (D0 : Addr) (Q : VK) (E : Str → List (Str × D) → Sto → Prop), RS X.K ρ1 H1 S1 → RS X.K ρ2 H2 S2 → Up X.K ρ1 H1 S1 ρ2 H2 S2 → ρ2[S1.length]? = some D0 → wpM (k S1 (.ok () S2)) (PostV X.K ρ1 H1 S1 Q) E → Q (.ref D0) H2)
    (hk2 : ∀ S1 (Q : D → Sto → Prop) (E : Str → List (Str × D) → Sto → Prop), ¬ wpM (k S1 .err) Q E) :
    ∀ σ H Q, tE X.K X.mg W (fun env S => bd (mi env S) fun p S1 => k S1 (clp g ts el (wipeE env (own.map (·.2))) S1.length (okB p.2) p.1 (S1 ++ [some (.lst [])]))) σ H Q →
      tLc (tI X.K X.mg W mi) (tG X.K (own.map (·.2)) g) (tT X.K X.mg W0 ts) (tE X.K X.mg W0 el) (own.map (·.2)) σ H Q := fun σ H Q ⟨ρ, env, S, R, V, w⟩ => ⟨ρ, env, S, R, V, wpM_mono (wpM_bd w) (fun p S1 w1 ρ1 H1 J R1 U1 GI D0 hD => by
    obtain ⟨all, src⟩ := p
    simp only at w1 GI
    generalize hvs : own.map (·.2) = vs at w1 ⊢
    obtain ⟨S2, hS2⟩ : ∃ S2, clp g ts el (wipeE env vs) S1.length (okB src) all (S1 ++ [some (.lst [])]) = .ok () S2 := by
      cases e : clp g ts el (wipeE env vs) S1.length (okB src) all (S1 ++ [some (.lst [])]) with
      | ok a S2 => exact ⟨S2, rfl⟩
      | exc c fs S2 => exact absurd e (clp_ne _ _)
      | err => rw [e] at w1; exact (hk2 _ _ _ w1).elim
    rw [hS2] at w1
    have sm0 : Same H1 (upd H1 D0 (.lst [])) := same_new hD
    have Ru : RS X.K (ρ1 ++ [D0]) (upd H1 D0 (.lst [])) (S1 ++ [some (.lst [])]) := R1.new hD sm0 upd_same RelL.nil
    have Uu : Up X.K ρ1 H1 S1 (ρ1 ++ [D0]) (upd H1 D0 (.lst [])) (S1 ++ [some (.lst [])]) := Up.new R1.len hD sm0
    have hix : (ρ1 ++ [D0])[S1.length]? = some D0 := by rw [← R1.len]; simp
    refine ⟨fun i n H' => n = all.length - i ∧ i ≤ all.length ∧ ∃ ρ' S', RS X.K ρ' H' S' ∧ Up X.K (ρ1 ++ [D0]) (upd H1 D0 (.lst [])) (S1 ++ [some (.lst [])]) ρ' H' S' ∧ clp g ts el (wipeE env vs) S1.length (okB src) (all.drop i) S' = .ok () S2,
      ⟨all.length, by simp, Nat.zero_le _, _, _, Ru, Up.refl, by simpa using hS2⟩, ?_⟩
    rintro i n H' ⟨rfl, hi, ρ', S', R', U', w'⟩
    have VV : RV X.K ρ' (L2.wipe σ vs) H' S' (wipeE env vs) := ((U1.trans (Uu.trans U')).rv V).wipe vs
    by_cases hlt : i < all.length
    · rw [List.drop_eq_getElem_cons hlt] at w'
      unfold clp at w'
      split at w'
      · rename_i hsrc
        obtain ⟨g1, g2, g3⟩ := GI ρ' H' S' R' (Uu.trans U') (okB_iff.mp hsrc)
        refine .inr ⟨g1 i hlt, fun H2 => ∃ ρ2 S2', RS X.K ρ2 H2 S2' ∧ Up X.K (ρ1 ++ [D0]) (upd H1 D0 (.lst [])) (S1 ++ [some (.lst [])]) ρ2 H2 S2' ∧ clp g ts el (wipeE env vs) S1.length (okB src) (all.drop (i + 1)) S2' = .ok () S2,
          fun H2 q => ⟨all.length - (i + 1), by omega, rfl, hlt, q⟩, fun x H2 y => ?_⟩
        obtain ⟨sm, rd⟩ := g3 i all[i] x H2 (List.getElem?_eq_getElem hlt) y
        have U2 : Up X.K ρ' H' S' ρ' H2 S' := Up.same sm
        split at w'
        · cases w'
        · rename_i env1 e1
          refine ⟨ρ', wipeE env vs, S', all[i], env1, R'.same sm, U2.rv VV, rd, e1, fun σ3 V3 hw3 => ⟨by rw [hw3]; exact wipe_wipe, ?_⟩⟩
          split at w'
          · rename_i S3 e3
            refine tT_seq (R'.same sm) V3 ?_
            rw [e3]
            intro ρ4 H4 R4 V4 U4
            refine iteT ?_
            split at w'
            · rename_i x5 S5 e5
              refine tE_seq R4 V4 ?_
              rw [e5]
              intro ρ6 y6 H6 R6 V6 U6 r6
              have Uall := ((U'.trans U2).trans U4).trans U6
              split at w'
              · rename_i acc e7
                split at w'
                · rename_i hlen
                  have hD6 : ρ6[S1.length]? = some D0 := Uall.pre _ _ hix
                  obtain ⟨xs, h8, h9⟩ := R6.obj _ _ D0 e7 hD6
                  exact ⟨xs, h8, by rw [h9.length]; exact hlen, ρ6, _, R6.set e7 hD6 h8 (h9.append (RelL.cons r6 RelL.nil)), Uall.trans (Up.set e7 hD6 h8), w'⟩
                · cases w'
              · cases w'
            · cases w'
          · rename_i S3 e3
            refine tT_seq (R'.same sm) V3 ?_
            rw [e3]
            intro ρ4 H4 R4 V4 U4
            exact iteF ⟨ρ4, S3, R4, (U'.trans U2).trans U4, w'⟩
          · cases w'
      · cases w'
    · have ei : i = all.length := by omega
      subst ei
      rw [List.drop_length] at w'
      unfold clp at w'
      split at w'
      · rename_i hsrc
        cases w'
        obtain ⟨g1, g2, g3⟩ := GI ρ' H' S2 R' (Uu.trans U') (okB_iff.mp hsrc)
        exact .inl ⟨g2, hk ρ1 H1 S1 ρ' H' S2 D0 Q _ R1 R' (Uu.trans U') (U'.pre _ _ hix) (wpM_mono w1 (fun d S3 q => q.up U1) fun _ _ _ q => q)⟩
      · cases w') fun _ _ _ q => q⟩
theorem compN_imp : ∀ σ H Q, tE X.K X.mg W (compN mi g ts el (own.map (·.2))) σ H Q → tLc (tI X.K X.mg W mi) (tG X.K (own.map (·.2)) g) (tT X.K X.mg W0 ts) (tE X.K X.mg W0 el) (own.map (·.2)) σ H Q :=
  comp_imp (k := fun S1 r => bd r fun _ S2 => .ok (.ref S1.length) S2) (fun ρ1 H1 S1 ρ2 H2 S2 D0 Q E R1 R2 U hD w => (show PostV X.K ρ1 H1 S1 Q (.ref S1.length) S2 from w) ρ2 (.ref D0) H2 R2 U ⟨D0, rfl, hD⟩)
    fun _ _ _ w => w
theorem compF_imp : ∀ σ H Q, tE X.K X.mg W (compF mi g ts el (own.map (·.2))) σ H Q → tLc (tI X.K X.mg W mi) (tG X.K (own.map (·.2)) g) (tT X.K X.mg W0 ts) (tE X.K X.mg W0 el) (own.map (·.2)) σ H Q :=
  comp_imp (k := fun S1 r => bd r fun _ S2 => match S2[S1.length]? with
    | some (some (.lst ds)) => if belL S1.length ds then .ok (.lst ds) (trunc S1 (S2.set S1.length none)) else .ok (.lst ds) (S2.set S1.length none)
    | _ => .err) (fun ρ1 H1 S1 ρ2 H2 S2 D0 Q E R1 R2 U hD w => by
      simp only [bd] at w
      split at w
      · rename_i ds hS
        have fz := R2.frozen hS hD
        have U2 : Up X.K ρ1 H1 S1 ρ2 H2 (S2.set S1.length none) := U.trans Up.kill
        split at w
        · rename_i hb
          obtain ⟨ρ3, R3, U3, k⟩ := trunc_ok R1 U2 R2.kill
          exact (show PostV X.K ρ1 H1 S1 Q (.lst ds) (trunc S1 (S2.set S1.length none)) from w) ρ3 (.ref D0) H2 R3 U3 (k (.lst ds) _ hb fz)
        · exact (show PostV X.K ρ1 H1 S1 Q (.lst ds) (S2.set S1.length none) from w) ρ2 (.ref D0) H2 R2.kill U2 fz
      · exact w.elim)
    fun _ _ _ w => w
theorem y_comp {m : EM} (hm : ∀ σ H Q, tE X.K X.mg W m σ H Q → tLc (tI X.K X.mg W mi) (tG X.K (own.map (·.2)) g) (tT X.K X.mg W0 ts) (tE X.K X.mg W0 el) (own.map (·.2)) σ H Q) (hc : X.calm = true) (hN : X.N.Nodup) (hi : PI X tg iter (tI X.K X.mg W mi)) (ok : blkC X.N X.env.scope scope own = true)
    (hg : ∀ (s : Shared) (H : Hp) (C : Addr) (cl : List (Str × Addr)) (fp : List Addr), PG (X.blk s H scope (compEnvC scope cl C X.env) fp) tg (tG X.K (own.map (·.2)) g)) (ht : ∀ (s : Shared) (H : Hp) (C : Addr) (cl : List (Str × Addr)) (fp : List Addr), PTs (X.blk s H scope (compEnvC scope cl C X.env) fp) ifs (tT X.K X.mg W0 ts))
    (he : ∀ (s : Shared) (H : Hp) (C : Addr) (cl : List (Str × Addr)) (fp : List Addr), PE (X.blk s H scope (compEnvC scope cl C X.env) fp) elt (tE X.K X.mg W0 el)) (hs : ∀ x, foldedSetIterable iter X.env x = pure x := by intro _; rfl) :
    PE X (.ListComp elt [⟨tg, iter, ifs, 0⟩] scope pos) (tE X.K X.mg W m) := (pe_lc hc hN hi (blkOk_by ok) hg ht he hs).imp hm
/-- name = [..] -/
theorem s_setComp {m : EM} (i : Nat) {y : Str} {py spos : Pos} (hm : ∀ σ H Q, tE X.K X.mg W m σ H Q → tLc (tI X.K X.mg W mi) (tG X.K (own.map (·.2)) g) (tT X.K X.mg W0 ts) (tE X.K X.mg W0 el) (own.map (·.2)) σ H Q) (hc : X.calm = true) (hN : X.N.Nodup) (hyl : X.env.scope.names.lookup y = some .local)
    (hsw : swapsWith (.ListComp elt [⟨tg, iter, ifs, 0⟩] scope pos) (some (.Name y py)) spos.line X.env = pure true) (hi : PI X tg iter (tI X.K X.mg W mi)) (ok : blkC X.N X.env.scope scope own = true)
    (hg : ∀ (s : Shared) (H : Hp) (C : Addr) (cl : List (Str × Addr)) (fp : List Addr), PG (X.blk s H scope (compEnvC scope cl C X.env) fp) tg (tG X.K (own.map (·.2)) g)) (ht : ∀ (s : Shared) (H : Hp) (C : Addr) (cl : List (Str × Addr)) (fp : List Addr), PTs (X.blk s H scope (compEnvC scope cl C X.env) fp) ifs (tT X.K X.mg W0 ts))
    (he : ∀ (s : Shared) (H : Hp) (C : Addr) (cl : List (Str × Addr)) (fp : List Addr), PE (X.blk s H scope (compEnvC scope cl C X.env) fp) elt (tE X.K X.mg W0 el)) (hy : X.N[i]? = some y := by rfl) (hs : ∀ x, foldedSetIterable iter X.env x = pure x := by intro _; rfl) :
    PS X (.Assign [.Name y py] (.ListComp elt [⟨tg, iter, ifs, 0⟩] scope pos) spos) (tS X.K X.mg W (asg (tgN i) m)) :=
  (ps_setLc hc hN hy hyl hsw hi (blkOk_by ok) hg ht he hs).imp fun Dn σ H ⟨ρ, env, S, R, V, w⟩ => hm σ H _ (tE_seq R V (wpM_mono (wpS_bS V w) (fun d S1 w1 ρ1 v H1 R1 V1 U1 r1 => w1 ρ1 _ H1 R1 (V1.set r1) U1) fun _ _ _ q => q))
end
end
end Y

set_option Elab.async false
set_option linter.all false
set_option maxRecDepth 100000
set_option maxHeartbeats 4000000
set_option autoImplicit false
namespace Y
open PySem PySem.Spec L2

/-! ### built-in functions -/
def calB (f : Sto → List D → Option D) (l : LM) : EM := fun env S => bd (l env S) fun ds S1 => lf (f S1 ds) S1
def calF (f : Sto → List D → Option (List D)) (l : LM) : LM := fun env S => bd (l env S) fun ds S1 => lf (f S1 ds) S1
def CallS (K : PySem.W.Frag) (r : List V → Hp → VK → Prop) (f : Sto → List D → Option D) : Prop := ∀ (ρ : List Addr) (H : Hp) (S : Sto) (ds : List D) (d : D) (vs : List V) (Q : VK), RS K ρ H S → RelL K H (Al ρ S) ρ vs ds → f S ds = some d →
  (∀ w H', Same H H' → RelD K H' (Al ρ S) ρ w d → Q w H') → r vs H Q
def CallF (K : PySem.W.Frag) (r : List V → Hp → VK → Prop) (f : Sto → List D → Option (List D)) : Prop := ∀ (ρ : List Addr) (H : Hp) (S : Sto) (ds es : List D) (vs : List V) (Q : VK), RS K ρ H S → RelL K H (Al ρ S) ρ vs ds → f S ds = some es →
  (∀ p xs H', RelL K H (Al ρ S) ρ xs es → H p = none → Same H H' → H' p = some (.lst xs) → Q (.ref p) H') → r vs H Q
section
variable {X : Cx} {W : WX} {x : Str} {p pos : Pos} {e : Expr} {es : List Expr} {l : LM} {id T : String} {r : List V → Hp → VK → Prop} {f : Sto → List D → Option D} {g : Sto → List D → Option (List D)}
theorem calB_imp (hf : CallS X.K r f) : ∀ σ H Q, tE X.K X.mg W (calB f l) σ H Q → tCB r (tA X.K X.mg W l) σ H Q := fun σ H Q ⟨ρ, env, S, R, V, w⟩ => tA_seq R V (wpM_mono (wpM_bd w) (fun ds S1 w1 ρ1 vs H1 R1 V1 U1 r1 => by
  obtain ⟨d, e, q⟩ := wpM_lf w1
  exact hf ρ1 H1 S1 ds d vs Q R1 r1 e fun w' H' s k => q ρ1 w' H' (R1.same s) (U1.trans (Up.same s)) k) fun _ _ _ q => q)
theorem calF_imp (hf : CallF X.K r g) : ∀ σ H Q, tF X.K X.mg W (calF g l) σ H Q → tCB r (tA X.K X.mg W l) σ H Q := fun σ H Q ⟨ρ, env, S, R, V, w⟩ => tA_seq R V (wpM_mono (wpM_bd w) (fun ds S1 w1 ρ1 vs H1 R1 V1 U1 r1 => by
  obtain ⟨es, e, q⟩ := wpM_lf w1
  exact hf ρ1 H1 S1 ds es vs Q R1 r1 e fun p xs H' k np s hp => q ρ1 p xs H1 H' R1 U1 k np s hp) fun _ _ _ q => q)
theorem y_callB (hc : CallR X (.builtin id) r) (hf : CallS X.K r f) (hm : X.mg x = none) (hv : bootBuiltins x = some (.builtin id)) (ha : PA X (e :: es) (tA X.K X.mg W l)) (hg : Gl X x := by rfl) (hn : x ≠ "__name__" := by decide) (hdb : (x == ("__debug__" : Str)) = false := by decide)
    (he : starEach (e :: es) X.env = (false, eval e X.env) :: starEach es X.env := by rfl) (hpl : (backTo pos (starEach es X.env)).any (·.1) = false := by rfl) : PE X (.Call (.Name x p) (e :: es) [] pos) (tE X.K X.mg W (calB f l)) := (pe_callB hc hg hm hv ha hn hdb he hpl).imp (calB_imp hf)
theorem y_callTy (hc : CallR X (.type T) r) (hf : CallS X.K r f) (hm : X.mg x = none) (hv : bootBuiltins x = some (.type T)) (ha : PA X (e :: es) (tA X.K X.mg W l)) (hg : Gl X x := by rfl) (hn : x ≠ "__name__" := by decide) (hdb : (x == ("__debug__" : Str)) = false := by decide)
    (he : starEach (e :: es) X.env = (false, eval e X.env) :: starEach es X.env := by rfl) (hpl : (backTo pos (starEach es X.env)).any (·.1) = false := by rfl) : PE X (.Call (.Name x p) (e :: es) [] pos) (tE X.K X.mg W (calB f l)) := (pe_callTy hc hg hm hv ha hn hdb he hpl).imp (calB_imp hf)
theorem y_callBF (hc : CallR X (.builtin id) r) (hf : CallF X.K r g) (hm : X.mg x = none) (hv : bootBuiltins x = some (.builtin id)) (ha : PA X (e :: es) (tA X.K X.mg W l)) (hg : Gl X x := by rfl) (hn : x ≠ "__name__" := by decide) (hdb : (x == ("__debug__" : Str)) = false := by decide)
    (he : starEach (e :: es) X.env = (false, eval e X.env) :: starEach es X.env := by rfl) (hpl : (backTo pos (starEach es X.env)).any (·.1) = false := by rfl) : PE X (.Call (.Name x p) (e :: es) [] pos) (tF X.K X.mg W (calF g l)) := (pe_callB hc hg hm hv ha hn hdb he hpl).imp (calF_imp hf)
theorem y_callTyF (hc : CallR X (.type T) r) (hf : CallF X.K r g) (hm : X.mg x = none) (hv : bootBuiltins x = some (.type T)) (ha : PA X (e :: es) (tA X.K X.mg W l)) (hg : Gl X x := by rfl) (hn : x ≠ "__name__" := by decide) (hdb : (x == ("__debug__" : Str)) = false := by decide)
    (he : starEach (e :: es) X.env = (false, eval e X.env) :: starEach es X.env := by rfl) (hpl : (backTo pos (starEach es X.env)).any (·.1) = false := by rfl) : PE X (.Call (.Name x p) (e :: es) [] pos) (tF X.K X.mg W (calF g l)) := (pe_callTy hc hg hm hv ha hn hdb he hpl).imp (calF_imp hf)
end
/-- the items of a list, a tuple -/
def seqOf (S : Sto) : D → Option (List D)
  | .tup ds => some ds
  | .lst ds => some ds
  | .ref n => match S[n]? with
    | some (some (.lst ds)) => some ds
    | _ => none
  | _ => none
section
variable {K : PySem.W.Frag} {ρ : List Addr} {H : Hp} {S : Sto} {d : D} {ds es : List D} {v : V} {vs : List V}
theorem one_of (r : RelL K H (Al ρ S) ρ vs [d]) : ∃ v, vs = [v] ∧ RelD K H (Al ρ S) ρ v d := by
  obtain ⟨x, xs, rfl, h1, h2⟩ := r
  have h2' : xs = [] := h2
  subst h2'
  exact ⟨x, rfl, h1⟩
theorem two_of {e : D} (r : RelL K H (Al ρ S) ρ vs [d, e]) : ∃ v u, vs = [v, u] ∧ RelD K H (Al ρ S) ρ v d ∧ RelD K H (Al ρ S) ρ u e := by
  obtain ⟨x, xs, rfl, h1, h2⟩ := r
  obtain ⟨u, rfl, h3⟩ := one_of h2
  exact ⟨x, u, rfl, h1, h3⟩
theorem seq_rel (R : RS K ρ H S) (h : seqOf S d = some ds) (r : RelD K H (Al ρ S) ρ v d) : ∃ a xs, v = .ref a ∧ (SqL K H a xs ∨ SqT K H a xs) ∧ RelL K H (Al ρ S) ρ xs ds := by
  cases d with
  | tup es =>
    cases h
    obtain ⟨a, xs, e, h1, h2⟩ := r
    exact ⟨a, xs, e, .inr h1, h2⟩
  | lst es =>
    cases h
    obtain ⟨a, xs, e, h1, h2⟩ := r
    exact ⟨a, xs, e, .inl h1.sq, h2⟩
  | ref n =>
    simp only [seqOf] at h
    split at h
    · rename_i fs hS
      cases h
      obtain ⟨a, e, ha⟩ := r
      obtain ⟨xs, h1, h2⟩ := R.obj n _ a hS ha
      exact ⟨a, xs, e, .inl (.inl (.inl h1)), h2⟩
    · cases h
  | _ => cases h
/-- .. of a list alone -/
def lstOf (S : Sto) : D → Option (List D)
  | .lst ds => some ds
  | .ref n => match S[n]? with
    | some (some (.lst ds)) => some ds
    | _ => none
  | _ => none
theorem lst_rel (R : RS K ρ H S) (h : lstOf S d = some ds) (r : RelD K H (Al ρ S) ρ v d) : ∃ a xs, v = .ref a ∧ SqL K H a xs ∧ RelL K H (Al ρ S) ρ xs ds := by
  cases d with
  | lst es =>
    cases h
    obtain ⟨a, xs, e, h1, h2⟩ := r
    exact ⟨a, xs, e, h1.sq, h2⟩
  | ref n =>
    simp only [lstOf] at h
    split at h
    · rename_i fs hS
      cases h
      obtain ⟨a, e, ha⟩ := r
      obtain ⟨xs, h1, h2⟩ := R.obj n _ a hS ha
      exact ⟨a, xs, e, .inl (.inl h1), h2⟩
    · cases h
  | _ => cases h
def o_len (S : Sto) : List D → Option D
  | [.str z] => if z.length ≤ sizeLine then some (.int z.length) else none
  | [d] => (seqOf S d).map fun ds => .int ds.length
  | _ => none
theorem cs_len : CallS K (fun xs H Q => ∃ x n, xs = [x] ∧ LenV K x H n ∧ Q (.int n) H) o_len := by
  intro ρ H S ds d vs Q R r e q
  cases ds with
  | nil => cases e
  | cons a t =>
    cases t with
    | cons b t => cases a <;> cases e
    | nil =>
      obtain ⟨v, rfl, rv⟩ := one_of r
      have gen : (seqOf S a).map (fun ds => D.int ds.length) = some d → ∃ x n, [v] = [x] ∧ LenV K x H n ∧ Q (.int n) H := fun e => by
        obtain ⟨ds, e1, rfl⟩ := Option.map_eq_some_iff.mp e
        obtain ⟨a', xs, rfl, h1, h2⟩ := seq_rel R e1 rv
        refine ⟨.ref a', xs.length, rfl, ?_, by rw [h2.length]; exact q _ H (Same.refl H) rfl⟩
        rcases h1 with h1 | h1
        · exact .inl ⟨xs, h1, rfl⟩
        · exact .inr ⟨xs, h1, rfl⟩
      cases a with
      | str z =>
        simp only [o_len] at e
        split at e
        · rename_i hl
          cases e
          have rv' : v = .str z := rv
          subst rv'
          exact ⟨.str z, z.length, rfl, ⟨hl, rfl⟩, q _ H (Same.refl H) rfl⟩
        · cases e
      | _ => exact gen e
def o_abs (_ : Sto) : List D → Option D
  | [.int i] => some (.int (if i < 0 then -i else i))
  | _ => none
theorem cs_abs : CallS K (fun xs H Q => ∃ i, xs = [.int i] ∧ Q (.int (if i < 0 then -i else i)) H) o_abs := by
  intro ρ H S ds d vs Q R r e q
  unfold o_abs at e
  split at e
  · rename_i i
    cases e
    obtain ⟨v, rfl, rv⟩ := one_of r
    have rv' : v = .int i := rv
    subst rv'
    exact ⟨i, rfl, q _ H (Same.refl H) rfl⟩
  · cases e
def o_int (_ : Sto) : List D → Option D
  | [.int i] => some (.int i)
  | [.bl k] => some (.int (if k then 1 else 0))
  | _ => none
theorem cs_int : CallS K (fun xs H Q => (∃ i, xs = [.int i] ∧ Q (.int i) H) ∨ ∃ k, xs = [.bl k] ∧ Q (.int (if k then 1 else 0)) H) o_int := by
  intro ρ H S ds d vs Q R r e q
  unfold o_int at e
  split at e
  · rename_i i
    cases e
    obtain ⟨v, rfl, rv⟩ := one_of r
    have rv' : v = .int i := rv
    subst rv'
    exact .inl ⟨i, rfl, q _ H (Same.refl H) rfl⟩
  · rename_i i
    cases e
    obtain ⟨v, rfl, rv⟩ := one_of r
    have rv' : v = .bl i := rv
    subst rv'
    exact .inr ⟨i, rfl, q _ H (Same.refl H) rfl⟩
  · cases e
def o_str (_ : Sto) : List D → Option D
  | [.int i] => if i.natAbs.log2 < 1920 then some (.str (toString i)) else none
  | _ => none
theorem cs_str : CallS K (fun xs H Q => ∃ i, xs = [.int i] ∧ i.natAbs.log2 < 1920 ∧ Q (.str (toString i)) H) o_str := by
  intro ρ H S ds d vs Q R r e q
  unfold o_str at e
  split at e
  · rename_i i
    split at e
    · rename_i hl
      cases e
      obtain ⟨v, rfl, rv⟩ := one_of r
      have rv' : v = .int i := rv
      subst rv'
      exact ⟨i, rfl, hl, q _ H (Same.refl H) rfl⟩
    · cases e
  · cases e
def o_max2 (_ : Sto) : List D → Option D
  | [.int i, .int j] => some (.int (if j > i then j else i))
  | _ => none
def o_min2 (_ : Sto) : List D → Option D
  | [.int i, .int j] => some (.int (if j < i then j else i))
  | _ => none
theorem cs_max2 : CallS K (fun xs H Q => ∃ i j, xs = [.int i, .int j] ∧ Q (.int (if j > i then j else i)) H) o_max2 := by
  intro ρ H S ds d vs Q R r e q
  unfold o_max2 at e
  split at e
  · rename_i i j
    cases e
    obtain ⟨v, u, rfl, rv, ru⟩ := two_of r
    have rv' : v = .int i := rv
    have ru' : u = .int j := ru
    subst rv' ru'
    exact ⟨i, j, rfl, q _ H (Same.refl H) rfl⟩
  · cases e
theorem cs_min2 : CallS K (fun xs H Q => ∃ i j, xs = [.int i, .int j] ∧ Q (.int (if j < i then j else i)) H) o_min2 := by
  intro ρ H S ds d vs Q R r e q
  unfold o_min2 at e
  split at e
  · rename_i i j
    cases e
    obtain ⟨v, u, rfl, rv, ru⟩ := two_of r
    have rv' : v = .int i := rv
    have ru' : u = .int j := ru
    subst rv' ru'
    exact ⟨i, j, rfl, q _ H (Same.refl H) rfl⟩
  · cases e
/-- tuple(x) -/
def o_tuple (S : Sto) : List D → Option D
  | [d] => (seqOf S d).map .tup
  | _ => none
theorem cs_tuple : CallS K (fun xs H Q => ∃ p ys, xs = [.ref p] ∧ ((SqL K H p ys ∧ ∀ l, H l = none → Q (.ref l) (upd H l (.tup ys))) ∨ (SqT K H p ys ∧ Q (.ref p) H))) o_tuple := by
  intro ρ H S ds d vs Q R r e q
  unfold o_tuple at e
  split at e
  · rename_i a
    obtain ⟨es, e1, rfl⟩ := Option.map_eq_some_iff.mp e
    obtain ⟨v, rfl, rv⟩ := one_of r
    obtain ⟨p, xs, rfl, h1, h2⟩ := seq_rel R e1 rv
    rcases h1 with h1 | h1
    · refine ⟨p, xs, rfl, .inl ⟨h1, fun l hl => ?_⟩⟩
      have s : Same H (upd H l (.tup xs)) := same_new hl
      exact q _ _ s ⟨l, xs, rfl, SqT.of upd_same, (Up.same (K := K) (ρ := ρ) (S := S) s).relL h2⟩
    · exact ⟨p, xs, rfl, .inr ⟨h1, q _ H (Same.refl H) ⟨p, xs, rfl, h1, h2⟩⟩⟩
  · cases e
/-- list(x) -/
def o_list (S : Sto) : List D → Option (List D)
  | [d] => seqOf S d
  | _ => none
theorem cf_list : CallF K (fun xs H Q => ∃ p ys, xs = [.ref p] ∧ (SqL K H p ys ∨ SqT K H p ys) ∧ ∀ l, H l = none → Q (.ref l) (upd H l (.lst ys))) o_list := by
  intro ρ H S ds es vs Q R r e q
  unfold o_list at e
  split at e
  · rename_i a
    obtain ⟨v, rfl, rv⟩ := one_of r
    obtain ⟨p, xs, rfl, h1, h2⟩ := seq_rel R e rv
    exact ⟨p, xs, rfl, h1, fun l hl => q l xs _ h2 hl (same_new hl) upd_same⟩
  · cases e
end

/-! ### isinstance -/
def tyN (S : Sto) : D → Option String
  | .non => some "NoneType"
  | .bl _ => some "bool"
  | .int _ => some "int"
  | .str _ => some "str"
  | .tup _ => some "tuple"
  | .lst _ => some "list"
  | .ref n => match S[n]? with
    | some (some (.lst _)) => some "list"
    | _ => none
def subT (a T : String) : Bool := a == T || (a == "bool" && T == "int")
def kindTs : List String := ["NoneType", "bool", "int", "str", "tuple", "list"]
def askTs : List String := ["bool", "int", "str", "tuple", "list", "dict"]
theorem kit_all : ∀ a ∈ kindTs, ∀ T ∈ askTs, kitB a T = some (subT a T) := by decide +kernel
def isiE (T : String) (m : EM) : EM := fun env S => bd (m env S) fun d S1 => lf ((tyN S1 d).map fun a => .bl (subT a T)) S1
def isiTE (Ts : List String) (m : EM) : EM := fun env S => bd (m env S) fun d S1 => if Ts.length ≤ 1000 then lf ((tyN S1 d).map fun a => .bl (Ts.any (subT a))) S1 else .err
section
variable {K : PySem.W.Frag} {ρ : List Addr} {H : Hp} {S : Sto} {d : D} {v : V} {a : String}
theorem tyN_mem (h : tyN S d = some a) : a ∈ kindTs := by
  cases d <;> first
    | (cases h; decide)
    | (simp only [tyN] at h; split at h <;> first | (cases h; decide) | cases h)
theorem tyN_ok (R : RS K ρ H S) (h : tyN S d = some a) (r : RelD K H (Al ρ S) ρ v d) : TyX K H v (.type a) := by
  have lst : ∀ {p : Addr} {xs : List V}, Rd H p (.lst xs) → TyX K H (.ref p) (.type "list") := fun {p xs} z => by
    rcases z with z | ⟨o, z⟩
    · exact .base (.lst z)
    · exact .base (.frz z)
  cases d with
  | non => cases h; have r' : v = .non := r; subst r'; exact .base .non
  | bl b => cases h; have r' : v = .bl b := r; subst r'; exact .base (.bl b)
  | int b => cases h; have r' : v = .int b := r; subst r'; exact .base (.int b)
  | str b => cases h; have r' : v = .str b := r; subst r'; exact .base (.str b)
  | tup ds =>
    cases h
    obtain ⟨p, xs, rfl, h1, _⟩ := r
    rcases h1 with (h1 | ⟨o, h1⟩) | ⟨o, its, n, h1, h2, _⟩
    · exact .base (.tup h1)
    · exact .fTuple h1
    · exact .kTuple h1 h2
  | lst ds =>
    cases h
    obtain ⟨p, xs, rfl, h1, _⟩ := r
    rcases h1 with h1 | ⟨o, its, n, k1, k2, _⟩
    · exact lst h1.1
    · exact .kList k1 k2
  | ref n =>
    simp only [tyN] at h
    split at h
    · rename_i ds hS
      cases h
      obtain ⟨p, rfl, hp⟩ := r
      obtain ⟨xs, h1, _⟩ := R.obj n _ p hS hp
      exact lst (.inl h1)
    · cases h
end
section
variable {X : Cx} {W : WX} {pos p q : Pos} {e : Expr} {m : EM} {T x : String}
theorem y_isi (hT : T ∈ askTs) (he : PE X e (tE X.K X.mg W m)) (hm : X.mg "isinstance" = none) (hmT : X.mg (Str.ofString T) = none) (hvT : bootBuiltins (Str.ofString T) = some (.type T)) (hg : Gl X "isinstance" := by rfl) (hgT : Gl X (Str.ofString T) := by rfl) (hn : Str.ofString T ≠ "__name__" := by decide) (hdb : (Str.ofString T == ("__debug__" : Str)) = false := by decide)
    (h1 : starEach (e :: [.Name (Str.ofString T) q]) X.env = (false, eval e X.env) :: starEach [.Name (Str.ofString T) q] X.env := by rfl) : PE X (.Call (.Name "isinstance" p) [e, .Name (Str.ofString T) q] [] pos) (tE X.K X.mg W (isiE T m)) :=
  (pe_callB (he := h1) call_isi hg hm PyProof.Rows.boot_isinstance (pa_cons he (pa_cons (pe_bltn (v := .ty T) hgT hmT hvT rfl hn hdb) pa_nil) h1)).imp fun σ H Q ⟨ρ, env, S, R, V, w⟩ => tE_seq R V (wpM_mono (wpM_bd w) (fun d S1 w1 ρ1 v H1 R1 V1 U1 r1 => by
    obtain ⟨b, e1, k⟩ := wpM_lf w1
    obtain ⟨a, e2, rfl⟩ := Option.map_eq_some_iff.mp e1
    exact ⟨v, .ty T, .type a, .type T, subT a T, rfl, .ty T, tyN_ok R1 e2 r1, kit_ty (kit_all a (tyN_mem e2) T hT), k ρ1 _ H1 R1 U1 rfl⟩) fun _ _ _ q => q)
theorem kitAny_ts {K : PySem.W.Frag} {a : String} (ha : a ∈ kindTs) : ∀ Ts : List String, (∀ T ∈ Ts, T ∈ askTs) → PySem.W.kitAny K (.type a) (Ts.map Value.type) = some (Ts.any (subT a))
  | [], _ => kitAny_nil
  | T :: Ts, h => by
    have ih := kitAny_ts (K := K) ha Ts fun T' h' => h T' (List.mem_cons_of_mem _ h')
    have h1 := kit_ty (K := K) (kit_all a ha T (h T List.mem_cons_self))
    rw [List.any_cons]
    cases hb : subT a T with
    | true => exact kitAny_cons (b := true) (by rw [← hb]; exact h1) (fun z => by cases z) fun _ => by simp
    | false => exact kitAny_cons (b := false) (by rw [← hb]; exact h1) (fun _ => by simpa using ih) fun z => by cases z
/-- isinstance(e, (T, x)) -/
theorem y_isi2 {p2 q2 : Pos} {k : Nat} (hT : T ∈ askTs) (hx : x ∈ askTs) (he : PE X e (tE X.K X.mg W m)) (hm : X.mg "isinstance" = none) (hmT : X.mg (Str.ofString T) = none) (hmx : X.mg (Str.ofString x) = none) (hvT : bootBuiltins (Str.ofString T) = some (.type T)) (hvx : bootBuiltins (Str.ofString x) = some (.type x))
    (hg : Gl X "isinstance" := by rfl) (hgT : Gl X (Str.ofString T) := by rfl) (hgx : Gl X (Str.ofString x) := by rfl) (hn : Str.ofString T ≠ "__name__" := by decide) (hdb : (Str.ofString T == ("__debug__" : Str)) = false := by decide) (hn2 : Str.ofString x ≠ "__name__" := by decide) (hdb2 : (Str.ofString x == ("__debug__" : Str)) = false := by decide)
    (h1 : starEach (e :: [.Tuple [.Name (Str.ofString T) q, .Name (Str.ofString x) q2] k p2]) X.env = (false, eval e X.env) :: starEach [.Tuple [.Name (Str.ofString T) q, .Name (Str.ofString x) q2] k p2] X.env := by rfl) :
    PE X (.Call (.Name "isinstance" p) [e, .Tuple [.Name (Str.ofString T) q, .Name (Str.ofString x) q2] k p2] [] pos) (tE X.K X.mg W (isiTE [T, x] m)) :=
  (pe_callB (he := h1) call_isiT hg hm PyProof.Rows.boot_isinstance (pa_cons he (pa_cons (pe_tup (pa_cons (pe_bltn (v := .ty T) hgT hmT hvT rfl hn hdb) (pa_cons (pe_bltn (v := .ty x) hgx hmx hvx rfl hn2 hdb2) pa_nil))) pa_nil) h1)).imp fun σ H Q ⟨ρ, env, S, R, V, w⟩ => tE_seq R V (wpM_mono (wpM_bd w) (fun d S1 w1 ρ1 v H1 R1 V1 U1 r1 => by
    split at w1
    · obtain ⟨b, e1, k⟩ := wpM_lf w1
      obtain ⟨a, e2, rfl⟩ := Option.map_eq_some_iff.mp e1
      refine ⟨by show 2 ≤ sizeLine; decide, fun l hl => ?_⟩
      have s : Same H1 (upd H1 l (.tup [.ty T, .ty x])) := same_new hl
      exact ⟨v, l, [.ty T, .ty x], .type a, [.type T, .type x], _, rfl, upd_same, .cons (.ty T) (.cons (.ty x) .nil), tyN_ok (R1.same s) e2 ((Up.same (K := X.K) (ρ := ρ1) (S := S1) s).relD r1),
        kitAny_ts (tyN_mem e2) [T, x] (fun T' h => by rcases List.mem_cons.mp h with h | h; · rw [h]; exact hT
                                                      · rw [List.mem_singleton.mp h]; exact hx), k ρ1 _ _ (R1.same s) (U1.trans (Up.same s)) rfl⟩
    · exact w1.elim) fun _ _ _ q => q)
end

/-! ### methods -/
def tyD (T : String) (S : Sto) : D → Bool
  | .str _ => T == "str"
  | .int _ => T == "int"
  | .lst _ => T == "list"
  | .ref n => match S[n]? with
    | some (some (.lst _)) => T == "list"
    | _ => false
  | _ => false
theorem tyD_ok {K : PySem.W.Frag} {ρ : List Addr} {H : Hp} {S : Sto} {d : D} {v : V} {T : String} (R : RS K ρ H S) (h : tyD T S d = true) (r : RelD K H (Al ρ S) ρ v d) : tyV K T v H := by
  cases d with
  | str z => have r' : v = .str z := r; subst r'; exact eq_of_beq h
  | int z => have r' : v = .int z := r; subst r'; exact eq_of_beq h
  | lst ds =>
    obtain ⟨a, xs, rfl, h1, _⟩ := r
    exact .inl ⟨eq_of_beq h, xs, h1.sq⟩
  | ref n =>
    simp only [tyD] at h
    split at h
    · rename_i ds hS
      obtain ⟨a, rfl, ha⟩ := r
      obtain ⟨xs, h1, _⟩ := R.obj n _ a hS ha
      exact .inl ⟨eq_of_beq h, xs, .inl (.inl h1)⟩
    · cases h
  | _ => cases h
abbrev MF := Sto → D → List D → Option (D × Sto)
def meth (T : String) (f : MF) (o : EM) (l : LM) : EM := fun env S => bd (o env S) fun x S1 => if tyD T S1 x then bd (l env S1) fun ds S2 => match f S2 x ds with
  | some (d, S3) => .ok d S3
  | none => .err else .err
/-- f tells what a method's rule r needs -/
def MtS (K : PySem.W.Frag) (r : V → List V → Hp → VK → Prop) (f : MF) : Prop := ∀ (ρ : List Addr) (H : Hp) (S S' : Sto) (x d : D) (ds : List D) (v : V) (vs : List V) (Q : VK), RS K ρ H S → RelD K H (Al ρ S) ρ v x → RelL K H (Al ρ S) ρ vs ds → f S x ds = some (d, S') →
    (∀ ρ' w H', RS K ρ' H' S' → Up K ρ H S ρ' H' S' → RelD K H' (Al ρ' S') ρ' w d → Q w H') → r v vs H Q
section
variable {X : Cx} {W : WX} {apos cpos : Pos} {o e : Expr} {es : List Expr} {mo : EM} {l : LM} {T id : String} {name : Str} {r : V → List V → Hp → VK → Prop} {f : MF}
theorem y_bm (hm : MtR X id r) (h : MtS X.K r f) (pa : PlainAttrs T) (slot : Slot T name id) (hty : typeOf (.builtin id) = pure (.type "method_descriptor")) (ho : PE X o (tE X.K X.mg W mo)) (ha : PA X (e :: es) (tA X.K X.mg W l))
    (hbase : attributeBase o name X.env (eval o X.env) = eval o X.env := by rfl)
    (hfew : ((backTo cpos (starEach (e :: es) X.env)).all (fun x => !x.1) && (backToKw cpos (keywordEach [] X.env)).all (fun x => x.1.isSome)
      && decide ((e :: es).length + ([] : List Keyword).length + (if ([] : List Keyword).isEmpty then 0 else 1) < 30)) = true := by rfl)
    (hline : (apos.endLine == cpos.line) = true := by rfl) (hs : starEach (e :: es) X.env = (false, eval e X.env) :: starEach es X.env := by rfl) (hplain : (backTo cpos (starEach es X.env)).any (·.1) = false := by rfl) :
    PE X (.Call (.Attribute o name apos) (e :: es) [] cpos) (tE X.K X.mg W (meth T f mo l)) :=
  (pe_bm pa slot hty hm ho ha hbase hfew hline hs hplain).imp fun σ H Q ⟨ρ, env, S, R, V, w⟩ => tE_seq R V (wpM_mono (wpM_bd w) (fun x S1 w1 ρ1 v H1 R1 V1 U1 r1 => by
    split at w1
    · rename_i hty
      refine ⟨tyD_ok R1 hty r1, tA_seq R1 V1 (wpM_mono (wpM_bd w1) (fun ds S2 w2 ρ2 vs H2 R2 V2 U2 r2 => ?_) fun _ _ _ q => q.up U1)⟩
      split at w2
      · rename_i d S3 e3
        exact h ρ2 H2 S2 S3 x d ds v vs Q R2 (U2.relD r1) r2 e3 fun ρ' w' H' R' U' k => w2 ρ' w' H' R' ((U1.trans U2).trans U') k
      · exact w2.elim
    · exact w1.elim) fun _ _ _ q => q)
theorem y_bm0 (hm : MtR X id r) (h : MtS X.K r f) (pa : PlainAttrs T) (slot : Slot T name id) (hty : typeOf (.builtin id) = pure (.type "method_descriptor")) (ho : PE X o (tE X.K X.mg W mo))
    (hbase : attributeBase o name X.env (eval o X.env) = eval o X.env := by rfl) (hline : (apos.endLine == cpos.line) = true := by rfl) :
    PE X (.Call (.Attribute o name apos) [] [] cpos) (tE X.K X.mg W (meth T f mo lnil)) :=
  (pe_bm0 pa slot hty hm ho hbase hline).imp fun σ H Q ⟨ρ, env, S, R, V, w⟩ => tE_seq R V (wpM_mono (wpM_bd w) (fun x S1 w1 ρ1 v H1 R1 V1 U1 r1 => by
    split at w1
    · rename_i hty
      refine ⟨tyD_ok R1 hty r1, ?_⟩
      simp only [lnil, bd] at w1
      split at w1
      · rename_i d S3 e3
        exact h ρ1 H1 S1 S3 x d [] v [] Q R1 r1 rfl e3 fun ρ' w' H' R' U' k => w1 ρ' w' H' R' (U1.trans U') k
      · exact w1.elim
    · exact w1.elim) fun _ _ _ q => q)
end
section
variable {K : PySem.W.Frag}
/-- a method that changes the list at n -/
def chg (S : Sto) (x : D) (k : List D → Option (D × List D)) : Option (D × Sto) := match x with
  | .ref n => match S[n]? with
    | some (some (.lst ds)) => (k ds).map fun p => (p.1, S.set n (some (.lst p.2)))
    | _ => none
  | _ => none
theorem chg_ok {ρ : List Addr} {H : Hp} {S S' : Sto} {x d : D} {v : V} {k : List D → Option (D × List D)} (R : RS K ρ H S) (r : RelD K H (Al ρ S) ρ v x) (e : chg S x k = some (d, S')) :
    ∃ n a xs ds es, x = .ref n ∧ v = .ref a ∧ H a = some (.lst xs) ∧ RelL K H (Al ρ S) ρ xs ds ∧ k ds = some (d, es) ∧ S' = S.set n (some (.lst es)) ∧
      ∀ ys, RelL K H (Al ρ S) ρ ys es → RS K ρ (upd H a (.lst ys)) S' ∧ Up K ρ H S ρ (upd H a (.lst ys)) S' := by
  cases x with
  | ref n =>
    simp only [chg] at e
    split at e
    · rename_i ds hS
      obtain ⟨⟨d', es⟩, e1, e2⟩ := Option.map_eq_some_iff.mp e
      cases e2
      obtain ⟨a, rfl, ha⟩ := r
      obtain ⟨xs, h1, h2⟩ := R.obj n _ a hS ha
      exact ⟨n, a, xs, ds, es, rfl, rfl, h1, h2, e1, rfl, fun ys ry => ⟨R.set hS ha h1 ry, Up.set hS ha h1⟩⟩
    · cases e
  | _ => cases e
def m_append : MF := fun S x vs => match vs with
  | [y] => chg S x fun ds => if ds.length < sizeLine then some (.non, ds ++ [y]) else none
  | _ => none
theorem ms_append : MtS K rAppend m_append := by
  intro ρ H S S' x d ds v vs Q R rx rl e q
  unfold m_append at e
  split at e
  · rename_i y
    obtain ⟨n, a, xs, es, fs, rfl, rfl, h1, h2, e1, rfl, k⟩ := chg_ok R rx e
    obtain ⟨u, rfl, ru⟩ := one_of rl
    split at e1
    · rename_i hl
      cases e1
      obtain ⟨R', U'⟩ := k (xs ++ [u]) (h2.append (RelL.cons ru RelL.nil))
      exact ⟨a, xs, u, rfl, rfl, h1, by rw [h2.length]; exact hl, q ρ .non _ R' U' rfl⟩
    · cases e1
  · cases e
def m_pop : MF := fun S x vs => match vs with
  | [] => chg S x fun ds => (ds[ds.length - 1]?).map fun y => (y, ds.dropLast)
  | _ => none
theorem ms_pop : MtS K rPop m_pop := by
  intro ρ H S S' x d ds v vs Q R rx rl e q
  unfold m_pop at e
  split at e
  · obtain ⟨n, a, xs, es, fs, rfl, rfl, h1, h2, e1, rfl, k⟩ := chg_ok R rx e
    have rl' : vs = [] := rl
    obtain ⟨y, e2, e3⟩ := Option.map_eq_some_iff.mp e1
    cases e3
    obtain ⟨u, f1, f2⟩ := h2.getLast e2
    obtain ⟨R', U'⟩ := k xs.dropLast h2.dropLast
    exact ⟨a, xs, u, rfl, rl', h1, f1, q ρ u _ R' U' (U'.relD f2)⟩
  · cases e
def m_popAt : MF := fun S x vs => match vs with
  | [.int i] => if -(2 ^ 63) ≤ i ∧ i < 2 ^ 63 then chg S x fun ds => (seqIndex? i ds.length).bind fun k => (ds[k]?).map fun y => (y, ds.eraseIdx k) else none
  | _ => none
theorem ms_popAt : MtS K rPopAt m_popAt := by
  intro ρ H S S' x d ds v vs Q R rx rl e q
  unfold m_popAt at e
  split at e
  · rename_i i
    split at e
    · rename_i hi
      obtain ⟨n, a, xs, es, fs, rfl, rfl, h1, h2, e1, rfl, k⟩ := chg_ok R rx e
      obtain ⟨u, rfl, ru⟩ := one_of rl
      have ru' : u = .int i := ru
      subst ru'
      obtain ⟨j, e2, e3⟩ := Option.bind_eq_some_iff.mp e1
      obtain ⟨y, e4, e5⟩ := Option.map_eq_some_iff.mp e3
      cases e5
      obtain ⟨w, f1, f2⟩ := h2.get e4
      obtain ⟨R', U'⟩ := k (xs.eraseIdx j) (h2.erase j)
      exact ⟨a, xs, i, j, w, rfl, rfl, h1, hi.1, hi.2, by rw [h2.length]; exact e2, f1, q ρ w _ R' U' (U'.relD f2)⟩
    · cases e
  · cases e
def strsOf : List D → Option (List Str)
  | [] => some []
  | .str s :: ds => (strsOf ds).map fun l => s :: l
  | _ => none
theorem strsOf_map : ∀ {ds : List D} {ys : List Str}, strsOf ds = some ys → ds = ys.map D.str
  | [], ys, h => by cases h; rfl
  | .str s :: ds, ys, h => by
    have h' : (strsOf ds).map (fun l => s :: l) = some ys := h
    obtain ⟨l, e, rfl⟩ := Option.map_eq_some_iff.mp h'
    rw [strsOf_map e]; rfl
  | .non :: _, _, h => by cases h
  | .bl _ :: _, _, h => by cases h
  | .int _ :: _, _, h => by cases h
  | .tup _ :: _, _, h => by cases h
  | .lst _ :: _, _, h => by cases h
  | .ref _ :: _, _, h => by cases h
def m_join : MF := fun S x vs => match x, vs with
  | .str a, [d] => (seqOf S d).bind fun ds => (strsOf ds).bind fun ys => if (ys.map (·.length)).sum + ys.length * a.length ≤ 16777216 then some (.str (Txt.join a ys), S) else none
  | _, _ => none
theorem ms_join : MtS K (fun x xs H Q => ∃ a p, ∃ ys : List Str, x = .str a ∧ xs = [.ref p] ∧ (SqL K H p (ys.map V.str) ∨ SqT K H p (ys.map V.str)) ∧ (ys.map (·.length)).sum + ys.length * a.length ≤ 16777216 ∧ Q (.str (Txt.join a ys)) H) m_join := by
  intro ρ H S S' x d ds v vs Q R rx rl e q
  unfold m_join at e
  split at e
  · rename_i a d'
    obtain ⟨es, e1, e2⟩ := Option.bind_eq_some_iff.mp e
    obtain ⟨ys, e3, e4⟩ := Option.bind_eq_some_iff.mp e2
    split at e4
    · rename_i hz
      cases e4
      have rx' : v = .str a := rx
      obtain ⟨u, rfl, ru⟩ := one_of rl
      obtain ⟨p, xs, rfl, h1, h2⟩ := seq_rel R e1 ru
      rw [strsOf_map e3] at h2
      have h3 := RelL.of_strs h2
      subst h3
      exact ⟨a, p, ys, rx', rfl, h1, hz, q ρ _ H R Up.refl rfl⟩
    · cases e4
  · cases e
end

/-! ### parts -/
abbrev OM := En → Sto → Res (Option Int)
def tOi (K : PySem.W.Frag) (mg : Str → Option Value) (W : WX) (m : OM) : TO := fun σ H Q => ∃ ρ env S, RS K ρ H S ∧ RV K ρ σ H S env ∧ wpM (m env S) (fun o S' => ∀ ρ' H', RS K ρ' H' S' → Up K ρ H S ρ' H' S' → Q o H') (PostX K mg W ρ σ H S)
def onoM : OM := fun _ S => .ok none S
def osmM (m : EM) : OM := fun env S => bd (m env S) fun d S1 => match d with
  | .int i => .ok (some i) S1
  | _ => .err
/-- the items from lo to hi -/
def cutL (xs : List D) (lo hi : Option Int) : List D := (xs.drop (HT.sIx xs.length 0 lo)).take (HT.sIx xs.length xs.length hi - HT.sIx xs.length 0 lo)
def o_cut (S : Sto) (d : D) (lo hi : Option Int) : Option D := match d with
  | .tup ds => some (.tup (cutL ds lo hi))
  | .str z => if z.length ≤ sizeLine then some (.str (cutS z lo hi)) else none
  | _ => none
def cut (f : Sto → D → Option Int → Option Int → Option D) (m : EM) (a b : OM) : EM := fun env S => bd (m env S) fun d S1 => bd (a env S1) fun lo S2 => bd (b env S2) fun hi S3 => lf (f S3 d lo hi) S3
def cutF (m : EM) (a b : OM) : LM := fun env S => bd (m env S) fun d S1 => bd (a env S1) fun lo S2 => bd (b env S2) fun hi S3 => lf ((lstOf S3 d).map fun ds => cutL ds lo hi) S3
section
variable {X : Cx} {W : WX} {pos p2 : Pos} {e : Expr} {m : EM} {lo hi : Option Expr} {a b : OM}
theorem PO_imp {e : Option Expr} {t t' : TO} (h : PO X e t) (i : ∀ σ H Q, t' σ H Q → t σ H Q) : PO X e t' := ⟨fun pins s σ H Q I q => h.run pins s σ H Q I (i σ H Q q)⟩
theorem y_ono : PO X none (tOi X.K X.mg W onoM) := PO_imp po_none fun σ H Q ⟨ρ, env, S, R, V, w⟩ => w ρ H R Up.refl
theorem y_osm (h : PE X e (tE X.K X.mg W m)) : PO X (some e) (tOi X.K X.mg W (osmM m)) := PO_imp (po_some h) fun σ H Q ⟨ρ, env, S, R, V, w⟩ => tE_seq R V (wpM_mono (wpM_bd w) (fun d S1 w1 ρ1 v H1 R1 V1 U1 r1 => by
  cases d with
  | int i => exact ⟨i, r1, w1 ρ1 H1 R1 U1⟩
  | _ => exact w1.elim) fun _ _ _ q => q)
theorem relL_cut {K : PySem.W.Frag} {H : Hp} {A : Addr → Prop} {ρ : List Addr} {xs : List V} {ds : List D} (r : RelL K H A ρ xs ds) (lo hi : Option Int) : RelL K H A ρ (cutV xs lo hi) (cutL ds lo hi) := by
  unfold cutV cutL
  rw [r.length]
  exact (r.drop _).take _
theorem cutL_all {ds : List D} {lo hi : Option Int} (h : HT.sIx ds.length 0 lo = 0 ∧ HT.sIx ds.length ds.length hi = ds.length) : cutL ds lo hi = ds := by
  unfold cutL
  rw [h.1, h.2]; simp
def rCutA (K : PySem.W.Frag) : V → Option Int → Option Int → Hp → VK → Prop := fun x lo hi H Q => rSlA K x lo hi H Q ∨ rSlS x lo hi H Q
theorem y_cut (h : PE X e (tE X.K X.mg W m)) (ha : PO X lo (tOi X.K X.mg W a)) (hb : PO X hi (tOi X.K X.mg W b)) : PE X (.Subscript e (.Slice lo hi none p2) pos) (tE X.K X.mg W (cut o_cut m a b)) :=
  (pe_slice (sl_tupA.or sl_str) h ha hb).imp fun σ H Q ⟨ρ, env, S, R, V, w⟩ => tE_seq R V (wpM_mono (wpM_bd w) (fun d S1 w1 ρ1 v H1 R1 V1 U1 r1 => ⟨ρ1, env, S1, R1, V1, wpM_mono (wpM_bd w1) (fun lo S2 w2 ρ2 H2 R2 U2 =>
    ⟨ρ2, env, S2, R2, U2.rv V1, wpM_mono (wpM_bd w2) (fun hi S3 w3 ρ3 H3 R3 U3 => by
      obtain ⟨c, e1, k⟩ := wpM_lf w3
      have U := (U1.trans U2).trans U3
      have r3 := (U2.trans U3).relD r1
      cases d with
      | tup ds =>
        cases e1
        obtain ⟨p, xs, rfl, h1, h2⟩ := r3
        refine .inl ⟨p, xs, rfl, h1, fun z => ?_, fun z n np => ?_⟩
        · rw [h2.length] at z
          exact k ρ3 _ H3 R3 U ⟨p, xs, rfl, h1, by rw [cutL_all z]; exact h2⟩
        · have s : Same H3 (upd H3 n (.tup (cutV xs lo hi))) := same_new np
          exact k ρ3 _ _ (R3.same s) (U.trans (Up.same s)) ⟨n, _, rfl, SqT.of upd_same, (Up.same (K := X.K) (ρ := ρ3) (S := S3) s).relL (relL_cut h2 lo hi)⟩
      | str z =>
        simp only [o_cut] at e1
        split at e1
        · rename_i hl
          cases e1
          exact .inr ⟨z, r3, hl, k ρ3 _ H3 R3 U rfl⟩
        · cases e1
      | _ => cases e1) fun _ _ _ q => q.up (U1.trans U2)⟩) fun _ _ _ q => q.up U1⟩) fun _ _ _ q => q)
theorem y_cutF (h : PE X e (tE X.K X.mg W m)) (ha : PO X lo (tOi X.K X.mg W a)) (hb : PO X hi (tOi X.K X.mg W b)) : PE X (.Subscript e (.Slice lo hi none p2) pos) (tF X.K X.mg W (cutF m a b)) :=
  (pe_slice sl_list h ha hb).imp fun σ H Q ⟨ρ, env, S, R, V, w⟩ => tE_seq R V (wpM_mono (wpM_bd w) (fun d S1 w1 ρ1 v H1 R1 V1 U1 r1 => ⟨ρ1, env, S1, R1, V1, wpM_mono (wpM_bd w1) (fun lo S2 w2 ρ2 H2 R2 U2 =>
    ⟨ρ2, env, S2, R2, U2.rv V1, wpM_mono (wpM_bd w2) (fun hi S3 w3 ρ3 H3 R3 U3 => by
      obtain ⟨c, e1, k⟩ := wpM_lf w3
      obtain ⟨ds, e2, rfl⟩ := Option.map_eq_some_iff.mp e1
      have U := (U1.trans U2).trans U3
      obtain ⟨p, xs, rfl, h1, h2⟩ := lst_rel R3 e2 ((U2.trans U3).relD r1)
      exact ⟨p, xs, rfl, h1, fun n np => k ρ3 n _ H3 _ R3 U (relL_cut h2 lo hi) np (same_new np) upd_same⟩) fun _ _ _ q => q.up (U1.trans U2)⟩) fun _ _ _ q => q.up U1⟩) fun _ _ _ q => q)
end
end Y

set_option Elab.async false
set_option linter.all false
set_option maxRecDepth 100000
set_option maxHeartbeats 4000000
set_option autoImplicit false
/-! enumerate of a tuple -/
namespace PySem
theorem y_meets_enum {v : Value} {o : Obj} {H : Heap → Prop} (B : Begins v o H) :
    Meets (Builtin.«enumerate.__new__» ⟨[.type "enumerate", v], []⟩) (fun _ R s => H s.heap ∧
      R (.ok (.ret (.ref (s.heap.push o).objs.size))) { s with heap := (s.heap.push o).push { cls := .type "enumerate", data := .fields #[.none, .bool false, .ref s.heap.objs.size, rawInt 0, .none, .none] } }) :=
  .of_wp fun prog w A R s h => by
    obtain ⟨hp, g, d, tk, os⟩ := s
    obtain ⟨h1, h⟩ := h
    have hsub := sub_enumerate
    have q1 : ∀ {A' : Around} {E : Value → Shared → Prop} {Q : Value → Shared → Prop}, Q (.ref hp.objs.size) ⟨(hp.push o), g, d, tk, os⟩ → wpAny (model prog w) A' (pyIter v) Q E ⟨hp, g, d, tk, os⟩ :=
      fun q => B.iter prog w _ _ ⟨hp, g, d, tk, os⟩ _ h1 q
    wp_walk
    refine wpAny_stack_any fun st => wpAny_pure ?_
    split
    · rename_i c _ _ _ _ _
      cases (c == Value.type "enumerate")
      · wp_walk using q1
        exact ⟨_, rfl, h⟩
      · wp_walk using q1
        exact ⟨_, rfl, h⟩
    · wp_walk using q1
      exact ⟨_, rfl, h⟩
theorem y_call_enum {prog : Program} {w : World} {A : Around} {E : Value → Shared → Prop} {s : Shared} {v : Value} {o : Obj} {H : Heap → Prop} {Q : Value → Shared → Prop} (B : Begins v o H) (hs : H s.heap)
    (h : ∀ h', IsEnum h' (s.heap.objs.size + 1) s.heap.objs.size 0 .none → h'.get? s.heap.objs.size = some o → h'.objs.size = s.heap.objs.size + 2 →
      (∀ b o, s.heap.get? b = some o → h'.get? b = some o) → Q (.ref (s.heap.objs.size + 1)) { s with heap := h' }) :
    wpAny (model prog w) A (call (.type "enumerate") [v]) Q E s := by
  refine callType_new F.called_enumerate (by decide) (F.typeCall_enumerate_1 _) (F.newCall_enumerate_1 _) (fun obj => F.args_object_init_2 obj _) F.entry_enumerate_new
    (y_meets_enum B) ⟨hs, ?_⟩
  have hz : (s.heap.push o).objs.size = s.heap.objs.size + 1 := Heap.size_push ..
  show _ ∧ _
  rw [hz]
  have he : IsEnum ((s.heap.push o).push { cls := .type "enumerate", data := .fields #[.none, .bool false, .ref s.heap.objs.size, rawInt 0, .none, .none] }) (s.heap.objs.size + 1) s.heap.objs.size 0 .none := by
    have := Heap.get?_push_size (s.heap.push o)
      (o := { cls := .type "enumerate", data := .fields #[.none, .bool false, .ref s.heap.objs.size, rawInt 0, .none, .none] }) rfl
    rw [hz] at this; exact this
  exact ⟨⟨_, he, rfl⟩, h _ he (Heap.get?_push_of_some _ (Heap.get?_push_size _ B.free)) (by rw [Heap.size_push, hz]) fun b o x => Heap.get?_push_of_some _ (Heap.get?_push_of_some _ x)⟩
end PySem
namespace L2
open PySem PySem.Spec PyProof.Rows
/-- the tuple at a, each item in a new pair -/
def IteT (K : PySem.W.Frag) (a : Addr) : It :=
  ⟨fun i H => ∃ (xs : List V) (x : V), SqT K H a xs ∧ xs[i]? = some x, fun i H v H' => ∃ T x, v = .ref T ∧ H T = none ∧ H' = upd H T (.tup [.int (i : Nat), x]) ∧ ∀ xs, SqT K H a xs → xs[i]? = some x, fun i H => ∃ xs : List V, SqT K H a xs ∧ xs.length = i⟩
theorem turn_enumT {P : Program} {w : World} {K : PySem.W.Frag} {elts : List Expr} {kk : Nat} {tpos : Pos} (a e it : Addr) :
    Turn P w K (.Tuple elts kk tpos) (IteT K a) [e, it] e (fun i h => (∃ old, IsEnum h e it ((i : Nat) : Int) old) ∧ h.IsTupleIter it a i ∧ e ≠ it ∧ a ≠ it ∧ e ≠ a) where
  mem := by simp
  obj := fun i h st b hb => by
    obtain ⟨⟨old, he⟩, ⟨o, ho, hc, hd⟩, _⟩ := st
    have e' : b = e ∨ b = it := by simpa using hb
    rcases e' with z | z
    · rw [z]; exact ⟨_, he, fun v q => nomatch q⟩
    · rw [z]; exact ⟨o, ho, fun v q => by rw [hd] at q; cases q⟩
  keep := fun i h h' st k => let ⟨⟨old, he⟩, hi, hne⟩ := st; ⟨⟨old, k e (by simp) _ he⟩, hi.at fun o q => k it (by simp) o q, hne⟩
  item := by
    intro X hP hw hK hc i pins s σ H E I hf st hg
    subst hP hw hK
    obtain ⟨⟨old, he⟩, hit, hne, hai, hea⟩ := st
    obtain ⟨xs, x, hq, hx⟩ := hg
    obtain ⟨its, rv, p, hz⟩ := I.tuple hq
    obtain ⟨u, hu, ru⟩ := rv.get hx
    have hel : e < s.heap.objs.size := Heap.lt_size he
    have hil : it < s.heap.objs.size := by obtain ⟨_, q, _⟩ := hit; exact Heap.lt_size q
    have hlt : i < its.toArray.size := by
      rw [List.size_toArray]; exact (List.getElem?_eq_some_iff.mp hu).1
    have p' : s.heap.IsTuple a its.toArray := p
    refine wpAny_pyNext_enum_itemD (Draws.tuple (A := X.A.in1) (I.ok.hd hc) it a hai its.toArray) he ⟨hit, p'⟩ hlt hne (by simp [hne, hea]) fun u' h' tk hx' ho st' hT hsz hk => ?_
    obtain ⟨hit', _⟩ := st'
    have eu : u' = u := by
      have e1 : its[i]? = some u' := by simpa using hx'
      rw [hu] at e1; exact (Option.some.inj e1).symm
    subst eu
    refine ⟨_, rfl, wpAny_letOwnedTupleGo_enum (s := { s with heap := h', toks := tk + 1 }) ho fun h'' he' sb => ?_⟩
    have hT2 : h''.get? s.heap.objs.size = some { cls := .type "tuple", data := .seq #[.int i tk, u'] } := (sb.2 _ (Nat.ne_of_gt hel)).trans hT
    have new : ObjOk X.prog X.w (upd H s.heap.objs.size (.tup [.int (i : Nat), x])) h'' s.heap.objs.size (.tup [.int (i : Nat), x]) :=
      ⟨by show 2 ≤ sizeLine; decide, [.int i tk, u'], .cons ⟨_, rfl⟩ (.cons ru .nil), ⟨_, hT2, rfl, _, rfl⟩⟩
    have I1 : Inv X pins σ (upd H s.heap.objs.size (.tup [.int (i : Nat), x])) { s with heap := h'', toks := tk + 1 } :=
      I.turnedNew (ch := [e, it]) (fun b ob hb q => (sb.2 b (fun z => hb (by simp [z]))).trans (hk b ob (fun z => hb (by simp [z])) (fun z => hb (by simp [z])) q)) hf (Nat.le_refl _) new
    refine ⟨.ref s.heap.objs.size, _, I1, rfl, ⟨_, x, rfl, I.hok.fresh (Nat.le_refl _), rfl, fun ys hy => by rw [I.tuple_inj hy hq]; exact hx⟩, ⟨⟨u', ?_⟩, hit'.at fun o q => (sb.2 it (Ne.symm hne)).trans q, hne, hai, hea⟩, fun b hb => ?_⟩
    · have e1 : ((i + 1 : Nat) : Int) = (i : Int) + 1 := by omega
      rw [e1]; exact he'
    · have hb' : b < s.heap.objs.size := by
        have e' : b = e ∨ b = it := by simpa using hb
        rcases e' with z | z
        · rw [z]; exact hel
        · rw [z]; exact hil
      rw [upd_ne (Nat.ne_of_lt hb')]
      exact (hf b hb).1
  done := by
    intro X hP hw hK hc i pins s σ H E I hf st hg
    subst hP hw hK
    obtain ⟨⟨old, he⟩, hit, hne, hai, hea⟩ := st
    obtain ⟨xs, hq, hx⟩ := hg
    obtain ⟨its, rv, p, hz⟩ := I.tuple hq
    obtain ⟨f0, f1, f2, f3, f4, f5⟩ := hf it (by simp)
    have hl := rv.length
    have p' : s.heap.IsTuple a its.toArray := p
    have hi : its.toArray.size = i := by rw [List.size_toArray]; omega
    subst hi
    exact wpAny_pyNext_enum_endD (Draws.tuple (A := X.A.in1) (I.ok.hd hc) it a hai its.toArray) he ⟨hit, p'⟩ fun h' eb => ⟨rfl, I.turned (t' := s.toks) (fun b o hb q => eb b o hb q) f0 f1 f3 f4 f5⟩
  self := fun A i s Q E st h => let ⟨⟨_, he⟩, _⟩ := st; wpAny_pyIter_enum he h
def iEnumA (K : PySem.W.Frag) (ta : TA) : TI := fun σ H R => ta σ H fun vs H1 => ∃ a xs, vs = [.ref a] ∧ ((SqL K H1 a xs ∧ R (Ite K a) H1) ∨ (SqT K H1 a xs ∧ R (IteT K a) H1))
theorem pi_enumA {X : Cx} {e : Expr} {ta : TA} {p pos tpos : Pos} {elts : List Expr} {kk : Nat} (hg : Gl X "enumerate") (hm : X.mg "enumerate" = none) (ha : PA X [e] ta) (hs : starEach [e] X.env = [(false, eval e X.env)] := by rfl) :
    PI X (.Tuple elts kk tpos) (.Call (.Name "enumerate" p) [e] [] pos) (iEnumA X.K ta) := by
  refine ⟨fun pins s σ H R I h => ?_⟩
  refine Call_ (ld_blt I hg hm boot_enumerate (PyProof.Rows.callWith_type1 (thn (ha.run pos pins s σ H _ I h) fun us s1 ⟨vs, H1, I1, r1, q1⟩ => ?_) hs rfl))
  obtain ⟨a, xs, ex, q1⟩ := q1
  subst ex
  cases r1 with
  | cons r rr =>
    cases rr
    cases r
    have fresh2 : ∀ b ∈ [s1.heap.objs.size + 1, s1.heap.objs.size], FpOk X pins H1 b := fun b hb => by
      have e' : b = s1.heap.objs.size + 1 ∨ b = s1.heap.objs.size := by simpa using hb
      have hle : s1.heap.objs.size ≤ b := by
        rcases e' with z | z
        · rw [z]; exact Nat.le_add_right _ _
        · rw [z]; exact Nat.le_refl _
      exact I1.fpOk hle (I1.hok.fresh hle)
    rcases q1 with ⟨hq, q⟩ | ⟨hq, q⟩
    · obtain ⟨its, rv, p', hz⟩ := I1.list hq
      refine call_enumerate_list p'.isList fun h' he hit hsz hk => wpAny_pyIter_enum he ?_
      have I2 : Inv X pins σ H1 { s1 with heap := h' } := I1.kept (t' := s1.toks) hk
      exact ⟨s1.heap.objs.size + 1, [s1.heap.objs.size + 1, s1.heap.objs.size], _, _, H1, rfl, I2, turn_enum a (s1.heap.objs.size + 1) s1.heap.objs.size, ⟨⟨.none, he⟩, hit, Nat.succ_ne_self _⟩, fresh2, q⟩
    · obtain ⟨its, rv, p', hz⟩ := I1.tuple hq
      have pt : s1.heap.IsTuple a its.toArray := p'
      refine y_call_enum (begins_tuple a its.toArray) pt fun h' he hit hsz hk => wpAny_pyIter_enum he ?_
      have I2 : Inv X pins σ H1 { s1 with heap := h' } := I1.kept (t' := s1.toks) hk
      have hal : a < s1.heap.objs.size := p'.lt
      exact ⟨s1.heap.objs.size + 1, [s1.heap.objs.size + 1, s1.heap.objs.size], _, _, H1, rfl, I2, turn_enumT a (s1.heap.objs.size + 1) s1.heap.objs.size, ⟨⟨.none, he⟩, ⟨_, hit, rfl, rfl⟩, Nat.succ_ne_self _, Nat.ne_of_lt hal, Nat.ne_of_gt (Nat.lt_succ_of_lt hal)⟩, fresh2, q⟩
end L2
namespace Y
open PySem PySem.Spec L2
/-- (0, d0), (1, d1), .. -/
def enL (k : Nat) : List D → List D
  | [] => []
  | d :: ds => .tup [.int k, d] :: enL (k + 1) ds
theorem enL_get : ∀ {ds : List D} {k i : Nat} {d : D}, (enL k ds)[i]? = some d → ∃ x, ds[i]? = some x ∧ d = .tup [.int (k + i : Nat), x]
  | [], _, i, d, h => by simp [enL] at h
  | x :: ds, k, 0, d, h => by
    have h' : D.tup [.int k, x] = d := Option.some.inj h
    exact ⟨x, rfl, by rw [← h']; rfl⟩
  | x :: ds, k, i + 1, d, h => by
    have h' : (enL (k + 1) ds)[i]? = some d := h
    obtain ⟨y, e1, e2⟩ := enL_get h'
    refine ⟨y, e1, ?_⟩
    rw [e2, show k + 1 + i = k + (i + 1) by omega]
theorem enL_length : ∀ {ds : List D} {k : Nat}, (enL k ds).length = ds.length
  | [], _ => rfl
  | d :: ds, k => by rw [enL, List.length_cons, List.length_cons, enL_length]
/-- what enumerate, zip take -/
def seqSrc (S : Sto) : D → Option (Bool × List D × List (Nat × List D))
  | .tup ds => some (true, ds, [])
  | .lst ds => some (false, ds, [])
  | .ref n => match S[n]? with
    | some (some (.lst ds)) => some (false, ds, [(n, ds)])
    | _ => none
  | _ => none
/-- where it stands at every later state that the sources suit -/
theorem seqSrc_ok {K : PySem.W.Frag} {ρ : List Addr} {H : Hp} {S : Sto} {d : D} {v : V} {b : Bool} {ds : List D} {src : List (Nat × List D)} (R : RS K ρ H S) (r : RelD K H (Al ρ S) ρ v d) (e : seqSrc S d = some (b, ds, src)) :
    ∃ a, v = .ref a ∧ ∀ ρ' H' S', RS K ρ' H' S' → Up K ρ H S ρ' H' S' → okSrc src S' → ∃ xs, (b = true → SqT K H' a xs) ∧ (b = false → SqL K H' a xs) ∧ RelL K H' (Al ρ' S') ρ' xs ds := by
  cases d with
  | tup es =>
    cases e
    obtain ⟨a, xs, rfl, h1, h2⟩ := r
    exact ⟨a, rfl, fun ρ' H' S' R' U _ => ⟨xs, fun _ => U.tup a xs h1, fun z => (by cases z), U.relL h2⟩⟩
  | lst es =>
    cases e
    obtain ⟨a, xs, rfl, h1, h2⟩ := r
    exact ⟨a, rfl, fun ρ' H' S' R' U _ => ⟨xs, fun z => (by cases z), fun _ => (U.fz h1).sq, U.relL h2⟩⟩
  | ref n =>
    simp only [seqSrc] at e
    split at e
    · rename_i es hS
      cases e
      obtain ⟨a, rfl, ha⟩ := r
      refine ⟨a, rfl, fun ρ' H' S' R' U ok => ?_⟩
      obtain ⟨ys, k1, k2⟩ := R'.obj n _ a (ok (n, _) List.mem_cons_self) (U.pre n a ha)
      exact ⟨ys, fun z => (by cases z), fun _ => .inl (.inl k1), k2⟩
    · cases e
  | _ => cases e
theorem okSrc_here {K : PySem.W.Frag} {ρ : List Addr} {H : Hp} {S : Sto} {d : D} {b : Bool} {ds : List D} {src : List (Nat × List D)} (e : seqSrc S d = some (b, ds, src)) : okSrc src S := by
  cases d with
  | tup es => cases e; intro p hp; cases hp
  | lst es => cases e; intro p hp; cases hp
  | ref n =>
    simp only [seqSrc] at e
    split at e
    · rename_i es hS
      cases e
      intro p hp
      rw [List.mem_singleton.mp hp]; exact hS
    · cases e
  | _ => cases e
def i_enum (l : LM) : IM := fun env S => bd (l env S) fun ds S1 => match ds with
  | [d] => lf ((seqSrc S1 d).map fun p => (enL 0 p.2.1, p.2.2)) S1
  | _ => .err
def zipL : List D → List D → List D
  | x :: xs, y :: ys => .tup [x, y] :: zipL xs ys
  | _, _ => []
theorem zipL_get : ∀ {xs ys : List D} {i : Nat} {d : D}, (zipL xs ys)[i]? = some d → ∃ x y, xs[i]? = some x ∧ ys[i]? = some y ∧ d = .tup [x, y]
  | [], _, i, d, h => by simp [zipL] at h
  | _ :: _, [], i, d, h => by simp [zipL] at h
  | x :: xs, y :: ys, 0, d, h => ⟨x, y, rfl, rfl, (Option.some.inj h).symm⟩
  | x :: xs, y :: ys, i + 1, d, h => by
    have h' : (zipL xs ys)[i]? = some d := h
    have := zipL_get (xs := xs) (ys := ys) (i := i) h'
    exact this
theorem zipL_length : ∀ {xs ys : List D}, (zipL xs ys).length = min xs.length ys.length
  | [], ys => by simp [zipL]
  | _ :: _, [] => by simp [zipL]
  | x :: xs, y :: ys => by simp [zipL, zipL_length]
def i_zip (l : LM) : IM := fun env S => bd (l env S) fun ds S1 => match ds with
  | [x, y] => lf ((seqSrc S1 x).bind fun p => (seqSrc S1 y).bind fun q => if p.1 = q.1 then some (zipL p.2.1 q.2.1, p.2.2 ++ q.2.2) else none) S1
  | _ => .err
section
variable {X : Cx} {W : WX} {pos tpos p : Pos} {e e2 : Expr} {l : LM} {elts : List Expr} {kk : Nat}
theorem y_enum (hm : X.mg "enumerate" = none) (ha : PA X [e] (tA X.K X.mg W l)) (hg : Gl X "enumerate" := by rfl) (hs : starEach [e] X.env = [(false, eval e X.env)] := by rfl) :
    PI X (.Tuple elts kk tpos) (.Call (.Name "enumerate" p) [e] [] pos) (tI X.K X.mg W (i_enum l)) :=
  PI_imp (pi_enumA hg hm ha hs) fun σ H Q ⟨ρ, env, S, R, V, w⟩ => tA_seq R V (wpM_mono (wpM_bd w) (fun ds S1 w1 ρ1 vs H1 R1 V1 U1 r1 => by
    split at w1
    · rename_i d
      obtain ⟨q, e1, k⟩ := wpM_lf w1
      obtain ⟨⟨b, es, src⟩, e2, rfl⟩ := Option.map_eq_some_iff.mp e1
      obtain ⟨v, rfl, rv⟩ := one_of r1
      obtain ⟨a, rfl, at'⟩ := seqSrc_ok R1 rv e2
      obtain ⟨xs0, t0, l0, _⟩ := at' ρ1 H1 S1 R1 Up.refl (okSrc_here (K := X.K) (ρ := ρ1) (H := H1) e2)
      refine ⟨a, xs0, rfl, ?_⟩
      cases b with
      | false =>
        refine .inl ⟨l0 rfl, k ρ1 H1 _ R1 U1 fun ρ2 H2 S2 R2 U2 ok => ?_⟩
        obtain ⟨xs, _, hl, rl⟩ := at' ρ2 H2 S2 R2 U2 ok
        have hl := hl rfl
        have len := rl.length
        simp only [enL_length]
        refine ⟨fun i hi => ⟨xs, xs[i]'(by omega), hl, by simp [len, hi]⟩, ⟨xs, hl, by omega⟩, fun i d x H' ed y => ?_⟩
        obtain ⟨T, u, rfl, hT, rfl, y⟩ := y
        obtain ⟨x0, f1, rfl⟩ := enL_get ed
        obtain ⟨w', g1, g2⟩ := rl.get f1
        rw [y xs hl] at g1
        cases g1
        have s : Same H2 (upd H2 T (.tup [.int (i : Nat), u])) := same_new hT
        refine ⟨s, T, _, rfl, SqT.of upd_same, RelL.cons (by rw [Nat.zero_add]; rfl) (RelL.cons ((Up.same (K := X.K) (ρ := ρ2) (S := S2) s).relD g2) RelL.nil)⟩
      | true =>
        refine .inr ⟨t0 rfl, k ρ1 H1 _ R1 U1 fun ρ2 H2 S2 R2 U2 ok => ?_⟩
        obtain ⟨xs, hl, _, rl⟩ := at' ρ2 H2 S2 R2 U2 ok
        have hl := hl rfl
        have len := rl.length
        simp only [enL_length]
        refine ⟨fun i hi => ⟨xs, xs[i]'(by omega), hl, by simp [len, hi]⟩, ⟨xs, hl, by omega⟩, fun i d x H' ed y => ?_⟩
        obtain ⟨T, u, rfl, hT, rfl, y⟩ := y
        obtain ⟨x0, f1, rfl⟩ := enL_get ed
        obtain ⟨w', g1, g2⟩ := rl.get f1
        rw [y xs hl] at g1
        cases g1
        have s : Same H2 (upd H2 T (.tup [.int (i : Nat), u])) := same_new hT
        refine ⟨s, T, _, rfl, SqT.of upd_same, RelL.cons (by rw [Nat.zero_add]; rfl) (RelL.cons ((Up.same (K := X.K) (ρ := ρ2) (S := S2) s).relD g2) RelL.nil)⟩
    · exact w1.elim) fun _ _ _ q => q)
theorem y_zip (hm : X.mg "zip" = none) (ha : PA X [e, e2] (tA X.K X.mg W l)) (hg : Gl X "zip" := by rfl) (hs : starEach [e, e2] X.env = (false, eval e X.env) :: starEach [e2] X.env := by rfl) (hpl : (backTo pos (starEach [e2] X.env)).any (·.1) = false := by rfl) :
    PI X (.Tuple elts kk tpos) (.Call (.Name "zip" p) [e, e2] [] pos) (tI X.K X.mg W (i_zip l)) :=
  PI_imp (RZ.pi_zipA hg hm ha hs hpl) fun σ H Q ⟨ρ, env, S, R, V, w⟩ => tA_seq R V (wpM_mono (wpM_bd w) (fun ds S1 w1 ρ1 vs H1 R1 V1 U1 r1 => by
    split at w1
    · rename_i d1 d2
      obtain ⟨q, e0, k⟩ := wpM_lf w1
      obtain ⟨⟨b, es, src⟩, e1, e0⟩ := Option.bind_eq_some_iff.mp e0
      obtain ⟨⟨b', fs, src'⟩, e2, e0⟩ := Option.bind_eq_some_iff.mp e0
      split at e0
      · rename_i hb
        have hb' : b = b' := hb
        subst hb'
        cases e0
        obtain ⟨v, vs', rfl, rv, rr⟩ := r1
        obtain ⟨v', rfl, rv'⟩ := one_of rr
        obtain ⟨a, rfl, at1⟩ := seqSrc_ok R1 rv e1
        obtain ⟨a', rfl, at2⟩ := seqSrc_ok R1 rv' e2
        obtain ⟨xs0, t0, l0, _⟩ := at1 ρ1 H1 S1 R1 Up.refl (okSrc_here (K := X.K) (ρ := ρ1) (H := H1) e1)
        obtain ⟨ys0, t1, l1, _⟩ := at2 ρ1 H1 S1 R1 Up.refl (okSrc_here (K := X.K) (ρ := ρ1) (H := H1) e2)
        refine ⟨a, a', xs0, ys0, rfl, ?_⟩
        cases b with
        | false =>
          refine .inl ⟨l0 rfl, l1 rfl, k ρ1 H1 _ R1 U1 fun ρ2 H2 S2 R2 U2 ok => ?_⟩
          obtain ⟨xs, _, hl, rl⟩ := at1 ρ2 H2 S2 R2 U2 fun p hp => ok p (List.mem_append_left _ hp)
          obtain ⟨ys, _, hl', rl'⟩ := at2 ρ2 H2 S2 R2 U2 fun p hp => ok p (List.mem_append_right _ hp)
          have hl := hl rfl
          have hl' := hl' rfl
          have len := rl.length
          have len' := rl'.length
          simp only [zipL_length]
          refine ⟨fun i hi => ⟨xs, ys, xs[i]'(by omega), ys[i]'(by omega), hl, hl', by simp, by simp⟩, ⟨xs, ys, hl, hl', by omega⟩, fun i d x H' ed y => ?_⟩
          obtain ⟨T, u, u', rfl, hT, rfl, y, y'⟩ := y
          obtain ⟨x0, y0, f1, f2, rfl⟩ := zipL_get ed
          obtain ⟨w', g1, g2⟩ := rl.get f1
          obtain ⟨w'', g3, g4⟩ := rl'.get f2
          rw [y xs hl] at g1
          rw [y' ys hl'] at g3
          cases g1; cases g3
          have s : Same H2 (upd H2 T (.tup [u, u'])) := same_new hT
          have U := Up.same (K := X.K) (ρ := ρ2) (S := S2) s
          exact ⟨s, T, _, rfl, SqT.of upd_same, RelL.cons (U.relD g2) (RelL.cons (U.relD g4) RelL.nil)⟩
        | true =>
          refine .inr ⟨t0 rfl, t1 rfl, k ρ1 H1 _ R1 U1 fun ρ2 H2 S2 R2 U2 ok => ?_⟩
          obtain ⟨xs, hl, _, rl⟩ := at1 ρ2 H2 S2 R2 U2 fun p hp => ok p (List.mem_append_left _ hp)
          obtain ⟨ys, hl', _, rl'⟩ := at2 ρ2 H2 S2 R2 U2 fun p hp => ok p (List.mem_append_right _ hp)
          have hl := hl rfl
          have hl' := hl' rfl
          have len := rl.length
          have len' := rl'.length
          simp only [zipL_length]
          refine ⟨fun i hi => ⟨xs, ys, xs[i]'(by omega), ys[i]'(by omega), hl, hl', by simp, by simp⟩, ⟨xs, ys, hl, hl', by omega⟩, fun i d x H' ed y => ?_⟩
          obtain ⟨T, u, u', rfl, hT, rfl, y, y'⟩ := y
          obtain ⟨x0, y0, f1, f2, rfl⟩ := zipL_get ed
          obtain ⟨w', g1, g2⟩ := rl.get f1
          obtain ⟨w'', g3, g4⟩ := rl'.get f2
          rw [y xs hl] at g1
          rw [y' ys hl'] at g3
          cases g1; cases g3
          have s : Same H2 (upd H2 T (.tup [u, u'])) := same_new hT
          have U := Up.same (K := X.K) (ρ := ρ2) (S := S2) s
          exact ⟨s, T, _, rfl, SqT.of upd_same, RelL.cons (U.relD g2) (RelL.cons (U.relD g4) RelL.nil)⟩
      · cases e0
    · exact w1.elim) fun _ _ _ q => q)
end
end Y

set_option Elab.async false
set_option linter.all false
set_option maxRecDepth 100000
set_option maxHeartbeats 4000000
set_option autoImplicit false
/-! t[::-1] -/
namespace HT
open PySem PyProof.Rows L2
section
variable {prog : Program} {w : World} {A : Around} {E : Value → Shared → Prop} {s : Shared}
theorem y_sliceRev {sl : Addr} {t : Tok} {n : Nat} {Q : Int × Int × Nat → Shared → Prop} (hs : s.heap.IsSliceOf sl .none .none (.int (-1) t)) (h : Q ((n : Int) - 1, -1, n) s) :
    wpAny (model prog w) A (Builtin.Slice.sliceApplied (.ref sl) (pure (n : Int))) Q E s := by
  obtain ⟨os, hos, hcs, hds⟩ := id hs
  unfold Builtin.Slice.sliceApplied Builtin.Slice.sliceFields
  refine wpAny_bind (wpAny_bind (wpAny_field hos hds (x := .none) rfl (wpAny_bind (wpAny_field hos hds (x := .none) rfl (wpAny_bind (wpAny_field hos hds (x := .int (-1) t) rfl (wpAny_pure ?_)))))))
  refine wpAny_bind (slicePart_int ?_)
  show wpAny _ _ (if ((-1 : Int) == 0) = true then _ else _) _ _ s
  rw [if_neg (by decide)]
  refine wpAny_bind (slicePart_none (wpAny_bind (slicePart_none (wpAny_bind (wpAny_pure ?_)))))
  have e : Builtin.Slice.sliceAdjust none none (-1) (n : Int) = ((n : Int) - 1, -1) := by
    unfold Builtin.Slice.sliceAdjust
    simp
  have e2 : Builtin.Slice.slicePlaces ((n : Int) - 1) (-1) (-1) = n := by
    unfold Builtin.Slice.slicePlaces
    have h1 : ¬ ((-1 : Int) > 0) := by decide
    simp only [h1, if_false]
    split
    · rw [show (- (-1 : Int)) = 1 by decide, Int.ediv_one]; omega
    · omega
  show wpAny _ _ (match Builtin.Slice.sliceAdjust none none (-1) (n : Int) with | (lo, hi) => pure (lo, (-1 : Int), Builtin.Slice.slicePlaces lo hi (-1))) _ _ s
  rw [e]
  show wpAny _ _ (pure ((n : Int) - 1, (-1 : Int), Builtin.Slice.slicePlaces ((n : Int) - 1) (-1) (-1))) _ _ s
  rw [e2]
  exact wpAny_pure h
theorem y_fmCongr {α β : Type} {f g : α → Option β} : ∀ l : List α, (∀ x ∈ l, f x = g x) → l.filterMap f = l.filterMap g
  | [], _ => rfl
  | x :: l, h => by
    rw [List.filterMap_cons, List.filterMap_cons, h x List.mem_cons_self, y_fmCongr l fun y hy => h y (List.mem_cons_of_mem _ hy)]
theorem y_pickRev (xs : Array Value) : ((List.range xs.size).filterMap fun (m : Nat) => xs[(((xs.size : Int) - 1) + (m : Int) * -1).toNat]?).toArray = xs.toList.reverse.toArray := by
  have e : (List.range xs.size).filterMap (fun (m : Nat) => xs[(((xs.size : Int) - 1) + (m : Int) * -1).toNat]?) = ((List.range xs.size).map fun k => xs.size - 1 - k).filterMap (xs[·]?) := by
    rw [List.filterMap_map]
    refine y_fmCongr _ fun m hm => ?_
    have hm' := List.mem_range.mp hm
    show _ = xs[xs.size - 1 - m]?
    have : (((xs.size : Int) - 1) + (m : Int) * -1).toNat = xs.size - 1 - m := by omega
    rw [this]
  rw [e, PySem.W.krv_range, List.filterMap_reverse, PySem.W.krv_all]
theorem y_getRev {t sl : Addr} {items : Array Value} {tk : Tok} {Q : Value → Shared → Prop} (ht : IsTup s.heap t items) (hs : s.heap.IsSliceOf sl .none .none (.int (-1) tk))
    (h : Q (.ref s.heap.objs.size) { s with heap := s.heap.push { cls := .type "tuple", data := .seq items.toList.reverse.toArray } })
    (hsz : items.size ≤ sizeLine) : wpAny (model prog w) A (getItem (.ref t) (.ref sl)) Q E s := by
  have htake : sizeOk (.seq items.toList.reverse.toArray) := by
    show items.toList.reverse.toArray.size ≤ sizeLine
    rw [List.size_toArray, List.length_reverse, Array.length_toList]
    exact hsz
  obtain ⟨os, hos, hcs, hds⟩ := id hs
  have hTs : s.TypeIs (.ref sl) "slice" := ⟨os, hos, hcs⟩
  unfold getItem
  try with_reducible refine wpAny_holding ?_
  first | refine wpAny_bind (wpAny_pure ?_) | skip
  refine wpAny_bind (wpAny_sequenceKey ht.typeIs (by decide) ?_)
  refine wpAny_bind (wpAny_callSpecial?_slot (name := Str.ofString "__getitem__") ht.typeIs PyProof.Rows.slot_tuple_getitem
    (wpAny_call_entry PyProof.Rows.slot_tuple_getitem ht.typeIs entry_tuple_getitem ?_ (args_tuple_getitem _ _)))
  show wpAny _ _ (Builtin.Tuple.tupleItemsOf (.ref t) >>= _) _ _ s
  refine wpAny_bind (tupleItemsOf_ ht ?_)
  refine wpAny_bind (wpAny_typeOf hTs ?_)
  rw [if_pos (by decide)]
  refine wpAny_bind (y_sliceRev hs ?_)
  have hno : ¬ ((((items.size : Int) - 1 == 0) && ((-1 : Int) == 1) && (items.size == items.size)) = true) := by
    have : ((-1 : Int) == 1) = false := by decide
    rw [this, Bool.and_false, Bool.false_and]; exact Bool.false_ne_true
  show wpAny _ _ (if (((items.size : Int) - 1 == 0) && ((-1 : Int) == 1) && (items.size == items.size)) = true then _ else _) _ _ s
  rw [if_neg hno, y_pickRev]
  first
    | exact wpAny_bind (m := Builtin.Tuple.tupleExact _) (wpAny_newObj_type (wpAny_pure ⟨_, rfl, wpAny_pure h⟩) htake)
    | exact wpAny_bind (m := Builtin.Tuple.tupleExact _) (wpAny_newObj_type (wpAny_bind (wpAny_pure (wpAny_pure ⟨_, rfl, wpAny_pure h⟩))) htake)
    | exact wpAny_bind (wpAny_bind (m := Builtin.Tuple.tupleExact _) (wpAny_newObj_type (wpAny_pure (wpAny_pure ⟨_, rfl, wpAny_pure h⟩)) htake))
    | exact wpAny_bind (wpAny_bind (m := Builtin.Tuple.tupleExact _) (wpAny_newObj_type (wpAny_pure ⟨_, rfl, wpAny_pure h⟩) htake))
end
end HT
namespace L2
open PySem PySem.Spec PyProof.Rows
def tRevT (K : PySem.W.Frag) (te : TE) : TE := fun σ H Q => te σ H fun x H1 => ∃ a xs, x = .ref a ∧ SqT K H1 a xs ∧ ∀ p, H1 p = none → Q (.ref p) (upd H1 p (.tup xs.reverse))
theorem pe_revT {X : Cx} {e : Expr} {te : TE} {k : Nat} {p1 p2 p3 pos : Pos} (he : PE X e te) : PE X (.Subscript e (.Slice none none (some (.UnaryOp .USub (.Constant (.int 1) k p1) p2)) p3) pos) (tRevT X.K te) := by
  refine ⟨fun pins s σ H Q I h => ?_⟩
  refine Subscript_ (thn (he.run pins s σ H _ I h) fun v s1 ⟨x, H1, I1, r1, q1⟩ => ?_)
  obtain ⟨a, xs, ex, hx, q⟩ := q1
  subst ex
  cases r1
  have hst : PO X (some (.UnaryOp .USub (.Constant (.int 1) k p1) p2)) (tPart (tUn (rU fun i => .int (-i)) (tC (.int 1)))) := po_some (pe_un un_neg pe_int)
  refine wpAny_Slice (thn (po_none.run pins s1 σ H1 (fun o H2 => o = none ∧ H2 = H1) I1 ⟨rfl, rfl⟩) fun vl s2 ⟨l, H2, I2, pl, el, e2⟩ => ?_)
  subst el e2
  refine thn (po_none.run pins s2 σ H2 (fun o H3 => o = none ∧ H3 = H2) I2 ⟨rfl, rfl⟩) fun vu s3 ⟨u, H3, I3, pu, eu, e3⟩ => ?_
  subst eu e3
  refine thn (hst.run pins s3 σ H3 (fun o H4 => o = some (-1) ∧ H4 = H3) I3 ⟨1, rfl, -1, rfl, rfl, rfl⟩) fun vs s4 ⟨o, H4, I4, ps, eo, e4⟩ => ?_
  subst eo e4
  cases pl
  cases pu
  cases ps with
  | int _ tk =>
    have I5 : Inv X pins σ H4 { s4 with heap := s4.heap.push { cls := .type "slice", data := .fields #[.none, .none, .int (-1) tk] } } := I4.kept (t' := s4.toks) fun b ob q => Heap.get?_push_of_some _ q
    obtain ⟨its, r, ht, hz⟩ := I5.tuple hx
    have hlen := r.length
    show wpAny (model X.prog X.w) X.A (subscriptTail e (.Slice none none (some (.UnaryOp .USub (.Constant (.int 1) k p1) p2)) p3) (.ref a) (.ref s4.heap.objs.size)) (EP X pins σ Q) X.xe { s4 with heap := s4.heap.push { cls := .type "slice", data := .fields #[.none, .none, .int (-1) tk] } }
    refine tail_any (ops := [.ref a, .ref s4.heap.objs.size]) ht.typeIs (PyProof.Rows.slot_tuple_getitem.lookup) ?_ (by with_unfolding_all rfl)
    refine HT.y_getRev ht (Heap.IsSliceOf.new _ .none .none (.int (-1) tk)) ?_ (by rw [List.size_toArray]; omega)
    refine ⟨.ref _, _, I5.laid (t' := s4.toks) (o := .tup xs.reverse) (fun b ob q => Heap.get?_push_of_some _ q) (Nat.le_refl _) ?_, rfl, q _ (I5.hok.fresh (Nat.le_refl _))⟩
    exact ⟨by rw [List.length_reverse]; exact hz, _, r.reverse, ⟨_, Heap.get?_push_size _ rfl, rfl, _, rfl⟩⟩

/-! list(text) -/
def sgnV (z : Str) : List V := z.cps.toList.map fun c => .str ⟨#[c]⟩
theorem cr_listStr {X : Cx} (hc : X.calm = true) : CallR X (.type "list") (fun vs H Q => ∃ z : Str, vs = [.str z] ∧ z.cps.size ≤ sizeLine ∧ ∀ p, H p = none → Q (.ref p) (upd H p (.lst (sgnV z)))) := by
  intro pins s σ H vs us Q I r h
  obtain ⟨z, rfl, hz, q⟩ := h
  obtain ⟨u, rfl, ru⟩ := vals1 r
  obtain ⟨t, rfl⟩ := ru
  refine call_list_str (I.ok.hd hc) z t (hn := hz) fun h' tk acc c' hk e' hi => ?_
  have hl : (sgnV z).length = acc.toList.length := by
    unfold sgnV
    rw [List.length_map, Array.length_toList, Array.length_toList, hi.1]
  refine ⟨.ref s.heap.objs.size, upd H s.heap.objs.size (.lst (sgnV z)), I.laid hk (Nat.le_refl _) (show ObjOk X.prog X.w _ _ _ (.lst (sgnV z)) from ⟨?_, acc.toList, c', vals_of_at hl fun j x u h1 h2 => ?_, ?_⟩), rfl, q _ (I.hok.fresh (Nat.le_refl _))⟩
  · unfold sgnV; rw [List.length_map, Array.length_toList]; exact hz
  · obtain ⟨c, u', e1, rfl⟩ := hi.2 j u (by rw [← h2, Array.getElem?_toList])
    unfold sgnV at h1
    rw [List.getElem?_map, Array.getElem?_toList, e1] at h1
    cases h1
    exact ⟨_, rfl⟩
  · rw [Array.toArray_toList]; exact e'

/-! l.count(x) -/
def rCountD (K : PySem.W.Frag) : V → List V → Hp → VK → Prop := fun x xs H Q => ∃ (a : Addr) (y : V) (d : PyData) (ds : List PyData), x = V.ref a ∧ xs = [y] ∧ Dp K H (V.ref a) (.list ds) ∧ Dp K H y d ∧
  SeqAt.shaped (.list ds) = true ∧ SeqAt.shaped d = true ∧ Q (.int (ds.countP (fun z => PyData.eqv z d) : Nat)) H
theorem mt_countD {X : Cx} (hu : X.A.units + 65 < cLine) : MtR X "list.count" (rCountD X.K) := by
  intro pins s σ H x xs v us Q I rx rxs h
  obtain ⟨a, y, d, ds, rfl, rfl, hl, hy, sl, sd, q⟩ := h
  cases rx
  cases rxs with
  | cons ry rt =>
    rename_i uy ut
    cases rt
    obtain ⟨bs, r1⟩ := Dp.reads I d y uy hy ry
    have hxs : PyData.canLayAll0 ds = true := SeqAt.canLay_of_shaped sl
    have hroom : X.A.units + 1 + min (PyData.depthAll ds) d.depth < cLine := room_in_shaped sd hu
    cases hl with
    | lst hs ha =>
      obtain ⟨its, rv, ⟨⟨cls, dd, data, sls⟩, n, ho, hc, hdn, hdt⟩, hlen⟩ := I.list hs
      simp only at hc hdt
      subst hc hdt
      obtain ⟨as, h4⟩ := Dp.readsAll I ds _ its ha rv
      have hmap : its.map (SeqAt.readOf s.heap) = ds := SeqAt.readsAll_map ds its as hxs h4
      refine call_meets PySem.F.slot_list_count ⟨_, ho, rfl⟩ PySem.F.entry_list_count (PySem.F.args_list_count_2 _ _)
        (SeqAt.list_countAt a its.toArray n dd sls uy (fun u => PyData.eqv (SeqAt.readOf s.heap u) d)) ⟨ho, SeqAt.items_eqAt (vs := its.toArray) (show ReadsAll s.heap its.toArray.toList ds as from h4) r1 hxs (SeqAt.canLay_of_shaped sd) hroom, ?_⟩
      have ec : its.toArray.toList.countP (fun u => PyData.eqv (SeqAt.readOf s.heap u) d) = ds.countP fun z => PyData.eqv z d := by
        rw [← hmap, List.countP_map]; rfl
      refine ⟨.int (ds.countP (fun z => PyData.eqv z d) : Nat), H, I.tok _, ⟨s.toks, ?_⟩, q⟩
      show Value.int ((its.toArray.toList.countP _ : Nat) : Int) s.toks = _
      rw [ec]
end L2

set_option Elab.async false
set_option linter.all false
set_option maxRecDepth 100000
set_option maxHeartbeats 4000000
set_option autoImplicit false
namespace L2
open PySem PySem.Spec PyProof.Rows PySem.W
section
variable {β : Type} {X : Cx} {H : Hp} {s : Shared}
theorem each_vals : ∀ {xs : List V} {us : List Value} {es : List β}, Vals xs us → xs.length = es.length → EachIs (fun u (b : V × β) => RelV b.1 u) us (xs.zip es)
  | [], _, [], h, _ => by cases h; exact .nil
  | x :: xs, _, e :: es, h, hl => by
    cases h with
    | cons h1 h2 => exact .cons h1 (each_vals h2 (by simpa using hl))
  | [], _, _ :: _, _, hl => by simp at hl
  | _ :: _, _, [], _, hl => by simp at hl
theorem vals_each : ∀ {us : List Value} {bs : List (V × β)}, EachIs (fun u (b : V × β) => RelV b.1 u) us bs → Vals (bs.map Prod.fst) us
  | _, _, .nil => .nil
  | _, _, .cons h t => .cons h (vals_each t)
theorem zip_snd : ∀ {xs : List V} {es : List β}, xs.length = es.length → (xs.zip es).map Prod.snd = es
  | [], [], _ => rfl
  | x :: xs, e :: es, h => by rw [List.zip_cons_cons, List.map_cons, zip_snd (by simpa using h)]
  | [], _ :: _, h => by simp at h
  | _ :: _, [], h => by simp at h
/-- sorted(l), items that read as data -/
def rSortD (K : PySem.W.Frag) (enc : β → PyData) : List V → Hp → VK → Prop := fun vs H Q => ∃ (a : Addr) (xs : List V) (es : List β), vs = [V.ref a] ∧ SqL K H a xs ∧ xs.length = es.length ∧ DpAll K H xs (es.map enc) ∧ AllAlike (es.map enc) ∧ Sortable (es.map enc) ∧ (∀ e ∈ es, (enc e).depth ≤ 64) ∧
  ∀ p, H p = none → Q (.ref p) (upd H p (.lst (((xs.zip es).mergeSort (dataLe false fun b => enc b.2)).map Prod.fst)))
theorem cr_sortD {enc : β → PyData} (hu : X.A.units + 200 < cLine) : CallR X (.builtin "sorted") (rSortD X.K enc) := by
  intro pins s σ H vs us Q I r h
  obtain ⟨a, xs, es, rfl, hs, hlen, hd, hal, hso, hdp, q⟩ := h
  obtain ⟨its, rv, hl, hz⟩ := I.list hs
  rw [Vals.ref1 r]
  have hvl := rv.length
  obtain ⟨as, rd⟩ := Dp.readsAll I (es.map enc) xs its hd rv
  have ez : (xs.zip es).map (fun b => enc b.2) = es.map enc := by
    rw [show (fun b : V × β => enc b.2) = enc ∘ Prod.snd from rfl, ← List.map_map, zip_snd hlen]
  have zl : (xs.zip es).length = xs.length := by rw [List.length_zip]; omega
  refine sorted_data (R := fun u (b : V × β) => RelV b.1 u) (enc := fun b => enc b.2) hl.isList (each_vals rv hlen) (readsAll_each (fun b : V × β => enc b.2) (as := as) (by rw [ez]; exact rd)) (by rw [ez]; exact hal) (by rw [ez]; exact hso) (by omega) (fun b hb => ?_) fun out h1 h2 => ?_
  · have := hdp b.2 (by
      have := List.mem_map_of_mem (f := Prod.snd) hb
      rwa [zip_snd hlen] at this)
    omega
  · obtain ⟨ep, he'⟩ := PyProof.Rows.sortedAll_at s.heap its out.toArray
    have hv := vals_each h2
    have hln : (((xs.zip es).mergeSort (dataLe false fun b => enc b.2)).map Prod.fst).length ≤ sizeLine := by
      rw [List.length_map, List.length_mergeSort]; omega
    exact ⟨.ref _, upd H (s.heap.objs.size + 1) (.lst (((xs.zip es).mergeSort (dataLe false fun b => enc b.2)).map Prod.fst)), I.laid (t' := s.toks) (fun _ _ => PyProof.Rows.sortedAll_old) (Nat.le_succ _) ⟨hln, out, ep, hv, he'⟩, rfl, q _ (I.hok.fresh (Nat.le_succ _))⟩
end
end L2
namespace Y
open PySem PySem.Spec L2 PySem.W
noncomputable def pD (d : D) : PyData := (toP d).getD .none
theorem toPL_map : ∀ {ds : List D} {ps : List PyData}, toPL ds = some ps → ds.map pD = ps
  | [], _, h => by
    have h' : some [] = some _ := h
    cases h'; rfl
  | d :: ds, ps, h => by
    have h' : (toP d).bind (fun p => (toPL ds).map fun ps => p :: ps) = some ps := h
    obtain ⟨p, e1, h2⟩ := Option.bind_eq_some_iff.mp h'
    obtain ⟨qs, e2, rfl⟩ := Option.map_eq_some_iff.mp h2
    rw [List.map_cons, toPL_map e2, pD, e1]; rfl
noncomputable def leD (a b : D) : Bool := dataLe false pD a b
open Classical in
noncomputable def o_sorted (S : Sto) : List D → Option (List D)
  | [d] => (lstOf S d).bind fun es => (toPL es).bind fun ps => if AllAlike ps ∧ Sortable ps ∧ (∀ p ∈ ps, p.depth ≤ 64) then some (es.mergeSort leD) else none
  | _ => none
section
variable {K : PySem.W.Frag}
theorem relL_zip {H : Hp} {A : Addr → Prop} {ρ : List Addr} : ∀ {ds : List D} {vs : List V}, RelL K H A ρ vs ds → ∀ p ∈ vs.zip ds, RelD K H A ρ p.1 p.2
  | [], _, h, p, hp => by
    have h' : _ = [] := h
    rw [h'] at hp; cases hp
  | d :: ds, _, ⟨x, xs, e, h1, h2⟩, p, hp => by
    rw [e, List.zip_cons_cons] at hp
    rcases List.mem_cons.mp hp with z | z
    · rw [z]; exact h1
    · exact relL_zip h2 p z
theorem relL_pairs {H : Hp} {A : Addr → Prop} {ρ : List Addr} : ∀ {zs : List (V × D)}, (∀ p ∈ zs, RelD K H A ρ p.1 p.2) → RelL K H A ρ (zs.map Prod.fst) (zs.map Prod.snd)
  | [], _ => rfl
  | z :: zs, h => RelL.cons (h z List.mem_cons_self) (relL_pairs fun p hp => h p (List.mem_cons_of_mem _ hp))
theorem cf_sorted : CallF K (rSortD K pD) o_sorted := by
  intro ρ H S ds es vs Q R r e q
  unfold o_sorted at e
  split at e
  · rename_i a
    obtain ⟨fs, e1, e2⟩ := Option.bind_eq_some_iff.mp e
    obtain ⟨ps, e3, e4⟩ := Option.bind_eq_some_iff.mp e2
    split at e4
    · rename_i hh
      cases e4
      obtain ⟨hal, hso, hdp⟩ := hh
      obtain ⟨v, rfl, rv⟩ := one_of r
      obtain ⟨p, xs, rfl, h1, h2⟩ := lst_rel R e1 rv
      have em := toPL_map e3
      refine ⟨p, xs, fs, rfl, h1, h2.length, by rw [em]; exact dpAll_of fs ps xs e3 h2, by rw [em]; exact hal, by rw [em]; exact hso, fun d hd => hdp _ (by rw [← em]; exact List.mem_map_of_mem hd), fun l hl => ?_⟩
      refine q l _ _ ?_ hl (same_new hl) upd_same
      have hz : ((xs.zip fs).mergeSort (dataLe false fun b => pD b.2)).map Prod.snd = fs.mergeSort leD := by
        have := List.map_mergeSort (r := dataLe false fun b : V × D => pD b.2) (s := leD) (f := Prod.snd) (l := xs.zip fs) (fun a _ b _ => rfl)
        rw [this, zip_snd h2.length]
      rw [← hz]
      exact relL_pairs fun p hp => relL_zip h2 p (List.mem_mergeSort.mp hp)
    · cases e4
  · cases e
/-- list(x), a text too -/
def o_listA (S : Sto) : List D → Option (List D)
  | [.str z] => if z.cps.size ≤ sizeLine then some (sgns z) else none
  | [d] => seqOf S d
  | _ => none
def rListA (K : PySem.W.Frag) : List V → Hp → VK → Prop := fun vs H Q => (∃ p ys, vs = [.ref p] ∧ (SqL K H p ys ∨ SqT K H p ys) ∧ ∀ l, H l = none → Q (.ref l) (upd H l (.lst ys))) ∨ ∃ z : Str, vs = [.str z] ∧ z.cps.size ≤ sizeLine ∧ ∀ p, H p = none → Q (.ref p) (upd H p (.lst (sgnV z)))
theorem cr_listA {X : Cx} (hc : X.calm = true) : CallR X (.type "list") (rListA X.K) := fun pins s σ H vs us Q I r h => h.elim (fun h => call_list_of pins s σ H vs us Q I r h) fun h => cr_listStr hc pins s σ H vs us Q I r h
theorem sgn_rel {H : Hp} {A : Addr → Prop} {ρ : List Addr} (z : Str) : RelL K H A ρ (sgnV z) (sgns z) := by
  unfold sgnV sgns
  induction z.cps.toList with
  | nil => rfl
  | cons c l ih => exact RelL.cons rfl ih
theorem cf_listA : CallF K (rListA K) o_listA := by
  intro ρ H S ds es vs Q R r e q
  cases ds with
  | nil => cases e
  | cons a t =>
    cases t with
    | cons b t => cases a <;> cases e
    | nil =>
      have gen : seqOf S a = some es → rListA K vs H Q := fun e => .inl (cf_list ρ H S [a] es vs Q R r e q)
      cases a with
      | str z =>
        simp only [o_listA] at e
        split at e
        · rename_i hl
          cases e
          obtain ⟨v, rfl, rv⟩ := one_of r
          have rv' : v = .str z := rv
          subst rv'
          exact .inr ⟨z, rfl, hl, fun p hp => q p _ _ (sgn_rel z) hp (same_new hp) upd_same⟩
        · cases e
      | _ => exact gen e
/-- l.count(x) -/
def m_count : MF := fun S x vs => match vs with
  | [y] => (toP y).bind fun d => (toPS S x).bind fun l => match l with
    | .list ps => if (SeqAt.shaped d && SeqAt.shaped (.list ps)) = true then some (.int (ps.countP fun z => PyData.eqv z d : Nat), S) else none
    | _ => none
  | _ => none
theorem ms_count : MtS K (rCountD K) m_count := by
  intro ρ H S S' x d ds v vs Q R rx rl e q
  unfold m_count at e
  split at e
  · rename_i y
    obtain ⟨u, rfl, ru⟩ := one_of rl
    obtain ⟨p, e1, e2⟩ := Option.bind_eq_some_iff.mp e
    obtain ⟨p2, e3, e4⟩ := Option.bind_eq_some_iff.mp e2
    cases p2 with
    | list ps =>
      simp only at e4
      split at e4
      · rename_i h
        cases e4
        obtain ⟨h1, h2⟩ := Bool.and_eq_true_iff.mp h
        have dl := dpS_of R e3 rx
        have : ∃ a, v = .ref a := by cases dl; exact ⟨_, rfl⟩
        obtain ⟨a, rfl⟩ := this
        exact ⟨a, u, p, ps, rfl, rfl, dl, dp_of _ _ _ e1 ru, h2, h1, q ρ _ H R Up.refl rfl⟩
      · cases e4
    | _ => cases e4
  · cases e
end
/-- t[::-1] -/
def revT (m : EM) : EM := fun env S => bd (m env S) fun d S1 => match d with
  | .tup ds => .ok (.tup ds.reverse) S1
  | _ => .err
def revF (m : EM) : LM := fun env S => bd (m env S) fun d S1 => lf ((lstOf S1 d).map List.reverse) S1
/-- tuple(range(..)) -/
def tupRg (l : LM) : EM := fun env S => bd (l env S) fun ds S1 => match ds with
  | [.int j] => if -(2 ^ 62) ≤ j ∧ j ≤ 2 ^ 24 then .ok (.tup (rgL 0 j)) S1 else .err
  | _ => .err
section
variable {X : Cx} {W : WX} {e a : Expr} {m : EM} {l : LM} {k : Nat} {p p1 p2 p3 pos pos' : Pos}
theorem y_revT (h : PE X e (tE X.K X.mg W m)) : PE X (.Subscript e (.Slice none none (some (.UnaryOp .USub (.Constant (.int 1) k p1) p2)) p3) pos) (tE X.K X.mg W (revT m)) :=
  (pe_revT h).imp fun σ H Q ⟨ρ, env, S, R, V, w⟩ => tE_seq R V (wpM_mono (wpM_bd w) (fun d S1 w1 ρ1 v H1 R1 V1 U1 r1 => by
    cases d with
    | tup ds =>
      obtain ⟨a, xs, rfl, h1, h2⟩ := r1
      refine ⟨a, xs, rfl, h1, fun p hp => ?_⟩
      have s : Same H1 (upd H1 p (.tup xs.reverse)) := same_new hp
      exact w1 ρ1 _ _ (R1.same s) (U1.trans (Up.same s)) ⟨p, _, rfl, SqT.of upd_same, (Up.same (K := X.K) (ρ := ρ1) (S := S1) s).relL h2.reverse⟩
    | _ => exact w1.elim) fun _ _ _ q => q)
theorem y_revF (h : PE X e (tE X.K X.mg W m)) : PE X (.Subscript e (.Slice none none (some (.UnaryOp .USub (.Constant (.int 1) k p1) p2)) p3) pos) (tF X.K X.mg W (revF m)) :=
  (pe_revL h).imp fun σ H Q ⟨ρ, env, S, R, V, w⟩ => tE_seq R V (wpM_mono (wpM_bd w) (fun d S1 w1 ρ1 v H1 R1 V1 U1 r1 => by
    obtain ⟨c, e1, q⟩ := wpM_lf w1
    obtain ⟨ds, e2, rfl⟩ := Option.map_eq_some_iff.mp e1
    obtain ⟨p, xs, rfl, h1, h2⟩ := lst_rel R1 e2 r1
    exact ⟨p, xs, rfl, h1, fun n np => q ρ1 n _ H1 _ R1 U1 h2.reverse np (same_new np) upd_same⟩) fun _ _ _ q => q)
theorem rg_rel {K : PySem.W.Frag} {H : Hp} {A : Addr → Prop} {ρ : List Addr} (i j : Int) : RelL K H A ρ (rgV i j) (rgL i j) := by
  unfold rgV rgL
  induction List.range (j - i).toNat with
  | nil => rfl
  | cons c l ih => exact RelL.cons rfl ih
theorem y_tupRg (hc : X.calm = true) (hmt : X.mg "tuple" = none) (hm : X.mg "range" = none) (ha : PE X a (tE X.K X.mg W m)) (hg : Gl X "tuple" := by rfl) (hgr : Gl X "range" := by rfl) (na : starEach [a] X.env = (false, eval a X.env) :: starEach [] X.env := by rfl)
    (nb : starEach [.Call (.Name "range" p) [a] [] pos] X.env = (false, eval (.Call (.Name "range" p) [a] [] pos) X.env) :: starEach [] X.env := by rfl) :
    PE X (.Call (.Name "tuple" p2) [.Call (.Name "range" p) [a] [] pos] [] pos') (tE X.K X.mg W (tupRg (lcons m lnil))) :=
  (pe_tupRg hc hg hmt (prg_1 hgr hm ha na) nb).imp fun σ H Q ⟨ρ, env, S, R, V, w⟩ => tE_seq R V (by
    have w := wpM_bd w
    unfold lcons at w
    refine wpM_mono (wpM_bd w) (fun d S1 w1 ρ1 v H1 R1 V1 U1 r1 => ?_) fun _ _ _ q => q
    simp only [lnil, bd] at w1
    have w1 : wpM (match [d] with
      | [.int j] => if -(2 ^ 62) ≤ j ∧ j ≤ 2 ^ 24 then Res.ok (D.tup (rgL 0 j)) S1 else .err
      | _ => .err) (PostV X.K ρ H S Q) (PostX X.K X.mg W ρ σ H S) := w1
    cases d with
    | int j =>
      simp only at w1
      split at w1
      · rename_i hj
        have r1' : v = .int j := r1
        subst r1'
        refine ⟨j, rfl, ⟨by omega, by omega, by omega, by omega, by omega⟩, fun q hq => ?_⟩
        have s : Same H1 (upd H1 q (.tup (rgV 0 j))) := same_new hq
        exact w1 ρ1 _ _ (R1.same s) (U1.trans (Up.same s)) ⟨q, _, rfl, SqT.of upd_same, rg_rel 0 j⟩
      · exact w1.elim
    | _ => exact w1.elim)
end
end Y

set_option Elab.async false
set_option linter.all false
set_option maxRecDepth 100000
set_option maxHeartbeats 4000000
set_option autoImplicit false
namespace Y
open PySem PySem.Spec L2

/-! ### __init__ of an own exception: self.f = x, .. -/
/-- what C.__init__(self, ..) does: the fields fs are the arguments -/
def spI (C : Addr) (fs : List Str) : Sp := fun vs H Q E => ∃ (a : Addr) (ws : List V), vs = .ref a :: ws ∧ ws.length = fs.length ∧ H a = some (exo a C none) ∧
  ∀ (d : Addr) (H2 : Hp), H d = none → d ≠ a → H2 a = some (exo a C (some d)) → H2 d = some (exd d (fs.zip ws).reverse) → (∀ b, b ≠ a → b ≠ d → H2 b = H b) → Q .non H2
section
variable {X : Cx} {s x1 x2 f1 f2 : Str} {p1 p2 p3 p4 q1 q2 q3 q4 : Pos} {C : Addr}
def tI1 (X : Cx) (C : Addr) (f1 : Str) : TS := fun D σ H => ∃ a y1, σ[0]? = some (some (V.ref a)) ∧ σ[1]? = some (some y1) ∧ H a = some (exo a C none) ∧
  ∀ d H2, H d = none → d ≠ a → H2 a = some (exo a C (some d)) → H2 d = some (exd d [(f1, y1)]) → (∀ b, b ≠ a → b ≠ d → H2 b = H b) → D.nx σ H2
def tI2 (X : Cx) (C : Addr) (f1 f2 : Str) : TS := fun D σ H => ∃ a y1 y2, σ[0]? = some (some (V.ref a)) ∧ σ[1]? = some (some y1) ∧ σ[2]? = some (some y2) ∧ H a = some (exo a C none) ∧
  ∀ d H2, H d = none → d ≠ a → H2 a = some (exo a C (some d)) → H2 d = some (exd d [(f2, y2), (f1, y1)]) → (∀ b, b ≠ a → b ≠ d → H2 b = H b) → D.nx σ H2
theorem ss_init1 (T : OexC X.K C) (n1 : PySem.W.findIn X.K (.ref C) f1 = some none)
    (hs : PE X (.Name s p1) (tVar 0)) (h1 : PE X (.Name x1 p3) (tVar 1)) (w1 : swapsWith (.Name x1 p3) (some (.Attribute (.Name s p1) f1 p2)) p4.line X.env = pure false := by rfl) :
    PSs X [.Assign [.Attribute (.Name s p1) f1 p2] (.Name x1 p3) p4] (tI1 X C f1) :=
  (pss_one (ps_ost hs h1 w1)).imp fun Dn σ H ⟨a, y1, e0, e1, ha, q⟩ => by
    refine ⟨y1, e1, .ref a, e0, a, C, rfl, T, n1, .inl ⟨ha, fun d hd ne => ?_⟩⟩
    refine q d _ hd ne upd_same ?_ fun b h1 h2 => ?_
    · rw [upd_ne ne]; exact upd_same
    · rw [upd_ne h1, upd_ne h2]
theorem ss_init2 (T : OexC X.K C) (n1 : PySem.W.findIn X.K (.ref C) f1 = some none) (n2 : PySem.W.findIn X.K (.ref C) f2 = some none)
    (hs : PE X (.Name s p1) (tVar 0)) (h1 : PE X (.Name x1 p3) (tVar 1)) (hs' : PE X (.Name s q1) (tVar 0)) (h2 : PE X (.Name x2 q3) (tVar 2)) (w1 : swapsWith (.Name x1 p3) (some (.Attribute (.Name s p1) f1 p2)) p4.line X.env = pure false := by rfl)
    (w2 : swapsWith (.Name x2 q3) (some (.Attribute (.Name s q1) f2 q2)) q4.line X.env = pure false := by rfl) :
    PSs X [.Assign [.Attribute (.Name s p1) f1 p2] (.Name x1 p3) p4, .Assign [.Attribute (.Name s q1) f2 q2] (.Name x2 q3) q4] (tI2 X C f1 f2) :=
  (pss_cons (ps_ost hs h1 w1) (pss_one (ps_ost hs' h2 w2))).imp fun Dn σ H ⟨a, y1, y2, e0, e1, e2, ha, q⟩ => by
    refine ⟨y1, e1, .ref a, e0, a, C, rfl, T, n1, .inl ⟨ha, fun d hd ne => ?_⟩⟩
    refine ⟨y2, e2, .ref a, e0, a, C, rfl, T, n2, .inr ⟨d, [(f1, y1)], upd_same, by rw [upd_ne ne]; exact upd_same, by simp, ?_⟩⟩
    refine q d _ hd ne ?_ upd_same fun b h1 h2 => ?_
    · rw [upd_ne (Ne.symm ne)]; exact upd_same
    · rw [upd_ne h2, upd_ne h1, upd_ne h2]
end
section
variable {P : Program} {w : World} {K : PySem.W.Frag} {mg : Str → Option Value} {base : Heap}
theorem ok_init1 {x qual : Str} {st : Stmt} {f : Addr} {fd : FuncData} {N ps : List Str} {k : Nat} {C : Addr} {f1 : Str} (F : Fun K x qual st f fd) (Sc : FnScope N ps (defScope st)) (hp : ps.length = 2)
    (hb : ∀ (cdv : Value) (A : Around) (outer : List Env) (s : Shared) (H : Hp) (E : XK), PSs (cxOf (L2.CX P w) P w K mg base N qual (defScope st) f cdv A outer s H E) (defBody st) (tI1 (cxOf (L2.CX P w) P w K mg base N qual (defScope st) f cdv A outer s H E) C f1)) :
    FnOk P w K mg base (L2.CX P w) (k + 1) f fd ps (spI C [f1]) := by
  refine F.okX Sc (fun vs H Q E ⟨a, ws, e, hl, _⟩ => by rw [e, hp]; simp [hl]) fun cdv A outer s H vs Q E hr h => ⟨_, hb cdv A outer s H E, ?_⟩
  obtain ⟨a, ws, rfl, hl, ha, q⟩ := h
  match ws, hl with
  | [y1], _ => exact ⟨a, y1, rfl, rfl, ha, fun d H2 h1 h2 h3 h4 h5 => q d H2 h1 h2 h3 h4 h5⟩
theorem ok_init2 {x qual : Str} {st : Stmt} {f : Addr} {fd : FuncData} {N ps : List Str} {k : Nat} {C : Addr} {f1 f2 : Str} (F : Fun K x qual st f fd) (Sc : FnScope N ps (defScope st)) (hp : ps.length = 3)
    (hb : ∀ (cdv : Value) (A : Around) (outer : List Env) (s : Shared) (H : Hp) (E : XK), PSs (cxOf (L2.CX P w) P w K mg base N qual (defScope st) f cdv A outer s H E) (defBody st) (tI2 (cxOf (L2.CX P w) P w K mg base N qual (defScope st) f cdv A outer s H E) C f1 f2)) :
    FnOk P w K mg base (L2.CX P w) (k + 1) f fd ps (spI C [f1, f2]) := by
  refine F.okX Sc (fun vs H Q E ⟨a, ws, e, hl, _⟩ => by rw [e, hp]; simp [hl]) fun cdv A outer s H vs Q E hr h => ⟨_, hb cdv A outer s H E, ?_⟩
  obtain ⟨a, ws, rfl, hl, ha, q⟩ := h
  match ws, hl with
  | [y1, y2], _ => exact ⟨a, y1, y2, rfl, rfl, rfl, ha, fun d H2 h1 h2 h3 h4 h5 => q d H2 h1 h2 h3 h4 h5⟩
end
/-! ### raise C(..) -/
def raiS (c : Str) (fs : List Str) (l : LM) : SM := fun env S => bS (l env S) env fun ds S1 => if ds.length = fs.length then .exc c (fs.zip ds) env S1 else .err
/-- names all different -/
theorem lookup_zip_rev {α β : Type} [BEq α] [LawfulBEq α] {fs : List α} {ws : List β} {f : α} {w : β} (hn : fs.Nodup) (hl : ws.length = fs.length) (h : (f, w) ∈ fs.zip ws) : (fs.zip ws).reverse.lookup f = some w := by
  have key : ∀ (l : List (α × β)), (l.map Prod.fst).Nodup → (f, w) ∈ l → l.lookup f = some w := fun l => by
    induction l with
    | nil => intro _ h; cases h
    | cons p l ih =>
      intro hn h
      obtain ⟨g, u⟩ := p
      rw [List.map_cons, List.nodup_cons] at hn
      rcases List.mem_cons.mp h with e | h'
      · cases e; simp [List.lookup]
      · have ne : (f == g) = false := by
          rw [beq_eq_false_iff_ne]
          intro e
          subst e
          exact hn.1 (List.mem_map.mpr ⟨_, h', rfl⟩)
        rw [List.lookup, ne]
        exact ih hn.2 h'
  refine key _ ?_ (List.mem_reverse.mpr h)
  rw [List.map_reverse, List.map_fst_zip (by omega)]
  exact List.pairwise_reverse.mpr (hn.imp Ne.symm)
theorem relL_mem {K : PySem.W.Frag} {H : Hp} {A : Addr → Prop} {ρ : List Addr} : ∀ {fs : List Str} {vs : List V} {ds : List D} {f : Str} {d : D}, RelL K H A ρ vs ds → (f, d) ∈ fs.zip ds → ∃ v, (f, v) ∈ fs.zip vs ∧ RelD K H A ρ v d
  | [], _, _, _, _, _, h => by simp at h
  | g :: fs, _, [], _, _, _, h => by simp at h
  | g :: fs, vs, d :: ds, f, d', ⟨x, xs, e, h1, h2⟩, h => by
    subst e
    rw [List.zip_cons_cons] at h
    rcases List.mem_cons.mp h with z | z
    · cases z; exact ⟨x, by simp, h1⟩
    · obtain ⟨v, k1, k2⟩ := relL_mem h2 z
      exact ⟨v, by rw [List.zip_cons_cons]; exact List.mem_cons_of_mem _ k1, k2⟩
section
variable {X : Cx} {W : WX} {x : Str} {e : Expr} {es : List Expr} {l : LM} {p pos pos' : Pos} {C fI : Addr} {k : Nat} {fd : FuncData} {ps fs : List Str}
theorem s_raise (hc : X.calm = true) (tk : Takes X W) (T : OexC X.K C) (iC : PySem.W.findIn X.K (.ref C) "__init__" = some (some (.ref fI))) (tI : PySem.W.typeIn X.K (.ref fI) = some (.type "function"))
    (F1 : FnOk X.prog X.w X.K X.mg X.base (L2.CX X.prog X.w) k fI fd ps (spI C fs)) (hr : Room (k + 1) X.A) (hb : Binds X.K fd ps []) (hm : X.mg x = some (.ref C)) (ha : PA X (e :: es) (tA X.K X.mg W l)) (hfs : fs.Nodup ∧ fs.length ≤ 1000) (hg : Gl X x := by rfl)
    (hdb : (x == ("__debug__" : Str)) = false := by decide) (he : starEach (e :: es) X.env = (false, eval e X.env) :: starEach es X.env := by rfl) (hpl : (backTo pos (starEach es X.env)).any (·.1) = false := by rfl) :
    PS X (.Raise (some (.Call (.Name x p) (e :: es) [] pos)) none pos') (tS X.K X.mg W (raiS x fs l)) :=
  (ps_raise hc tk (pmk_oex (CX := L2.CX X.prog X.w) T iC tI F1 hr hb .nil (L2.passL (X := X)) hg hm ha hdb he hpl)).imp fun Dn σ H ⟨ρ, env, S, R, V, w⟩ => tA_seq R V (wpM_mono (wpS_bS V w) (fun ds S1 w1 ρ1 vs H1 R1 V1 U1 r1 => by
    split at w1
    · rename_i hl
      have hvl : vs.length = fs.length := by rw [r1.length]; exact hl
      refine ⟨by omega, fun a na => ⟨a, vs, by rw [List.append_nil], hvl, upd_same, fun d H2 hd ne h1 h2 h3 => ⟨rfl, d, _, h1, h2, ?_, ?_⟩⟩⟩
      · rw [upd_ne ne] at hd; exact hd
      · have hd1 : H1 d = none := by rw [upd_ne ne] at hd; exact hd
        have eH : upd (del H2 a) d (.xd (fs.zip vs).reverse) = upd H1 d (.xd (fs.zip vs).reverse) := by
          funext b
          by_cases hbd : b = d
          · subst hbd; rw [upd_same, upd_same]
          · rw [upd_ne hbd, upd_ne hbd]
            by_cases hba : b = a
            · subst hba; rw [del_same, na]
            · rw [del_ne hba, h3 b hba hbd, upd_ne hba]
        rw [eH]
        have s : Same H1 (upd H1 d (.xd (fs.zip vs).reverse)) := same_new hd1
        have U2 : Up X.K ρ1 H1 S1 ρ1 (upd H1 d (.xd (fs.zip vs).reverse)) S1 := Up.same s
        refine w1 ρ1 σ _ _ _ (R1.same s) (U2.rv V1) (U1.trans U2) ⟨C, d, _, hm, rfl, rfl, upd_same, fun q hq => ?_⟩
        obtain ⟨v, k1, k2⟩ := relL_mem (f := q.1) (d := q.2) r1 hq
        exact ⟨v, lookup_zip_rev hfs.1 hvl k1, U2.relD k2⟩
    · exact w1.elim) fun _ _ _ q => q)
end
/-! ### try: .. except C as e: return .. -/
def tryS (body : SM) (yes : Str → Option Bool) (i : Nat) (suite : Str → List (Str × D) → SM) : SM := fun env S => match body env S with
  | .exc c fs env1 S1 => if i < env1.length then match yes c with
    | some true => match suite c fs (env1.set i none) S1 with
      | .nx env2 S2 => .nx (env2.set i none) S2
      | .brk env2 S2 => .brk (env2.set i none) S2
      | .ct env2 S2 => .ct (env2.set i none) S2
      | .exc _ _ _ _ => .err
      | r => r
    | some false => .exc c fs env1 S1
    | none => .err else .err
  | r => r
/-- a suite's readings: e stands at i -/
def ExS (K : PySem.W.Frag) (mg : Str → Option Value) (i : Nat) (a : Addr) (cls : Value) (d : Option Addr) (ρ : List Addr) (σ : L2.St) (H : Hp) (S : Sto) (c : Str) (fs : List (Str × D)) : Prop := σ[i]? = some (some (V.ref a)) ∧ ExcR K mg H (Al ρ S) ρ c fs cls d
section
variable (K : PySem.W.Frag) (mg : Str → Option Value) (i : Nat) (a : Addr) (cls : Value) (d : Option Addr)
def uE (m : Str → List (Str × D) → EM) : TE := fun σ H Q => ∃ ρ env S c fs, RS K ρ H S ∧ RV K ρ σ H S env ∧ ExS K mg i a cls d ρ σ H S c fs ∧ wpM (m c fs env S) (PostV K ρ H S Q) (PostX K mg W0 ρ σ H S)
def uA (m : Str → List (Str × D) → LM) : TA := fun σ H Q => ∃ ρ env S c fs, RS K ρ H S ∧ RV K ρ σ H S env ∧ ExS K mg i a cls d ρ σ H S c fs ∧ wpM (m c fs env S) (PostL K ρ H S Q) (PostX K mg W0 ρ σ H S)
def uF (m : Str → List (Str × D) → LM) : TE := fun σ H Q => ∃ ρ env S c fs, RS K ρ H S ∧ RV K ρ σ H S env ∧ ExS K mg i a cls d ρ σ H S c fs ∧ wpM (m c fs env S) (PostF K ρ H S Q) (PostX K mg W0 ρ σ H S)
def uS (m : Str → List (Str × D) → SM) : TS := fun Dn σ H => ∃ ρ env S c fs, RS K ρ H S ∧ RV K ρ σ H S env ∧ ExS K mg i a cls d ρ σ H S c fs ∧ wpS K mg W0 ρ H S Dn (m c fs env S)
end
theorem ExcR.up {K : PySem.W.Frag} {mg : Str → Option Value} {ρ ρ' : List Addr} {H H' : Hp} {S S' : Sto} {c : Str} {fs : List (Str × D)} {cls : Value} {d : Option Addr} (R : RS K ρ H S) (U : Up K ρ H S ρ' H' S') (h : ExcR K mg H (Al ρ S) ρ c fs cls d) : ExcR K mg H' (Al ρ' S') ρ' c fs cls d := by
  obtain ⟨C, dd, ys, h1, h2, h3, h4, h5⟩ := h
  refine ⟨C, dd, ys, h1, h2, h3, (U.ext dd _ h4 fun q => ?_).1, fun p hp => let ⟨v, e, r⟩ := h5 p hp; ⟨v, e, U.relD r⟩⟩
  obtain ⟨xs, e⟩ := R.alive q
  rw [h4] at e; cases e
theorem ExS.up {K : PySem.W.Frag} {mg : Str → Option Value} {i : Nat} {a : Addr} {ρ ρ' : List Addr} {σ : L2.St} {H H' : Hp} {S S' : Sto} {c : Str} {fs : List (Str × D)} {cls : Value} {d : Option Addr} (R : RS K ρ H S) (U : Up K ρ H S ρ' H' S') (h : ExS K mg i a cls d ρ σ H S c fs) : ExS K mg i a cls d ρ' σ H' S' c fs := ⟨h.1, h.2.up R U⟩
section
variable {X : Cx} {i : Nat} {a : Addr} {cls : Value} {d : Option Addr} {e : Expr} {es : List Expr} {pos : Pos}
/-- what does not speak of e -/
theorem u_lift {m : EM} (h : PE X e (tE X.K X.mg W0 m)) : PE X e (uE X.K X.mg i a cls d fun _ _ => m) := h.imp fun σ H Q ⟨ρ, env, S, c, fs, R, V, x, w⟩ => ⟨ρ, env, S, R, V, w⟩
theorem u_nil : PA X [] (uA X.K X.mg i a cls d fun _ _ => lnil) := y_nil.imp fun σ H Q ⟨ρ, env, S, c, fs, R, V, x, w⟩ => ⟨ρ, env, S, R, V, w⟩
theorem u_cons {m : Str → List (Str × D) → EM} {l : Str → List (Str × D) → LM} (ha : PE X e (uE X.K X.mg i a cls d m)) (hr : PA X es (uA X.K X.mg i a cls d l)) (hs : starEach (e :: es) X.env = (false, eval e X.env) :: starEach es X.env := by rfl) :
    PA X (e :: es) (uA X.K X.mg i a cls d fun c fs => lcons (m c fs) (l c fs)) :=
  (pa_cons ha hr hs).imp fun σ H Q ⟨ρ, env, S, c, fs, R, V, x, w⟩ => by
    refine ⟨ρ, env, S, c, fs, R, V, x, wpM_mono (wpM_bd w) (fun d1 S1 w1 ρ1 v H1 R1 U1 r1 => ?_) fun _ _ _ q => q⟩
    refine ⟨ρ1, env, S1, c, fs, R1, U1.rv V, x.up R U1, wpM_mono (wpM_bd w1) (fun ds S2 w2 ρ2 vs H2 R2 U2 r2 => ?_) fun _ _ _ q => q.up U1⟩
    exact w2 ρ2 (v :: vs) H2 R2 (U1.trans U2) (RelL.cons (U2.relD r1) r2)
theorem u_lst {l : Str → List (Str × D) → LM} (h : PA X es (uA X.K X.mg i a cls d l)) : PE X (.List es pos) (uF X.K X.mg i a cls d fun c fs => lstF (l c fs)) :=
  (pe_lst h).imp fun σ H Q ⟨ρ, env, S, c, fs, R, V, x, w⟩ => ⟨ρ, env, S, c, fs, R, V, x, wpM_mono (wpM_bd w) (fun xs S1 w1 ρ1 vs H1 R1 U1 r1 => by
    split at w1
    · rename_i hl
      exact ⟨by rw [r1.length]; exact hl, fun p np => w1 ρ1 p vs H1 _ R1 U1 r1 np (same_new np) upd_same⟩
    · exact w1.elim) fun _ _ _ q => q⟩
theorem u_tup {k} {l : Str → List (Str × D) → LM} (h : PA X es (uA X.K X.mg i a cls d l)) : PE X (.Tuple es k pos) (uE X.K X.mg i a cls d fun c fs => tupE (l c fs)) :=
  (pe_tup h).imp fun σ H Q ⟨ρ, env, S, c, fs, R, V, x, w⟩ => ⟨ρ, env, S, c, fs, R, V, x, wpM_mono (wpM_bd w) (fun xs S1 w1 ρ1 vs H1 R1 U1 r1 => by
    split at w1
    · rename_i hl
      refine ⟨by rw [r1.length]; exact hl, fun p np => ?_⟩
      have s : Same H1 (upd H1 p (.tup vs)) := same_new np
      exact w1 ρ1 (.ref p) _ (R1.same s) (U1.trans (Up.same s)) ⟨p, vs, rfl, SqT.of upd_same, (Up.same (K := X.K) (ρ := ρ1) (S := S1) s).relL r1⟩
    · exact w1.elim) fun _ _ _ q => q⟩
theorem u_frz {l : Str → List (Str × D) → LM} (h : PE X e (uF X.K X.mg i a cls d l)) : PE X e (uE X.K X.mg i a cls d fun c fs => frz (l c fs)) :=
  h.imp fun σ H Q ⟨ρ, env, S, c, fs, R, V, x, w⟩ => ⟨ρ, env, S, c, fs, R, V, x, wpM_mono (wpM_bd w) (fun xs S1 w1 ρ1 p ys H1 H2 R1 U1 r1 np s hp => by
    have U2 : Up X.K ρ1 H1 S1 ρ1 H2 S1 := Up.same s
    exact w1 ρ1 (.ref p) H2 (R1.same s) (U1.trans U2) ⟨p, ys, rfl, .inl ⟨.inl hp, R1.noal np⟩, U2.relL r1⟩) fun _ _ _ q => q⟩
theorem u_ret {m : Str → List (Str × D) → EM} (he : PE X e (uE X.K X.mg i a cls d m)) : PS X (.Return (some e) pos) (uS X.K X.mg i a cls d fun c fs => retS (m c fs)) :=
  (ps_ret he).imp fun Dn σ H ⟨ρ, env, S, c, fs, R, V, x, w⟩ => ⟨ρ, env, S, c, fs, R, V, x, wpM_mono (wpS_bS V w) (fun d S1 w1 ρ1 v H1 R1 U1 r1 => w1 ρ1 v H1 R1 U1 r1) fun _ _ _ q => q⟩
theorem u_one {st : Stmt} {m : Str → List (Str × D) → SM} (h : PS X st (uS X.K X.mg i a cls d m)) : PSs X [st] (uS X.K X.mg i a cls d m) := pss_one h
theorem u_liftS {st : Stmt} {m : SM} (h : PS X st (tS X.K X.mg W0 m)) : PS X st (uS X.K X.mg i a cls d fun _ _ => m) := h.imp fun Dn σ H ⟨ρ, env, S, c, fs, R, V, x, w⟩ => ⟨ρ, env, S, R, V, w⟩
end
/-- e.f, e of one of the classes cs -/
def fldE (cs : List Str) (f : Str) : Str → List (Str × D) → EM := fun c fs _ S => if c ∈ cs then lf (fs.lookup f) S else .err
theorem mem_of_lookup {fs : List (Str × D)} {f : Str} {d : D} (h : fs.lookup f = some d) : (f, d) ∈ fs := by
  induction fs with
  | nil => cases h
  | cons p l ih =>
    obtain ⟨g, u⟩ := p
    rw [List.lookup] at h
    split at h
    · rename_i e
      cases h
      rw [eq_of_beq e]; exact List.mem_cons_self
    · exact List.mem_cons_of_mem _ (ih h)
theorem u_fld {X : Cx} {i : Nat} {a : Addr} {cls : Value} {d : Option Addr} {oe : Obj} {pn : List (Addr × Obj)} {n f : Str} {p pos : Pos} {cs : List Str} (T : ∀ c ∈ cs, ∀ C, X.mg c = some (.ref C) → XfC X.K C ∧ PySem.W.findIn X.K (.ref C) f = some none)
    (hz : Zc cls d oe) (hf : ∃ vs, oe.data = .fields vs) (he : PE (X.suite a ((a, oe) :: pn)) (.Name n p) (tVar i)) (hb : attributeBase (.Name n p) f X.env (eval (.Name n p) X.env) = eval (.Name n p) X.env := by rfl) :
    PE (X.suite a ((a, oe) :: pn)) (.Attribute (.Name n p) f pos) (uE X.K X.mg i a cls d (fldE cs f)) := by
  by_cases h : ∃ C, cls = .ref C ∧ XfC X.K C ∧ PySem.W.findIn X.K (.ref C) f = some none
  · obtain ⟨C, hc, t1, t2⟩ := h
    refine (pe_xf t1 t2 hz hf he hb).imp fun σ H Q ⟨ρ, env, S, c, fs, R, V, x, w⟩ => ?_
    obtain ⟨x1, C', dd, ys, h1, h2, h3, h4, h5⟩ := x
    unfold fldE at w
    split at w
    · obtain ⟨v, e, q⟩ := wpM_lf w
      obtain ⟨u, k1, k2⟩ := h5 _ (mem_of_lookup e)
      exact ⟨.ref a, x1, rfl, hc, dd, ys, u, h3, h4, k1, q ρ u H R Up.refl k2⟩
    · exact w.elim
  · refine ⟨fun pins s σ H Q I q => ?_⟩
    obtain ⟨ρ, env, S, c, fs, R, V, x, w⟩ := q
    obtain ⟨x1, C', dd, ys, h1, h2, h3, h4, h5⟩ := x
    unfold fldE at w
    split at w
    · rename_i hcs
      obtain ⟨t1, t2⟩ := T c hcs C' h1
      exact absurd ⟨C', h2, t1, t2⟩ h
    · exact w.elim
theorem RV.hide {K : PySem.W.Frag} {ρ : List Addr} {σ : L2.St} {H : Hp} {S : Sto} {env : En} (hV : RV K ρ σ H S env) (i : Nat) (x : Option L2.V) : RV K ρ (σ.set i x) H S (env.set i none) := by
  refine ⟨by simp [hV.1], fun j e h => ?_⟩
  by_cases hj : i = j
  · subst hj
    by_cases hi : i < env.length
    · rw [List.getElem?_set_self hi] at h; cases h
    · rw [List.getElem?_eq_none (by simp; omega)] at h; cases h
  · rw [List.getElem?_set_ne hj] at h ⊢
    exact hV.2 j e h
theorem s_try {X : Cx} {W : WX} {x n : Str} {C : Addr} {i : Nat} {body suite : List Stmt} {b₀ : Stmt} {np pos pos' : Pos} {mb : SM} {ms : Str → List (Str × D) → SM} {yes : Str → Option Bool}
    (hs : X.stack = X.env :: X.outer) (hf : X.env.frame = some X.env.locals) (hN : X.N.Nodup) (hm : X.mg x = some (.ref C)) (tk : Takes X W)
    (hy : ∀ c C' b, X.mg c = some (.ref C') → yes c = some b → PySem.W.exmOne X.K (.ref C') (.ref C) = some b)
    (hb : ∀ (W : WX) (pn : List (Addr × Obj)) (xe : Value → Shared → Prop), Takes (X.tr pn xe) W → PassesOwn (model X.prog X.w) X.A X.env xe → PSs (X.tr pn xe) body (tS X.K X.mg W mb))
    (hsu : ∀ (a : Addr) (oe : Obj) (cls : Value) (d : Option Addr) (pn : List (Addr × Obj)), Zc cls d oe → (∃ vs, oe.data = .fields vs) → PSs (X.suite a ((a, oe) :: pn)) (b₀ :: suite) (uS X.K X.mg i a cls d ms))
    (hi : X.N[i]? = some n := by rfl) (hln : X.env.kindOf n = some .local := by rfl) (hg : Gl X x := by rfl) (hdb : (x == ("__debug__" : Str)) = false := by decide) :
    PS X (.Try body [.ExceptHandler (some (.Name x np)) (some n) (b₀ :: suite) pos'] [] [] pos) (tS X.K X.mg W (tryS mb yes i ms)) :=
  (ps_try_as (c := .ref C) (tb := fun W => tS X.K X.mg W mb) (ts := fun a cls d => uS X.K X.mg i a cls d ms) hs hf hN hi hln ⟨hg, hdb, .inl hm⟩ tk hb hsu).imp fun Dn σ H ⟨ρ, env, S, R, V, w⟩ => by
    refine ⟨ρ, env, S, R, V, ?_⟩
    unfold tryS at w
    cases e1 : mb env S with
    | nx env1 S1 => rw [e1] at w; exact w
    | brk env1 S1 => rw [e1] at w; exact w
    | ct env1 S1 => rw [e1] at w; exact w
    | ret d S1 => rw [e1] at w; exact w
    | err => rw [e1] at w; exact w
    | exc c fs env1 S1 =>
      rw [e1] at w
      simp only at w
      split at w
      · rename_i hi1
        intro ρ' σ' H' cls dx R' V' U' x'
        obtain ⟨C', dd, ys, h1, h2, h3, h4, h5⟩ := id x'
        subst h2
        cases e2 : yes c with
        | none => rw [e2] at w; exact w.elim
        | some b =>
          rw [e2] at w
          refine ⟨b, hy c C' b h1 e2, fun hb => ?_, fun hb => ?_⟩
          · subst hb
            simp only at w
            intro a ha
            refine ⟨ρ', env1.set i none, S1, c, fs, R', V'.hide i _, ⟨by rw [List.getElem?_set_self (by rw [← V'.1]; exact hi1)], x'⟩, ?_⟩
            cases e3 : ms c fs (env1.set i none) S1 with
            | nx env2 S2 => rw [e3] at w; exact fun ρ2 σ2 H2 R2 V2 U2 => w ρ2 (σ2.set i none) H2 R2 (V2.hide i none) (U'.trans U2)
            | brk env2 S2 => rw [e3] at w; exact fun ρ2 σ2 H2 R2 V2 U2 => w ρ2 (σ2.set i none) H2 R2 (V2.hide i none) (U'.trans U2)
            | ct env2 S2 => rw [e3] at w; exact fun ρ2 σ2 H2 R2 V2 U2 => w ρ2 (σ2.set i none) H2 R2 (V2.hide i none) (U'.trans U2)
            | ret d S2 => rw [e3] at w; exact fun ρ2 v H2 R2 U2 => w ρ2 v H2 R2 (U'.trans U2)
            | err => rw [e3] at w; exact w.elim
            | exc c2 fs2 env2 S2 => rw [e3] at w; exact w.elim
          · subst hb
            simp only at w
            exact w ρ' σ' H' (.ref C') dx R' V' U' x'
      · exact w.elim
end Y

set_option Elab.async false
set_option linter.all false
set_option maxRecDepth 100000
set_option maxHeartbeats 4000000
set_option autoImplicit false
namespace Y
open PySem PySem.Spec L2
section
variable (P : Program) (w : World) (K : PySem.W.Frag) (mg : Str → Option Value) (base : Heap)
/-- a def of the text, bound to its name -/
structure Fu (x : Str) (st : Stmt) (ps : List Str) : Prop where
  ex : ∃ f fd, Fun K x x st f fd ∧ mg x = some (.ref f) ∧ Binds K fd ps []
/-- a def whose mirror is mf -/
structure Cl (x : Str) (k : Nat) (ps : List Str) (mf : List D → Sto → Res D) : Prop where
  ex : ∃ f fd, FnOk P w K mg base (L2.CX P w) k f fd ps (spM K mg ps.length mf) ∧ mg x = some (.ref f) ∧ PySem.W.keepIn K (.ref f) = true ∧ Binds K fd ps []
/-- an own exception class whose __init__ keeps its arguments as fs -/
structure Ex (x : Str) (fs : List Str) : Prop where
  ex : ∃ C fI fd ps, OexC K C ∧ PySem.W.findIn K (.ref C) "__init__" = some (some (.ref fI)) ∧ PySem.W.typeIn K (.ref fI) = some (.type "function") ∧ FnOk P w K mg base (L2.CX P w) 1 fI fd ps (spI C fs) ∧ Binds K fd ps [] ∧ mg x = some (.ref C)
end
section
variable {P : Program} {w : World} {K : PySem.W.Frag} {mg : Str → Option Value} {base : Heap}
theorem Cl.mono {x : Str} {j k : Nat} {ps : List Str} {mf : List D → Sto → Res D} (C : Cl P w K mg base x j ps mf) (h : j ≤ k) : Cl P w K mg base x k ps mf := by
  obtain ⟨f, fd, F, r⟩ := C.ex
  exact ⟨f, fd, F.mono h, r⟩
theorem cl_fn {x : Str} {st : Stmt} {N ps : List Str} {k n : Nat} {m : SM} (F : Fu K mg x st ps) (Sc : FnScope N ps (defScope st)) (hn : N.length = n)
    (hb : ∀ (f : Addr) (cdv : Value) (A : Around) (outer : List Env) (s : Shared) (H : Hp) (E : XK), Room k (A.deeper (PyProof.Rows.envOfC x (defScope st) s.heap.objs.size f cdv)) →
      PSs (cxOf (L2.CX P w) P w K mg base N x (defScope st) f cdv A outer s H E) (defBody st) (tS K mg (fun cls d _ H => E cls d H) m)) : Cl P w K mg base x (k + 1) ps (fn n m) := by
  obtain ⟨f, fd, h1, h2, h3⟩ := F.ex
  exact ⟨f, fd, ok_fn h1 Sc hn (hb f), h2, h1.kp, h3⟩
theorem cl_run {x : Str} {st : Stmt} {N ps : List Str} {k n : Nat} {m : SM} (F : Fu K mg x st ps) (Sc : FnScope N ps (defScope st)) (hn : N.length = n)
    (hb : ∀ (f : Addr) (cdv : Value) (A : Around) (outer : List Env) (s : Shared) (H : Hp) (E : XK), Room k (A.deeper (PyProof.Rows.envOfC x (defScope st) s.heap.objs.size f cdv)) →
      PSs (cxOf (L2.CX P w) P w K mg base N x (defScope st) f cdv A outer s H E) (defBody st) (tS K mg (fun cls d _ H => E cls d H) m)) : Cl P w K mg base x (k + 1) ps (run n m) := by
  obtain ⟨f, fd, h1, h2, h3⟩ := F.ex
  exact ⟨f, fd, ok_run h1 Sc hn (hb f), h2, h1.kp, h3⟩
/-- a def of which nothing is told -/
theorem cl_none {x : Str} {st : Stmt} {ps : List Str} {k : Nat} (F : Fu K mg x st ps) : Cl P w K mg base x k ps (fun _ _ => .err) := by
  obtain ⟨f, fd, h1, h2, h3⟩ := F.ex
  have no : ∀ vs H Q E, spM K mg ps.length (fun _ _ => .err) vs H Q E → False := fun vs H Q E ⟨_, ρ, S, ds, _, _, w⟩ => w
  exact ⟨f, fd, ⟨fun vs H Q E h => (no _ _ _ _ h).elim, fun A outer s H args us vs Q E _ _ _ _ h => (no _ _ _ _ h).elim⟩, h2, h1.kp, h3⟩
end
section
variable {X : Cx} {W : WX} {k : Nat} {ps fs : List Str} {x : Str} {p pos pos' : Pos} {e : Expr} {es : List Expr} {l : LM} {mf : List D → Sto → Res D}
theorem y_fn (C : Cl X.prog X.w X.K X.mg X.base x k ps mf) (hr : Room k X.A) (tk : Takes X W) (ha : PA X (e :: es) (tA X.K X.mg W l)) (hn : Len l ps.length)
    (hg : Gl X x := by rfl) (hdb : (x == ("__debug__" : Str)) = false := by decide) (he : starEach (e :: es) X.env = (false, eval e X.env) :: starEach es X.env := by rfl) (hpl : (backTo pos (starEach es X.env)).any (·.1) = false := by rfl) :
    PE X (.Call (.Name x p) (e :: es) [] pos) (tE X.K X.mg W (cal mf l)) := by
  obtain ⟨f, fd, F, hm, hk, hb⟩ := C.ex
  exact y_call F hr tk hm hk hb ha hn hg hdb he hpl
theorem s_rais (hc : X.calm = true) (tk : Takes X W) (T : Ex X.prog X.w X.K X.mg X.base x fs) (hr : Room 2 X.A) (ha : PA X (e :: es) (tA X.K X.mg W l)) (hfs : fs.Nodup ∧ fs.length ≤ 1000) (hg : Gl X x := by rfl)
    (hdb : (x == ("__debug__" : Str)) = false := by decide) (he : starEach (e :: es) X.env = (false, eval e X.env) :: starEach es X.env := by rfl) (hpl : (backTo pos (starEach es X.env)).any (·.1) = false := by rfl) :
    PS X (.Raise (some (.Call (.Name x p) (e :: es) [] pos)) none pos') (tS X.K X.mg W (raiS x fs l)) := by
  obtain ⟨C, fI, fd, ps, T, iC, tI, F1, hb, hm⟩ := T.ex
  exact s_raise hc tk T iC tI F1 hr hb hm ha hfs hg hdb he hpl
end
/-! ### the end -/
/-- what the law's def promises -/
def spLaw (K : PySem.W.Frag) : Sp := fun vs H Q _ => ∃ (a : Addr) (ns : List Int), vs = [.ref a] ∧ SqL K H a (ns.map V.int) ∧ ns.length ≤ 63 ∧ ∀ H', Q (.bl true) H'
theorem law_end {P : Program} {w : World} {K : PySem.W.Frag} {mg : Str → Option Value} {base : Heap} {k : Nat} {ps : List Str} {mf : List D → Sto → Res D} {f : Addr} {fd : FuncData} (F : FnOk P w K mg base (L2.CX P w) k f fd ps (spM K mg ps.length mf)) (hp : ps.length = 1)
    (h : ∀ ns : List Int, ns.length ≤ 63 → ∃ S, mf [.lst (ns.map .int)] [] = .ok (.bl true) S) : FnOk P w K mg base (L2.CX P w) k f fd ps (spLaw K) :=
  F.imp fun vs H Q E ⟨a, ns, e, hS, hl, q⟩ => by
    subst e
    obtain ⟨S, hm⟩ := h ns hl
    refine ⟨by simp [hp], [], [], [.lst (ns.map .int)], ⟨rfl, fun n o a h => by simp at h, fun n m o o' a h => by simp at h⟩, RelL.cons ⟨a, _, rfl, ?_, RelL.ints ns⟩ RelL.nil, ?_⟩
    · rcases hS with hS | hS
      · exact .inl ⟨hS, fun ⟨n, o, h, _⟩ => by simp at h⟩
      · exact .inr hS
    · rw [hm]
      intro ρ' v H' R U r
      have r' : v = .bl true := r
      subst r'
      exact q H'
end Y

set_option Elab.async false
set_option linter.all false
set_option maxRecDepth 100000
set_option maxHeartbeats 4000000
set_option autoImplicit false
namespace Y
open PySem PySem.Spec L2
section
variable {A : Around} {k : Nat}
theorem hu0 (hr : Room k A) : A.units < cLine := by have := hr.un; omega
theorem hu64 (hr : Room k A) : A.units + 64 < cLine := by have := hr.un; omega
theorem hu65 (hr : Room k A) : A.units + 65 < cLine := by have := hr.un; omega
theorem hu200 (hr : Room k A) : A.units + 200 < cLine := by have := hr.un; omega
end
def yesL (l : List (Str × Bool)) : Str → Option Bool := fun c => l.lookup c
/-- the class that an except clause names -/
structure Hd (K : PySem.W.Frag) (mg : Str → Option Value) (x : Str) (yes : Str → Option Bool) : Prop where
  ex : ∃ C, mg x = some (.ref C) ∧ ∀ c C' b, mg c = some (.ref C') → yes c = some b → PySem.W.exmOne K (.ref C') (.ref C) = some b
theorem exm_self {K : PySem.W.Frag} {S : Addr} (h1 : PySem.W.subIn K (.ref S) (.type "BaseException") = some true) (h2 : PySem.W.isClsIn K S = true) (h3 : PySem.W.typeIn K (.ref S) = some (.type "type")) (h4 : PySem.W.subIn K (.ref S) (.ref S) = some true) :
    PySem.W.exmOne K (.ref S) (.ref S) = some true := by
  have e1 : (PySem.W.subIn K (.ref S) (.type "BaseException") == some true) = true := by rw [h1] <;> rfl
  have e2 : ((PySem.W.clsIn K S).isSome && PySem.W.typeIn K (.ref S) == some (.type "type")) = true := by
    have h2' : (PySem.W.clsIn K S).isSome = true := h2
    rw [h2', h3] <;> rfl
  show (if (PySem.W.subIn K (.ref S) (.type "BaseException") == some true) = true then (if ((PySem.W.clsIn K S).isSome && PySem.W.typeIn K (.ref S) == some (.type "type")) = true then PySem.W.subIn K (.ref S) (.ref S) else none) else none) = some true
  rw [if_pos e1, if_pos e2]
  exact h4
theorem hd_self {K : PySem.W.Frag} {mg : Str → Option Value} {x : Str} {C : Addr} (h : mg x = some (.ref C)) (e : PySem.W.exmOne K (.ref C) (.ref C) = some true) : Hd K mg x (yesL [(x, true)]) :=
  ⟨C, h, fun c C' b hc hy => by
    unfold yesL at hy
    rw [List.lookup] at hy
    split at hy
    · rename_i e1
      have e2 := eq_of_beq e1
      subst e2
      have e3 := hc.symm.trans h
      cases e3
      cases hy
      exact e
    · cases hy⟩
theorem s_tryH {X : Cx} {W : WX} {x n : Str} {i : Nat} {body suite : List Stmt} {b₀ : Stmt} {np pos pos' : Pos} {mb : SM} {ms : Str → List (Str × D) → SM} {yes : Str → Option Bool}
    (hs : X.stack = X.env :: X.outer) (hf : X.env.frame = some X.env.locals) (hN : X.N.Nodup) (h : Hd X.K X.mg x yes) (tk : Takes X W)
    (hb : ∀ (W : WX) (pn : List (Addr × Obj)) (xe : Value → Shared → Prop), Takes (X.tr pn xe) W → PassesOwn (model X.prog X.w) X.A X.env xe → PSs (X.tr pn xe) body (tS X.K X.mg W mb))
    (hsu : ∀ (a : Addr) (oe : Obj) (cls : Value) (d : Option Addr) (pn : List (Addr × Obj)), Zc cls d oe → (∃ vs, oe.data = .fields vs) → PSs (X.suite a ((a, oe) :: pn)) (b₀ :: suite) (uS X.K X.mg i a cls d ms))
    (hi : X.N[i]? = some n := by rfl) (hln : X.env.kindOf n = some .local := by rfl) (hg : Gl X x := by rfl) (hdb : (x == ("__debug__" : Str)) = false := by decide) :
    PS X (.Try body [.ExceptHandler (some (.Name x np)) (some n) (b₀ :: suite) pos'] [] [] pos) (tS X.K X.mg W (tryS mb yes i ms)) := by
  obtain ⟨C, hm, hy⟩ := h.ex
  exact s_try hs hf hN hm tk hy hb hsu hi hln hg hdb
def clsBody : Stmt → List Stmt
  | .ClassDef _ _ _ b .. => b
  | _ => []
theorem noCX {P : Program} {w : World} {H : Hp} {s : Shared} {e : Value} {s' : Shared} (h : L2.CX P w [] H s (fun _ _ _ => False) e s') : False := by
  obtain ⟨_, _, _, _, _, _, _, _, _, _, _, _, z⟩ := h
  exact z.elim
section
variable {X : Cx} {W : WX} {pos py spos : Pos} {elt iter tg : Expr} {ifs : List Expr} {scope : Scope} {own : List (Str × Nat)} {ts : TM} {el : EM} {mi : IM} {g : TgM} {y : Str}
theorem y_compF (hc : X.calm = true) (hN : X.N.Nodup) (hi : PI X tg iter (tI X.K X.mg W mi)) (ok : blkC X.N X.env.scope scope own = true)
    (hg : ∀ (s : Shared) (H : Hp) (C : Addr) (cl : List (Str × Addr)) (fp : List Addr), PG (X.blk s H scope (compEnvC scope cl C X.env) fp) tg (tG X.K (own.map (·.2)) g)) (ht : ∀ (s : Shared) (H : Hp) (C : Addr) (cl : List (Str × Addr)) (fp : List Addr), PTs (X.blk s H scope (compEnvC scope cl C X.env) fp) ifs (tT X.K X.mg W0 ts))
    (he : ∀ (s : Shared) (H : Hp) (C : Addr) (cl : List (Str × Addr)) (fp : List Addr), PE (X.blk s H scope (compEnvC scope cl C X.env) fp) elt (tE X.K X.mg W0 el)) (hs : ∀ x, foldedSetIterable iter X.env x = pure x := by intro _; rfl) :
    PE X (.ListComp elt [⟨tg, iter, ifs, 0⟩] scope pos) (tE X.K X.mg W (compF mi g ts el (own.map (·.2)))) := y_comp (compF_imp (X := X) (W := W) (own := own)) hc hN hi ok hg ht he hs
theorem s_setCompF (i : Nat) (hc : X.calm = true) (hN : X.N.Nodup) (hyl : X.env.scope.names.lookup y = some .local)
    (hsw : swapsWith (.ListComp elt [⟨tg, iter, ifs, 0⟩] scope pos) (some (.Name y py)) spos.line X.env = pure true) (hi : PI X tg iter (tI X.K X.mg W mi)) (ok : blkC X.N X.env.scope scope own = true)
    (hg : ∀ (s : Shared) (H : Hp) (C : Addr) (cl : List (Str × Addr)) (fp : List Addr), PG (X.blk s H scope (compEnvC scope cl C X.env) fp) tg (tG X.K (own.map (·.2)) g)) (ht : ∀ (s : Shared) (H : Hp) (C : Addr) (cl : List (Str × Addr)) (fp : List Addr), PTs (X.blk s H scope (compEnvC scope cl C X.env) fp) ifs (tT X.K X.mg W0 ts))
    (he : ∀ (s : Shared) (H : Hp) (C : Addr) (cl : List (Str × Addr)) (fp : List Addr), PE (X.blk s H scope (compEnvC scope cl C X.env) fp) elt (tE X.K X.mg W0 el)) (hy : X.N[i]? = some y := by rfl) (hs : ∀ x, foldedSetIterable iter X.env x = pure x := by intro _; rfl) :
    PS X (.Assign [.Name y py] (.ListComp elt [⟨tg, iter, ifs, 0⟩] scope pos) spos) (tS X.K X.mg W (asg (tgN i) (compF mi g ts el (own.map (·.2))))) := s_setComp i (compF_imp (X := X) (W := W) (own := own)) hc hN hyl hsw hi ok hg ht he hy hs
theorem y_compN (hc : X.calm = true) (hN : X.N.Nodup) (hi : PI X tg iter (tI X.K X.mg W mi)) (ok : blkC X.N X.env.scope scope own = true)
    (hg : ∀ (s : Shared) (H : Hp) (C : Addr) (cl : List (Str × Addr)) (fp : List Addr), PG (X.blk s H scope (compEnvC scope cl C X.env) fp) tg (tG X.K (own.map (·.2)) g)) (ht : ∀ (s : Shared) (H : Hp) (C : Addr) (cl : List (Str × Addr)) (fp : List Addr), PTs (X.blk s H scope (compEnvC scope cl C X.env) fp) ifs (tT X.K X.mg W0 ts))
    (he : ∀ (s : Shared) (H : Hp) (C : Addr) (cl : List (Str × Addr)) (fp : List Addr), PE (X.blk s H scope (compEnvC scope cl C X.env) fp) elt (tE X.K X.mg W0 el)) (hs : ∀ x, foldedSetIterable iter X.env x = pure x := by intro _; rfl) :
    PE X (.ListComp elt [⟨tg, iter, ifs, 0⟩] scope pos) (tE X.K X.mg W (compN mi g ts el (own.map (·.2)))) := y_comp (compN_imp (X := X) (W := W) (own := own)) hc hN hi ok hg ht he hs
theorem s_setCompN (i : Nat) (hc : X.calm = true) (hN : X.N.Nodup) (hyl : X.env.scope.names.lookup y = some .local)
    (hsw : swapsWith (.ListComp elt [⟨tg, iter, ifs, 0⟩] scope pos) (some (.Name y py)) spos.line X.env = pure true) (hi : PI X tg iter (tI X.K X.mg W mi)) (ok : blkC X.N X.env.scope scope own = true)
    (hg : ∀ (s : Shared) (H : Hp) (C : Addr) (cl : List (Str × Addr)) (fp : List Addr), PG (X.blk s H scope (compEnvC scope cl C X.env) fp) tg (tG X.K (own.map (·.2)) g)) (ht : ∀ (s : Shared) (H : Hp) (C : Addr) (cl : List (Str × Addr)) (fp : List Addr), PTs (X.blk s H scope (compEnvC scope cl C X.env) fp) ifs (tT X.K X.mg W0 ts))
    (he : ∀ (s : Shared) (H : Hp) (C : Addr) (cl : List (Str × Addr)) (fp : List Addr), PE (X.blk s H scope (compEnvC scope cl C X.env) fp) elt (tE X.K X.mg W0 el)) (hy : X.N[i]? = some y := by rfl) (hs : ∀ x, foldedSetIterable iter X.env x = pure x := by intro _; rfl) :
    PS X (.Assign [.Name y py] (.ListComp elt [⟨tg, iter, ifs, 0⟩] scope pos) spos) (tS X.K X.mg W (asg (tgN i) (compN mi g ts el (own.map (·.2))))) := s_setComp i (compN_imp (X := X) (W := W) (own := own)) hc hN hyl hsw hi ok hg ht he hy hs
end
end Y

set_option Elab.async false
set_option linter.all false
set_option maxRecDepth 100000
set_option maxHeartbeats 4000000
set_option autoImplicit false
/-! reasoning about mirrors -/
namespace Y
open PySem PySem.Spec L2
structure SK where
  nx : En → Sto → Prop
  bk : En → Sto → Prop
  ct : En → Sto → Prop
  rt : D → Sto → Prop
  ex : Str → List (Str × D) → En → Sto → Prop
def wS (r : SR) (k : SK) : Prop := match r with
  | .nx e S => k.nx e S
  | .brk e S => k.bk e S
  | .ct e S => k.ct e S
  | .ret d S => k.rt d S
  | .exc c fs e S => k.ex c fs e S
  | .err => False
section
variable {α β : Type} {env : En} {S : Sto} {k : SK} {Q : β → Sto → Prop} {E : Str → List (Str × D) → Sto → Prop}
theorem wS_seq {a b : SM} : wS (seqS a b env S) k = wS (a env S) ⟨fun e S => wS (b e S) k, k.bk, k.ct, k.rt, k.ex⟩ := by
  unfold seqS
  cases a env S <;> rfl
theorem wS_bS {r : Res α} {f : α → Sto → SR} : wS (bS r env f) k = wpM r (fun a S => wS (f a S) k) (fun c fs S => k.ex c fs env S) := by
  cases r <;> rfl
theorem wpM_bdE {r : Res α} {f : α → Sto → Res β} : wpM (bd r f) Q E = wpM r (fun a S => wpM (f a S) Q E) E := by
  cases r <;> rfl
theorem wS_if {c : TM} {a b : SM} : wS (ifS c a b env S) k = wpM (c env S) (fun t S1 => if t = true then wS (a env S1) k else wS (b env S1) k) (fun c fs S => k.ex c fs env S) := by
  unfold ifS
  cases c env S with
  | ok t S1 => cases t <;> rfl
  | exc c fs S1 => rfl
  | err => rfl
theorem wpM_ok {a : β} : wpM (.ok a S) Q E = Q a S := rfl
theorem wpM_lfE {o : Option β} : wpM (lf o S) Q E = match o with | some a => Q a S | none => False := by cases o <;> rfl
theorem wS_nx {e : En} : wS (.nx e S) k = k.nx e S := rfl
theorem wS_ret {d : D} : wS (.ret d S) k = k.rt d S := rfl
theorem wS_asg {g : TgM} {e : EM} : wS (asg g e env S) k = wpM (e env S) (fun d S1 => match g d env with | some env1 => k.nx env1 S1 | none => False) (fun c fs S => k.ex c fs env S) := by
  unfold asg
  rw [wS_bS]
  congr 1
  funext d S1
  cases g d env <;> rfl
theorem wS_exS {e : EM} : wS (exS e env S) k = wpM (e env S) (fun _ S1 => k.nx env S1) (fun c fs S => k.ex c fs env S) := by
  unfold exS; rw [wS_bS]; rfl
theorem wS_retS {e : EM} : wS (retS e env S) k = wpM (e env S) (fun d S1 => k.rt d S1) (fun c fs S => k.ex c fs env S) := by
  unfold retS; rw [wS_bS]; rfl
theorem wS_setS {e o i : EM} : wS (setS e o i env S) k = wpM (e env S) (fun d S1 => wpM (o env S1) (fun x S2 => wpM (i env S2) (fun j S3 => match setAt S3 x j d with | some S4 => k.nx env S4 | none => False) (fun c fs S => k.ex c fs env S)) (fun c fs S => k.ex c fs env S)) (fun c fs S => k.ex c fs env S) := by
  unfold setS
  simp only [wS_bS]
  congr 1; funext d S1; congr 1; funext x S2; congr 1; funext j S3
  cases setAt S3 x j d <;> rfl
theorem wS_rai {c : Str} {fs : List Str} {l : LM} : wS (raiS c fs l env S) k = wpM (l env S) (fun ds S1 => if ds.length = fs.length then k.ex c (fs.zip ds) env S1 else False) (fun c fs S => k.ex c fs env S) := by
  unfold raiS
  rw [wS_bS]
  congr 1; funext ds S1
  split <;> rfl
theorem wS_try {body : SM} {yes : Str → Option Bool} {i : Nat} {su : Str → List (Str × D) → SM} : wS (tryS body yes i su env S) k = wS (body env S) ⟨k.nx, k.bk, k.ct, k.rt, fun c fs env1 S1 => if i < env1.length then match yes c with
    | some true => wS (su c fs (env1.set i none) S1) ⟨fun e S => k.nx (e.set i none) S, fun e S => k.bk (e.set i none) S, fun e S => k.ct (e.set i none) S, k.rt, fun _ _ _ _ => False⟩
    | some false => k.ex c fs env1 S1
    | none => False else False⟩ := by
  unfold tryS
  cases body env S with
  | exc c fs env1 S1 =>
    by_cases hi : i < env1.length
    · simp only [if_pos hi]
      show _ = (if i < env1.length then _ else _)
      rw [if_pos hi]
      cases yes c with
      | none => rfl
      | some b =>
        cases b with
        | false => rfl
        | true => simp only; cases su c fs (env1.set i none) S1 <;> rfl
    · simp only [if_neg hi]
      show _ = (if i < env1.length then _ else _)
      rw [if_neg hi]; rfl
  | _ => rfl
theorem wS_nxS : wS (nxS env S) k = k.nx env S := rfl
theorem wpM_op2 {f : Sto → D → D → Option D} {a b : EM} {Q : D → Sto → Prop} : wpM (op2 f a b env S) Q E = wpM (a env S) (fun x S1 => wpM (b env S1) (fun y S2 => wpM (lf (f S2 x y) S2) Q E) E) E := by
  unfold op2; simp only [wpM_bdE]
theorem wpM_op1 {f : Sto → D → Option D} {a : EM} {Q : D → Sto → Prop} : wpM (op1 f a env S) Q E = wpM (a env S) (fun x S1 => wpM (lf (f S1 x) S1) Q E) E := by
  unfold op1; simp only [wpM_bdE]
theorem wpM_asT {a : EM} {Q : Bool → Sto → Prop} : wpM (asT a env S) Q E = wpM (a env S) (fun x S1 => match x with | .bl b => Q b S1 | _ => False) E := by
  unfold asT; rw [wpM_bdE]; congr 1; funext x S1; cases x <;> rfl
theorem wpM_trt {a : EM} {Q : Bool → Sto → Prop} : wpM (trt a env S) Q E = wpM (a env S) (fun x S1 => wpM (lf (tru S1 x) S1) Q E) E := by
  unfold trt; rw [wpM_bdE]
theorem wpM_notT {a : TM} {Q : Bool → Sto → Prop} : wpM (notT a env S) Q E = wpM (a env S) (fun x S1 => Q (!x) S1) E := by
  unfold notT; rw [wpM_bdE]; rfl
theorem wpM_andT {a b : TM} {Q : Bool → Sto → Prop} : wpM (andT a b env S) Q E = wpM (a env S) (fun x S1 => if x = true then wpM (b env S1) Q E else Q false S1) E := by
  unfold andT; rw [wpM_bdE]; congr 1; funext x S1; cases x <;> rfl
theorem wpM_orT {a b : TM} {Q : Bool → Sto → Prop} : wpM (orT a b env S) Q E = wpM (a env S) (fun x S1 => if x = true then Q true S1 else wpM (b env S1) Q E) E := by
  unfold orT; rw [wpM_bdE]; congr 1; funext x S1; cases x <;> rfl
theorem wpM_andV {a b : EM} {Q : D → Sto → Prop} : wpM (andV a b env S) Q E = wpM (a env S) (fun x S1 => wpM (lf (tru S1 x) S1) (fun t S2 => if t = true then wpM (b env S2) Q E else Q x S2) E) E := by
  unfold andV; simp only [wpM_bdE]; congr 1; funext x S1; congr 1; funext t S2; cases t <;> rfl
theorem wpM_notE {a : EM} {Q : D → Sto → Prop} : wpM (notE a env S) Q E = wpM (a env S) (fun x S1 => wpM (lf (tru S1 x) S1) (fun t S2 => Q (.bl (!t)) S2) E) E := by
  unfold notE; simp only [wpM_bdE]; rfl
theorem wpM_ifE {c : TM} {a b : EM} {Q : D → Sto → Prop} : wpM (ifE c a b env S) Q E = wpM (c env S) (fun t S1 => if t = true then wpM (a env S1) Q E else wpM (b env S1) Q E) E := by
  unfold ifE; rw [wpM_bdE]; congr 1; funext x S1; cases x <;> rfl
theorem wpM_lnil {Q : List D → Sto → Prop} : wpM (lnil env S) Q E = Q [] S := rfl
theorem wpM_lcons {a : EM} {l : LM} {Q : List D → Sto → Prop} : wpM (lcons a l env S) Q E = wpM (a env S) (fun x S1 => wpM (l env S1) (fun xs S2 => Q (x :: xs) S2) E) E := by
  unfold lcons; simp only [wpM_bdE]; rfl
theorem wpM_tupE {l : LM} {Q : D → Sto → Prop} : wpM (tupE l env S) Q E = wpM (l env S) (fun xs S1 => if xs.length ≤ sizeLine then Q (.tup xs) S1 else False) E := by
  unfold tupE; rw [wpM_bdE]; congr 1; funext x S1; split <;> rfl
theorem wpM_lstF {l : LM} {Q : List D → Sto → Prop} : wpM (lstF l env S) Q E = wpM (l env S) (fun xs S1 => if xs.length ≤ sizeLine then Q xs S1 else False) E := by
  unfold lstF; rw [wpM_bdE]; congr 1; funext x S1; split <;> rfl
theorem wpM_frz {l : LM} {Q : D → Sto → Prop} : wpM (frz l env S) Q E = wpM (l env S) (fun xs S1 => Q (.lst xs) S1) E := by
  unfold frz; rw [wpM_bdE]; rfl
theorem wpM_new {l : LM} {Q : D → Sto → Prop} : wpM (new l env S) Q E = wpM (l env S) (fun xs S1 => Q (.ref S1.length) (S1 ++ [some (.lst xs)])) E := by
  unfold new; rw [wpM_bdE]; rfl
theorem wpM_cal {f : List D → Sto → Res D} {l : LM} {Q : D → Sto → Prop} : wpM (cal f l env S) Q E = wpM (l env S) (fun xs S1 => wpM (f xs S1) Q E) E := by
  unfold cal; rw [wpM_bdE]
theorem wpM_calB {f : Sto → List D → Option D} {l : LM} {Q : D → Sto → Prop} : wpM (calB f l env S) Q E = wpM (l env S) (fun xs S1 => wpM (lf (f S1 xs) S1) Q E) E := by
  unfold calB; rw [wpM_bdE]
theorem wpM_calF {f : Sto → List D → Option (List D)} {l : LM} {Q : List D → Sto → Prop} : wpM (calF f l env S) Q E = wpM (l env S) (fun xs S1 => wpM (lf (f S1 xs) S1) Q E) E := by
  unfold calF; rw [wpM_bdE]
theorem wpM_isiE {T : String} {m : EM} {Q : D → Sto → Prop} : wpM (isiE T m env S) Q E = wpM (m env S) (fun d S1 => wpM (lf ((tyN S1 d).map fun a => .bl (subT a T)) S1) Q E) E := by
  unfold isiE; rw [wpM_bdE]
theorem wpM_isiTE {Ts : List String} {m : EM} {Q : D → Sto → Prop} : wpM (isiTE Ts m env S) Q E = wpM (m env S) (fun d S1 => if Ts.length ≤ 1000 then wpM (lf ((tyN S1 d).map fun a => .bl (Ts.any (subT a))) S1) Q E else False) E := by
  unfold isiTE; rw [wpM_bdE]; congr 1; funext d S1; split <;> rfl
theorem wpM_vr {i : Nat} {Q : D → Sto → Prop} : wpM (vr i env S) Q E = match env[i]? with | some (some d) => Q d S | _ => False := by
  unfold vr
  cases env[i]? with
  | none => rfl
  | some o => cases o <;> rfl
theorem wpM_ct {d : D} {Q : D → Sto → Prop} : wpM (ct d env S) Q E = Q d S := rfl
theorem wpM_meth {T : String} {f : MF} {o : EM} {l : LM} {Q : D → Sto → Prop} : wpM (meth T f o l env S) Q E = wpM (o env S) (fun x S1 => if tyD T S1 x = true then wpM (l env S1) (fun ds S2 => match f S2 x ds with | some (d, S3) => Q d S3 | none => False) E else False) E := by
  unfold meth
  rw [wpM_bdE]; congr 1; funext x S1
  split
  · rw [wpM_bdE]; congr 1; funext ds S2
    cases f S2 x ds with
    | none => rfl
    | some p => rfl
  · rfl
theorem wpM_chn {f g : Sto → D → D → Option D} {a b c : EM} {Q : D → Sto → Prop} : wpM (chn f g a b c env S) Q E = wpM (a env S) (fun x S1 => wpM (b env S1) (fun y S2 => wpM (lf (f S2 x y) S2) (fun t S3 => match t with
    | .bl true => wpM (c env S3) (fun z S4 => wpM (lf (g S4 y z) S4) Q E) E
    | .bl false => Q (.bl false) S3
    | _ => False) E) E) E := by
  unfold chn
  simp only [wpM_bdE]
  congr 1; funext x S1; congr 1; funext y S2; congr 1; funext t S3
  cases t with
  | bl b => cases b <;> simp only [wpM_bdE, wpM_ok]
  | _ => rfl
theorem wpM_cut {f : Sto → D → Option Int → Option Int → Option D} {m : EM} {a b : OM} {Q : D → Sto → Prop} : wpM (cut f m a b env S) Q E = wpM (m env S) (fun d S1 => wpM (a env S1) (fun lo S2 => wpM (b env S2) (fun hi S3 => wpM (lf (f S3 d lo hi) S3) Q E) E) E) E := by
  unfold cut; simp only [wpM_bdE]
theorem wpM_cutF {m : EM} {a b : OM} {Q : List D → Sto → Prop} : wpM (cutF m a b env S) Q E = wpM (m env S) (fun d S1 => wpM (a env S1) (fun lo S2 => wpM (b env S2) (fun hi S3 => wpM (lf ((lstOf S3 d).map fun ds => cutL ds lo hi) S3) Q E) E) E) E := by
  unfold cutF; simp only [wpM_bdE]
theorem wpM_ono {Q : Option Int → Sto → Prop} : wpM (onoM env S) Q E = Q none S := rfl
theorem wpM_osm {m : EM} {Q : Option Int → Sto → Prop} : wpM (osmM m env S) Q E = wpM (m env S) (fun d S1 => match d with | .int i => Q (some i) S1 | _ => False) E := by
  unfold osmM; rw [wpM_bdE]; congr 1; funext d S1; cases d <;> rfl
theorem wpM_revT {m : EM} {Q : D → Sto → Prop} : wpM (revT m env S) Q E = wpM (m env S) (fun d S1 => match d with | .tup ds => Q (.tup ds.reverse) S1 | _ => False) E := by
  unfold revT; rw [wpM_bdE]; congr 1; funext d S1; cases d <;> rfl
theorem wpM_mono' {r : Res β} {Q' : β → Sto → Prop} (h : wpM r Q' E) (hq : ∀ a S, Q' a S → Q a S) : wpM r Q E := wpM_mono h hq fun _ _ _ h => h
/-! loops -/
theorem wS_loop {src : List (Nat × List D)} {tg : TgM} {body : SM} (I : Nat → En → Sto → Prop) : ∀ (all : List D) (i : Nat) (env : En) (S : Sto), I i env S → (∀ j d env S, all[j]? = some d → I (i + j) env S → okSrc src S ∧ ∃ env1, tg d env = some env1 ∧ wS (body env1 S) ⟨I (i + j + 1), k.nx, I (i + j + 1), k.rt, k.ex⟩) →
    (∀ env S, I (i + all.length) env S → okSrc src S ∧ k.nx env S) → wS (loop src tg body all env S) k
  | [], i, env, S, h, hs, hd => by
    obtain ⟨h1, h2⟩ := hd env S h
    unfold loop
    rw [if_pos h1]; exact h2
  | d :: ds, i, env, S, h, hs, hd => by
    obtain ⟨h1, env1, h2, h3⟩ := hs 0 d env S rfl h
    unfold loop
    rw [if_pos h1, h2]
    simp only
    have next : ∀ e S1, I (i + 1) e S1 → wS (loop src tg body ds e S1) k := fun e S1 h' => wS_loop I ds (i + 1) e S1 h' (fun j d' env S hj hI => by
      have := hs (j + 1) d' env S hj (by rw [show i + (j + 1) = i + 1 + j by omega]; exact hI)
      rw [show i + (j + 1) + 1 = i + 1 + j + 1 by omega] at this
      exact this) fun env S h' => hd env S (by rw [List.length_cons, show i + (ds.length + 1) = i + 1 + ds.length by omega]; exact h')
    revert h3
    cases body env1 S with
    | nx e S1 => exact fun h3 => next e S1 h3
    | ct e S1 => exact fun h3 => next e S1 h3
    | brk e S1 => exact fun h3 => h3
    | ret d S1 => exact fun h3 => h3
    | exc c fs e S1 => exact fun h3 => h3
    | err => exact fun h3 => h3
theorem wS_for {it : IM} {tg : TgM} {body : SM} : wS (forS it tg body env S) k = wpM (it env S) (fun p S1 => wS (loop p.2 tg body p.1 env S1) k) (fun c fs S => k.ex c fs env S) := by
  unfold forS; rw [wS_bS]
theorem okSrc_nil : okSrc [] S := fun p hp => by cases hp
/-! comprehensions -/
theorem wpM_clp {tg : TgM} {ts : TM} {el : EM} {env0 : En} {n0 : Nat} {G : Sto → Bool} {Q : Unit → Sto → Prop} (I : Nat → Sto → Prop) : ∀ (all : List D) (i : Nat) (S : Sto), I i S → (∀ j d S, all[j]? = some d → I (i + j) S → G S = true ∧ ∃ env1, tg d env0 = some env1 ∧ wpM (ts env1 S) (fun t S1 => if t = true then
      wpM (el env1 S1) (fun x S2 => ∃ acc, S2[n0]? = some (some (.lst acc)) ∧ acc.length < sizeLine ∧ I (i + j + 1) (S2.set n0 (some (.lst (acc ++ [x]))))) (fun _ _ _ => False) else I (i + j + 1) S1) (fun _ _ _ => False)) →
    (∀ S, I (i + all.length) S → G S = true ∧ Q () S) → wpM (clp tg ts el env0 n0 G all S) Q E
  | [], i, S, h, hs, hd => by
    obtain ⟨h1, h2⟩ := hd S h
    unfold clp
    rw [if_pos h1]; exact h2
  | d :: ds, i, S, h, hs, hd => by
    obtain ⟨h1, env1, h2, h3⟩ := hs 0 d S rfl h
    unfold clp
    rw [if_pos h1, h2]
    simp only
    have next : ∀ S1, I (i + 1) S1 → wpM (clp tg ts el env0 n0 G ds S1) Q E := fun S1 h' => wpM_clp I ds (i + 1) S1 h' (fun j d' S hj hI => by
      have := hs (j + 1) d' S hj (by rw [show i + (j + 1) = i + 1 + j by omega]; exact hI)
      rw [show i + (j + 1) + 1 = i + 1 + j + 1 by omega] at this
      exact this) fun S h' => hd S (by rw [List.length_cons, show i + (ds.length + 1) = i + 1 + ds.length by omega]; exact h')
    revert h3
    cases ts env1 S with
    | ok t S1 =>
      cases t with
      | false => exact fun h3 => next S1 h3
      | true =>
        intro h3
        have h3 : wpM (el env1 S1) (fun x S2 => ∃ acc, S2[n0]? = some (some (.lst acc)) ∧ acc.length < sizeLine ∧ I (i + 0 + 1) (S2.set n0 (some (.lst (acc ++ [x]))))) (fun _ _ _ => False) := h3
        revert h3
        simp only
        cases el env1 S1 with
        | ok x S2 =>
          rintro ⟨acc, e1, e2, e3⟩
          simp only [e1, e2, if_true]
          exact next _ e3
        | exc c fs S2 => exact fun h => h.elim
        | err => exact fun h => h.elim
    | exc c fs S1 => exact fun h => h.elim
    | err => exact fun h => h.elim
theorem wpM_compF {it : IM} {tg : TgM} {ts : TM} {el : EM} {vs : List Nat} {Q : D → Sto → Prop} : wpM (compF it tg ts el vs env S) Q E = wpM (it env S) (fun p S1 => wpM (clp tg ts el (wipeE env vs) S1.length (okB p.2) p.1 (S1 ++ [some (.lst [])])) (fun _ S2 => match S2[S1.length]? with
    | some (some (.lst ds)) => if belL S1.length ds = true then Q (.lst ds) (trunc S1 (S2.set S1.length none)) else Q (.lst ds) (S2.set S1.length none)
    | _ => False) E) E := by
  unfold compF
  simp only [wpM_bdE]
  congr 1; funext p S1; congr 1; funext u S2
  cases S2[S1.length]? with
  | none => rfl
  | some o =>
    cases o with
    | none => rfl
    | some o => cases o with
      | lst ds => simp only; split <;> rfl
theorem okB_nil : okB [] S = true := okB_iff.mpr okSrc_nil
/-! defs -/
theorem trunc_self {X : Sto} : trunc S (S ++ X) = S := by
  unfold trunc
  rw [if_pos (.inl (by simp))]; simp
theorem trunc_same : trunc S S = S := by
  unfold trunc
  rw [if_pos (.inl (by simp))]; simp
theorem frzD_pure {n k : Nat} {d : D} (h : d.pure = true) : frzD n k d S = some (d, S) := by
  cases k <;> simp [frzD, h]
theorem mapS_pure {n k : Nat} : ∀ {ds : List D}, pureL ds = true → mapS (frzD n k) ds S = some (ds, S)
  | [], _ => rfl
  | d :: ds, h => by
    have h' : (d.pure && pureL ds) = true := h
    obtain ⟨h1, h2⟩ := Bool.and_eq_true_iff.mp h'
    simp only [mapS, frzD_pure h1, Option.bind_some, mapS_pure h2, Option.map_some]
theorem scope_pure {d : D} {S' : Sto} (h : d.pure = true) : scope S (.ok d S') = .ok d (trunc S S') := by
  simp only [scope, frzD_pure h]
  rw [if_pos (bel_of_pure d h)]
theorem scope_ref {n : Nat} {ds : List D} {S' : Sto} (hn : ¬ n < S.length) (h : S'[n]? = some (some (.lst ds))) (hp : pureL ds = true) : scope S (.ok (.ref n) S') = .ok (.lst ds) (trunc S (S'.set n none)) := by
  have e : frzD S.length 9 (.ref n) S' = some (.lst ds, S'.set n none) := by
    show frzD S.length (8 + 1) (.ref n) S' = some (.lst ds, S'.set n none)
    rw [frzD]
    rw [if_neg (show ¬ (D.ref n).pure = true from Bool.false_ne_true), if_neg hn, h]
    show Option.map (fun p => (D.lst p.1, p.2)) (mapS (frzD S.length 8) ds (S'.set n none)) = _
    rw [mapS_pure hp]; rfl
  simp only [scope, e]
  rw [if_pos (show (D.lst ds).bel S.length = true from belL_of_pure ds hp)]
theorem scope_exc {c : Str} {fs : List (Str × D)} {S' : Sto} (h : fs.all (fun p => p.2.pure) = true) : scope S (.exc c fs S') = .exc c fs (trunc S S') := by
  simp only [scope]
  rw [if_pos h]
theorem scope_bl {b : Bool} {S' : Sto} : scope S (.ok (.bl b) S') = .ok (.bl b) (trunc S S') := scope_pure rfl
theorem scope_int {b : Int} {S' : Sto} : scope S (.ok (.int b) S') = .ok (.int b) (trunc S S') := scope_pure rfl
theorem scope_str {b : Str} {S' : Sto} : scope S (.ok (.str b) S') = .ok (.str b) (trunc S S') := scope_pure rfl
theorem scope_non {S' : Sto} : scope S (.ok .non S') = .ok .non (trunc S S') := scope_pure rfl
theorem wpM_exc {c : Str} {fs : List (Str × D)} {Q : D → Sto → Prop} : wpM (.exc c fs S) Q E = E c fs S := rfl
/-- a def by its body -/
theorem wpM_fn {n : Nat} {m : SM} {ds : List D} {Q : D → Sto → Prop} (h : wS (m (ds.map some ++ List.replicate (n - ds.length) none) S) ⟨fun _ S' => wpM (scope S (.ok .non S')) Q E, fun _ _ => False, fun _ _ => False, fun d S' => wpM (scope S (.ok d S')) Q E, fun c fs _ S' => wpM (scope S (.exc c fs S')) Q E⟩) : wpM (fn n m ds S) Q E := by
  unfold fn run
  revert h
  cases m (ds.map some ++ List.replicate (n - ds.length) none) S <;> exact fun h => h
theorem wpM_run {n : Nat} {m : SM} {ds : List D} {Q : D → Sto → Prop} (h : wS (m (ds.map some ++ List.replicate (n - ds.length) none) S) ⟨fun _ S' => Q .non S', fun _ _ => False, fun _ _ => False, fun d S' => Q d S', fun c fs _ S' => E c fs S'⟩) : wpM (run n m ds S) Q E := by
  unfold run
  revert h
  cases m (ds.map some ++ List.replicate (n - ds.length) none) S <;> exact fun h => h
end
end Y

set_option Elab.async false
set_option linter.all false
set_option maxRecDepth 100000
set_option maxHeartbeats 4000000
set_option autoImplicit false
namespace Z
open PySem PySem.Spec L2 Y
def topS (i : Nat) : Stmt := PySem.Challenge.pw_fewmends_k06_check_machine.main.body.getD i (.Pass ⟨0, 0, 0, 0⟩)
section
variable (P : Program) (w : World) (K : PySem.W.Frag) (mg : Str → Option Value) (base : Heap)
def yes_BadMachine : Str → Option Bool := yesL [("BadMachine", true)]
structure Zs : Prop where
  n_abs : mg "abs" = none
  n_bool : mg "bool" = none
  n_enumerate : mg "enumerate" = none
  n_int : mg "int" = none
  n_isinstance : mg "isinstance" = none
  n_len : mg "len" = none
  n_list : mg "list" = none
  n_min : mg "min" = none
  n_range : mg "range" = none
  n_sorted : mg "sorted" = none
  n_str : mg "str" = none
  n_tuple : mg "tuple" = none
  n_zip : mg "zip" = none
  c_STATES_MOST : ∃ t, mg "STATES_MOST" = some (.int 40 t)
  c_STEPS_MOST : ∃ t, mg "STEPS_MOST" = some (.int 240 t)
  x_BadMachine : Ex P w K mg base "BadMachine" ["at", "word"]
  h_BadMachine : Hd K mg "BadMachine" yes_BadMachine
  f_BadMachine_at : ∀ c ∈ (["BadMachine"] : List Str), ∀ C, mg c = some (.ref C) → XfC K C ∧ PySem.W.findIn K (.ref C) "at" = some none
  f_BadMachine_word : ∀ c ∈ (["BadMachine"] : List Str), ∀ C, mg c = some (.ref C) → XfC K C ∧ PySem.W.findIn K (.ref C) "word" = some none
end
abbrev in_BadMachine : Stmt := (clsBody (topS 4)).getD 0 (.Pass ⟨0, 0, 0, 0⟩)
theorem scI_BadMachine : FnScope ["self", "at", "word"] ["self", "at", "word"] (defScope in_BadMachine) := ⟨rfl, rfl, rfl, by decide +kernel, rfl, by decide +kernel, by decide +kernel⟩
section
variable {P : Program} {w : World} {K : PySem.W.Frag} {mg : Str → Option Value} {base : Heap}
abbrev st__law_pool : Stmt := topS 15
theorem sc__law_pool : FnScope ["script", "great", "mixed", "cell", "number"] ["script"] (defScope st__law_pool) := ⟨rfl, rfl, rfl, by decide +kernel, rfl, by decide +kernel, by decide +kernel⟩
noncomputable def m__law_pool : SM :=
  (seqS (asg (tgN 1) (new (lstF lnil)))
  (seqS (asg (tgN 2) (ct (.int 71993)))
  (seqS (forS (i_of (frz (cutF (vr 0) onoM (osmM (ct (.int 63)))))) (tgN 3) (seqS (asg (tgN 4) (op2 o_mod (calB o_abs (lcons (calB o_int (lcons (vr 3) lnil)) lnil)) (op2 o_shl (ct (.int 1)) (ct (.int 2000)))))
  (seqS (asg (tgN 2) (op2 o_mod (op2 o_add (op2 o_add (op2 o_mul (vr 2) (ct (.int 23011))) (op2 o_mod (vr 4) (ct (.int 1800000017)))) (ct (.int 103))) (ct (.int 2147483399))))
  (ifS (asT (op2 o_ge (vr 4) (op2 o_pow (ct (.int 10)) (ct (.int 18))))) (exS (meth "list" m_append (vr 1) (lcons (vr 4) lnil))) nxS))))
  (retS (new (lstF (lcons (vr 1) (lcons (vr 2) lnil))))))))
@[irreducible] noncomputable def M__law_pool : List D → Sto → Res D := run 5 m__law_pool
theorem ok__law_pool (z : Zs P w K mg base) (F : Fu K mg "_law_pool" st__law_pool ["script"])  : Cl P w K mg base "_law_pool" 1 ["script"] M__law_pool := by
  unfold M__law_pool
  exact cl_run (m := m__law_pool) F sc__law_pool rfl (fun f cdv A outer s H E hr =>
  (s_cons (s_set 1 sc__law_pool.nd (y_new (y_lst y_nil)))
  (s_cons (s_set 2 sc__law_pool.nd y_int)
  (s_cons (s_for (passes_of rfl) rfl (y_iter (y_frz (y_cutF (y_vr 0) y_ono (y_osm y_int)))) (g_name (ix := [3]) 3 sc__law_pool.nd) (s_cons (s_set 4 sc__law_pool.nd (y_op op_mod os_mod (y_callB call_abs cs_abs z.n_abs PyProof.Rows.Boot.«abs» (y_cons (y_callTy call_int1 cs_int z.n_int PyProof.Rows.Boot.«int» (y_cons (y_vr 3) y_nil)) y_nil)) (y_op op_shl os_shl y_int y_int)))
  (s_cons (s_set 2 sc__law_pool.nd (y_op op_mod os_mod (y_op op_addA os_add (y_op op_addA os_add (y_op op_mulG os_mul (y_vr 2) y_int) (y_op op_mod os_mod (y_vr 4) y_int)) y_int) y_int))
  (s_one (s_if (y_tcmp op_ge os_cmp (y_vr 4) (y_op op_pow os_pow y_int y_int)) (s_one (s_expr (y_bm mt_append ms_append PySem.F.plainAttrs_list PySem.F.slot_list_append PySem.F.type_list_append (y_vr 1) (y_cons (y_vr 4) y_nil)))) s_nil)))))
  (s_one (s_ret (y_new (y_lst (y_cons (y_vr 1) (y_cons (y_vr 2) y_nil))))))))))
abbrev st__law_pick : Stmt := topS 16
theorem sc__law_pick : FnScope ["pool", "many", "great", "number"] ["pool", "many"] (defScope st__law_pick) := ⟨rfl, rfl, rfl, by decide +kernel, rfl, by decide +kernel, by decide +kernel⟩
noncomputable def m__law_pick : SM :=
  (seqS (asg (tgN 2) (op2 o_ix (vr 0) (ct (.int 0))))
  (seqS (whS (andT (trt (vr 2)) (asT (op2 o_eq (op2 o_ix (vr 2) (ct (.int 0))) (ct (.int 0))))) (exS (meth "list" m_popAt (vr 2) (lcons (ct (.int 0)) lnil))))
  (seqS (ifS (trt (vr 2)) (seqS (asg (tgN 3) (calB o_int (lcons (op2 o_ix (vr 2) (ct (.int 0))) lnil)))
  (seqS (setS (op2 o_fdiv (vr 3) (vr 1)) (vr 2) (ct (.int 0)))
  (retS (op2 o_mod (vr 3) (vr 1))))) nxS)
  (seqS (setS (op2 o_mod (op2 o_add (op2 o_mul (op2 o_ix (vr 0) (ct (.int 1))) (ct (.int 50021))) (ct (.int 17389))) (ct (.int 2147483399))) (vr 0) (ct (.int 1)))
  (retS (op2 o_mod (op2 o_fdiv (op2 o_ix (vr 0) (ct (.int 1))) (ct (.int 1601))) (vr 1)))))))
@[irreducible] noncomputable def M__law_pick : List D → Sto → Res D := fn 4 m__law_pick
theorem ok__law_pick (z : Zs P w K mg base) (F : Fu K mg "_law_pick" st__law_pick ["pool", "many"])  : Cl P w K mg base "_law_pick" 1 ["pool", "many"] M__law_pick := by
  unfold M__law_pick
  exact cl_fn (m := m__law_pick) F sc__law_pick rfl (fun f cdv A outer s H E hr =>
  (s_cons (s_set 2 sc__law_pick.nd (y_ix ix_seq os_ix (y_vr 0) y_int (fun _ _ => rfl)))
  (s_cons (s_while (passes_of rfl) ((y_tand (y_truth (y_vr 2)) (y_tand1 (y_tcmp (op_eqD (hu64 hr)) os_eq (y_ix ix_seq os_ix (y_vr 2) y_int (fun _ _ => rfl)) y_int)))).pt (s_one (s_expr (y_bm mt_popAt ms_popAt PySem.F.plainAttrs_list PySem.F.slot_list_pop PySem.F.type_list_pop (y_vr 2) (y_cons y_int y_nil)))))
  (s_cons (s_if (y_truth (y_vr 2)) (s_cons (s_set 3 sc__law_pick.nd (y_callTy call_int1 cs_int z.n_int PyProof.Rows.Boot.«int» (y_cons (y_ix ix_seq os_ix (y_vr 2) y_int (fun _ _ => rfl)) y_nil)))
  (s_cons (s_sub (y_op op_fdiv os_fdiv (y_vr 3) (y_vr 1)) (y_vr 2) y_int)
  (s_one (s_ret (y_op op_mod os_mod (y_vr 3) (y_vr 1)))))) s_nil)
  (s_cons (s_sub (y_op op_mod os_mod (y_op op_addA os_add (y_op op_mulG os_mul (y_ix ix_seq os_ix (y_vr 0) y_int (fun _ _ => rfl)) y_int) y_int) y_int) (y_vr 0) y_int)
  (s_one (s_ret (y_op op_mod os_mod (y_op op_fdiv os_fdiv (y_ix ix_seq os_ix (y_vr 0) y_int (fun _ _ => rfl)) y_int) (y_vr 1)))))))))
abbrev st__law_mixed : Stmt := topS 17
theorem sc__law_mixed : FnScope ["pool", "things", "left", "out", "turn"] ["pool", "things"] (defScope st__law_mixed) := ⟨rfl, rfl, rfl, by decide +kernel, rfl, by decide +kernel, by decide +kernel⟩
noncomputable def m__law_mixed : SM :=
  (seqS (asg (tgN 2) (new (calF o_listA (lcons (vr 1) lnil))))
  (seqS (asg (tgN 3) (new (lstF lnil)))
  (seqS (forS (i_rg1 (lcons (calB o_len (lcons (vr 1) lnil)) lnil)) (tgN 4) (exS (meth "list" m_append (vr 3) (lcons (meth "list" m_popAt (vr 2) (lcons (cal M__law_pick (lcons (vr 0) (lcons (calB o_len (lcons (vr 2) lnil)) lnil))) lnil)) lnil))))
  (retS (vr 3)))))
@[irreducible] noncomputable def M__law_mixed : List D → Sto → Res D := fn 5 m__law_mixed
theorem ok__law_mixed (z : Zs P w K mg base) (F : Fu K mg "_law_mixed" st__law_mixed ["pool", "things"]) (C__law_pick : Cl P w K mg base "_law_pick" 1 ["pool", "many"] M__law_pick) : Cl P w K mg base "_law_mixed" 2 ["pool", "things"] M__law_mixed := by
  unfold M__law_mixed
  exact cl_fn (m := m__law_mixed) F sc__law_mixed rfl (fun f cdv A outer s H E hr =>
  (s_cons (s_set 2 sc__law_mixed.nd (y_new (y_callTyF (cr_listA rfl) cf_listA z.n_list PyProof.Rows.Boot.«list» (y_cons (y_vr 1) y_nil))))
  (s_cons (s_set 3 sc__law_mixed.nd (y_new (y_lst y_nil)))
  (s_cons (s_for (passes_of rfl) rfl (y_rg1 z.n_range (y_cons (y_callB call_len cs_len z.n_len PyProof.Rows.Boot.«len» (y_cons (y_vr 1) y_nil)) y_nil)) (g_name (ix := [4]) 4 sc__law_mixed.nd) (s_one (s_expr (y_bm mt_append ms_append PySem.F.plainAttrs_list PySem.F.slot_list_append PySem.F.type_list_append (y_vr 3) (y_cons (y_bm mt_popAt ms_popAt PySem.F.plainAttrs_list PySem.F.slot_list_pop PySem.F.type_list_pop (y_vr 2) (y_cons (y_fn C__law_pick (hr.mono (by first | decide | omega)) (takes_of rfl rfl rfl rfl) (y_cons (y_vr 0) (y_cons (y_callB call_len cs_len z.n_len PyProof.Rows.Boot.«len» (y_cons (y_vr 2) y_nil)) y_nil)) (len_cons (len_cons len_nil))) y_nil)) y_nil)))))
  (s_one (s_ret (y_vr 3)))))))
abbrev st__law_letters : Stmt := topS 18
theorem sc__law_letters : FnScope ["pool", "most", "many"] ["pool", "most"] (defScope st__law_letters) := ⟨rfl, rfl, rfl, by decide +kernel, rfl, by decide +kernel, by decide +kernel⟩
noncomputable def m__law_letters : SM :=
  (seqS (asg (tgN 2) (op2 o_add (ct (.int 1)) (cal M__law_pick (lcons (vr 0) (lcons (vr 1) lnil)))))
  (retS (meth "str" m_join (ct (.str (Str.ofString ""))) (lcons (frz (calF o_sorted (lcons (frz (cutF (cal M__law_mixed (lcons (vr 0) (lcons (frz (calF o_listA (lcons (ct (.str (Str.ofString "abcdefghijklmnopqrstuvwxyz"))) lnil))) lnil))) onoM (osmM (vr 2)))) lnil))) lnil))))
@[irreducible] noncomputable def M__law_letters : List D → Sto → Res D := fn 3 m__law_letters
theorem ok__law_letters (z : Zs P w K mg base) (F : Fu K mg "_law_letters" st__law_letters ["pool", "most"]) (C__law_pick : Cl P w K mg base "_law_pick" 1 ["pool", "many"] M__law_pick) (C__law_mixed : Cl P w K mg base "_law_mixed" 2 ["pool", "things"] M__law_mixed) : Cl P w K mg base "_law_letters" 3 ["pool", "most"] M__law_letters := by
  unfold M__law_letters
  exact cl_fn (m := m__law_letters) F sc__law_letters rfl (fun f cdv A outer s H E hr =>
  (s_cons (s_set 2 sc__law_letters.nd (y_op op_addA os_add y_int (y_fn C__law_pick (hr.mono (by first | decide | omega)) (takes_of rfl rfl rfl rfl) (y_cons (y_vr 0) (y_cons (y_vr 1) y_nil)) (len_cons (len_cons len_nil)))))
  (s_one (s_ret (y_bm mt_join ms_join PySem.F.plainAttrs_str PySem.F.slot_str_join PySem.F.type_str_join y_str (y_cons (y_frz (y_callBF (cr_sortD (hu200 hr)) cf_sorted z.n_sorted PyProof.Rows.Boot.«sorted» (y_cons (y_frz (y_cutF (y_fn C__law_mixed (hr.mono (by first | decide | omega)) (takes_of rfl rfl rfl rfl) (y_cons (y_vr 0) (y_cons (y_frz (y_callTyF (cr_listA rfl) cf_listA z.n_list PyProof.Rows.Boot.«list» (y_cons y_str y_nil))) y_nil)) (len_cons (len_cons len_nil))) y_ono (y_osm (y_vr 2)))) y_nil))) y_nil))))))
abbrev st__law_machine : Stmt := topS 21
theorem sc__law_machine : FnScope ["pool", "letters", "most", "many", "states", "ends", "steps", "turn", "step", "state"] ["pool", "letters", "most", "many"] (defScope st__law_machine) := ⟨rfl, rfl, rfl, by decide +kernel, rfl, by decide +kernel, by decide +kernel⟩
noncomputable def m__law_machine : SM :=
  (seqS (asg (tgN 4) (op2 o_add (ct (.int 1)) (cal M__law_pick (lcons (vr 0) (lcons (vr 2) lnil)))))
  (seqS (asg (tgN 5) (calB o_tuple (lcons (compF (i_rg1 (lcons (vr 4) lnil)) (tgN 9) (asT (op2 o_eq (cal M__law_pick (lcons (vr 0) (lcons (ct (.int 3)) lnil))) (ct (.int 0)))) (vr 9) [9]) lnil)))
  (seqS (asg (tgN 6) (new (lstF lnil)))
  (seqS (forS (i_rg1 (lcons (cal M__law_pick (lcons (vr 0) (lcons (op2 o_add (vr 3) (ct (.int 1))) lnil))) lnil)) (tgN 7) (seqS (asg (tgN 8) (tupE (lcons (cal M__law_pick (lcons (vr 0) (lcons (vr 4) lnil))) (lcons (op2 o_ix (vr 1) (cal M__law_pick (lcons (vr 0) (lcons (calB o_len (lcons (vr 1) lnil)) lnil)))) (lcons (cal M__law_pick (lcons (vr 0) (lcons (vr 4) lnil))) lnil)))))
  (ifS (asT (op2 (o_inL true) (vr 8) (vr 6))) (exS (meth "list" m_append (vr 6) (lcons (vr 8) lnil))) nxS)))
  (retS (tupE (lcons (vr 4) (lcons (vr 5) (lcons (calB o_tuple (lcons (frz (calF o_sorted (lcons (vr 6) lnil))) lnil)) lnil)))))))))
@[irreducible] noncomputable def M__law_machine : List D → Sto → Res D := fn 10 m__law_machine
theorem ok__law_machine (z : Zs P w K mg base) (F : Fu K mg "_law_machine" st__law_machine ["pool", "letters", "most", "many"]) (C__law_pick : Cl P w K mg base "_law_pick" 1 ["pool", "many"] M__law_pick) : Cl P w K mg base "_law_machine" 2 ["pool", "letters", "most", "many"] M__law_machine := by
  unfold M__law_machine
  exact cl_fn (m := m__law_machine) F sc__law_machine rfl (fun f cdv A outer s H E hr =>
  (s_cons (s_set 4 sc__law_machine.nd (y_op op_addA os_add y_int (y_fn C__law_pick (hr.mono (by first | decide | omega)) (takes_of rfl rfl rfl rfl) (y_cons (y_vr 0) (y_cons (y_vr 2) y_nil)) (len_cons (len_cons len_nil)))))
  (s_cons (s_set 5 sc__law_machine.nd (y_callTy call_tuple_of cs_tuple z.n_tuple PyProof.Rows.Boot.«tuple» (y_cons (y_compF (own := [("state", 9)]) rfl sc__law_machine.nd (y_rg1 z.n_range (y_cons (y_vr 4) y_nil)) (by rfl) (fun _ _ _ _ _ => (g_name (ix := [9]) 9 sc__law_machine.nd)) (fun _ _ _ _ _ => (y_tst (y_tcmp (op_eqD (hu64 hr)) os_eq (y_fn C__law_pick (hr.mono (by first | decide | omega)) takes0 (y_cons (y_vr 0) (y_cons y_int y_nil)) (len_cons (len_cons len_nil))) y_int))) (fun _ _ _ _ _ => (y_vr 9))) y_nil)))
  (s_cons (s_set 6 sc__law_machine.nd (y_new (y_lst y_nil)))
  (s_cons (s_for (passes_of rfl) rfl (y_rg1 z.n_range (y_cons (y_fn C__law_pick (hr.mono (by first | decide | omega)) (takes_of rfl rfl rfl rfl) (y_cons (y_vr 0) (y_cons (y_op op_addA os_add (y_vr 3) y_int) y_nil)) (len_cons (len_cons len_nil))) y_nil)) (g_name (ix := [7]) 7 sc__law_machine.nd) (s_cons (s_set 8 sc__law_machine.nd (y_tup (y_cons (y_fn C__law_pick (hr.mono (by first | decide | omega)) (takes_of rfl rfl rfl rfl) (y_cons (y_vr 0) (y_cons (y_vr 4) y_nil)) (len_cons (len_cons len_nil))) (y_cons (y_ix ix_seq os_ix (y_vr 1) (y_fn C__law_pick (hr.mono (by first | decide | omega)) (takes_of rfl rfl rfl rfl) (y_cons (y_vr 0) (y_cons (y_callB call_len cs_len z.n_len PyProof.Rows.Boot.«len» (y_cons (y_vr 1) y_nil)) y_nil)) (len_cons (len_cons len_nil))) (fun _ _ => rfl)) (y_cons (y_fn C__law_pick (hr.mono (by first | decide | omega)) (takes_of rfl rfl rfl rfl) (y_cons (y_vr 0) (y_cons (y_vr 4) y_nil)) (len_cons (len_cons len_nil))) y_nil)))))
  (s_one (s_if (y_tcmp (op_notInD (hu65 hr)) os_ninL (y_vr 8) (y_vr 6)) (s_one (s_expr (y_bm mt_append ms_append PySem.F.plainAttrs_list PySem.F.slot_list_append PySem.F.type_list_append (y_vr 6) (y_cons (y_vr 8) y_nil)))) s_nil))))
  (s_one (s_ret (y_tup (y_cons (y_vr 4) (y_cons (y_vr 5) (y_cons (y_callTy call_tuple_of cs_tuple z.n_tuple PyProof.Rows.Boot.«tuple» (y_cons (y_frz (y_callBF (cr_sortD (hu200 hr)) cf_sorted z.n_sorted PyProof.Rows.Boot.«sorted» (y_cons (y_vr 6) y_nil))) y_nil)) y_nil)))))))))))
abbrev st__law_same : Stmt := topS 20
theorem sc__law_same : FnScope ["told", "due", "one", "two"] ["told", "due"] (defScope st__law_same) := ⟨rfl, rfl, rfl, by decide +kernel, rfl, by decide +kernel, by decide +kernel⟩
noncomputable def m__law_same (self : List D → Sto → Res D) : SM :=
  (seqS (ifS (trt (isiTE ["tuple", "list"] (vr 1))) (seqS (ifS (orT (asT (op2 o_ne (isiE "tuple" (vr 1)) (isiE "tuple" (vr 0)))) (orT (asT (op2 o_ne (isiE "list" (vr 1)) (isiE "list" (vr 0)))) (asT (op2 o_ne (calB o_len (lcons (vr 0) lnil)) (calB o_len (lcons (vr 1) lnil)))))) (retS (ct (.bl false))) nxS)
  (retS (op2 o_eq (meth "list" m_count (compF (i_zip (lcons (vr 0) (lcons (vr 1) lnil))) (tgT [(tgN 2), (tgN 3)]) yesT (cal (self) (lcons (vr 2) (lcons (vr 3) lnil))) [2, 3]) (lcons (ct (.bl false)) lnil)) (ct (.int 0))))) nxS)
  (seqS (ifS (asT (op2 o_is (vr 1) (ct .non))) (retS (op2 o_is (vr 0) (ct .non))) nxS)
  (seqS (ifS (trt (isiE "str" (vr 1))) (retS (andV (isiE "str" (vr 0)) (op2 o_eq (vr 0) (vr 1)))) nxS)
  (retS (andV (isiE "int" (vr 0)) (andV (op2 o_eq (isiE "bool" (vr 0)) (isiE "bool" (vr 1))) (op2 o_eq (vr 0) (vr 1))))))))
noncomputable def R__law_same : Nat → List D → Sto → Res D
  | 0 => fun _ _ => .err
  | k + 1 => fn 4 (m__law_same (R__law_same k))
@[irreducible] noncomputable def M__law_same : List D → Sto → Res D := R__law_same 8
theorem okr__law_same (z : Zs P w K mg base) (F : Fu K mg "_law_same" st__law_same ["told", "due"])  : ∀ k : Nat, Cl P w K mg base "_law_same" (1 + k) ["told", "due"] (R__law_same k)
  | 0 => cl_none F
  | k + 1 => by
    have C_self := okr__law_same z F  k
    exact cl_fn (m := m__law_same (R__law_same k)) (k := 1 + k) F sc__law_same rfl (fun f cdv A outer s H E hr => by
      have hk : 1 + k ≤ 1 + k := Nat.le_refl _
      exact (s_cons (s_if (y_truth (y_isi2 (T := "tuple") (x := "list") (by decide) (by decide) (y_vr 1) z.n_isinstance z.n_tuple z.n_list PyProof.Rows.Boot.«tuple» PyProof.Rows.Boot.«list»)) (s_cons (s_if ((y_tor (y_tcmp (op_neD (hu64 hr)) os_ne (y_isi (T := "tuple") (by decide) (y_vr 1) z.n_isinstance z.n_tuple PyProof.Rows.Boot.«tuple») (y_isi (T := "tuple") (by decide) (y_vr 0) z.n_isinstance z.n_tuple PyProof.Rows.Boot.«tuple»)) (y_tor (y_tcmp (op_neD (hu64 hr)) os_ne (y_isi (T := "list") (by decide) (y_vr 1) z.n_isinstance z.n_list PyProof.Rows.Boot.«list») (y_isi (T := "list") (by decide) (y_vr 0) z.n_isinstance z.n_list PyProof.Rows.Boot.«list»)) (y_tor1 (y_tcmp (op_neD (hu64 hr)) os_ne (y_callB call_len cs_len z.n_len PyProof.Rows.Boot.«len» (y_cons (y_vr 0) y_nil)) (y_callB call_len cs_len z.n_len PyProof.Rows.Boot.«len» (y_cons (y_vr 1) y_nil))))))).pt (s_one (s_ret y_bl)) s_nil)
  (s_one (s_ret (y_cmp (op_eqD (hu64 hr)) os_eq (y_bm (mt_countD (hu65 hr)) ms_count PySem.F.plainAttrs_list PySem.F.slot_list_count PySem.F.type_list_count (y_compF (own := [("one", 2), ("two", 3)]) rfl sc__law_same.nd (y_zip z.n_zip (y_cons (y_vr 0) (y_cons (y_vr 1) y_nil))) (by rfl) (fun _ _ _ _ _ => (g_tup rfl (g_cons (g_name (ix := [2, 3]) 2 sc__law_same.nd) (g_cons (g_name (ix := [2, 3]) 3 sc__law_same.nd) g_nil)))) (fun _ _ _ _ _ => y_yes) (fun _ _ _ _ _ => (y_fn C_self (hr.mono hk) takes0 (y_cons (y_vr 2) (y_cons (y_vr 3) y_nil)) (len_cons (len_cons len_nil))))) (y_cons y_bl y_nil)) y_int)))) s_nil)
  (s_cons (s_if (y_tcmp op_isN os_is (y_vr 1) y_non) (s_one (s_ret (y_cmp op_isN os_is (y_vr 0) y_non))) s_nil)
  (s_cons (s_if (y_truth (y_isi (T := "str") (by decide) (y_vr 1) z.n_isinstance z.n_str PyProof.Rows.Boot.«str»)) (s_one (s_ret (y_and (y_isi (T := "str") (by decide) (y_vr 0) z.n_isinstance z.n_str PyProof.Rows.Boot.«str») (y_one (y_cmp (op_eqD (hu64 hr)) os_eq (y_vr 0) (y_vr 1)))))) s_nil)
  (s_one (s_ret (y_and (y_isi (T := "int") (by decide) (y_vr 0) z.n_isinstance z.n_int PyProof.Rows.Boot.«int») (y_and (y_cmp (op_eqD (hu64 hr)) os_eq (y_isi (T := "bool") (by decide) (y_vr 0) z.n_isinstance z.n_bool PyProof.Rows.Boot.«bool») (y_isi (T := "bool") (by decide) (y_vr 1) z.n_isinstance z.n_bool PyProof.Rows.Boot.«bool»)) (y_one (y_cmp (op_eqD (hu64 hr)) os_eq (y_vr 0) (y_vr 1)))))))))))
theorem ok__law_same (z : Zs P w K mg base) (F : Fu K mg "_law_same" st__law_same ["told", "due"])  : Cl P w K mg base "_law_same" 9 ["told", "due"] M__law_same := by
  unfold M__law_same
  exact okr__law_same z F  8
abbrev st__law_bent_states : Stmt := topS 25
theorem sc__law_bent_states : FnScope ["pool", "states", "kinds"] ["pool", "states"] (defScope st__law_bent_states) := ⟨rfl, rfl, rfl, by decide +kernel, rfl, by decide +kernel, by decide +kernel⟩
noncomputable def m__law_bent_states : SM :=
  (seqS (asg (tgN 2) (frz (lstF (lcons (ct (.int 0)) (lcons (op1 o_neg (ct (.int 1))) (lcons (ct (.int 41)) (lcons (ct (.int 40)) (lcons (ct (.bl true)) (lcons (ct .non) (lcons (calB o_str (lcons (vr 1) lnil)) (lcons (tupE (lcons (vr 1) lnil)) (lcons (op2 o_pow (ct (.int 10)) (ct (.int 39))) (lcons (op1 o_neg (op2 o_pow (ct (.int 10)) (ct (.int 39)))) (lcons (op2 o_sub (vr 1) (ct (.int 1))) (lcons (op2 o_add (vr 1) (ct (.int 1))) lnil)))))))))))))))
  (retS (op2 o_ix (vr 2) (cal M__law_pick (lcons (vr 0) (lcons (calB o_len (lcons (vr 2) lnil)) lnil))))))
@[irreducible] noncomputable def M__law_bent_states : List D → Sto → Res D := fn 3 m__law_bent_states
theorem ok__law_bent_states (z : Zs P w K mg base) (F : Fu K mg "_law_bent_states" st__law_bent_states ["pool", "states"]) (C__law_pick : Cl P w K mg base "_law_pick" 1 ["pool", "many"] M__law_pick) : Cl P w K mg base "_law_bent_states" 2 ["pool", "states"] M__law_bent_states := by
  unfold M__law_bent_states
  exact cl_fn (m := m__law_bent_states) F sc__law_bent_states rfl (fun f cdv A outer s H E hr =>
  (s_cons (s_set 2 sc__law_bent_states.nd (y_frz (y_lst (y_cons y_int (y_cons (y_un un_neg us_neg y_int) (y_cons y_int (y_cons y_int (y_cons y_bl (y_cons y_non (y_cons (y_callTy call_str_int cs_str z.n_str PyProof.Rows.Boot.«str» (y_cons (y_vr 1) y_nil)) (y_cons (y_tup (y_cons (y_vr 1) y_nil)) (y_cons (y_op op_pow os_pow y_int y_int) (y_cons (y_un un_neg us_neg (y_op op_pow os_pow y_int y_int)) (y_cons (y_op op_sub os_sub (y_vr 1) y_int) (y_cons (y_op op_addA os_add (y_vr 1) y_int) y_nil)))))))))))))))
  (s_one (s_ret (y_ix ix_seq os_ix (y_vr 2) (y_fn C__law_pick (hr.mono (by first | decide | omega)) (takes_of rfl rfl rfl rfl) (y_cons (y_vr 0) (y_cons (y_callB call_len cs_len z.n_len PyProof.Rows.Boot.«len» (y_cons (y_vr 2) y_nil)) y_nil)) (len_cons (len_cons len_nil))) (fun _ _ => rfl))))))
abbrev st__law_bent_ends : Stmt := topS 26
theorem sc__law_bent_ends : FnScope ["pool", "states", "ends", "kind", "odd", "place"] ["pool", "states", "ends"] (defScope st__law_bent_ends) := ⟨rfl, rfl, rfl, by decide +kernel, rfl, by decide +kernel, by decide +kernel⟩
noncomputable def m__law_bent_ends : SM :=
  (seqS (asg (tgN 3) (cal M__law_pick (lcons (vr 0) (lcons (ct (.int 4)) lnil))))
  (seqS (ifS (asT (op2 o_eq (vr 3) (ct (.int 0)))) (retS (op2 o_ix (frz (lstF (lcons (frz (calF o_listA (lcons (vr 2) lnil))) (lcons (ct .non) (lcons (ct (.int 0)) (lcons (ct (.str (Str.ofString "0"))) lnil)))))) (cal M__law_pick (lcons (vr 0) (lcons (ct (.int 4)) lnil))))) nxS)
  (seqS (asg (tgN 4) (op2 o_ix (frz (lstF (lcons (vr 1) (lcons (op1 o_neg (ct (.int 1))) (lcons (ct (.bl true)) (lcons (ct .non) (lcons (ct (.str (Str.ofString "0"))) (lcons (ct (.int 0)) (lcons (op2 o_sub (vr 1) (ct (.int 1))) (lcons (op2 o_pow (ct (.int 10)) (ct (.int 39))) (lcons (tupE (lcons (ct (.int 0)) lnil)) (lcons (ct (.bl false)) lnil)))))))))))) (cal M__law_pick (lcons (vr 0) (lcons (ct (.int 10)) lnil)))))
  (seqS (asg (tgN 5) (cal M__law_pick (lcons (vr 0) (lcons (op2 o_add (calB o_len (lcons (vr 2) lnil)) (ct (.int 1))) lnil))))
  (seqS (ifS (asT (op2 o_eq (vr 3) (ct (.int 1)))) (retS (op2 o_add (op2 o_add (cut o_cut (vr 2) onoM (osmM (vr 5))) (tupE (lcons (vr 4) lnil))) (cut o_cut (vr 2) (osmM (vr 5)) onoM))) nxS)
  (seqS (ifS (asT (op2 o_eq (vr 3) (ct (.int 2)))) (retS (op2 o_add (op2 o_add (cut o_cut (vr 2) onoM (osmM (vr 5))) (tupE (lcons (vr 4) lnil))) (cut o_cut (vr 2) (osmM (op2 o_add (vr 5) (ct (.int 1)))) onoM))) nxS)
  (retS (revT (vr 2)))))))))
@[irreducible] noncomputable def M__law_bent_ends : List D → Sto → Res D := fn 6 m__law_bent_ends
theorem ok__law_bent_ends (z : Zs P w K mg base) (F : Fu K mg "_law_bent_ends" st__law_bent_ends ["pool", "states", "ends"]) (C__law_pick : Cl P w K mg base "_law_pick" 1 ["pool", "many"] M__law_pick) : Cl P w K mg base "_law_bent_ends" 2 ["pool", "states", "ends"] M__law_bent_ends := by
  unfold M__law_bent_ends
  exact cl_fn (m := m__law_bent_ends) F sc__law_bent_ends rfl (fun f cdv A outer s H E hr =>
  (s_cons (s_set 3 sc__law_bent_ends.nd (y_fn C__law_pick (hr.mono (by first | decide | omega)) (takes_of rfl rfl rfl rfl) (y_cons (y_vr 0) (y_cons y_int y_nil)) (len_cons (len_cons len_nil))))
  (s_cons (s_if (y_tcmp (op_eqD (hu64 hr)) os_eq (y_vr 3) y_int) (s_one (s_ret (y_ix ix_seq os_ix (y_frz (y_lst (y_cons (y_frz (y_callTyF (cr_listA rfl) cf_listA z.n_list PyProof.Rows.Boot.«list» (y_cons (y_vr 2) y_nil))) (y_cons y_non (y_cons y_int (y_cons y_str y_nil)))))) (y_fn C__law_pick (hr.mono (by first | decide | omega)) (takes_of rfl rfl rfl rfl) (y_cons (y_vr 0) (y_cons y_int y_nil)) (len_cons (len_cons len_nil))) (fun _ _ => rfl)))) s_nil)
  (s_cons (s_set 4 sc__law_bent_ends.nd (y_ix ix_seq os_ix (y_frz (y_lst (y_cons (y_vr 1) (y_cons (y_un un_neg us_neg y_int) (y_cons y_bl (y_cons y_non (y_cons y_str (y_cons y_int (y_cons (y_op op_sub os_sub (y_vr 1) y_int) (y_cons (y_op op_pow os_pow y_int y_int) (y_cons (y_tup (y_cons y_int y_nil)) (y_cons y_bl y_nil)))))))))))) (y_fn C__law_pick (hr.mono (by first | decide | omega)) (takes_of rfl rfl rfl rfl) (y_cons (y_vr 0) (y_cons y_int y_nil)) (len_cons (len_cons len_nil))) (fun _ _ => rfl)))
  (s_cons (s_set 5 sc__law_bent_ends.nd (y_fn C__law_pick (hr.mono (by first | decide | omega)) (takes_of rfl rfl rfl rfl) (y_cons (y_vr 0) (y_cons (y_op op_addA os_add (y_callB call_len cs_len z.n_len PyProof.Rows.Boot.«len» (y_cons (y_vr 2) y_nil)) y_int) y_nil)) (len_cons (len_cons len_nil))))
  (s_cons (s_if (y_tcmp (op_eqD (hu64 hr)) os_eq (y_vr 3) y_int) (s_one (s_ret (y_op op_addA os_add (y_op op_addA os_add (y_cut (y_vr 2) y_ono (y_osm (y_vr 5))) (y_tup (y_cons (y_vr 4) y_nil))) (y_cut (y_vr 2) (y_osm (y_vr 5)) y_ono)))) s_nil)
  (s_cons (s_if (y_tcmp (op_eqD (hu64 hr)) os_eq (y_vr 3) y_int) (s_one (s_ret (y_op op_addA os_add (y_op op_addA os_add (y_cut (y_vr 2) y_ono (y_osm (y_vr 5))) (y_tup (y_cons (y_vr 4) y_nil))) (y_cut (y_vr 2) (y_osm (y_op op_addA os_add (y_vr 5) y_int)) y_ono)))) s_nil)
  (s_one (s_ret (y_revT (y_vr 2)))))))))))
abbrev st__law_bent_step : Stmt := topS 27
theorem sc__law_bent_step : FnScope ["pool", "letters", "states", "step", "kind", "kinds", "odd", "left", "sign"] ["pool", "letters", "states", "step"] (defScope st__law_bent_step) := ⟨rfl, rfl, rfl, by decide +kernel, rfl, by decide +kernel, by decide +kernel⟩
noncomputable def m__law_bent_step : SM :=
  (seqS (asg (tgN 4) (cal M__law_pick (lcons (vr 0) (lcons (ct (.int 5)) lnil))))
  (seqS (ifS (asT (op2 o_eq (vr 4) (ct (.int 0)))) (seqS (asg (tgN 5) (frz (lstF (lcons (frz (calF o_listA (lcons (vr 3) lnil))) (lcons (cut o_cut (vr 3) onoM (osmM (ct (.int 2)))) (lcons (op2 o_add (vr 3) (tupE (lcons (ct (.int 0)) lnil))) (lcons (ct .non) (lcons (ct (.int 5)) (lcons (ct (.str (Str.ofString "0a0"))) (lcons (tupE (lcons (op2 o_ix (vr 3) (ct (.int 1))) (lcons (op2 o_ix (vr 3) (ct (.int 0))) (lcons (op2 o_ix (vr 3) (ct (.int 2))) lnil)))) (lcons (tupE (lcons (op2 o_ix (vr 3) (ct (.int 0))) (lcons (op2 o_ix (vr 3) (ct (.int 2))) (lcons (op2 o_ix (vr 3) (ct (.int 1))) lnil)))) (lcons (tupE lnil) lnil))))))))))))
  (retS (op2 o_ix (vr 5) (cal M__law_pick (lcons (vr 0) (lcons (calB o_len (lcons (vr 5) lnil)) lnil)))))) nxS)
  (seqS (ifS (asT (op2 o_eq (vr 4) (ct (.int 1)))) (seqS (asg (tgN 6) (op2 o_ix (frz (lstF (lcons (vr 2) (lcons (op1 o_neg (ct (.int 1))) (lcons (ct (.bl true)) (lcons (ct .non) (lcons (ct (.str (Str.ofString "0"))) (lcons (op2 o_pow (ct (.int 10)) (ct (.int 39))) (lcons (tupE (lcons (ct (.int 0)) lnil)) (lcons (ct (.bl false)) (lcons (op2 o_sub (vr 2) (ct (.int 1))) lnil))))))))))) (cal M__law_pick (lcons (vr 0) (lcons (ct (.int 9)) lnil)))))
  (retS (ifE (trt (cal M__law_pick (lcons (vr 0) (lcons (ct (.int 2)) lnil)))) (tupE (lcons (vr 6) (lcons (op2 o_ix (vr 3) (ct (.int 1))) (lcons (op2 o_ix (vr 3) (ct (.int 2))) lnil)))) (tupE (lcons (op2 o_ix (vr 3) (ct (.int 0))) (lcons (op2 o_ix (vr 3) (ct (.int 1))) (lcons (vr 6) lnil))))))) nxS)
  (seqS (ifS (asT (op2 o_eq (vr 4) (ct (.int 2)))) (seqS (asg (tgN 7) (compF (i_of (ct (.str (Str.ofString "abcdefghijklmnopqrstuvwxyz")))) (tgN 8) (asT (op2 (o_inS true) (vr 8) (vr 1))) (vr 8) [8]))
  (seqS (asg (tgN 6) (frz (lstF (lcons (ct (.str (Str.ofString ""))) (lcons (op2 o_add (op2 o_ix (vr 1) (ct (.int 0))) (op2 o_ix (vr 1) (ct (.int 0)))) (lcons (vr 1) (lcons (op2 o_ix (vr 7) (cal M__law_pick (lcons (vr 0) (lcons (calB o_len (lcons (vr 7) lnil)) lnil)))) (lcons (ct (.str (Str.ofString "A"))) (lcons (ct (.str (Str.ofString "0"))) (lcons (ct (.str (Str.ofString " "))) (lcons (ct .non) (lcons (ct (.int 1)) (lcons (tupE (lcons (op2 o_ix (vr 1) (ct (.int 0))) lnil)) (lcons (frz (lstF (lcons (op2 o_ix (vr 1) (ct (.int 0))) lnil))) (lcons (op2 o_ix (vr 1) (ct (.int 0))) lnil)))))))))))))))
  (retS (tupE (lcons (op2 o_ix (vr 3) (ct (.int 0))) (lcons (op2 o_ix (vr 6) (cal M__law_pick (lcons (vr 0) (lcons (calB o_len (lcons (vr 6) lnil)) lnil)))) (lcons (op2 o_ix (vr 3) (ct (.int 2))) lnil))))))) nxS)
  (seqS (ifS (asT (op2 o_eq (vr 4) (ct (.int 3)))) (retS (tupE (lcons (vr 2) (lcons (ct (.str (Str.ofString "?"))) (lcons (op1 o_neg (ct (.int 1))) lnil))))) nxS)
  (retS (tupE (lcons (cal M__law_pick (lcons (vr 0) (lcons (vr 2) lnil))) (lcons (op2 o_ix (vr 1) (cal M__law_pick (lcons (vr 0) (lcons (calB o_len (lcons (vr 1) lnil)) lnil)))) (lcons (cal M__law_pick (lcons (vr 0) (lcons (vr 2) lnil))) lnil))))))))))
@[irreducible] noncomputable def M__law_bent_step : List D → Sto → Res D := fn 9 m__law_bent_step
theorem ok__law_bent_step (z : Zs P w K mg base) (F : Fu K mg "_law_bent_step" st__law_bent_step ["pool", "letters", "states", "step"]) (C__law_pick : Cl P w K mg base "_law_pick" 1 ["pool", "many"] M__law_pick) : Cl P w K mg base "_law_bent_step" 2 ["pool", "letters", "states", "step"] M__law_bent_step := by
  unfold M__law_bent_step
  exact cl_fn (m := m__law_bent_step) F sc__law_bent_step rfl (fun f cdv A outer s H E hr =>
  (s_cons (s_set 4 sc__law_bent_step.nd (y_fn C__law_pick (hr.mono (by first | decide | omega)) (takes_of rfl rfl rfl rfl) (y_cons (y_vr 0) (y_cons y_int y_nil)) (len_cons (len_cons len_nil))))
  (s_cons (s_if (y_tcmp (op_eqD (hu64 hr)) os_eq (y_vr 4) y_int) (s_cons (s_set 5 sc__law_bent_step.nd (y_frz (y_lst (y_cons (y_frz (y_callTyF (cr_listA rfl) cf_listA z.n_list PyProof.Rows.Boot.«list» (y_cons (y_vr 3) y_nil))) (y_cons (y_cut (y_vr 3) y_ono (y_osm y_int)) (y_cons (y_op op_addA os_add (y_vr 3) (y_tup (y_cons y_int y_nil))) (y_cons y_non (y_cons y_int (y_cons y_str (y_cons (y_tup (y_cons (y_ix ix_seq os_ix (y_vr 3) y_int (fun _ _ => rfl)) (y_cons (y_ix ix_seq os_ix (y_vr 3) y_int (fun _ _ => rfl)) (y_cons (y_ix ix_seq os_ix (y_vr 3) y_int (fun _ _ => rfl)) y_nil)))) (y_cons (y_tup (y_cons (y_ix ix_seq os_ix (y_vr 3) y_int (fun _ _ => rfl)) (y_cons (y_ix ix_seq os_ix (y_vr 3) y_int (fun _ _ => rfl)) (y_cons (y_ix ix_seq os_ix (y_vr 3) y_int (fun _ _ => rfl)) y_nil)))) (y_cons (y_tup y_nil) y_nil))))))))))))
  (s_one (s_ret (y_ix ix_seq os_ix (y_vr 5) (y_fn C__law_pick (hr.mono (by first | decide | omega)) (takes_of rfl rfl rfl rfl) (y_cons (y_vr 0) (y_cons (y_callB call_len cs_len z.n_len PyProof.Rows.Boot.«len» (y_cons (y_vr 5) y_nil)) y_nil)) (len_cons (len_cons len_nil))) (fun _ _ => rfl))))) s_nil)
  (s_cons (s_if (y_tcmp (op_eqD (hu64 hr)) os_eq (y_vr 4) y_int) (s_cons (s_set 6 sc__law_bent_step.nd (y_ix ix_seq os_ix (y_frz (y_lst (y_cons (y_vr 2) (y_cons (y_un un_neg us_neg y_int) (y_cons y_bl (y_cons y_non (y_cons y_str (y_cons (y_op op_pow os_pow y_int y_int) (y_cons (y_tup (y_cons y_int y_nil)) (y_cons y_bl (y_cons (y_op op_sub os_sub (y_vr 2) y_int) y_nil))))))))))) (y_fn C__law_pick (hr.mono (by first | decide | omega)) (takes_of rfl rfl rfl rfl) (y_cons (y_vr 0) (y_cons y_int y_nil)) (len_cons (len_cons len_nil))) (fun _ _ => rfl)))
  (s_one (s_ret (y_if (y_truth (y_fn C__law_pick (hr.mono (by first | decide | omega)) (takes_of rfl rfl rfl rfl) (y_cons (y_vr 0) (y_cons y_int y_nil)) (len_cons (len_cons len_nil)))) (y_tup (y_cons (y_vr 6) (y_cons (y_ix ix_seq os_ix (y_vr 3) y_int (fun _ _ => rfl)) (y_cons (y_ix ix_seq os_ix (y_vr 3) y_int (fun _ _ => rfl)) y_nil)))) (y_tup (y_cons (y_ix ix_seq os_ix (y_vr 3) y_int (fun _ _ => rfl)) (y_cons (y_ix ix_seq os_ix (y_vr 3) y_int (fun _ _ => rfl)) (y_cons (y_vr 6) y_nil)))))))) s_nil)
  (s_cons (s_if (y_tcmp (op_eqD (hu64 hr)) os_eq (y_vr 4) y_int) (s_cons (s_setCompF (own := [("sign", 8)]) 7 rfl sc__law_bent_step.nd rfl rfl (y_iter y_str) (by rfl) (fun _ _ _ _ _ => (g_name (ix := [8]) 8 sc__law_bent_step.nd)) (fun _ _ _ _ _ => (y_tst (y_tcmp op_notin_str os_ninS (y_vr 8) (y_vr 1)))) (fun _ _ _ _ _ => (y_vr 8)))
  (s_cons (s_set 6 sc__law_bent_step.nd (y_frz (y_lst (y_cons y_str (y_cons (y_op op_addA os_add (y_ix ix_seq os_ix (y_vr 1) y_int (fun _ _ => rfl)) (y_ix ix_seq os_ix (y_vr 1) y_int (fun _ _ => rfl))) (y_cons (y_vr 1) (y_cons (y_ix ix_seq os_ix (y_vr 7) (y_fn C__law_pick (hr.mono (by first | decide | omega)) (takes_of rfl rfl rfl rfl) (y_cons (y_vr 0) (y_cons (y_callB call_len cs_len z.n_len PyProof.Rows.Boot.«len» (y_cons (y_vr 7) y_nil)) y_nil)) (len_cons (len_cons len_nil))) (fun _ _ => rfl)) (y_cons y_str (y_cons y_str (y_cons y_str (y_cons y_non (y_cons y_int (y_cons (y_tup (y_cons (y_ix ix_seq os_ix (y_vr 1) y_int (fun _ _ => rfl)) y_nil)) (y_cons (y_frz (y_lst (y_cons (y_ix ix_seq os_ix (y_vr 1) y_int (fun _ _ => rfl)) y_nil))) (y_cons (y_ix ix_seq os_ix (y_vr 1) y_int (fun _ _ => rfl)) y_nil)))))))))))))))
  (s_one (s_ret (y_tup (y_cons (y_ix ix_seq os_ix (y_vr 3) y_int (fun _ _ => rfl)) (y_cons (y_ix ix_seq os_ix (y_vr 6) (y_fn C__law_pick (hr.mono (by first | decide | omega)) (takes_of rfl rfl rfl rfl) (y_cons (y_vr 0) (y_cons (y_callB call_len cs_len z.n_len PyProof.Rows.Boot.«len» (y_cons (y_vr 6) y_nil)) y_nil)) (len_cons (len_cons len_nil))) (fun _ _ => rfl)) (y_cons (y_ix ix_seq os_ix (y_vr 3) y_int (fun _ _ => rfl)) y_nil)))))))) s_nil)
  (s_cons (s_if (y_tcmp (op_eqD (hu64 hr)) os_eq (y_vr 4) y_int) (s_one (s_ret (y_tup (y_cons (y_vr 2) (y_cons y_str (y_cons (y_un un_neg us_neg y_int) y_nil)))))) s_nil)
  (s_one (s_ret (y_tup (y_cons (y_fn C__law_pick (hr.mono (by first | decide | omega)) (takes_of rfl rfl rfl rfl) (y_cons (y_vr 0) (y_cons (y_vr 2) y_nil)) (len_cons (len_cons len_nil))) (y_cons (y_ix ix_seq os_ix (y_vr 1) (y_fn C__law_pick (hr.mono (by first | decide | omega)) (takes_of rfl rfl rfl rfl) (y_cons (y_vr 0) (y_cons (y_callB call_len cs_len z.n_len PyProof.Rows.Boot.«len» (y_cons (y_vr 1) y_nil)) y_nil)) (len_cons (len_cons len_nil))) (fun _ _ => rfl)) (y_cons (y_fn C__law_pick (hr.mono (by first | decide | omega)) (takes_of rfl rfl rfl rfl) (y_cons (y_vr 0) (y_cons (y_vr 2) y_nil)) (len_cons (len_cons len_nil))) y_nil))))))))))))
abbrev st__law_bent : Stmt := topS 28
theorem sc__law_bent : FnScope ["pool", "letters", "thing", "states", "ends", "steps", "turn", "kind", "place", "step"] ["pool", "letters", "thing"] (defScope st__law_bent) := ⟨rfl, rfl, rfl, by decide +kernel, rfl, by decide +kernel, by decide +kernel⟩
noncomputable def m__law_bent : SM :=
  (seqS (asg (tgT [(tgN 3), (tgN 4), (tgN 5)]) (vr 2))
  (seqS (forS (i_rg1 (lcons (op2 o_add (ct (.int 1)) (cal M__law_pick (lcons (vr 0) (lcons (ct (.int 3)) lnil)))) lnil)) (tgN 6) (seqS (asg (tgN 7) (cal M__law_pick (lcons (vr 0) (lcons (ct (.int 8)) lnil))))
  (ifS (asT (op2 o_eq (vr 7) (ct (.int 0)))) (asg (tgN 3) (cal M__law_bent_states (lcons (vr 0) (lcons (op2 o_ix (vr 2) (ct (.int 0))) lnil)))) (ifS (asT (op2 o_eq (vr 7) (ct (.int 1)))) (asg (tgN 4) (cal M__law_bent_ends (lcons (vr 0) (lcons (op2 o_ix (vr 2) (ct (.int 0))) (lcons (op2 o_ix (vr 2) (ct (.int 1))) lnil))))) (ifS (orT (asT (op2 o_eq (vr 7) (ct (.int 2)))) (notT (trt (isiE "tuple" (vr 5))))) (seqS (asg (tgN 8) (cal M__law_pick (lcons (vr 0) (lcons (op2 o_add (calB o_len (lcons (op2 o_ix (vr 2) (ct (.int 2))) lnil)) (ct (.int 1))) lnil))))
  (asg (tgN 5) (op2 o_ix (frz (lstF (lcons (frz (calF o_listA (lcons (op2 o_ix (vr 2) (ct (.int 2))) lnil))) (lcons (ct .non) (lcons (revT (op2 o_ix (vr 2) (ct (.int 2)))) (lcons (op2 o_add (op2 o_ix (vr 2) (ct (.int 2))) (cut o_cut (op2 o_ix (vr 2) (ct (.int 2))) onoM (osmM (vr 8)))) (lcons (ct (.str (Str.ofString "abc"))) (lcons (cut o_cut (op2 o_ix (vr 2) (ct (.int 2))) onoM (osmM (vr 8))) (lcons (ct (.int 3)) lnil))))))))) (cal M__law_pick (lcons (vr 0) (lcons (ct (.int 7)) lnil)))))) (ifS (andT (trt (vr 5)) (asT (op2 o_lt (vr 7) (ct (.int 7))))) (seqS (asg (tgN 8) (cal M__law_pick (lcons (vr 0) (lcons (calB o_len (lcons (vr 5) lnil)) lnil))))
  (seqS (asg (tgN 9) (op2 o_ix (op2 o_ix (vr 2) (ct (.int 2))) (calB o_min2 (lcons (vr 8) (lcons (op2 o_sub (calB o_len (lcons (op2 o_ix (vr 2) (ct (.int 2))) lnil)) (ct (.int 1))) lnil)))))
  (asg (tgN 5) (op2 o_add (op2 o_add (cut o_cut (vr 5) onoM (osmM (vr 8))) (tupE (lcons (cal M__law_bent_step (lcons (vr 0) (lcons (vr 1) (lcons (op2 o_ix (vr 2) (ct (.int 0))) (lcons (vr 9) lnil))))) lnil))) (cut o_cut (vr 5) (osmM (op2 o_add (vr 8) (calB o_int (lcons (op2 o_lt (vr 7) (ct (.int 6))) lnil)))) onoM))))) nxS))))))
  (retS (tupE (lcons (vr 3) (lcons (vr 4) (lcons (vr 5) lnil)))))))
@[irreducible] noncomputable def M__law_bent : List D → Sto → Res D := fn 10 m__law_bent
theorem ok__law_bent (z : Zs P w K mg base) (F : Fu K mg "_law_bent" st__law_bent ["pool", "letters", "thing"]) (C__law_pick : Cl P w K mg base "_law_pick" 1 ["pool", "many"] M__law_pick) (C__law_bent_states : Cl P w K mg base "_law_bent_states" 2 ["pool", "states"] M__law_bent_states) (C__law_bent_ends : Cl P w K mg base "_law_bent_ends" 2 ["pool", "states", "ends"] M__law_bent_ends) (C__law_bent_step : Cl P w K mg base "_law_bent_step" 2 ["pool", "letters", "states", "step"] M__law_bent_step) : Cl P w K mg base "_law_bent" 3 ["pool", "letters", "thing"] M__law_bent := by
  unfold M__law_bent
  exact cl_fn (m := m__law_bent) F sc__law_bent rfl (fun f cdv A outer s H E hr =>
  (s_cons (s_asg (y_vr 2) (g_tup rfl (g_cons (g_name (ix := [3, 4, 5]) 3 sc__law_bent.nd) (g_cons (g_name (ix := [3, 4, 5]) 4 sc__law_bent.nd) (g_cons (g_name (ix := [3, 4, 5]) 5 sc__law_bent.nd) g_nil)))))
  (s_cons (s_for (passes_of rfl) rfl (y_rg1 z.n_range (y_cons (y_op op_addA os_add y_int (y_fn C__law_pick (hr.mono (by first | decide | omega)) (takes_of rfl rfl rfl rfl) (y_cons (y_vr 0) (y_cons y_int y_nil)) (len_cons (len_cons len_nil)))) y_nil)) (g_name (ix := [6]) 6 sc__law_bent.nd) (s_cons (s_set 7 sc__law_bent.nd (y_fn C__law_pick (hr.mono (by first | decide | omega)) (takes_of rfl rfl rfl rfl) (y_cons (y_vr 0) (y_cons y_int y_nil)) (len_cons (len_cons len_nil))))
  (s_one (s_if (y_tcmp (op_eqD (hu64 hr)) os_eq (y_vr 7) y_int) (s_one (s_set 3 sc__law_bent.nd (y_fn C__law_bent_states (hr.mono (by first | decide | omega)) (takes_of rfl rfl rfl rfl) (y_cons (y_vr 0) (y_cons (y_ix ix_seq os_ix (y_vr 2) y_int (fun _ _ => rfl)) y_nil)) (len_cons (len_cons len_nil))))) (s_one (s_if (y_tcmp (op_eqD (hu64 hr)) os_eq (y_vr 7) y_int) (s_one (s_set 4 sc__law_bent.nd (y_fn C__law_bent_ends (hr.mono (by first | decide | omega)) (takes_of rfl rfl rfl rfl) (y_cons (y_vr 0) (y_cons (y_ix ix_seq os_ix (y_vr 2) y_int (fun _ _ => rfl)) (y_cons (y_ix ix_seq os_ix (y_vr 2) y_int (fun _ _ => rfl)) y_nil))) (len_cons (len_cons (len_cons len_nil)))))) (s_one (s_if ((y_tor (y_tcmp (op_eqD (hu64 hr)) os_eq (y_vr 7) y_int) (y_tor1 (y_tnot (y_truth (y_isi (T := "tuple") (by decide) (y_vr 5) z.n_isinstance z.n_tuple PyProof.Rows.Boot.«tuple»)))))).pt (s_cons (s_set 8 sc__law_bent.nd (y_fn C__law_pick (hr.mono (by first | decide | omega)) (takes_of rfl rfl rfl rfl) (y_cons (y_vr 0) (y_cons (y_op op_addA os_add (y_callB call_len cs_len z.n_len PyProof.Rows.Boot.«len» (y_cons (y_ix ix_seq os_ix (y_vr 2) y_int (fun _ _ => rfl)) y_nil)) y_int) y_nil)) (len_cons (len_cons len_nil))))
  (s_one (s_set 5 sc__law_bent.nd (y_ix ix_seq os_ix (y_frz (y_lst (y_cons (y_frz (y_callTyF (cr_listA rfl) cf_listA z.n_list PyProof.Rows.Boot.«list» (y_cons (y_ix ix_seq os_ix (y_vr 2) y_int (fun _ _ => rfl)) y_nil))) (y_cons y_non (y_cons (y_revT (y_ix ix_seq os_ix (y_vr 2) y_int (fun _ _ => rfl))) (y_cons (y_op op_addA os_add (y_ix ix_seq os_ix (y_vr 2) y_int (fun _ _ => rfl)) (y_cut (y_ix ix_seq os_ix (y_vr 2) y_int (fun _ _ => rfl)) y_ono (y_osm (y_vr 8)))) (y_cons y_str (y_cons (y_cut (y_ix ix_seq os_ix (y_vr 2) y_int (fun _ _ => rfl)) y_ono (y_osm (y_vr 8))) (y_cons y_int y_nil))))))))) (y_fn C__law_pick (hr.mono (by first | decide | omega)) (takes_of rfl rfl rfl rfl) (y_cons (y_vr 0) (y_cons y_int y_nil)) (len_cons (len_cons len_nil))) (fun _ _ => rfl))))) (s_one (s_if ((y_tand (y_truth (y_vr 5)) (y_tand1 (y_tcmp op_lt os_cmp (y_vr 7) y_int)))).pt (s_cons (s_set 8 sc__law_bent.nd (y_fn C__law_pick (hr.mono (by first | decide | omega)) (takes_of rfl rfl rfl rfl) (y_cons (y_vr 0) (y_cons (y_callB call_len cs_len z.n_len PyProof.Rows.Boot.«len» (y_cons (y_vr 5) y_nil)) y_nil)) (len_cons (len_cons len_nil))))
  (s_cons (s_set 9 sc__law_bent.nd (y_ix ix_seq os_ix (y_ix ix_seq os_ix (y_vr 2) y_int (fun _ _ => rfl)) (y_callB (call_min2 rfl) cs_min2 z.n_min PyProof.Rows.Boot.«min» (y_cons (y_vr 8) (y_cons (y_op op_sub os_sub (y_callB call_len cs_len z.n_len PyProof.Rows.Boot.«len» (y_cons (y_ix ix_seq os_ix (y_vr 2) y_int (fun _ _ => rfl)) y_nil)) y_int) y_nil))) (fun _ _ => rfl)))
  (s_one (s_set 5 sc__law_bent.nd (y_op op_addA os_add (y_op op_addA os_add (y_cut (y_vr 5) y_ono (y_osm (y_vr 8))) (y_tup (y_cons (y_fn C__law_bent_step (hr.mono (by first | decide | omega)) (takes_of rfl rfl rfl rfl) (y_cons (y_vr 0) (y_cons (y_vr 1) (y_cons (y_ix ix_seq os_ix (y_vr 2) y_int (fun _ _ => rfl)) (y_cons (y_vr 9) y_nil)))) (len_cons (len_cons (len_cons (len_cons len_nil))))) y_nil))) (y_cut (y_vr 5) (y_osm (y_op op_addA os_add (y_vr 8) (y_callTy call_int1 cs_int z.n_int PyProof.Rows.Boot.«int» (y_cons (y_cmp op_lt os_cmp (y_vr 7) y_int) y_nil)))) y_ono)))))) s_nil))))))))))
  (s_one (s_ret (y_tup (y_cons (y_vr 3) (y_cons (y_vr 4) (y_cons (y_vr 5) y_nil)))))))))
abbrev st_is_whole : Stmt := topS 6
theorem sc_is_whole : FnScope ["thing"] ["thing"] (defScope st_is_whole) := ⟨rfl, rfl, rfl, by decide +kernel, rfl, by decide +kernel, by decide +kernel⟩
noncomputable def m_is_whole : SM :=
  (retS (andV (isiE "int" (vr 0)) (notE (isiE "bool" (vr 0)))))
@[irreducible] noncomputable def M_is_whole : List D → Sto → Res D := fn 1 m_is_whole
theorem ok_is_whole (z : Zs P w K mg base) (F : Fu K mg "is_whole" st_is_whole ["thing"])  : Cl P w K mg base "is_whole" 1 ["thing"] M_is_whole := by
  unfold M_is_whole
  exact cl_fn (m := m_is_whole) F sc_is_whole rfl (fun f cdv A outer s H E hr =>
  (s_one (s_ret (y_and (y_isi (T := "int") (by decide) (y_vr 0) z.n_isinstance z.n_int PyProof.Rows.Boot.«int») (y_one (y_not (y_isi (T := "bool") (by decide) (y_vr 0) z.n_isinstance z.n_bool PyProof.Rows.Boot.«bool»)))))))
abbrev st_whole_within : Stmt := topS 7
theorem sc_whole_within : FnScope ["thing", "low", "high"] ["thing", "low", "high"] (defScope st_whole_within) := ⟨rfl, rfl, rfl, by decide +kernel, rfl, by decide +kernel, by decide +kernel⟩
noncomputable def m_whole_within : SM :=
  (retS (andV (cal M_is_whole (lcons (vr 0) lnil)) (chn o_leI o_leI (vr 1) (vr 0) (vr 2))))
@[irreducible] noncomputable def M_whole_within : List D → Sto → Res D := fn 3 m_whole_within
theorem ok_whole_within (z : Zs P w K mg base) (F : Fu K mg "whole_within" st_whole_within ["thing", "low", "high"]) (C_is_whole : Cl P w K mg base "is_whole" 1 ["thing"] M_is_whole) : Cl P w K mg base "whole_within" 2 ["thing", "low", "high"] M_whole_within := by
  unfold M_whole_within
  exact cl_fn (m := m_whole_within) F sc_whole_within rfl (fun f cdv A outer s H E hr =>
  (s_one (s_ret (y_and (y_fn C_is_whole (hr.mono (by first | decide | omega)) (takes_of rfl rfl rfl rfl) (y_cons (y_vr 0) y_nil) (len_cons len_nil)) (y_one (y_chn op_le os_cmp op_le os_cmp (y_vr 1) (y_vr 0) (y_vr 2)))))))
abbrev st_are_rising : Stmt := topS 8
theorem sc_are_rising : FnScope ["thing", "most", "least", "number"] ["thing", "most"] (defScope st_are_rising) := ⟨rfl, rfl, rfl, by decide +kernel, rfl, by decide +kernel, by decide +kernel⟩
noncomputable def m_are_rising : SM :=
  (seqS (ifS (notT (trt (isiE "tuple" (vr 0)))) (retS (ct (.bl false))) nxS)
  (seqS (asg (tgN 2) (ct (.int 0)))
  (seqS (forS (i_of (vr 0)) (tgN 3) (seqS (ifS (notT (trt (cal M_whole_within (lcons (vr 3) (lcons (vr 2) (lcons (vr 1) lnil)))))) (retS (ct (.bl false))) nxS)
  (asg (tgN 2) (op2 o_add (vr 3) (ct (.int 1))))))
  (retS (ct (.bl true))))))
@[irreducible] noncomputable def M_are_rising : List D → Sto → Res D := fn 4 m_are_rising
theorem ok_are_rising (z : Zs P w K mg base) (F : Fu K mg "are_rising" st_are_rising ["thing", "most"]) (C_whole_within : Cl P w K mg base "whole_within" 2 ["thing", "low", "high"] M_whole_within) : Cl P w K mg base "are_rising" 3 ["thing", "most"] M_are_rising := by
  unfold M_are_rising
  exact cl_fn (m := m_are_rising) F sc_are_rising rfl (fun f cdv A outer s H E hr =>
  (s_cons (s_if (y_tnot (y_truth (y_isi (T := "tuple") (by decide) (y_vr 0) z.n_isinstance z.n_tuple PyProof.Rows.Boot.«tuple»))) (s_one (s_ret y_bl)) s_nil)
  (s_cons (s_set 2 sc_are_rising.nd y_int)
  (s_cons (s_for (passes_of rfl) rfl (y_iter (y_vr 0)) (g_name (ix := [3]) 3 sc_are_rising.nd) (s_cons (s_if (y_tnot (y_truth (y_fn C_whole_within (hr.mono (by first | decide | omega)) (takes_of rfl rfl rfl rfl) (y_cons (y_vr 3) (y_cons (y_vr 2) (y_cons (y_vr 1) y_nil))) (len_cons (len_cons (len_cons len_nil)))))) (s_one (s_ret y_bl)) s_nil)
  (s_one (s_set 2 sc_are_rising.nd (y_op op_addA os_add (y_vr 3) y_int)))))
  (s_one (s_ret y_bl))))))
abbrev st_whole_word : Stmt := topS 10
theorem sc_whole_word : FnScope ["thing", "states", "ends", "steps"] ["thing"] (defScope st_whole_word) := ⟨rfl, rfl, rfl, by decide +kernel, rfl, by decide +kernel, by decide +kernel⟩
noncomputable def m_whole_word : SM :=
  (seqS (ifS (orT (notT (trt (isiE "tuple" (vr 0)))) (asT (op2 o_ne (calB o_len (lcons (vr 0) lnil)) (ct (.int 3))))) (retS (ct (.str (Str.ofString "shape")))) nxS)
  (seqS (asg (tgT [(tgN 1), (tgN 2), (tgN 3)]) (vr 0))
  (seqS (ifS (orT (notT (trt (cal M_is_whole (lcons (vr 1) lnil)))) (orT (notT (trt (isiE "tuple" (vr 2)))) (notT (trt (isiE "tuple" (vr 3)))))) (retS (ct (.str (Str.ofString "shape")))) nxS)
  (seqS (ifS (notT (trt (cal M_whole_within (lcons (vr 1) (lcons (ct (.int 1)) (lcons (ct (.int 40)) lnil)))))) (retS (ct (.str (Str.ofString "states")))) nxS)
  (seqS (ifS (notT (trt (cal M_are_rising (lcons (vr 2) (lcons (op2 o_sub (vr 1) (ct (.int 1))) lnil))))) (retS (ct (.str (Str.ofString "ends")))) nxS)
  (seqS (ifS (asT (op2 o_gt (calB o_len (lcons (vr 3) lnil)) (ct (.int 240)))) (retS (ct (.str (Str.ofString "limit")))) nxS)
  (retS (ct .non))))))))
@[irreducible] noncomputable def M_whole_word : List D → Sto → Res D := fn 4 m_whole_word
theorem ok_whole_word (z : Zs P w K mg base) (F : Fu K mg "whole_word" st_whole_word ["thing"]) (C_is_whole : Cl P w K mg base "is_whole" 1 ["thing"] M_is_whole) (C_whole_within : Cl P w K mg base "whole_within" 2 ["thing", "low", "high"] M_whole_within) (C_are_rising : Cl P w K mg base "are_rising" 3 ["thing", "most"] M_are_rising) : Cl P w K mg base "whole_word" 4 ["thing"] M_whole_word := by
  unfold M_whole_word
  exact cl_fn (m := m_whole_word) F sc_whole_word rfl (fun f cdv A outer s H E hr =>
  (s_cons (s_if ((y_tor (y_tnot (y_truth (y_isi (T := "tuple") (by decide) (y_vr 0) z.n_isinstance z.n_tuple PyProof.Rows.Boot.«tuple»))) (y_tor1 (y_tcmp (op_neD (hu64 hr)) os_ne (y_callB call_len cs_len z.n_len PyProof.Rows.Boot.«len» (y_cons (y_vr 0) y_nil)) y_int)))).pt (s_one (s_ret y_str)) s_nil)
  (s_cons (s_asg (y_vr 0) (g_tup rfl (g_cons (g_name (ix := [1, 2, 3]) 1 sc_whole_word.nd) (g_cons (g_name (ix := [1, 2, 3]) 2 sc_whole_word.nd) (g_cons (g_name (ix := [1, 2, 3]) 3 sc_whole_word.nd) g_nil)))))
  (s_cons (s_if ((y_tor (y_tnot (y_truth (y_fn C_is_whole (hr.mono (by first | decide | omega)) (takes_of rfl rfl rfl rfl) (y_cons (y_vr 1) y_nil) (len_cons len_nil)))) (y_tor (y_tnot (y_truth (y_isi (T := "tuple") (by decide) (y_vr 2) z.n_isinstance z.n_tuple PyProof.Rows.Boot.«tuple»))) (y_tor1 (y_tnot (y_truth (y_isi (T := "tuple") (by decide) (y_vr 3) z.n_isinstance z.n_tuple PyProof.Rows.Boot.«tuple»))))))).pt (s_one (s_ret y_str)) s_nil)
  (s_cons (s_if (y_tnot (y_truth (y_fn C_whole_within (hr.mono (by first | decide | omega)) (takes_of rfl rfl rfl rfl) (y_cons (y_vr 1) (y_cons y_int (y_cons (y_globI z.c_STATES_MOST) y_nil))) (len_cons (len_cons (len_cons len_nil)))))) (s_one (s_ret y_str)) s_nil)
  (s_cons (s_if (y_tnot (y_truth (y_fn C_are_rising (hr.mono (by first | decide | omega)) (takes_of rfl rfl rfl rfl) (y_cons (y_vr 2) (y_cons (y_op op_sub os_sub (y_vr 1) y_int) y_nil)) (len_cons (len_cons len_nil))))) (s_one (s_ret y_str)) s_nil)
  (s_cons (s_if (y_tcmp op_gt os_cmp (y_callB call_len cs_len z.n_len PyProof.Rows.Boot.«len» (y_cons (y_vr 3) y_nil)) (y_globI z.c_STEPS_MOST)) (s_one (s_ret y_str)) s_nil)
  (s_one (s_ret y_non)))))))))
abbrev st_step_word : Stmt := topS 11
theorem sc_step_word : FnScope ["letters", "states", "thing", "ahead", "begin", "letter", "to"] ["letters", "states", "thing", "ahead"] (defScope st_step_word) := ⟨rfl, rfl, rfl, by decide +kernel, rfl, by decide +kernel, by decide +kernel⟩
noncomputable def m_step_word : SM :=
  (seqS (ifS (orT (notT (trt (isiE "tuple" (vr 2)))) (asT (op2 o_ne (calB o_len (lcons (vr 2) lnil)) (ct (.int 3))))) (retS (ct (.str (Str.ofString "shape")))) nxS)
  (seqS (asg (tgT [(tgN 4), (tgN 5), (tgN 6)]) (vr 2))
  (seqS (ifS (orT (notT (trt (cal M_is_whole (lcons (vr 4) lnil)))) (orT (notT (trt (isiE "str" (vr 5)))) (notT (trt (cal M_is_whole (lcons (vr 6) lnil)))))) (retS (ct (.str (Str.ofString "shape")))) nxS)
  (seqS (ifS (orT (notT (asT (chn o_leI o_lt (ct (.int 0)) (vr 4) (vr 1)))) (notT (asT (chn o_leI o_lt (ct (.int 0)) (vr 6) (vr 1))))) (retS (ct (.str (Str.ofString "state")))) nxS)
  (seqS (ifS (orT (asT (op2 o_ne (calB o_len (lcons (vr 5) lnil)) (ct (.int 1)))) (asT (op2 (o_inS true) (vr 5) (vr 0)))) (retS (ct (.str (Str.ofString "letter")))) nxS)
  (seqS (ifS (andT (asT (op2 o_isnot (vr 3) (ct .non))) (asT (op2 o_le (vr 2) (vr 3)))) (retS (ct (.str (Str.ofString "order")))) nxS)
  (retS (ct .non))))))))
@[irreducible] noncomputable def M_step_word : List D → Sto → Res D := fn 7 m_step_word
theorem ok_step_word (z : Zs P w K mg base) (F : Fu K mg "step_word" st_step_word ["letters", "states", "thing", "ahead"]) (C_is_whole : Cl P w K mg base "is_whole" 1 ["thing"] M_is_whole) : Cl P w K mg base "step_word" 2 ["letters", "states", "thing", "ahead"] M_step_word := by
  unfold M_step_word
  exact cl_fn (m := m_step_word) F sc_step_word rfl (fun f cdv A outer s H E hr =>
  (s_cons (s_if ((y_tor (y_tnot (y_truth (y_isi (T := "tuple") (by decide) (y_vr 2) z.n_isinstance z.n_tuple PyProof.Rows.Boot.«tuple»))) (y_tor1 (y_tcmp (op_neD (hu64 hr)) os_ne (y_callB call_len cs_len z.n_len PyProof.Rows.Boot.«len» (y_cons (y_vr 2) y_nil)) y_int)))).pt (s_one (s_ret y_str)) s_nil)
  (s_cons (s_asg (y_vr 2) (g_tup rfl (g_cons (g_name (ix := [4, 5, 6]) 4 sc_step_word.nd) (g_cons (g_name (ix := [4, 5, 6]) 5 sc_step_word.nd) (g_cons (g_name (ix := [4, 5, 6]) 6 sc_step_word.nd) g_nil)))))
  (s_cons (s_if ((y_tor (y_tnot (y_truth (y_fn C_is_whole (hr.mono (by first | decide | omega)) (takes_of rfl rfl rfl rfl) (y_cons (y_vr 4) y_nil) (len_cons len_nil)))) (y_tor (y_tnot (y_truth (y_isi (T := "str") (by decide) (y_vr 5) z.n_isinstance z.n_str PyProof.Rows.Boot.«str»))) (y_tor1 (y_tnot (y_truth (y_fn C_is_whole (hr.mono (by first | decide | omega)) (takes_of rfl rfl rfl rfl) (y_cons (y_vr 6) y_nil) (len_cons len_nil)))))))).pt (s_one (s_ret y_str)) s_nil)
  (s_cons (s_if ((y_tor (y_tnot (y_tchn op_le os_cmp op_lt os_cmp y_int (y_vr 4) (y_vr 1))) (y_tor1 (y_tnot (y_tchn op_le os_cmp op_lt os_cmp y_int (y_vr 6) (y_vr 1)))))).pt (s_one (s_ret y_str)) s_nil)
  (s_cons (s_if ((y_tor (y_tcmp (op_neD (hu64 hr)) os_ne (y_callB call_len cs_len z.n_len PyProof.Rows.Boot.«len» (y_cons (y_vr 5) y_nil)) y_int) (y_tor1 (y_tcmp op_notin_str os_ninS (y_vr 5) (y_vr 0))))).pt (s_one (s_ret y_str)) s_nil)
  (s_cons (s_if ((y_tand (y_tcmp op_notN os_isnot (y_vr 3) y_non) (y_tand1 (y_tcmp (op_leA (hu0 hr)) os_le (y_vr 2) (y_vr 3))))).pt (s_one (s_ret y_str)) s_nil)
  (s_one (s_ret y_non)))))))))
abbrev st_machine_fault : Stmt := topS 12
theorem sc_machine_fault : FnScope ["letters", "thing", "word", "ahead", "at", "step"] ["letters", "thing"] (defScope st_machine_fault) := ⟨rfl, rfl, rfl, by decide +kernel, rfl, by decide +kernel, by decide +kernel⟩
noncomputable def m_machine_fault : SM :=
  (seqS (asg (tgN 2) (cal M_whole_word (lcons (vr 1) lnil)))
  (seqS (ifS (asT (op2 o_isnot (vr 2) (ct .non))) (retS (tupE (lcons (op1 o_neg (ct (.int 1))) (lcons (vr 2) lnil)))) nxS)
  (seqS (asg (tgN 3) (ct .non))
  (seqS (forS (i_enum (lcons (op2 o_ix (vr 1) (ct (.int 2))) lnil)) (tgT [(tgN 4), (tgN 5)]) (seqS (asg (tgN 2) (cal M_step_word (lcons (vr 0) (lcons (op2 o_ix (vr 1) (ct (.int 0))) (lcons (vr 5) (lcons (vr 3) lnil))))))
  (seqS (ifS (asT (op2 o_isnot (vr 2) (ct .non))) (retS (tupE (lcons (vr 4) (lcons (vr 2) lnil)))) nxS)
  (asg (tgN 3) (vr 5)))))
  (retS (ct .non))))))
@[irreducible] noncomputable def M_machine_fault : List D → Sto → Res D := fn 6 m_machine_fault
theorem ok_machine_fault (z : Zs P w K mg base) (F : Fu K mg "machine_fault" st_machine_fault ["letters", "thing"]) (C_whole_word : Cl P w K mg base "whole_word" 4 ["thing"] M_whole_word) (C_step_word : Cl P w K mg base "step_word" 2 ["letters", "states", "thing", "ahead"] M_step_word) : Cl P w K mg base "machine_fault" 5 ["letters", "thing"] M_machine_fault := by
  unfold M_machine_fault
  exact cl_fn (m := m_machine_fault) F sc_machine_fault rfl (fun f cdv A outer s H E hr =>
  (s_cons (s_set 2 sc_machine_fault.nd (y_fn C_whole_word (hr.mono (by first | decide | omega)) (takes_of rfl rfl rfl rfl) (y_cons (y_vr 1) y_nil) (len_cons len_nil)))
  (s_cons (s_if (y_tcmp op_notN os_isnot (y_vr 2) y_non) (s_one (s_ret (y_tup (y_cons (y_un un_neg us_neg y_int) (y_cons (y_vr 2) y_nil))))) s_nil)
  (s_cons (s_set 3 sc_machine_fault.nd y_non)
  (s_cons (s_for (passes_of rfl) rfl (y_enum z.n_enumerate (y_cons (y_ix ix_seq os_ix (y_vr 1) y_int (fun _ _ => rfl)) y_nil)) (g_tup rfl (g_cons (g_name (ix := [4, 5]) 4 sc_machine_fault.nd) (g_cons (g_name (ix := [4, 5]) 5 sc_machine_fault.nd) g_nil))) (s_cons (s_set 2 sc_machine_fault.nd (y_fn C_step_word (hr.mono (by first | decide | omega)) (takes_of rfl rfl rfl rfl) (y_cons (y_vr 0) (y_cons (y_ix ix_seq os_ix (y_vr 1) y_int (fun _ _ => rfl)) (y_cons (y_vr 5) (y_cons (y_vr 3) y_nil)))) (len_cons (len_cons (len_cons (len_cons len_nil))))))
  (s_cons (s_if (y_tcmp op_notN os_isnot (y_vr 2) y_non) (s_one (s_ret (y_tup (y_cons (y_vr 4) (y_cons (y_vr 2) y_nil))))) s_nil)
  (s_one (s_set 3 sc_machine_fault.nd (y_vr 5))))))
  (s_one (s_ret y_non)))))))
abbrev st_check_machine : Stmt := topS 13
theorem sc_check_machine : FnScope ["letters", "thing", "fault"] ["letters", "thing"] (defScope st_check_machine) := ⟨rfl, rfl, rfl, by decide +kernel, rfl, by decide +kernel, by decide +kernel⟩
noncomputable def m_check_machine : SM :=
  (seqS (asg (tgN 2) (cal M_machine_fault (lcons (vr 0) (lcons (vr 1) lnil))))
  (seqS (ifS (asT (op2 o_isnot (vr 2) (ct .non))) (raiS "BadMachine" ["at", "word"] (lcons (op2 o_ix (vr 2) (ct (.int 0))) (lcons (op2 o_ix (vr 2) (ct (.int 1))) lnil))) nxS)
  (retS (calB o_len (lcons (op2 o_ix (vr 1) (ct (.int 2))) lnil)))))
@[irreducible] noncomputable def M_check_machine : List D → Sto → Res D := fn 3 m_check_machine
theorem ok_check_machine (z : Zs P w K mg base) (F : Fu K mg "check_machine" st_check_machine ["letters", "thing"]) (C_machine_fault : Cl P w K mg base "machine_fault" 5 ["letters", "thing"] M_machine_fault) : Cl P w K mg base "check_machine" 6 ["letters", "thing"] M_check_machine := by
  unfold M_check_machine
  exact cl_fn (m := m_check_machine) F sc_check_machine rfl (fun f cdv A outer s H E hr =>
  (s_cons (s_set 2 sc_check_machine.nd (y_fn C_machine_fault (hr.mono (by first | decide | omega)) (takes_of rfl rfl rfl rfl) (y_cons (y_vr 0) (y_cons (y_vr 1) y_nil)) (len_cons (len_cons len_nil))))
  (s_cons (s_if (y_tcmp op_notN os_isnot (y_vr 2) y_non) (s_one (s_rais rfl (takes_of rfl rfl rfl rfl) z.x_BadMachine (hr.mono (by first | decide | omega)) (y_cons (y_ix ix_seq os_ix (y_vr 2) y_int (fun _ _ => rfl)) (y_cons (y_ix ix_seq os_ix (y_vr 2) y_int (fun _ _ => rfl)) y_nil)) (by decide))) s_nil)
  (s_one (s_ret (y_callB call_len cs_len z.n_len PyProof.Rows.Boot.«len» (y_cons (y_ix ix_seq os_ix (y_vr 1) y_int (fun _ _ => rfl)) y_nil)))))))
abbrev st__law_told : Stmt := topS 23
theorem sc__law_told : FnScope ["letters", "thing", "error"] ["letters", "thing"] (defScope st__law_told) := ⟨rfl, rfl, rfl, by decide +kernel, rfl, by decide +kernel, by decide +kernel⟩
noncomputable def m__law_told : SM :=
  (tryS (retS (frz (lstF (lcons (ct (.str (Str.ofString "told"))) (lcons (cal M_check_machine (lcons (vr 0) (lcons (vr 1) lnil))) lnil))))) yes_BadMachine 2 (fun c fs => retS ((fun c fs => frz (lstF ((fun c fs => lcons ((fun _ _ => (ct (.str (Str.ofString "raised")))) c fs) ((fun c fs => lcons ((fldE ["BadMachine"] "at") c fs) ((fun c fs => lcons ((fldE ["BadMachine"] "word") c fs) ((fun _ _ => lnil) c fs)) c fs)) c fs)) c fs))) c fs)))
@[irreducible] noncomputable def M__law_told : List D → Sto → Res D := fn 3 m__law_told
theorem ok__law_told (z : Zs P w K mg base) (F : Fu K mg "_law_told" st__law_told ["letters", "thing"]) (C_check_machine : Cl P w K mg base "check_machine" 6 ["letters", "thing"] M_check_machine) : Cl P w K mg base "_law_told" 7 ["letters", "thing"] M__law_told := by
  unfold M__law_told
  exact cl_fn (m := m__law_told) F sc__law_told rfl (fun f cdv A outer s H E hr =>
  (s_one (s_tryH rfl rfl sc__law_told.nd z.h_BadMachine (takes_of rfl rfl rfl rfl) (fun W pn xe tk pw => (s_one (s_ret (y_frz (y_lst (y_cons y_str (y_cons (y_fn C_check_machine (hr.mono (by first | decide | omega)) tk (y_cons (y_vr 0) (y_cons (y_vr 1) y_nil)) (len_cons (len_cons len_nil))) y_nil))))))) (fun a oe cls d pn hz hf => (u_one (u_ret (u_frz (u_lst (u_cons (u_lift y_str) (u_cons (u_fld (z.f_BadMachine_at) hz hf (pe_var (i := 2) rfl (by first | exact Or.inl rfl | exact Or.inr (Or.inl rfl)))) (u_cons (u_fld (z.f_BadMachine_word) hz hf (pe_var (i := 2) rfl (by first | exact Or.inl rfl | exact Or.inr (Or.inl rfl)))) u_nil)))))))))))
abbrev st__law_whole : Stmt := topS 19
theorem sc__law_whole : FnScope ["number"] ["number"] (defScope st__law_whole) := ⟨rfl, rfl, rfl, by decide +kernel, rfl, by decide +kernel, by decide +kernel⟩
noncomputable def m__law_whole : SM :=
  (retS (andV (isiE "int" (vr 0)) (notE (isiE "bool" (vr 0)))))
@[irreducible] noncomputable def M__law_whole : List D → Sto → Res D := fn 1 m__law_whole
theorem ok__law_whole (z : Zs P w K mg base) (F : Fu K mg "_law_whole" st__law_whole ["number"])  : Cl P w K mg base "_law_whole" 1 ["number"] M__law_whole := by
  unfold M__law_whole
  exact cl_fn (m := m__law_whole) F sc__law_whole rfl (fun f cdv A outer s H E hr =>
  (s_one (s_ret (y_and (y_isi (T := "int") (by decide) (y_vr 0) z.n_isinstance z.n_int PyProof.Rows.Boot.«int») (y_one (y_not (y_isi (T := "bool") (by decide) (y_vr 0) z.n_isinstance z.n_bool PyProof.Rows.Boot.«bool»)))))))
abbrev st__law_due : Stmt := topS 22
theorem sc__law_due : FnScope ["letters", "thing", "states", "ends", "steps", "at", "step"] ["letters", "thing"] (defScope st__law_due) := ⟨rfl, rfl, rfl, by decide +kernel, rfl, by decide +kernel, by decide +kernel⟩
noncomputable def m__law_due : SM :=
  (seqS (ifS (orT (notT (trt (isiE "tuple" (vr 1)))) (asT (op2 o_ne (calB o_len (lcons (vr 1) lnil)) (ct (.int 3))))) (retS (frz (lstF (lcons (ct (.str (Str.ofString "raised"))) (lcons (op1 o_neg (ct (.int 1))) (lcons (ct (.str (Str.ofString "shape"))) lnil)))))) nxS)
  (seqS (asg (tgT [(tgN 2), (tgN 3), (tgN 4)]) (vr 1))
  (seqS (ifS (orT (notT (trt (cal M__law_whole (lcons (vr 2) lnil)))) (orT (notT (trt (isiE "tuple" (vr 3)))) (notT (trt (isiE "tuple" (vr 4)))))) (retS (frz (lstF (lcons (ct (.str (Str.ofString "raised"))) (lcons (op1 o_neg (ct (.int 1))) (lcons (ct (.str (Str.ofString "shape"))) lnil)))))) nxS)
  (seqS (ifS (notT (asT (chn o_leI o_leI (ct (.int 1)) (vr 2) (ct (.int 40))))) (retS (frz (lstF (lcons (ct (.str (Str.ofString "raised"))) (lcons (op1 o_neg (ct (.int 1))) (lcons (ct (.str (Str.ofString "states"))) lnil)))))) nxS)
  (seqS (forS (i_rg1 (lcons (calB o_len (lcons (vr 3) lnil)) lnil)) (tgN 5) (ifS (orT (notT (trt (cal M__law_whole (lcons (op2 o_ix (vr 3) (vr 5)) lnil)))) (orT (notT (asT (chn o_leI o_lt (ct (.int 0)) (op2 o_ix (vr 3) (vr 5)) (vr 2)))) (andT (asT (op2 o_gt (vr 5) (ct (.int 0)))) (asT (op2 o_le (op2 o_ix (vr 3) (vr 5)) (op2 o_ix (vr 3) (op2 o_sub (vr 5) (ct (.int 1))))))))) (retS (frz (lstF (lcons (ct (.str (Str.ofString "raised"))) (lcons (op1 o_neg (ct (.int 1))) (lcons (ct (.str (Str.ofString "ends"))) lnil)))))) nxS))
  (seqS (ifS (asT (op2 o_gt (calB o_len (lcons (vr 4) lnil)) (ct (.int 240)))) (retS (frz (lstF (lcons (ct (.str (Str.ofString "raised"))) (lcons (op1 o_neg (ct (.int 1))) (lcons (ct (.str (Str.ofString "limit"))) lnil)))))) nxS)
  (seqS (forS (i_rg1 (lcons (calB o_len (lcons (vr 4) lnil)) lnil)) (tgN 5) (seqS (asg (tgN 6) (op2 o_ix (vr 4) (vr 5)))
  (seqS (ifS (orT (notT (trt (isiE "tuple" (vr 6)))) (orT (asT (op2 o_ne (calB o_len (lcons (vr 6) lnil)) (ct (.int 3)))) (orT (notT (trt (cal M__law_whole (lcons (op2 o_ix (vr 6) (ct (.int 0))) lnil)))) (orT (notT (trt (isiE "str" (op2 o_ix (vr 6) (ct (.int 1)))))) (notT (trt (cal M__law_whole (lcons (op2 o_ix (vr 6) (ct (.int 2))) lnil)))))))) (retS (frz (lstF (lcons (ct (.str (Str.ofString "raised"))) (lcons (vr 5) (lcons (ct (.str (Str.ofString "shape"))) lnil)))))) nxS)
  (seqS (ifS (orT (notT (asT (chn o_leI o_lt (ct (.int 0)) (op2 o_ix (vr 6) (ct (.int 0))) (vr 2)))) (notT (asT (chn o_leI o_lt (ct (.int 0)) (op2 o_ix (vr 6) (ct (.int 2))) (vr 2))))) (retS (frz (lstF (lcons (ct (.str (Str.ofString "raised"))) (lcons (vr 5) (lcons (ct (.str (Str.ofString "state"))) lnil)))))) nxS)
  (seqS (ifS (orT (asT (op2 o_ne (calB o_len (lcons (op2 o_ix (vr 6) (ct (.int 1))) lnil)) (ct (.int 1)))) (asT (op2 (o_inS true) (op2 o_ix (vr 6) (ct (.int 1))) (vr 0)))) (retS (frz (lstF (lcons (ct (.str (Str.ofString "raised"))) (lcons (vr 5) (lcons (ct (.str (Str.ofString "letter"))) lnil)))))) nxS)
  (ifS (andT (asT (op2 o_gt (vr 5) (ct (.int 0)))) (asT (op2 o_le (vr 6) (op2 o_ix (vr 4) (op2 o_sub (vr 5) (ct (.int 1))))))) (retS (frz (lstF (lcons (ct (.str (Str.ofString "raised"))) (lcons (vr 5) (lcons (ct (.str (Str.ofString "order"))) lnil)))))) nxS))))))
  (retS (frz (lstF (lcons (ct (.str (Str.ofString "told"))) (lcons (calB o_len (lcons (vr 4) lnil)) lnil))))))))))))
@[irreducible] noncomputable def M__law_due : List D → Sto → Res D := fn 7 m__law_due
theorem ok__law_due (z : Zs P w K mg base) (F : Fu K mg "_law_due" st__law_due ["letters", "thing"]) (C__law_whole : Cl P w K mg base "_law_whole" 1 ["number"] M__law_whole) : Cl P w K mg base "_law_due" 2 ["letters", "thing"] M__law_due := by
  unfold M__law_due
  exact cl_fn (m := m__law_due) F sc__law_due rfl (fun f cdv A outer s H E hr =>
  (s_cons (s_if ((y_tor (y_tnot (y_truth (y_isi (T := "tuple") (by decide) (y_vr 1) z.n_isinstance z.n_tuple PyProof.Rows.Boot.«tuple»))) (y_tor1 (y_tcmp (op_neD (hu64 hr)) os_ne (y_callB call_len cs_len z.n_len PyProof.Rows.Boot.«len» (y_cons (y_vr 1) y_nil)) y_int)))).pt (s_one (s_ret (y_frz (y_lst (y_cons y_str (y_cons (y_un un_neg us_neg y_int) (y_cons y_str y_nil))))))) s_nil)
  (s_cons (s_asg (y_vr 1) (g_tup rfl (g_cons (g_name (ix := [2, 3, 4]) 2 sc__law_due.nd) (g_cons (g_name (ix := [2, 3, 4]) 3 sc__law_due.nd) (g_cons (g_name (ix := [2, 3, 4]) 4 sc__law_due.nd) g_nil)))))
  (s_cons (s_if ((y_tor (y_tnot (y_truth (y_fn C__law_whole (hr.mono (by first | decide | omega)) (takes_of rfl rfl rfl rfl) (y_cons (y_vr 2) y_nil) (len_cons len_nil)))) (y_tor (y_tnot (y_truth (y_isi (T := "tuple") (by decide) (y_vr 3) z.n_isinstance z.n_tuple PyProof.Rows.Boot.«tuple»))) (y_tor1 (y_tnot (y_truth (y_isi (T := "tuple") (by decide) (y_vr 4) z.n_isinstance z.n_tuple PyProof.Rows.Boot.«tuple»))))))).pt (s_one (s_ret (y_frz (y_lst (y_cons y_str (y_cons (y_un un_neg us_neg y_int) (y_cons y_str y_nil))))))) s_nil)
  (s_cons (s_if (y_tnot (y_tchn op_le os_cmp op_le os_cmp y_int (y_vr 2) y_int)) (s_one (s_ret (y_frz (y_lst (y_cons y_str (y_cons (y_un un_neg us_neg y_int) (y_cons y_str y_nil))))))) s_nil)
  (s_cons (s_for (passes_of rfl) rfl (y_rg1 z.n_range (y_cons (y_callB call_len cs_len z.n_len PyProof.Rows.Boot.«len» (y_cons (y_vr 3) y_nil)) y_nil)) (g_name (ix := [5]) 5 sc__law_due.nd) (s_one (s_if ((y_tor (y_tnot (y_truth (y_fn C__law_whole (hr.mono (by first | decide | omega)) (takes_of rfl rfl rfl rfl) (y_cons (y_ix ix_seq os_ix (y_vr 3) (y_vr 5) (fun _ _ => rfl)) y_nil) (len_cons len_nil)))) (y_tor (y_tnot (y_tchn op_le os_cmp op_lt os_cmp y_int (y_ix ix_seq os_ix (y_vr 3) (y_vr 5) (fun _ _ => rfl)) (y_vr 2))) (y_tor1 ((y_tand (y_tcmp op_gt os_cmp (y_vr 5) y_int) (y_tand1 (y_tcmp (op_leA (hu0 hr)) os_le (y_ix ix_seq os_ix (y_vr 3) (y_vr 5) (fun _ _ => rfl)) (y_ix ix_seq os_ix (y_vr 3) (y_op op_sub os_sub (y_vr 5) y_int) (fun _ _ => rfl)))))).pt)))).pt (s_one (s_ret (y_frz (y_lst (y_cons y_str (y_cons (y_un un_neg us_neg y_int) (y_cons y_str y_nil))))))) s_nil)))
  (s_cons (s_if (y_tcmp op_gt os_cmp (y_callB call_len cs_len z.n_len PyProof.Rows.Boot.«len» (y_cons (y_vr 4) y_nil)) y_int) (s_one (s_ret (y_frz (y_lst (y_cons y_str (y_cons (y_un un_neg us_neg y_int) (y_cons y_str y_nil))))))) s_nil)
  (s_cons (s_for (passes_of rfl) rfl (y_rg1 z.n_range (y_cons (y_callB call_len cs_len z.n_len PyProof.Rows.Boot.«len» (y_cons (y_vr 4) y_nil)) y_nil)) (g_name (ix := [5]) 5 sc__law_due.nd) (s_cons (s_set 6 sc__law_due.nd (y_ix ix_seq os_ix (y_vr 4) (y_vr 5) (fun _ _ => rfl)))
  (s_cons (s_if ((y_tor (y_tnot (y_truth (y_isi (T := "tuple") (by decide) (y_vr 6) z.n_isinstance z.n_tuple PyProof.Rows.Boot.«tuple»))) (y_tor (y_tcmp (op_neD (hu64 hr)) os_ne (y_callB call_len cs_len z.n_len PyProof.Rows.Boot.«len» (y_cons (y_vr 6) y_nil)) y_int) (y_tor (y_tnot (y_truth (y_fn C__law_whole (hr.mono (by first | decide | omega)) (takes_of rfl rfl rfl rfl) (y_cons (y_ix ix_seq os_ix (y_vr 6) y_int (fun _ _ => rfl)) y_nil) (len_cons len_nil)))) (y_tor (y_tnot (y_truth (y_isi (T := "str") (by decide) (y_ix ix_seq os_ix (y_vr 6) y_int (fun _ _ => rfl)) z.n_isinstance z.n_str PyProof.Rows.Boot.«str»))) (y_tor1 (y_tnot (y_truth (y_fn C__law_whole (hr.mono (by first | decide | omega)) (takes_of rfl rfl rfl rfl) (y_cons (y_ix ix_seq os_ix (y_vr 6) y_int (fun _ _ => rfl)) y_nil) (len_cons len_nil)))))))))).pt (s_one (s_ret (y_frz (y_lst (y_cons y_str (y_cons (y_vr 5) (y_cons y_str y_nil))))))) s_nil)
  (s_cons (s_if ((y_tor (y_tnot (y_tchn op_le os_cmp op_lt os_cmp y_int (y_ix ix_seq os_ix (y_vr 6) y_int (fun _ _ => rfl)) (y_vr 2))) (y_tor1 (y_tnot (y_tchn op_le os_cmp op_lt os_cmp y_int (y_ix ix_seq os_ix (y_vr 6) y_int (fun _ _ => rfl)) (y_vr 2)))))).pt (s_one (s_ret (y_frz (y_lst (y_cons y_str (y_cons (y_vr 5) (y_cons y_str y_nil))))))) s_nil)
  (s_cons (s_if ((y_tor (y_tcmp (op_neD (hu64 hr)) os_ne (y_callB call_len cs_len z.n_len PyProof.Rows.Boot.«len» (y_cons (y_ix ix_seq os_ix (y_vr 6) y_int (fun _ _ => rfl)) y_nil)) y_int) (y_tor1 (y_tcmp op_notin_str os_ninS (y_ix ix_seq os_ix (y_vr 6) y_int (fun _ _ => rfl)) (y_vr 0))))).pt (s_one (s_ret (y_frz (y_lst (y_cons y_str (y_cons (y_vr 5) (y_cons y_str y_nil))))))) s_nil)
  (s_one (s_if ((y_tand (y_tcmp op_gt os_cmp (y_vr 5) y_int) (y_tand1 (y_tcmp (op_leA (hu0 hr)) os_le (y_vr 6) (y_ix ix_seq os_ix (y_vr 4) (y_op op_sub os_sub (y_vr 5) y_int) (fun _ _ => rfl)))))).pt (s_one (s_ret (y_frz (y_lst (y_cons y_str (y_cons (y_vr 5) (y_cons y_str y_nil))))))) s_nil)))))))
  (s_one (s_ret (y_frz (y_lst (y_cons y_str (y_cons (y_callB call_len cs_len z.n_len PyProof.Rows.Boot.«len» (y_cons (y_vr 4) y_nil)) y_nil))))))))))))))
abbrev st__law_wide : Stmt := topS 29
theorem sc__law_wide : FnScope ["pool", "letters", "steps", "turn", "step", "right", "things", "place", "thing"] ["pool", "letters"] (defScope st__law_wide) := ⟨rfl, rfl, rfl, by decide +kernel, rfl, by decide +kernel, by decide +kernel⟩
noncomputable def m__law_wide : SM :=
  (seqS (asg (tgN 2) (new (lstF lnil)))
  (seqS (forS (i_rg1 (lcons (ct (.int 1000)) lnil)) (tgN 3) (seqS (asg (tgN 4) (tupE (lcons (cal M__law_pick (lcons (vr 0) (lcons (ct (.int 40)) lnil))) (lcons (op2 o_ix (vr 1) (cal M__law_pick (lcons (vr 0) (lcons (calB o_len (lcons (vr 1) lnil)) lnil)))) (lcons (cal M__law_pick (lcons (vr 0) (lcons (ct (.int 40)) lnil))) lnil)))))
  (ifS (andT (asT (op2 o_lt (calB o_len (lcons (vr 2) lnil)) (ct (.int 241)))) (asT (op2 (o_inL true) (vr 4) (vr 2)))) (exS (meth "list" m_append (vr 2) (lcons (vr 4) lnil))) nxS)))
  (seqS (asg (tgN 2) (new (calF o_sorted (lcons (vr 2) lnil))))
  (seqS (asg (tgN 5) (tupE (lcons (ct (.int 40)) (lcons (tupRg (lcons (ct (.int 40)) lnil)) (lcons (calB o_tuple (lcons (frz (cutF (vr 2) onoM (osmM (ct (.int 240))))) lnil)) lnil)))))
  (seqS (asg (tgN 6) (new (lstF (lcons (vr 5) (lcons (tupE (lcons (ct (.int 41)) (lcons (tupE lnil) (lcons (tupE lnil) lnil)))) (lcons (tupE (lcons (ct (.int 40)) (lcons (tupE (lcons (ct (.int 40)) lnil)) (lcons (tupE lnil) lnil)))) (lcons (tupE (lcons (ct (.int 40)) (lcons (tupE lnil) (lcons (calB o_tuple (lcons (frz (cutF (vr 2) onoM (osmM (ct (.int 241))))) lnil)) lnil)))) (lcons (tupE (lcons (ct (.int 40)) (lcons (tupRg (lcons (ct (.int 41)) lnil)) (lcons (op2 o_ix (vr 5) (ct (.int 2))) lnil)))) (lcons (tupE (lcons (ct (.int 39)) (lcons (tupE lnil) (lcons (op2 o_ix (vr 5) (ct (.int 2))) lnil)))) lnil)))))))))
  (seqS (asg (tgN 7) (op2 o_add (ct (.int 200)) (cal M__law_pick (lcons (vr 0) (lcons (ct (.int 40)) lnil)))))
  (seqS (exS (meth "list" m_append (vr 6) (lcons (tupE (lcons (ct (.int 40)) (lcons (tupE lnil) (lcons (op2 o_add (op2 o_add (cut o_cut (op2 o_ix (vr 5) (ct (.int 2))) onoM (osmM (vr 7))) (tupE (lcons (cal M__law_bent_step (lcons (vr 0) (lcons (vr 1) (lcons (ct (.int 40)) (lcons (op2 o_ix (op2 o_ix (vr 5) (ct (.int 2))) (calB o_min2 (lcons (vr 7) (lcons (op2 o_sub (calB o_len (lcons (op2 o_ix (vr 5) (ct (.int 2))) lnil)) (ct (.int 1))) lnil)))) lnil))))) lnil))) (cut o_cut (op2 o_ix (vr 5) (ct (.int 2))) (osmM (op2 o_add (vr 7) (ct (.int 1)))) onoM)) lnil)))) lnil)))
  (retS (op2 o_eq (meth "list" m_count (compF (i_of (vr 6)) (tgN 8) yesT (cal M__law_same (lcons (cal M__law_told (lcons (vr 1) (lcons (vr 8) lnil))) (lcons (cal M__law_due (lcons (vr 1) (lcons (vr 8) lnil))) lnil))) [8]) (lcons (ct (.bl false)) lnil)) (ct (.int 0)))))))))))
@[irreducible] noncomputable def M__law_wide : List D → Sto → Res D := fn 9 m__law_wide
theorem ok__law_wide (z : Zs P w K mg base) (F : Fu K mg "_law_wide" st__law_wide ["pool", "letters"]) (C__law_pick : Cl P w K mg base "_law_pick" 1 ["pool", "many"] M__law_pick) (C__law_same : Cl P w K mg base "_law_same" 9 ["told", "due"] M__law_same) (C__law_bent_step : Cl P w K mg base "_law_bent_step" 2 ["pool", "letters", "states", "step"] M__law_bent_step) (C__law_told : Cl P w K mg base "_law_told" 7 ["letters", "thing"] M__law_told) (C__law_due : Cl P w K mg base "_law_due" 2 ["letters", "thing"] M__law_due) : Cl P w K mg base "_law_wide" 10 ["pool", "letters"] M__law_wide := by
  unfold M__law_wide
  exact cl_fn (m := m__law_wide) F sc__law_wide rfl (fun f cdv A outer s H E hr =>
  (s_cons (s_set 2 sc__law_wide.nd (y_new (y_lst y_nil)))
  (s_cons (s_for (passes_of rfl) rfl (y_rg1 z.n_range (y_cons y_int y_nil)) (g_name (ix := [3]) 3 sc__law_wide.nd) (s_cons (s_set 4 sc__law_wide.nd (y_tup (y_cons (y_fn C__law_pick (hr.mono (by first | decide | omega)) (takes_of rfl rfl rfl rfl) (y_cons (y_vr 0) (y_cons y_int y_nil)) (len_cons (len_cons len_nil))) (y_cons (y_ix ix_seq os_ix (y_vr 1) (y_fn C__law_pick (hr.mono (by first | decide | omega)) (takes_of rfl rfl rfl rfl) (y_cons (y_vr 0) (y_cons (y_callB call_len cs_len z.n_len PyProof.Rows.Boot.«len» (y_cons (y_vr 1) y_nil)) y_nil)) (len_cons (len_cons len_nil))) (fun _ _ => rfl)) (y_cons (y_fn C__law_pick (hr.mono (by first | decide | omega)) (takes_of rfl rfl rfl rfl) (y_cons (y_vr 0) (y_cons y_int y_nil)) (len_cons (len_cons len_nil))) y_nil)))))
  (s_one (s_if ((y_tand (y_tcmp op_lt os_cmp (y_callB call_len cs_len z.n_len PyProof.Rows.Boot.«len» (y_cons (y_vr 2) y_nil)) y_int) (y_tand1 (y_tcmp (op_notInD (hu65 hr)) os_ninL (y_vr 4) (y_vr 2))))).pt (s_one (s_expr (y_bm mt_append ms_append PySem.F.plainAttrs_list PySem.F.slot_list_append PySem.F.type_list_append (y_vr 2) (y_cons (y_vr 4) y_nil)))) s_nil))))
  (s_cons (s_set 2 sc__law_wide.nd (y_new (y_callBF (cr_sortD (hu200 hr)) cf_sorted z.n_sorted PyProof.Rows.Boot.«sorted» (y_cons (y_vr 2) y_nil))))
  (s_cons (s_set 5 sc__law_wide.nd (y_tup (y_cons y_int (y_cons (y_tupRg rfl z.n_tuple z.n_range y_int) (y_cons (y_callTy call_tuple_of cs_tuple z.n_tuple PyProof.Rows.Boot.«tuple» (y_cons (y_frz (y_cutF (y_vr 2) y_ono (y_osm y_int))) y_nil)) y_nil)))))
  (s_cons (s_set 6 sc__law_wide.nd (y_new (y_lst (y_cons (y_vr 5) (y_cons (y_tup (y_cons y_int (y_cons (y_tup y_nil) (y_cons (y_tup y_nil) y_nil)))) (y_cons (y_tup (y_cons y_int (y_cons (y_tup (y_cons y_int y_nil)) (y_cons (y_tup y_nil) y_nil)))) (y_cons (y_tup (y_cons y_int (y_cons (y_tup y_nil) (y_cons (y_callTy call_tuple_of cs_tuple z.n_tuple PyProof.Rows.Boot.«tuple» (y_cons (y_frz (y_cutF (y_vr 2) y_ono (y_osm y_int))) y_nil)) y_nil)))) (y_cons (y_tup (y_cons y_int (y_cons (y_tupRg rfl z.n_tuple z.n_range y_int) (y_cons (y_ix ix_seq os_ix (y_vr 5) y_int (fun _ _ => rfl)) y_nil)))) (y_cons (y_tup (y_cons y_int (y_cons (y_tup y_nil) (y_cons (y_ix ix_seq os_ix (y_vr 5) y_int (fun _ _ => rfl)) y_nil)))) y_nil)))))))))
  (s_cons (s_set 7 sc__law_wide.nd (y_op op_addA os_add y_int (y_fn C__law_pick (hr.mono (by first | decide | omega)) (takes_of rfl rfl rfl rfl) (y_cons (y_vr 0) (y_cons y_int y_nil)) (len_cons (len_cons len_nil)))))
  (s_cons (s_expr (y_bm mt_append ms_append PySem.F.plainAttrs_list PySem.F.slot_list_append PySem.F.type_list_append (y_vr 6) (y_cons (y_tup (y_cons y_int (y_cons (y_tup y_nil) (y_cons (y_op op_addA os_add (y_op op_addA os_add (y_cut (y_ix ix_seq os_ix (y_vr 5) y_int (fun _ _ => rfl)) y_ono (y_osm (y_vr 7))) (y_tup (y_cons (y_fn C__law_bent_step (hr.mono (by first | decide | omega)) (takes_of rfl rfl rfl rfl) (y_cons (y_vr 0) (y_cons (y_vr 1) (y_cons y_int (y_cons (y_ix ix_seq os_ix (y_ix ix_seq os_ix (y_vr 5) y_int (fun _ _ => rfl)) (y_callB (call_min2 rfl) cs_min2 z.n_min PyProof.Rows.Boot.«min» (y_cons (y_vr 7) (y_cons (y_op op_sub os_sub (y_callB call_len cs_len z.n_len PyProof.Rows.Boot.«len» (y_cons (y_ix ix_seq os_ix (y_vr 5) y_int (fun _ _ => rfl)) y_nil)) y_int) y_nil))) (fun _ _ => rfl)) y_nil)))) (len_cons (len_cons (len_cons (len_cons len_nil))))) y_nil))) (y_cut (y_ix ix_seq os_ix (y_vr 5) y_int (fun _ _ => rfl)) (y_osm (y_op op_addA os_add (y_vr 7) y_int)) y_ono)) y_nil)))) y_nil)))
  (s_one (s_ret (y_cmp (op_eqD (hu64 hr)) os_eq (y_bm (mt_countD (hu65 hr)) ms_count PySem.F.plainAttrs_list PySem.F.slot_list_count PySem.F.type_list_count (y_compF (own := [("thing", 8)]) rfl sc__law_wide.nd (y_iter (y_vr 6)) (by rfl) (fun _ _ _ _ _ => (g_name (ix := [8]) 8 sc__law_wide.nd)) (fun _ _ _ _ _ => y_yes) (fun _ _ _ _ _ => (y_fn C__law_same (hr.mono (by first | decide | omega)) takes0 (y_cons (y_fn C__law_told (hr.mono (by first | decide | omega)) takes0 (y_cons (y_vr 1) (y_cons (y_vr 8) y_nil)) (len_cons (len_cons len_nil))) (y_cons (y_fn C__law_due (hr.mono (by first | decide | omega)) takes0 (y_cons (y_vr 1) (y_cons (y_vr 8) y_nil)) (len_cons (len_cons len_nil))) y_nil)) (len_cons (len_cons len_nil))))) (y_cons y_bl y_nil)) y_int)))))))))))
abbrev st__law_bent_whole : Stmt := topS 24
theorem sc__law_bent_whole : FnScope ["pool", "thing", "kinds"] ["pool", "thing"] (defScope st__law_bent_whole) := ⟨rfl, rfl, rfl, by decide +kernel, rfl, by decide +kernel, by decide +kernel⟩
noncomputable def m__law_bent_whole : SM :=
  (seqS (asg (tgN 2) (frz (lstF (lcons (frz (calF o_listA (lcons (vr 1) lnil))) (lcons (cut o_cut (vr 1) onoM (osmM (ct (.int 2)))) (lcons (op2 o_add (vr 1) (tupE (lcons (ct (.int 0)) lnil))) (lcons (tupE lnil) (lcons (ct .non) (lcons (ct (.int 7)) (lcons (ct (.str (Str.ofString "abc"))) (lcons (tupE (lcons (vr 1) lnil)) (lcons (frz (lstF (lcons (vr 1) lnil))) (lcons (ct (.bl true)) lnil)))))))))))))
  (retS (op2 o_ix (vr 2) (cal M__law_pick (lcons (vr 0) (lcons (calB o_len (lcons (vr 2) lnil)) lnil))))))
@[irreducible] noncomputable def M__law_bent_whole : List D → Sto → Res D := fn 3 m__law_bent_whole
theorem ok__law_bent_whole (z : Zs P w K mg base) (F : Fu K mg "_law_bent_whole" st__law_bent_whole ["pool", "thing"]) (C__law_pick : Cl P w K mg base "_law_pick" 1 ["pool", "many"] M__law_pick) : Cl P w K mg base "_law_bent_whole" 2 ["pool", "thing"] M__law_bent_whole := by
  unfold M__law_bent_whole
  exact cl_fn (m := m__law_bent_whole) F sc__law_bent_whole rfl (fun f cdv A outer s H E hr =>
  (s_cons (s_set 2 sc__law_bent_whole.nd (y_frz (y_lst (y_cons (y_frz (y_callTyF (cr_listA rfl) cf_listA z.n_list PyProof.Rows.Boot.«list» (y_cons (y_vr 1) y_nil))) (y_cons (y_cut (y_vr 1) y_ono (y_osm y_int)) (y_cons (y_op op_addA os_add (y_vr 1) (y_tup (y_cons y_int y_nil))) (y_cons (y_tup y_nil) (y_cons y_non (y_cons y_int (y_cons y_str (y_cons (y_tup (y_cons (y_vr 1) y_nil)) (y_cons (y_frz (y_lst (y_cons (y_vr 1) y_nil))) (y_cons y_bl y_nil)))))))))))))
  (s_one (s_ret (y_ix ix_seq os_ix (y_vr 2) (y_fn C__law_pick (hr.mono (by first | decide | omega)) (takes_of rfl rfl rfl rfl) (y_cons (y_vr 0) (y_cons (y_callB call_len cs_len z.n_len PyProof.Rows.Boot.«len» (y_cons (y_vr 2) y_nil)) y_nil)) (len_cons (len_cons len_nil))) (fun _ _ => rfl))))))
abbrev st_law : Stmt := topS 30
theorem sc_law : FnScope ["script", "pool", "letters", "thing", "turn", "other", "bent"] ["script"] (defScope st_law) := ⟨rfl, rfl, rfl, by decide +kernel, rfl, by decide +kernel, by decide +kernel⟩
noncomputable def m_law : SM :=
  (seqS (asg (tgN 1) (cal M__law_pool (lcons (vr 0) lnil)))
  (seqS (asg (tgN 2) (cal M__law_letters (lcons (vr 1) (lcons (ct (.int 6)) lnil))))
  (seqS (asg (tgN 3) (cal M__law_machine (lcons (vr 1) (lcons (vr 2) (lcons (ct (.int 6)) (lcons (ct (.int 12)) lnil))))))
  (seqS (ifS (notT (trt (cal M__law_same (lcons (cal M__law_told (lcons (vr 2) (lcons (vr 3) lnil))) (lcons (frz (lstF (lcons (ct (.str (Str.ofString "told"))) (lcons (calB o_len (lcons (op2 o_ix (vr 3) (ct (.int 2))) lnil)) lnil)))) lnil))))) (retS (ct (.bl false))) nxS)
  (seqS (ifS (orT (notT (trt (cal M__law_same (lcons (cal M__law_told (lcons (vr 2) (lcons (tupE (lcons (ct (.int 1)) (lcons (tupE lnil) (lcons (tupE lnil) lnil)))) lnil))) (lcons (frz (lstF (lcons (ct (.str (Str.ofString "told"))) (lcons (ct (.int 0)) lnil)))) lnil))))) (notT (trt (cal M__law_same (lcons (cal M__law_told (lcons (vr 2) (lcons (cal M__law_bent_whole (lcons (vr 1) (lcons (vr 3) lnil))) lnil))) (lcons (frz (lstF (lcons (ct (.str (Str.ofString "raised"))) (lcons (op1 o_neg (ct (.int 1))) (lcons (ct (.str (Str.ofString "shape"))) lnil))))) lnil)))))) (retS (ct (.bl false))) nxS)
  (seqS (forS (i_rg1 (lcons (ct (.int 12)) lnil)) (tgN 4) (seqS (asg (tgN 5) (cal M__law_machine (lcons (vr 1) (lcons (vr 2) (lcons (ct (.int 6)) (lcons (ct (.int 12)) lnil))))))
  (seqS (asg (tgN 6) (cal M__law_bent (lcons (vr 1) (lcons (vr 2) (lcons (vr 5) lnil)))))
  (seqS (ifS (notT (trt (cal M__law_same (lcons (cal M__law_told (lcons (vr 2) (lcons (vr 6) lnil))) (lcons (cal M__law_due (lcons (vr 2) (lcons (vr 6) lnil))) lnil))))) (retS (ct (.bl false))) nxS)
  (ifS (notT (trt (cal M__law_same (lcons (cal M__law_told (lcons (vr 2) (lcons (vr 5) lnil))) (lcons (frz (lstF (lcons (ct (.str (Str.ofString "told"))) (lcons (calB o_len (lcons (op2 o_ix (vr 5) (ct (.int 2))) lnil)) lnil)))) lnil))))) (retS (ct (.bl false))) nxS)))))
  (seqS (ifS (andT (asT (op2 o_eq (cal M__law_pick (lcons (vr 1) (lcons (ct (.int 7)) lnil))) (ct (.int 3)))) (notT (trt (cal M__law_wide (lcons (vr 1) (lcons (vr 2) lnil)))))) (retS (ct (.bl false))) nxS)
  (retS (cal M__law_same (lcons (cal M__law_told (lcons (vr 2) (lcons (vr 3) lnil))) (lcons (frz (lstF (lcons (ct (.str (Str.ofString "told"))) (lcons (calB o_len (lcons (op2 o_ix (vr 3) (ct (.int 2))) lnil)) lnil)))) lnil)))))))))))
@[irreducible] noncomputable def M_law : List D → Sto → Res D := fn 7 m_law
theorem ok_law (z : Zs P w K mg base) {f : Addr} {fd : FuncData} (F : Fun K "law" "law" st_law f fd) (C__law_pool : Cl P w K mg base "_law_pool" 1 ["script"] M__law_pool) (C__law_pick : Cl P w K mg base "_law_pick" 1 ["pool", "many"] M__law_pick) (C__law_letters : Cl P w K mg base "_law_letters" 3 ["pool", "most"] M__law_letters) (C__law_machine : Cl P w K mg base "_law_machine" 2 ["pool", "letters", "most", "many"] M__law_machine) (C__law_same : Cl P w K mg base "_law_same" 9 ["told", "due"] M__law_same) (C__law_bent : Cl P w K mg base "_law_bent" 3 ["pool", "letters", "thing"] M__law_bent) (C__law_told : Cl P w K mg base "_law_told" 7 ["letters", "thing"] M__law_told) (C__law_due : Cl P w K mg base "_law_due" 2 ["letters", "thing"] M__law_due) (C__law_wide : Cl P w K mg base "_law_wide" 10 ["pool", "letters"] M__law_wide) (C__law_bent_whole : Cl P w K mg base "_law_bent_whole" 2 ["pool", "thing"] M__law_bent_whole) : FnOk P w K mg base (L2.CX P w) 11 f fd ["script"] (spM K mg 1 M_law) := by
  unfold M_law
  exact ok_fn (m := m_law) F sc_law rfl (fun cdv A outer s H E hr =>
  (s_cons (s_set 1 sc_law.nd (y_fn C__law_pool (hr.mono (by first | decide | omega)) (takes_of rfl rfl rfl rfl) (y_cons (y_vr 0) y_nil) (len_cons len_nil)))
  (s_cons (s_set 2 sc_law.nd (y_fn C__law_letters (hr.mono (by first | decide | omega)) (takes_of rfl rfl rfl rfl) (y_cons (y_vr 1) (y_cons y_int y_nil)) (len_cons (len_cons len_nil))))
  (s_cons (s_set 3 sc_law.nd (y_fn C__law_machine (hr.mono (by first | decide | omega)) (takes_of rfl rfl rfl rfl) (y_cons (y_vr 1) (y_cons (y_vr 2) (y_cons y_int (y_cons y_int y_nil)))) (len_cons (len_cons (len_cons (len_cons len_nil))))))
  (s_cons (s_if (y_tnot (y_truth (y_fn C__law_same (hr.mono (by first | decide | omega)) (takes_of rfl rfl rfl rfl) (y_cons (y_fn C__law_told (hr.mono (by first | decide | omega)) (takes_of rfl rfl rfl rfl) (y_cons (y_vr 2) (y_cons (y_vr 3) y_nil)) (len_cons (len_cons len_nil))) (y_cons (y_frz (y_lst (y_cons y_str (y_cons (y_callB call_len cs_len z.n_len PyProof.Rows.Boot.«len» (y_cons (y_ix ix_seq os_ix (y_vr 3) y_int (fun _ _ => rfl)) y_nil)) y_nil)))) y_nil)) (len_cons (len_cons len_nil))))) (s_one (s_ret y_bl)) s_nil)
  (s_cons (s_if ((y_tor (y_tnot (y_truth (y_fn C__law_same (hr.mono (by first | decide | omega)) (takes_of rfl rfl rfl rfl) (y_cons (y_fn C__law_told (hr.mono (by first | decide | omega)) (takes_of rfl rfl rfl rfl) (y_cons (y_vr 2) (y_cons (y_tup (y_cons y_int (y_cons (y_tup y_nil) (y_cons (y_tup y_nil) y_nil)))) y_nil)) (len_cons (len_cons len_nil))) (y_cons (y_frz (y_lst (y_cons y_str (y_cons y_int y_nil)))) y_nil)) (len_cons (len_cons len_nil))))) (y_tor1 (y_tnot (y_truth (y_fn C__law_same (hr.mono (by first | decide | omega)) (takes_of rfl rfl rfl rfl) (y_cons (y_fn C__law_told (hr.mono (by first | decide | omega)) (takes_of rfl rfl rfl rfl) (y_cons (y_vr 2) (y_cons (y_fn C__law_bent_whole (hr.mono (by first | decide | omega)) (takes_of rfl rfl rfl rfl) (y_cons (y_vr 1) (y_cons (y_vr 3) y_nil)) (len_cons (len_cons len_nil))) y_nil)) (len_cons (len_cons len_nil))) (y_cons (y_frz (y_lst (y_cons y_str (y_cons (y_un un_neg us_neg y_int) (y_cons y_str y_nil))))) y_nil)) (len_cons (len_cons len_nil)))))))).pt (s_one (s_ret y_bl)) s_nil)
  (s_cons (s_for (passes_of rfl) rfl (y_rg1 z.n_range (y_cons y_int y_nil)) (g_name (ix := [4]) 4 sc_law.nd) (s_cons (s_set 5 sc_law.nd (y_fn C__law_machine (hr.mono (by first | decide | omega)) (takes_of rfl rfl rfl rfl) (y_cons (y_vr 1) (y_cons (y_vr 2) (y_cons y_int (y_cons y_int y_nil)))) (len_cons (len_cons (len_cons (len_cons len_nil))))))
  (s_cons (s_set 6 sc_law.nd (y_fn C__law_bent (hr.mono (by first | decide | omega)) (takes_of rfl rfl rfl rfl) (y_cons (y_vr 1) (y_cons (y_vr 2) (y_cons (y_vr 5) y_nil))) (len_cons (len_cons (len_cons len_nil)))))
  (s_cons (s_if (y_tnot (y_truth (y_fn C__law_same (hr.mono (by first | decide | omega)) (takes_of rfl rfl rfl rfl) (y_cons (y_fn C__law_told (hr.mono (by first | decide | omega)) (takes_of rfl rfl rfl rfl) (y_cons (y_vr 2) (y_cons (y_vr 6) y_nil)) (len_cons (len_cons len_nil))) (y_cons (y_fn C__law_due (hr.mono (by first | decide | omega)) (takes_of rfl rfl rfl rfl) (y_cons (y_vr 2) (y_cons (y_vr 6) y_nil)) (len_cons (len_cons len_nil))) y_nil)) (len_cons (len_cons len_nil))))) (s_one (s_ret y_bl)) s_nil)
  (s_one (s_if (y_tnot (y_truth (y_fn C__law_same (hr.mono (by first | decide | omega)) (takes_of rfl rfl rfl rfl) (y_cons (y_fn C__law_told (hr.mono (by first | decide | omega)) (takes_of rfl rfl rfl rfl) (y_cons (y_vr 2) (y_cons (y_vr 5) y_nil)) (len_cons (len_cons len_nil))) (y_cons (y_frz (y_lst (y_cons y_str (y_cons (y_callB call_len cs_len z.n_len PyProof.Rows.Boot.«len» (y_cons (y_ix ix_seq os_ix (y_vr 5) y_int (fun _ _ => rfl)) y_nil)) y_nil)))) y_nil)) (len_cons (len_cons len_nil))))) (s_one (s_ret y_bl)) s_nil))))))
  (s_cons (s_if ((y_tand (y_tcmp (op_eqD (hu64 hr)) os_eq (y_fn C__law_pick (hr.mono (by first | decide | omega)) (takes_of rfl rfl rfl rfl) (y_cons (y_vr 1) (y_cons y_int y_nil)) (len_cons (len_cons len_nil))) y_int) (y_tand1 (y_tnot (y_truth (y_fn C__law_wide (hr.mono (by first | decide | omega)) (takes_of rfl rfl rfl rfl) (y_cons (y_vr 1) (y_cons (y_vr 2) y_nil)) (len_cons (len_cons len_nil)))))))).pt (s_one (s_ret y_bl)) s_nil)
  (s_one (s_ret (y_fn C__law_same (hr.mono (by first | decide | omega)) (takes_of rfl rfl rfl rfl) (y_cons (y_fn C__law_told (hr.mono (by first | decide | omega)) (takes_of rfl rfl rfl rfl) (y_cons (y_vr 2) (y_cons (y_vr 3) y_nil)) (len_cons (len_cons len_nil))) (y_cons (y_frz (y_lst (y_cons y_str (y_cons (y_callB call_len cs_len z.n_len PyProof.Rows.Boot.«len» (y_cons (y_ix ix_seq os_ix (y_vr 3) y_int (fun _ _ => rfl)) y_nil)) y_nil)))) y_nil)) (len_cons (len_cons len_nil)))))))))))))
end
end Z

set_option Elab.async false
set_option linter.all false
set_option maxRecDepth 100000
set_option maxHeartbeats 4000000
set_option autoImplicit false
namespace Z
open PySem PySem.Spec L2 Y
/-! the pool -/
def GoodP (G : List Int) (m : Int) : Prop := (∀ g ∈ G, 0 ≤ g) ∧ 0 ≤ m ∧ m < 2147483399
abbrev PSt (G : List Int) (m : Int) (rest : Sto) : Sto := some (.lst (G.map D.int)) :: some (.lst [.ref 0, .int m]) :: rest
theorem mul_ok {a b : Int} (h0 : 0 ≤ a) (h1 : a < 2 ^ 62) : PySem.IntMulOk a b := (CMul.ok (i := a) (j := b) (.inl ⟨by omega, by omega⟩))
theorem trunc_P {G G' : List Int} {m m' : Int} {rest X : Sto} : trunc (PSt G m rest) (PSt G' m' rest ++ X) = PSt G' m' rest := by
  unfold trunc
  rw [if_pos]
  · simp
  · refine .inr fun i o hi h => ?_
    match i with
    | 0 =>
      simp at h; subst h
      refine .inr ?_
      show belL _ (G'.map D.int) = true
      induction G' with
      | nil => rfl
      | cons g G' ih => simpa [belL, D.bel] using ih
    | 1 =>
      simp at h; subst h
      refine .inr ?_
      show belL _ [D.ref 0, D.int m'] = true
      simp [belL, D.bel]
    | i + 2 =>
      left
      simp only [List.cons_append, List.getElem?_cons_succ] at h ⊢
      simp only [List.length_cons] at hi
      rwa [List.getElem?_append_left (by omega)] at h
theorem trunc_P0 {G G' : List Int} {m m' : Int} {rest : Sto} : trunc (PSt G m rest) (PSt G' m' rest) = PSt G' m' rest := by
  have := trunc_P (G := G) (G' := G') (m := m) (m' := m') (rest := rest) (X := [])
  simpa using this
theorem bnd_int {i : Int} {S : Sto} : toPS S (.int i) = some (.int i) := rfl
theorem eq_int {i j : Int} {S : Sto} : o_eq S (.int i) (.int j) = some (.bl (i == j)) := by
  simp [o_eq, toPS, toP, SeqAt.shaped, PyData.canLay0, PyData.depth, PyData.eqv]
theorem ix0 {ds : List D} {d : D} {n : Nat} {S : Sto} (h : S[n]? = some (some (.lst ds))) (h0 : ds[0]? = some d) : o_ix S (.ref n) (.int 0) = some d := by
  simp only [o_ix, h]
  exact atI_nat (j := 0) h0
theorem while_pick {many : Int} {m : Int} {rest : Sto} : ∀ (G : List Int), (∀ g ∈ G, 0 ≤ g) → ∃ n G', (∀ g ∈ G', 0 ≤ g) ∧ (∀ g r, G' = g :: r → g ≠ 0) ∧
    wloop (andT (trt (vr 2)) (asT (op2 o_eq (op2 o_ix (vr 2) (ct (.int 0))) (ct (.int 0))))) (exS (meth "list" m_popAt (vr 2) (lcons (ct (.int 0)) lnil))) n [some (.ref 1), some (.int many), some (.ref 0), none] (PSt G m rest) =
      .nx [some (.ref 1), some (.int many), some (.ref 0), none] (PSt G' m rest)
  | [], h => ⟨1, [], h, (fun g r e => by cases e), (by simp [wloop, andT, trt, vr, bd, lf, tru, bS])⟩
  | g :: G, h => by
    by_cases hg : g = 0
    · subst hg
      obtain ⟨n, G', h1, h2, h3⟩   := while_pick (many := many) (m := m) (rest := rest) G fun x hx => h x (List.mem_cons_of_mem _ hx)
      refine ⟨n + 1, G', h1, h2, ?_⟩
      rw [wloop]
      have e1 : o_ix (PSt (0 :: G) m rest) (.ref 0) (.int 0) = some (.int 0) := ix0 (ds := (0 :: G).map D.int) rfl rfl
      have e2 : m_popAt (PSt (0 :: G) m rest) (.ref 0) [.int 0] = some (.int 0, PSt G m rest) := by
        simp [m_popAt, chg, seqIndex?]
      simp [andT, trt, vr, bd, lf, tru, bS, asT, op2, ct, e1, eq_int, exS, meth, tyD, lcons, lnil, e2, h3]
    · refine ⟨1, g :: G, h, (fun g' r e => by cases e; exact hg), ?_⟩
      have e1 : o_ix (PSt (g :: G) m rest) (.ref 0) (.int 0) = some (.int g) := ix0 (ds := (g :: G).map D.int) rfl rfl
      have hb : (g == 0) = false := by simpa using hg
      simp [wloop, andT, trt, vr, bd, lf, tru, bS, asT, op2, ct, e1, eq_int, hb]
theorem pick_wp {G : List Int} {m many : Int} {rest : Sto} {Q : D → Sto → Prop} {E : Str → List (Str × D) → Sto → Prop} (hG : GoodP G m) (h0 : 0 < many) (h1 : many < 1073741824)
    (k : ∀ v G' m', GoodP G' m' → 0 ≤ v → v < many → Q (.int v) (PSt G' m' rest)) : wpM (M__law_pick [.ref 1, .int many] (PSt G m rest)) Q E := by
  unfold M__law_pick
  refine wpM_fn ?_
  unfold m__law_pick
  have e0 : o_ix (PSt G m rest) (.ref 1) (.int 0) = some (.ref 0) := ix0 (ds := [.ref 0, .int m]) rfl rfl
  simp only [wS_rai, wS_try, scope_bl, scope_int, scope_str, scope_non, wpM_ok, wpM_exc, trunc_same, and_self, if_true, if_false, Bool.false_eq_true, reduceIte, wS_setS, wS_seq, wS_if, wS_asg, wS_exS, wS_retS, wS_nxS, wS_nx, wS_ret, wpM_op2, wpM_op1, wpM_asT, wpM_trt, wpM_notT, wpM_andT, wpM_orT, wpM_andV, wpM_notE, wpM_ifE, wpM_lnil, wpM_lcons, wpM_tupE, wpM_lstF, wpM_frz, wpM_new, wpM_cal, wpM_calB, wpM_calF, wpM_isiE, wpM_vr, wpM_ct, wpM_meth, wpM_chn, wpM_cut, wpM_cutF, wpM_ono, wpM_osm, wpM_revT, wpM_lfE, wS_for, tgN, List.getElem?_cons_zero, List.getElem?_cons_succ, List.set_cons_zero, List.set_cons_succ, List.map_cons, List.map_nil, List.length_cons, List.length_nil, List.replicate_succ, List.replicate_zero, Nat.reduceAdd, Nat.reduceSub, List.cons_append, List.nil_append, e0]
  obtain ⟨n, G', g1, g2, g3⟩ := while_pick (many := many) (m := m) (rest := rest) G hG.1
  rw [whS_eq g3 (by intro h; cases h)]
  simp only [wS_nx]
  have hb : -(2 ^ 62) < (50021 : Int) ∧ (50021 : Int) < 2 ^ 62 := by decide
  obtain ⟨hg, hm0, hm1⟩ := hG
  cases G' with
  | nil =>
    have e1 : ∀ m : Int, o_ix (PSt [] m rest) (.ref 1) (.int 1) = some (.int m) := fun m => by
      simp only [o_ix, List.getElem?_cons_succ, List.getElem?_cons_zero]
      exact atI_nat (j := 1) rfl
    have e2 : ∀ x : Int, setAt (PSt [] m rest) (.ref 1) (.int 1) (.int x) = some (PSt [] x rest) := fun x => by
      simp [setAt, ixN]
    have e3 : IntMulOk m 50021 := mul_ok hm0 (by omega)
    simp only [wS_rai, wS_try, scope_bl, scope_int, scope_str, scope_non, wpM_ok, wpM_exc, trunc_same, and_self, if_true, if_false, Bool.false_eq_true, reduceIte, wS_setS, wS_seq, wS_if, wS_asg, wS_exS, wS_retS, wS_nxS, wS_nx, wS_ret, wpM_op2, wpM_op1, wpM_asT, wpM_trt, wpM_notT, wpM_andT, wpM_orT, wpM_andV, wpM_notE, wpM_ifE, wpM_lnil, wpM_lcons, wpM_tupE, wpM_lstF, wpM_frz, wpM_new, wpM_cal, wpM_calB, wpM_calF, wpM_isiE, wpM_vr, wpM_ct, wpM_meth, wpM_chn, wpM_cut, wpM_cutF, wpM_ono, wpM_osm, wpM_revT, wpM_lfE, wS_for, tgN, List.getElem?_cons_zero, List.getElem?_cons_succ, List.set_cons_zero, List.set_cons_succ, List.map_cons, List.map_nil, List.length_cons, List.length_nil, List.replicate_succ, List.replicate_zero, Nat.reduceAdd, Nat.reduceSub, List.cons_append, List.nil_append, tru, e1, o_mul, o_add, o_mod, o_fdiv, e3, if_true, List.isEmpty_nil, List.getElem?_cons_zero]
    simp only [show ((0 : Int) < 2147483399) from by decide, if_true, e2, e1, show ((0 : Int) < 1601) from by decide, show ((1601 : Int) < 1073741824) from by decide, h0, Bool.not_true, Bool.false_eq_true, if_false, wS_rai, wS_try, scope_bl, scope_int, scope_str, scope_non, wpM_ok, wpM_exc, trunc_same, and_self, if_true, if_false, Bool.false_eq_true, reduceIte, wS_setS, wS_seq, wS_if, wS_asg, wS_exS, wS_retS, wS_nxS, wS_nx, wS_ret, wpM_op2, wpM_op1, wpM_asT, wpM_trt, wpM_notT, wpM_andT, wpM_orT, wpM_andV, wpM_notE, wpM_ifE, wpM_lnil, wpM_lcons, wpM_tupE, wpM_lstF, wpM_frz, wpM_new, wpM_cal, wpM_calB, wpM_calF, wpM_isiE, wpM_vr, wpM_ct, wpM_meth, wpM_chn, wpM_cut, wpM_cutF, wpM_ono, wpM_osm, wpM_revT, wpM_lfE, wS_for, tgN, List.getElem?_cons_zero, List.getElem?_cons_succ, List.set_cons_zero, List.set_cons_succ, List.map_cons, List.map_nil, List.length_cons, List.length_nil, List.replicate_succ, List.replicate_zero, Nat.reduceAdd, Nat.reduceSub, List.cons_append, List.nil_append]
    rw [trunc_P0]
    refine k _ _ _ ⟨(fun g hg => by cases hg), Int.emod_nonneg _ (by decide), Int.emod_lt_of_pos _ (by decide)⟩ (Int.emod_nonneg _ (by omega)) (Int.emod_lt_of_pos _ h0)
  | cons g r =>
    have e1 : o_ix (PSt (g :: r) m rest) (.ref 0) (.int 0) = some (.int g) := ix0 (ds := (g :: r).map D.int) rfl rfl
    have e2 : ∀ x : Int, setAt (PSt (g :: r) m rest) (.ref 0) (.int 0) (.int x) = some (PSt (x :: r) m rest) := fun x => by
      simp [setAt, ixN]
    simp only [wS_rai, wS_try, scope_bl, scope_int, scope_str, scope_non, wpM_ok, wpM_exc, trunc_same, and_self, if_true, if_false, Bool.false_eq_true, reduceIte, wS_setS, wS_seq, wS_if, wS_asg, wS_exS, wS_retS, wS_nxS, wS_nx, wS_ret, wpM_op2, wpM_op1, wpM_asT, wpM_trt, wpM_notT, wpM_andT, wpM_orT, wpM_andV, wpM_notE, wpM_ifE, wpM_lnil, wpM_lcons, wpM_tupE, wpM_lstF, wpM_frz, wpM_new, wpM_cal, wpM_calB, wpM_calF, wpM_isiE, wpM_vr, wpM_ct, wpM_meth, wpM_chn, wpM_cut, wpM_cutF, wpM_ono, wpM_osm, wpM_revT, wpM_lfE, wS_for, tgN, List.getElem?_cons_zero, List.getElem?_cons_succ, List.set_cons_zero, List.set_cons_succ, List.map_cons, List.map_nil, List.length_cons, List.length_nil, List.replicate_succ, List.replicate_zero, Nat.reduceAdd, Nat.reduceSub, List.cons_append, List.nil_append, tru, List.map_cons, List.isEmpty_cons, e1, o_int, o_fdiv, h0, h1, and_self, if_true, e2, o_mod, Bool.not_false, List.getElem?_cons_zero]
    rw [trunc_P0]
    have hg0 := g1 g List.mem_cons_self
    refine k _ _ _ ⟨fun x hx => ?_, hm0, hm1⟩ (Int.emod_nonneg _ (by omega)) (Int.emod_lt_of_pos _ h0)
    rcases List.mem_cons.mp hx with e | hx
    · rw [e]; exact Int.ediv_nonneg hg0 (by omega)
    · exact g1 x (List.mem_cons_of_mem _ hx)
end Z

set_option Elab.async false
set_option linter.all false
set_option maxRecDepth 100000
set_option maxHeartbeats 4000000
set_option autoImplicit false
namespace Z
open PySem PySem.Spec L2 Y
section
variable {S : Sto} {n : Nat} {ds : List D} {y : D} {G : List Int} {m : Int} {rest X : Sto}
theorem tyL (h : S[n]? = some (some (.lst ds))) : tyD "list" S (.ref n) = true := by simp [tyD, h]
theorem app_at (h : S[n]? = some (some (.lst ds))) (hl : ds.length < sizeLine) : m_append S (.ref n) [y] = some (.non, S.set n (some (.lst (ds ++ [y])))) := by
  simp [m_append, chg, h, hl]
theorem pop_at {i : Int} {j : Nat} (h : S[n]? = some (some (.lst ds))) (hi : i = (j : Int)) (hj : j < ds.length) (hs : ds.length ≤ 1000) : m_popAt S (.ref n) [.int i] = some (ds[j], S.set n (some (.lst (ds.eraseIdx j)))) := by
  subst hi
  have e : seqIndex? (j : Int) ds.length = some j := (by have := seqIndex_of (k := (j : Int)) (n := ds.length) (by omega) (by omega); simpa using this)
  simp only [m_popAt, chg, h]
  rw [if_pos (by omega)]
  simp [e, List.getElem?_eq_getElem hj]
theorem len_at (h : S[n]? = some (some (.lst ds))) : o_len S [.ref n] = some (.int ds.length) := by simp [o_len, seqOf, h]
theorem getX {j : Nat} : (PSt G m (rest ++ X))[rest.length + 2 + j]? = X[j]? := by
  rw [show rest.length + 2 + j = (rest.length + j) + 1 + 1 by omega]
  simp only [List.getElem?_cons_succ]
  rw [List.getElem?_append_right (by omega)]
  congr 1; omega
theorem get0 {a : Option Ob} : (PSt G m (rest ++ (a :: X)))[rest.length + 2 + 0]? = some a := by rw [getX]; rfl
theorem get1 {a b : Option Ob} : (PSt G m (rest ++ (a :: b :: X)))[rest.length + 2 + 1]? = some b := by rw [getX]; rfl
theorem setX {j : Nat} {o : Option Ob} : (PSt G m (rest ++ X)).set (rest.length + 2 + j) o = PSt G m (rest ++ X.set j o) := by
  rw [show rest.length + 2 + j = (rest.length + j) + 1 + 1 by omega]
  simp only [List.set_cons_succ]
  rw [List.set_append_right _ _ (by omega), show rest.length + j - rest.length = j by omega]
theorem lenX : (PSt G m (rest ++ X)).length = rest.length + 2 + X.length := by simp; omega
theorem appX {o : Option Ob} : PSt G m (rest ++ X) ++ [o] = PSt G m (rest ++ (X ++ [o])) := by simp
theorem pureL_mem : ∀ {ds : List D}, (∀ d ∈ ds, d.pure = true) → pureL ds = true
  | [], _ => rfl
  | d :: ds, h => by
    show (d.pure && pureL ds) = true
    rw [h d List.mem_cons_self, pureL_mem fun x hx => h x (List.mem_cons_of_mem _ hx)]; rfl
theorem mem_pure : ∀ {ds : List D}, pureL ds = true → ∀ d ∈ ds, d.pure = true
  | [], _, d, h => by cases h
  | x :: ds, h, d, hd => by
    have h' : (x.pure && pureL ds) = true := h
    obtain ⟨h1, h2⟩ := Bool.and_eq_true_iff.mp h'
    rcases List.mem_cons.mp hd with e | hd
    · rw [e]; exact h1
    · exact mem_pure h2 d hd
theorem rgL_get {n j : Nat} {d : D} (h : (rgL 0 (n : Int))[j]? = some d) : d = .int j ∧ j < n := by
  unfold rgL at h
  rw [List.getElem?_map] at h
  cases e : (List.range ((n : Int) - 0).toNat)[j]? with
  | none => rw [e] at h; cases h
  | some z =>
    rw [e] at h
    obtain ⟨h1, h2⟩ := List.getElem?_eq_some_iff.mp e
    simp at h1 h2
    subst h2
    cases h
    exact ⟨by simp, by omega⟩
theorem rgL_len {n : Nat} : (rgL 0 (n : Int)).length = n := by simp [rgL]
end
theorem trunc_X {G G' : List Int} {m m' : Int} {rest X : Sto} : trunc (PSt G m rest) (PSt G' m' (rest ++ X)) = PSt G' m' rest := by
  have := trunc_P (G := G) (G' := G') (m := m) (m' := m') (rest := rest) (X := X)
  simpa using this
theorem mixed_wp {G : List Int} {m : Int} {rest : Sto} {ds : List D} {Q : D → Sto → Prop} {E : Str → List (Str × D) → Sto → Prop} (hG : GoodP G m) (hp : pureL ds = true) (hn : ds.length ≤ 1000)
    (k : ∀ out G' m', GoodP G' m' → out.length = ds.length → (∀ d ∈ out, d ∈ ds) → Q (.lst out) (PSt G' m' rest)) : wpM (M__law_mixed [.ref 1, .lst ds] (PSt G m rest)) Q E := by
  have hsl := sizeLine_eq
  unfold M__law_mixed
  refine wpM_fn ?_
  unfold m__law_mixed
  rw [show PSt G m rest = PSt G m (rest ++ []) by simp]
  simp only [wS_rai, wS_try, scope_bl, scope_int, scope_str, scope_non, wpM_ok, wpM_exc, trunc_same, and_self, if_true, if_false, Bool.false_eq_true, reduceIte, wS_setS, wS_seq, wS_if, wS_asg, wS_exS, wS_retS, wS_nxS, wS_nx, wS_ret, wpM_op2, wpM_op1, wpM_asT, wpM_trt, wpM_notT, wpM_andT, wpM_orT, wpM_andV, wpM_notE, wpM_ifE, wpM_lnil, wpM_lcons, wpM_tupE, wpM_lstF, wpM_frz, wpM_new, wpM_cal, wpM_calB, wpM_calF, wpM_isiE, wpM_vr, wpM_ct, wpM_meth, wpM_chn, wpM_cut, wpM_cutF, wpM_ono, wpM_osm, wpM_revT, wpM_lfE, wS_for, tgN, List.getElem?_cons_zero, List.getElem?_cons_succ, List.set_cons_zero, List.set_cons_succ, List.map_cons, List.map_nil, List.length_cons, List.length_nil, List.replicate_succ, List.replicate_zero, Nat.reduceAdd, Nat.reduceSub, List.cons_append, List.nil_append, o_listA, seqOf, lenX, appX]
  rw [if_pos (by omega)]
  simp only [wS_rai, wS_try, scope_bl, scope_int, scope_str, scope_non, wpM_ok, wpM_exc, trunc_same, and_self, if_true, if_false, Bool.false_eq_true, reduceIte, wS_setS, wS_seq, wS_if, wS_asg, wS_exS, wS_retS, wS_nxS, wS_nx, wS_ret, wpM_op2, wpM_op1, wpM_asT, wpM_trt, wpM_notT, wpM_andT, wpM_orT, wpM_andV, wpM_notE, wpM_ifE, wpM_lnil, wpM_lcons, wpM_tupE, wpM_lstF, wpM_frz, wpM_new, wpM_cal, wpM_calB, wpM_calF, wpM_isiE, wpM_vr, wpM_ct, wpM_meth, wpM_chn, wpM_cut, wpM_cutF, wpM_ono, wpM_osm, wpM_revT, wpM_lfE, wS_for, tgN, List.getElem?_cons_zero, List.getElem?_cons_succ, List.set_cons_zero, List.set_cons_succ, List.map_cons, List.map_nil, List.length_cons, List.length_nil, List.replicate_succ, List.replicate_zero, Nat.reduceAdd, Nat.reduceSub, List.cons_append, List.nil_append, i_rg1, wpM_bdE, o_len, seqOf, Option.map_some]
  rw [if_pos (by omega)]
  simp only [wS_rai, wS_try, scope_bl, scope_int, scope_str, scope_non, wpM_ok, wpM_exc, trunc_same, and_self, if_true, if_false, Bool.false_eq_true, reduceIte, wS_setS, wS_seq, wS_if, wS_asg, wS_exS, wS_retS, wS_nxS, wS_nx, wS_ret, wpM_op2, wpM_op1, wpM_asT, wpM_trt, wpM_notT, wpM_andT, wpM_orT, wpM_andV, wpM_notE, wpM_ifE, wpM_lnil, wpM_lcons, wpM_tupE, wpM_lstF, wpM_frz, wpM_new, wpM_cal, wpM_calB, wpM_calF, wpM_isiE, wpM_vr, wpM_ct, wpM_meth, wpM_chn, wpM_cut, wpM_cutF, wpM_ono, wpM_osm, wpM_revT, wpM_lfE, wS_for, tgN, List.getElem?_cons_zero, List.getElem?_cons_succ, List.set_cons_zero, List.set_cons_succ, List.map_cons, List.map_nil, List.length_cons, List.length_nil, List.replicate_succ, List.replicate_zero, Nat.reduceAdd, Nat.reduceSub, List.cons_append, List.nil_append, wpM_ok]
  refine wS_loop (fun i env S => ∃ t G' m' left out, env = [some (.ref 1), some (.lst ds), some (.ref (rest.length + 2 + 0)), some (.ref (rest.length + 2 + 1)), t] ∧ S = PSt G' m' (rest ++ [some (.lst left), some (.lst out)]) ∧ GoodP G' m' ∧
    left.length + i = ds.length ∧ out.length = i ∧ (∀ d ∈ left, d ∈ ds) ∧ ∀ d ∈ out, d ∈ ds) _ 0 _ _ ⟨none, G, m, ds, [], by simp, by simp, hG, rfl, rfl, fun d h => h, fun d h => by cases h⟩ ?_ ?_
  · rintro j d env S hj ⟨t, G', m', left, out, rfl, rfl, hG', hl, ho, h1, h2⟩
    obtain ⟨rfl, hjn⟩ := rgL_get hj
    refine ⟨okSrc_nil, _, rfl, ?_⟩
    have gl : (PSt G' m' (rest ++ [some (.lst left), some (.lst out)]))[rest.length + 2 + 0]? = some (some (.lst left)) := get0
    have go : (PSt G' m' (rest ++ [some (.lst left), some (.lst out)]))[rest.length + 2 + 1]? = some (some (.lst out)) := get1
    simp only [wS_rai, wS_try, scope_bl, scope_int, scope_str, scope_non, wpM_ok, wpM_exc, trunc_same, and_self, if_true, if_false, Bool.false_eq_true, reduceIte, wS_setS, wS_seq, wS_if, wS_asg, wS_exS, wS_retS, wS_nxS, wS_nx, wS_ret, wpM_op2, wpM_op1, wpM_asT, wpM_trt, wpM_notT, wpM_andT, wpM_orT, wpM_andV, wpM_notE, wpM_ifE, wpM_lnil, wpM_lcons, wpM_tupE, wpM_lstF, wpM_frz, wpM_new, wpM_cal, wpM_calB, wpM_calF, wpM_isiE, wpM_vr, wpM_ct, wpM_meth, wpM_chn, wpM_cut, wpM_cutF, wpM_ono, wpM_osm, wpM_revT, wpM_lfE, wS_for, tgN, List.getElem?_cons_zero, List.getElem?_cons_succ, List.set_cons_zero, List.set_cons_succ, List.map_cons, List.map_nil, List.length_cons, List.length_nil, List.replicate_succ, List.replicate_zero, Nat.reduceAdd, Nat.reduceSub, List.cons_append, List.nil_append]
    rw [if_pos (tyL go), if_pos (tyL gl), len_at gl]
    dsimp only
    have a0 : (0 : Int) < (left.length : Int) := by omega
    have a1 : (left.length : Int) < 1073741824 := by omega
    refine pick_wp hG' a0 a1 ?_
    intro v G2 m2 hG2 v0 v1
    obtain ⟨i, hvi⟩ := Int.eq_ofNat_of_zero_le v0
    have gl2 : (PSt G2 m2 (rest ++ [some (.lst left), some (.lst out)]))[rest.length + 2 + 0]? = some (some (.lst left)) := get0
    have hi : i < left.length := by omega
    rw [pop_at gl2 hvi hi (by omega), setX]
    simp only [wS_rai, wS_try, scope_bl, scope_int, scope_str, scope_non, wpM_ok, wpM_exc, trunc_same, and_self, if_true, if_false, Bool.false_eq_true, reduceIte, wS_setS, wS_seq, wS_if, wS_asg, wS_exS, wS_retS, wS_nxS, wS_nx, wS_ret, wpM_op2, wpM_op1, wpM_asT, wpM_trt, wpM_notT, wpM_andT, wpM_orT, wpM_andV, wpM_notE, wpM_ifE, wpM_lnil, wpM_lcons, wpM_tupE, wpM_lstF, wpM_frz, wpM_new, wpM_cal, wpM_calB, wpM_calF, wpM_isiE, wpM_vr, wpM_ct, wpM_meth, wpM_chn, wpM_cut, wpM_cutF, wpM_ono, wpM_osm, wpM_revT, wpM_lfE, wS_for, tgN, List.getElem?_cons_zero, List.getElem?_cons_succ, List.set_cons_zero, List.set_cons_succ, List.map_cons, List.map_nil, List.length_cons, List.length_nil, List.replicate_succ, List.replicate_zero, Nat.reduceAdd, Nat.reduceSub, List.cons_append, List.nil_append]
    have go2 : (PSt G2 m2 (rest ++ [some (.lst (left.eraseIdx i)), some (.lst out)]))[rest.length + 2 + 1]? = some (some (.lst out)) := get1
    rw [app_at go2 (by omega), setX]
    simp only [wS_rai, wS_try, scope_bl, scope_int, scope_str, scope_non, wpM_ok, wpM_exc, trunc_same, and_self, if_true, if_false, Bool.false_eq_true, reduceIte, wS_setS, wS_seq, wS_if, wS_asg, wS_exS, wS_retS, wS_nxS, wS_nx, wS_ret, wpM_op2, wpM_op1, wpM_asT, wpM_trt, wpM_notT, wpM_andT, wpM_orT, wpM_andV, wpM_notE, wpM_ifE, wpM_lnil, wpM_lcons, wpM_tupE, wpM_lstF, wpM_frz, wpM_new, wpM_cal, wpM_calB, wpM_calF, wpM_isiE, wpM_vr, wpM_ct, wpM_meth, wpM_chn, wpM_cut, wpM_cutF, wpM_ono, wpM_osm, wpM_revT, wpM_lfE, wS_for, tgN, List.getElem?_cons_zero, List.getElem?_cons_succ, List.set_cons_zero, List.set_cons_succ, List.map_cons, List.map_nil, List.length_cons, List.length_nil, List.replicate_succ, List.replicate_zero, Nat.reduceAdd, Nat.reduceSub, List.cons_append, List.nil_append]
    refine ⟨_, G2, m2, _, _, rfl, rfl, hG2, ?_, ?_, fun d hd => h1 d (List.mem_of_mem_eraseIdx hd), fun d hd => ?_⟩
    · rw [List.length_eraseIdx_of_lt hi]; omega
    · simp [ho]
    · rcases List.mem_append.mp hd with hd | hd
      · exact h2 d hd
      · rw [List.mem_singleton.mp hd]; exact h1 _ (List.getElem_mem hi)
  · rintro env S ⟨t, G', m', left, out, rfl, rfl, hG', hl, ho, h1, h2⟩
    refine ⟨okSrc_nil, ?_⟩
    rw [rgL_len] at hl ho
    have go : (PSt G' m' (rest ++ [some (.lst left), some (.lst out)]))[rest.length + 2 + 1]? = some (some (.lst out)) := get1
    simp only [wS_rai, wS_try, scope_bl, scope_int, scope_str, scope_non, wpM_ok, wpM_exc, trunc_same, and_self, if_true, if_false, Bool.false_eq_true, reduceIte, wS_setS, wS_seq, wS_if, wS_asg, wS_exS, wS_retS, wS_nxS, wS_nx, wS_ret, wpM_op2, wpM_op1, wpM_asT, wpM_trt, wpM_notT, wpM_andT, wpM_orT, wpM_andV, wpM_notE, wpM_ifE, wpM_lnil, wpM_lcons, wpM_tupE, wpM_lstF, wpM_frz, wpM_new, wpM_cal, wpM_calB, wpM_calF, wpM_isiE, wpM_vr, wpM_ct, wpM_meth, wpM_chn, wpM_cut, wpM_cutF, wpM_ono, wpM_osm, wpM_revT, wpM_lfE, wS_for, tgN, List.getElem?_cons_zero, List.getElem?_cons_succ, List.set_cons_zero, List.set_cons_succ, List.map_cons, List.map_nil, List.length_cons, List.length_nil, List.replicate_succ, List.replicate_zero, Nat.reduceAdd, Nat.reduceSub, List.cons_append, List.nil_append]
    rw [scope_ref (by simp) go (pureL_mem fun d hd => mem_pure hp d (h2 d hd)), wpM_ok, setX, List.append_nil, trunc_X]
    exact k out G' m' hG' (by omega) h2
end Z

set_option Elab.async false
set_option linter.all false
set_option maxRecDepth 100000
set_option maxHeartbeats 4000000
set_option autoImplicit false
namespace Z
open PySem PySem.Spec L2 Y PySem.W
/-- 1 to 6 letters -/
def LOk (z : Str) : Prop := 1 ≤ z.cps.size ∧ z.cps.size ≤ 6 ∧ ∀ c ∈ z.cps.toList, c < 1114112
theorem sgns_mem {z : Str} {d : D} (h : d ∈ sgns z) : ∃ c, c ∈ z.cps.toList ∧ d = .str ⟨#[c]⟩ := by
  unfold sgns at h
  obtain ⟨c, h1, h2⟩ := List.mem_map.mp h
  exact ⟨c, h1, h2.symm⟩
theorem sgns_pure {z : Str} : pureL (sgns z) = true := pureL_mem fun d hd => by
  obtain ⟨c, _, rfl⟩ := sgns_mem hd
  rfl
theorem sorted_ok {S : Sto} {ds : List D} {ps : List PyData} (hp : toPL ds = some ps) (h1 : AllAlike ps) (h2 : Sortable ps) (h3 : ∀ p ∈ ps, p.depth ≤ 64) : o_sorted S [.lst ds] = some (ds.mergeSort leD) := by
  simp only [o_sorted, lstOf, Option.bind_some, hp]
  rw [if_pos ⟨h1, h2, h3⟩]
theorem toPL_strs : ∀ ys : List Str, toPL (ys.map D.str) = some (ys.map PyData.str)
  | [] => rfl
  | y :: ys => by
    show (toP (.str y)).bind (fun p => (toPL (ys.map D.str)).map fun ps => p :: ps) = _
    rw [toPL_strs ys]; rfl
theorem strs_of_mem : ∀ {ds : List D}, (∀ d ∈ ds, ∃ c, d = .str ⟨#[c]⟩) → ∃ ys : List Str, ds = ys.map D.str ∧ ∀ y ∈ ys, y.length = 1
  | [], _ => ⟨[], rfl, fun y hy => by cases hy⟩
  | d :: ds, h => by
    obtain ⟨c, rfl⟩ := h d List.mem_cons_self
    obtain ⟨ys, e, hy⟩ := strs_of_mem fun x hx => h x (List.mem_cons_of_mem _ hx)
    refine ⟨⟨#[c]⟩ :: ys, by rw [e]; rfl, fun y hy' => ?_⟩
    rcases List.mem_cons.mp hy' with z | z
    · rw [z]; rfl
    · exact hy y z
theorem strsOf_strs : ∀ ys : List Str, strsOf (ys.map D.str) = some ys
  | [] => rfl
  | y :: ys => by
    show (strsOf (ys.map D.str)).map (fun l => y :: l) = _
    rw [strsOf_strs ys]; rfl
theorem sum_ones : ∀ {ys : List Str}, (∀ y ∈ ys, y.length = 1) → (ys.map (·.length)).sum = ys.length
  | [], _ => rfl
  | y :: ys, h => by
    rw [List.map_cons, List.sum_cons, h y List.mem_cons_self, sum_ones fun x hx => h x (List.mem_cons_of_mem _ hx), List.length_cons]; omega
theorem join_ones : ∀ {ys : List Str}, (∀ y ∈ ys, y.length = 1) → (Txt.join (Str.ofString "") ys).length = ys.length := fun {ys} h => by
  show (Builtin.Str.glued (Str.ofString "") ys).length = _
  rw [StrLaws.glued_eq_join]
  induction ys with
  | nil => rfl
  | cons x ys ih =>
    cases ys with
    | nil => exact h x List.mem_cons_self
    | cons y r =>
      show (x ++ Str.ofString "" ++ Str.join (Str.ofString "") (y :: r)).length = _
      rw [Str.length_append, Str.length_append, ih fun z hz => h z (List.mem_cons_of_mem _ hz), h x List.mem_cons_self]
      show 1 + 0 + _ = _
      simp only [List.length_cons]; omega
theorem join_mem0 : ∀ (ys : List Str) (c : Nat), c ∈ (Str.join (Str.ofString "") ys).cps.toList → ∃ y ∈ ys, c ∈ y.cps.toList
  | [], c, h => by cases h
  | [x], c, h => ⟨x, List.mem_cons_self, h⟩
  | x :: y :: r, c, h => by
    have h : c ∈ ((x.cps ++ (Str.ofString "").cps) ++ (Str.join (Str.ofString "") (y :: r)).cps).toList := h
    rw [Array.toList_append, Array.toList_append] at h
    rcases List.mem_append.mp h with h | h
    · rcases List.mem_append.mp h with h | h
      · exact ⟨x, List.mem_cons_self, h⟩
      · have e : (Str.ofString "").cps.toList = [] := by decide +kernel
        rw [e] at h; cases h
    · obtain ⟨z, h1, h2⟩ := join_mem0 (y :: r) c h
      exact ⟨z, List.mem_cons_of_mem _ h1, h2⟩
theorem join_mem {ys : List Str} {c : Nat} (h : c ∈ (Txt.join (Str.ofString "") ys).cps.toList) : ∃ y ∈ ys, c ∈ y.cps.toList := by
  have h : c ∈ (Builtin.Str.glued (Str.ofString "") ys).cps.toList := h
  rw [StrLaws.glued_eq_join] at h
  exact join_mem0 ys c h
theorem listA_str {S : Sto} {z : Str} (h : z.cps.size ≤ sizeLine) : o_listA S [.str z] = some (sgns z) := by
  simp only [o_listA]
  rw [if_pos h]
theorem sgns_len {z : Str} : (sgns z).length = z.cps.size := by unfold sgns; rw [List.length_map, Array.length_toList]
theorem letters_wp {G : List Int} {m : Int} {rest : Sto} {Q : D → Sto → Prop} {E : Str → List (Str × D) → Sto → Prop} (hG : GoodP G m)
    (k : ∀ z G' m', GoodP G' m' → LOk z → Q (.str z) (PSt G' m' rest)) : wpM (M__law_letters [.ref 1, .int 6] (PSt G m rest)) Q E := by
  have hsl := sizeLine_eq
  unfold M__law_letters
  refine wpM_fn ?_
  unfold m__law_letters
  simp only [wS_rai, wS_try, scope_bl, scope_int, scope_str, scope_non, wpM_ok, wpM_exc, trunc_same, and_self, if_true, if_false, Bool.false_eq_true, reduceIte, wS_setS, wS_seq, wS_if, wS_asg, wS_exS, wS_retS, wS_nxS, wS_nx, wS_ret, wpM_op2, wpM_op1, wpM_asT, wpM_trt, wpM_notT, wpM_andT, wpM_orT, wpM_andV, wpM_notE, wpM_ifE, wpM_lnil, wpM_lcons, wpM_tupE, wpM_lstF, wpM_frz, wpM_new, wpM_cal, wpM_calB, wpM_calF, wpM_isiE, wpM_vr, wpM_ct, wpM_meth, wpM_chn, wpM_cut, wpM_cutF, wpM_ono, wpM_osm, wpM_revT, wpM_lfE, wS_for, tgN, List.getElem?_cons_zero, List.getElem?_cons_succ, List.set_cons_zero, List.set_cons_succ, List.map_cons, List.map_nil, List.length_cons, List.length_nil, List.replicate_succ, List.replicate_zero, Nat.reduceAdd, Nat.reduceSub, List.cons_append, List.nil_append]
  refine pick_wp hG (by decide) (by decide) ?_
  intro v G1 m1 hG1 v0 v1
  obtain ⟨i, hvi⟩ := Int.eq_ofNat_of_zero_le v0
  have hz : (Str.ofString "abcdefghijklmnopqrstuvwxyz").cps.size = 26 := by decide +kernel
  have hv : ∀ c ∈ (Str.ofString "abcdefghijklmnopqrstuvwxyz").cps.toList, c < 1114112 := by decide +kernel
  generalize Str.ofString "abcdefghijklmnopqrstuvwxyz" = az at hz hv ⊢
  have hs : (sgns az).length = 26 := by rw [sgns_len, hz]
  have h26 : 26 ≤ sizeLine := by omega
  simp only [wS_rai, wS_try, scope_bl, scope_int, scope_str, scope_non, wpM_ok, wpM_exc, trunc_same, and_self, if_true, if_false, Bool.false_eq_true, reduceIte, wS_setS, wS_seq, wS_if, wS_asg, wS_exS, wS_retS, wS_nxS, wS_nx, wS_ret, wpM_op2, wpM_op1, wpM_asT, wpM_trt, wpM_notT, wpM_andT, wpM_orT, wpM_andV, wpM_notE, wpM_ifE, wpM_lnil, wpM_lcons, wpM_tupE, wpM_lstF, wpM_frz, wpM_new, wpM_cal, wpM_calB, wpM_calF, wpM_isiE, wpM_vr, wpM_ct, wpM_meth, wpM_chn, wpM_cut, wpM_cutF, wpM_ono, wpM_osm, wpM_revT, wpM_lfE, wS_for, tgN, List.getElem?_cons_zero, List.getElem?_cons_succ, List.set_cons_zero, List.set_cons_succ, List.map_cons, List.map_nil, List.length_cons, List.length_nil, List.replicate_succ, List.replicate_zero, Nat.reduceAdd, Nat.reduceSub, List.cons_append, List.nil_append, o_add]
  rw [if_pos (show tyD "str" _ _ = true from rfl), listA_str (by omega)]
  dsimp only
  have hn : (sgns az).length ≤ 1000 := by omega
  refine mixed_wp hG1 sgns_pure hn ?_
  intro out G2 m2 hG2 hl hmem
  rw [hs] at hl
  have hcut : cutL out none (some (1 + v)) = out.take (1 + i) := by
    unfold cutL
    rw [HT.sIx_none, show (1 + v) = ((1 + i : Nat) : Int) by omega, HT.sIx_nat, Nat.min_eq_left (by omega)]
    simp
  simp only [wS_rai, wS_try, scope_bl, scope_int, scope_str, scope_non, wpM_ok, wpM_exc, trunc_same, and_self, if_true, if_false, Bool.false_eq_true, reduceIte, wS_setS, wS_seq, wS_if, wS_asg, wS_exS, wS_retS, wS_nxS, wS_nx, wS_ret, wpM_op2, wpM_op1, wpM_asT, wpM_trt, wpM_notT, wpM_andT, wpM_orT, wpM_andV, wpM_notE, wpM_ifE, wpM_lnil, wpM_lcons, wpM_tupE, wpM_lstF, wpM_frz, wpM_new, wpM_cal, wpM_calB, wpM_calF, wpM_isiE, wpM_vr, wpM_ct, wpM_meth, wpM_chn, wpM_cut, wpM_cutF, wpM_ono, wpM_osm, wpM_revT, wpM_lfE, wS_for, tgN, List.getElem?_cons_zero, List.getElem?_cons_succ, List.set_cons_zero, List.set_cons_succ, List.map_cons, List.map_nil, List.length_cons, List.length_nil, List.replicate_succ, List.replicate_zero, Nat.reduceAdd, Nat.reduceSub, List.cons_append, List.nil_append, lstOf, Option.map_some, hcut]
  obtain ⟨ys, hy, hy1⟩ := strs_of_mem (ds := out.take (1 + i)) fun d hd => by
    obtain ⟨c, _, e⟩ := sgns_mem (hmem d (List.mem_of_mem_take hd))
    exact ⟨c, e⟩
  have hyl : ys.length = 1 + i := by
    have := congrArg List.length hy
    rw [List.length_take, List.length_map] at this
    omega
  have hps : toPL (out.take (1 + i)) = some (ys.map PyData.str) := by rw [hy, toPL_strs]
  rw [sorted_ok hps (AllAlike.of (enc := PyData.str) fun a b => by simp [alike]) (Sortable.others (enc := PyData.str) fun b => ⟨by simp, fun xs => by simp⟩) (fun p hp => by
    obtain ⟨y, _, rfl⟩ := List.mem_map.mp hp
    simp [PyData.depth])]
  simp only [wS_rai, wS_try, scope_bl, scope_int, scope_str, scope_non, wpM_ok, wpM_exc, trunc_same, and_self, if_true, if_false, Bool.false_eq_true, reduceIte, wS_setS, wS_seq, wS_if, wS_asg, wS_exS, wS_retS, wS_nxS, wS_nx, wS_ret, wpM_op2, wpM_op1, wpM_asT, wpM_trt, wpM_notT, wpM_andT, wpM_orT, wpM_andV, wpM_notE, wpM_ifE, wpM_lnil, wpM_lcons, wpM_tupE, wpM_lstF, wpM_frz, wpM_new, wpM_cal, wpM_calB, wpM_calF, wpM_isiE, wpM_vr, wpM_ct, wpM_meth, wpM_chn, wpM_cut, wpM_cutF, wpM_ono, wpM_osm, wpM_revT, wpM_lfE, wS_for, tgN, List.getElem?_cons_zero, List.getElem?_cons_succ, List.set_cons_zero, List.set_cons_succ, List.map_cons, List.map_nil, List.length_cons, List.length_nil, List.replicate_succ, List.replicate_zero, Nat.reduceAdd, Nat.reduceSub, List.cons_append, List.nil_append]
  obtain ⟨zs, hz1, hz2⟩ := strs_of_mem (ds := (out.take (1 + i)).mergeSort leD) fun d hd => by
    have hd := List.mem_mergeSort.mp hd
    obtain ⟨c, _, e⟩ := sgns_mem (hmem d (List.mem_of_mem_take hd))
    exact ⟨c, e⟩
  have hzl : zs.length = 1 + i := by
    have := congrArg List.length hz1
    rw [List.length_mergeSort, List.length_take, List.length_map] at this
    omega
  simp only [m_join, seqOf, Option.bind_some, hz1, strsOf_strs, sum_ones hz2]
  rw [if_pos (by
    show zs.length + zs.length * 0 ≤ 16777216
    omega)]
  simp only [wS_rai, wS_try, scope_bl, scope_int, scope_str, scope_non, wpM_ok, wpM_exc, trunc_same, and_self, if_true, if_false, Bool.false_eq_true, reduceIte, wS_setS, wS_seq, wS_if, wS_asg, wS_exS, wS_retS, wS_nxS, wS_nx, wS_ret, wpM_op2, wpM_op1, wpM_asT, wpM_trt, wpM_notT, wpM_andT, wpM_orT, wpM_andV, wpM_notE, wpM_ifE, wpM_lnil, wpM_lcons, wpM_tupE, wpM_lstF, wpM_frz, wpM_new, wpM_cal, wpM_calB, wpM_calF, wpM_isiE, wpM_vr, wpM_ct, wpM_meth, wpM_chn, wpM_cut, wpM_cutF, wpM_ono, wpM_osm, wpM_revT, wpM_lfE, wS_for, tgN, List.getElem?_cons_zero, List.getElem?_cons_succ, List.set_cons_zero, List.set_cons_succ, List.map_cons, List.map_nil, List.length_cons, List.length_nil, List.replicate_succ, List.replicate_zero, Nat.reduceAdd, Nat.reduceSub, List.cons_append, List.nil_append]
  rw [trunc_P0]
  have hj := join_ones hz2
  exact k _ G2 m2 hG2 ⟨by show 1 ≤ (Txt.join _ zs).length; omega, by show (Txt.join _ zs).length ≤ 6; omega, fun c hc => by
    obtain ⟨y, y1, y2⟩ := join_mem hc
    have hm : D.str y ∈ (out.take (1 + i)).mergeSort leD := by rw [hz1]; exact List.mem_map_of_mem y1
    obtain ⟨c', q1, q2⟩ := sgns_mem (hmem _ (List.mem_of_mem_take (List.mem_mergeSort.mp hm)))
    cases q2
    have : c = c' := by simpa using y2
    rw [this]; exact hv c' q1⟩
end Z

set_option Elab.async false
set_option linter.all false
set_option maxRecDepth 100000
set_option maxHeartbeats 4000000
set_option autoImplicit false
namespace Z
open PySem PySem.Spec L2 Y PySem.W
theorem st_NoneType_bool : subT "NoneType" "bool" = false := by decide
theorem st_NoneType_int : subT "NoneType" "int" = false := by decide
theorem st_NoneType_str : subT "NoneType" "str" = false := by decide
theorem st_NoneType_tuple : subT "NoneType" "tuple" = false := by decide
theorem st_NoneType_list : subT "NoneType" "list" = false := by decide
theorem st_bool_bool : subT "bool" "bool" = true := by decide
theorem st_bool_int : subT "bool" "int" = true := by decide
theorem st_bool_str : subT "bool" "str" = false := by decide
theorem st_bool_tuple : subT "bool" "tuple" = false := by decide
theorem st_bool_list : subT "bool" "list" = false := by decide
theorem st_int_bool : subT "int" "bool" = false := by decide
theorem st_int_int : subT "int" "int" = true := by decide
theorem st_int_str : subT "int" "str" = false := by decide
theorem st_int_tuple : subT "int" "tuple" = false := by decide
theorem st_int_list : subT "int" "list" = false := by decide
theorem st_str_bool : subT "str" "bool" = false := by decide
theorem st_str_int : subT "str" "int" = false := by decide
theorem st_str_str : subT "str" "str" = true := by decide
theorem st_str_tuple : subT "str" "tuple" = false := by decide
theorem st_str_list : subT "str" "list" = false := by decide
theorem st_tuple_bool : subT "tuple" "bool" = false := by decide
theorem st_tuple_int : subT "tuple" "int" = false := by decide
theorem st_tuple_str : subT "tuple" "str" = false := by decide
theorem st_tuple_tuple : subT "tuple" "tuple" = true := by decide
theorem st_tuple_list : subT "tuple" "list" = false := by decide
theorem st_list_bool : subT "list" "bool" = false := by decide
theorem st_list_int : subT "list" "int" = false := by decide
theorem st_list_str : subT "list" "str" = false := by decide
theorem st_list_tuple : subT "list" "tuple" = false := by decide
theorem st_list_list : subT "list" "list" = true := by decide
/-! what the checks compute -/
def isI : D → Bool
  | .int _ => true
  | _ => false
def isT : D → Bool
  | .tup _ => true
  | _ => false
def isS : D → Bool
  | .str _ => true
  | _ => false
def within (lo hi : Int) : D → Bool
  | .int i => decide (lo ≤ i) && decide (i ≤ hi)
  | _ => false
def rising (most : Int) : Int → List D → Bool
  | _, [] => true
  | l, d :: ds => match d with
    | .int n => (decide (l ≤ n) && decide (n ≤ most)) && rising most (n + 1) ds
    | _ => false
theorem rising_int {most l n : Int} {r : List D} : rising most l (.int n :: r) = ((decide (l ≤ n) && decide (n ≤ most)) && rising most (n + 1) r) := rfl
theorem rising_not {most l : Int} {d : D} {r : List D} (h : isI d = false) : rising most l (d :: r) = false := by
  cases d <;> first | rfl | cases h
def whole3 : D → D → D → Option String
  | .int s, .tup ends, .tup steps => if (decide (1 ≤ s) && decide (s ≤ 40)) = true then (if rising (s - 1) 0 ends = true then (if 240 < steps.length then some "limit" else none) else some "ends") else some "states"
  | _, _, _ => some "shape"
def wholeF (d : D) : Option String := match d with
  | .tup ds => match ds with
    | [] => some "shape"
    | [_] => some "shape"
    | [_, _] => some "shape"
    | [a, b, c] => whole3 a b c
    | _ :: _ :: _ :: _ :: _ => some "shape"
  | _ => some "shape"
theorem wholeF_3 {s : Int} {ends steps : List D} : wholeF (.tup [.int s, .tup ends, .tup steps]) = if (decide (1 ≤ s) && decide (s ≤ 40)) = true then (if rising (s - 1) 0 ends = true then (if 240 < steps.length then some "limit" else none) else some "ends") else some "states" := rfl
section
variable {S : Sto} {Q : D → Sto → Prop} {E : Str → List (Str × D) → Sto → Prop} {d : D}
theorem ne_int {i j : Int} : o_ne S (.int i) (.int j) = some (.bl (!(i == j))) := by
  simp [o_ne, toPS, toP, SeqAt.shaped, PyData.canLay0, PyData.depth, PyData.eqv]
theorem isiT (hd : d.pure = true) : (tyN S d).map (fun a => D.bl (subT a "tuple")) = some (.bl (isT d)) := by
  cases d <;> first | (simp only [tyN, Option.map_some, st_NoneType_bool, st_NoneType_int, st_NoneType_str, st_NoneType_tuple, st_NoneType_list, st_bool_bool, st_bool_int, st_bool_str, st_bool_tuple, st_bool_list, st_int_bool, st_int_int, st_int_str, st_int_tuple, st_int_list, st_str_bool, st_str_int, st_str_str, st_str_tuple, st_str_list, st_tuple_bool, st_tuple_int, st_tuple_str, st_tuple_tuple, st_tuple_list, st_list_bool, st_list_int, st_list_str, st_list_tuple, st_list_list, isT]; done) | cases hd
theorem isiS (hd : d.pure = true) : (tyN S d).map (fun a => D.bl (subT a "str")) = some (.bl (isS d)) := by
  cases d <;> first | (simp only [tyN, Option.map_some, st_NoneType_bool, st_NoneType_int, st_NoneType_str, st_NoneType_tuple, st_NoneType_list, st_bool_bool, st_bool_int, st_bool_str, st_bool_tuple, st_bool_list, st_int_bool, st_int_int, st_int_str, st_int_tuple, st_int_list, st_str_bool, st_str_int, st_str_str, st_str_tuple, st_str_list, st_tuple_bool, st_tuple_int, st_tuple_str, st_tuple_tuple, st_tuple_list, st_list_bool, st_list_int, st_list_str, st_list_tuple, st_list_list, isS]; done) | cases hd
theorem whole_wp (hd : d.pure = true) (k : Q (.bl (isI d)) S) : wpM (M_is_whole [d] S) Q E := by
  unfold M_is_whole
  refine wpM_fn ?_
  unfold m_is_whole
  cases d <;> first | (simp only [wS_rai, wS_try, scope_bl, scope_int, scope_str, scope_non, wpM_ok, wpM_exc, trunc_same, and_self, if_true, if_false, Bool.false_eq_true, reduceIte, wS_setS, wS_seq, wS_if, wS_asg, wS_exS, wS_retS, wS_nxS, wS_nx, wS_ret, wpM_op2, wpM_op1, wpM_asT, wpM_trt, wpM_notT, wpM_andT, wpM_orT, wpM_andV, wpM_notE, wpM_ifE, wpM_lnil, wpM_lcons, wpM_tupE, wpM_lstF, wpM_frz, wpM_new, wpM_cal, wpM_calB, wpM_calF, wpM_isiE, wpM_vr, wpM_ct, wpM_meth, wpM_chn, wpM_cut, wpM_cutF, wpM_ono, wpM_osm, wpM_revT, wpM_lfE, wS_for, tgN, List.getElem?_cons_zero, List.getElem?_cons_succ, List.set_cons_zero, List.set_cons_succ, List.map_cons, List.map_nil, List.length_cons, List.length_nil, List.replicate_succ, List.replicate_zero, Nat.reduceAdd, Nat.reduceSub, List.cons_append, List.nil_append, tyN, Option.map_some, st_NoneType_bool, st_NoneType_int, st_NoneType_str, st_NoneType_tuple, st_NoneType_list, st_bool_bool, st_bool_int, st_bool_str, st_bool_tuple, st_bool_list, st_int_bool, st_int_int, st_int_str, st_int_tuple, st_int_list, st_str_bool, st_str_int, st_str_str, st_str_tuple, st_str_list, st_tuple_bool, st_tuple_int, st_tuple_str, st_tuple_tuple, st_tuple_list, st_list_bool, st_list_int, st_list_str, st_list_tuple, st_list_list, tru, Bool.not_true, Bool.not_false]; exact k) | cases hd
theorem lwhole_wp (hd : d.pure = true) (k : Q (.bl (isI d)) S) : wpM (M__law_whole [d] S) Q E := by
  unfold M__law_whole
  refine wpM_fn ?_
  unfold m__law_whole
  cases d <;> first | (simp only [wS_rai, wS_try, scope_bl, scope_int, scope_str, scope_non, wpM_ok, wpM_exc, trunc_same, and_self, if_true, if_false, Bool.false_eq_true, reduceIte, wS_setS, wS_seq, wS_if, wS_asg, wS_exS, wS_retS, wS_nxS, wS_nx, wS_ret, wpM_op2, wpM_op1, wpM_asT, wpM_trt, wpM_notT, wpM_andT, wpM_orT, wpM_andV, wpM_notE, wpM_ifE, wpM_lnil, wpM_lcons, wpM_tupE, wpM_lstF, wpM_frz, wpM_new, wpM_cal, wpM_calB, wpM_calF, wpM_isiE, wpM_vr, wpM_ct, wpM_meth, wpM_chn, wpM_cut, wpM_cutF, wpM_ono, wpM_osm, wpM_revT, wpM_lfE, wS_for, tgN, List.getElem?_cons_zero, List.getElem?_cons_succ, List.set_cons_zero, List.set_cons_succ, List.map_cons, List.map_nil, List.length_cons, List.length_nil, List.replicate_succ, List.replicate_zero, Nat.reduceAdd, Nat.reduceSub, List.cons_append, List.nil_append, tyN, Option.map_some, st_NoneType_bool, st_NoneType_int, st_NoneType_str, st_NoneType_tuple, st_NoneType_list, st_bool_bool, st_bool_int, st_bool_str, st_bool_tuple, st_bool_list, st_int_bool, st_int_int, st_int_str, st_int_tuple, st_int_list, st_str_bool, st_str_int, st_str_str, st_str_tuple, st_str_list, st_tuple_bool, st_tuple_int, st_tuple_str, st_tuple_tuple, st_tuple_list, st_list_bool, st_list_int, st_list_str, st_list_tuple, st_list_list, tru, Bool.not_true, Bool.not_false]; exact k) | cases hd
theorem within_wp {lo hi : Int} (hd : d.pure = true) (k : Q (.bl (within lo hi d)) S) : wpM (M_whole_within [d, .int lo, .int hi] S) Q E := by
  unfold M_whole_within
  refine wpM_fn ?_
  unfold m_whole_within
  simp only [wS_rai, wS_try, scope_bl, scope_int, scope_str, scope_non, wpM_ok, wpM_exc, trunc_same, and_self, if_true, if_false, Bool.false_eq_true, reduceIte, wS_setS, wS_seq, wS_if, wS_asg, wS_exS, wS_retS, wS_nxS, wS_nx, wS_ret, wpM_op2, wpM_op1, wpM_asT, wpM_trt, wpM_notT, wpM_andT, wpM_orT, wpM_andV, wpM_notE, wpM_ifE, wpM_lnil, wpM_lcons, wpM_tupE, wpM_lstF, wpM_frz, wpM_new, wpM_cal, wpM_calB, wpM_calF, wpM_isiE, wpM_vr, wpM_ct, wpM_meth, wpM_chn, wpM_cut, wpM_cutF, wpM_ono, wpM_osm, wpM_revT, wpM_lfE, wS_for, tgN, List.getElem?_cons_zero, List.getElem?_cons_succ, List.set_cons_zero, List.set_cons_succ, List.map_cons, List.map_nil, List.length_cons, List.length_nil, List.replicate_succ, List.replicate_zero, Nat.reduceAdd, Nat.reduceSub, List.cons_append, List.nil_append]
  refine whole_wp hd ?_
  cases d with
  | int i =>
    simp only [isI, tru, wS_rai, wS_try, scope_bl, scope_int, scope_str, scope_non, wpM_ok, wpM_exc, trunc_same, and_self, if_true, if_false, Bool.false_eq_true, reduceIte, wS_setS, wS_seq, wS_if, wS_asg, wS_exS, wS_retS, wS_nxS, wS_nx, wS_ret, wpM_op2, wpM_op1, wpM_asT, wpM_trt, wpM_notT, wpM_andT, wpM_orT, wpM_andV, wpM_notE, wpM_ifE, wpM_lnil, wpM_lcons, wpM_tupE, wpM_lstF, wpM_frz, wpM_new, wpM_cal, wpM_calB, wpM_calF, wpM_isiE, wpM_vr, wpM_ct, wpM_meth, wpM_chn, wpM_cut, wpM_cutF, wpM_ono, wpM_osm, wpM_revT, wpM_lfE, wS_for, tgN, List.getElem?_cons_zero, List.getElem?_cons_succ, List.set_cons_zero, List.set_cons_succ, List.map_cons, List.map_nil, List.length_cons, List.length_nil, List.replicate_succ, List.replicate_zero, Nat.reduceAdd, Nat.reduceSub, List.cons_append, List.nil_append, o_cmp]
    simp only [within] at k
    rcases Bool.eq_false_or_eq_true (decide (lo ≤ i)) with h | h
    · simp only [h, Bool.true_and] at k ⊢; exact k
    · simp only [h, Bool.false_and] at k ⊢; exact k
  | _ => simp only [isI, tru, wS_rai, wS_try, scope_bl, scope_int, scope_str, scope_non, wpM_ok, wpM_exc, trunc_same, and_self, if_true, if_false, Bool.false_eq_true, reduceIte, wS_setS, wS_seq, wS_if, wS_asg, wS_exS, wS_retS, wS_nxS, wS_nx, wS_ret, wpM_op2, wpM_op1, wpM_asT, wpM_trt, wpM_notT, wpM_andT, wpM_orT, wpM_andV, wpM_notE, wpM_ifE, wpM_lnil, wpM_lcons, wpM_tupE, wpM_lstF, wpM_frz, wpM_new, wpM_cal, wpM_calB, wpM_calF, wpM_isiE, wpM_vr, wpM_ct, wpM_meth, wpM_chn, wpM_cut, wpM_cutF, wpM_ono, wpM_osm, wpM_revT, wpM_lfE, wS_for, tgN, List.getElem?_cons_zero, List.getElem?_cons_succ, List.set_cons_zero, List.set_cons_succ, List.map_cons, List.map_nil, List.length_cons, List.length_nil, List.replicate_succ, List.replicate_zero, Nat.reduceAdd, Nat.reduceSub, List.cons_append, List.nil_append]; exact k
theorem drop_at {ds : List D} {i : Nat} {d : D} (h : ds[i]? = some d) : ds.drop i = d :: ds.drop (i + 1) := by
  obtain ⟨h1, h2⟩ := List.getElem?_eq_some_iff.mp h
  rw [List.drop_eq_getElem_cons h1, h2]
theorem rising_wp {ds : List D} {most : Int} (hd : pureL ds = true) (k : Q (.bl (rising most 0 ds)) S) : wpM (M_are_rising [.tup ds, .int most] S) Q E := by
  unfold M_are_rising
  refine wpM_fn ?_
  unfold m_are_rising
  simp only [wS_rai, wS_try, scope_bl, scope_int, scope_str, scope_non, wpM_ok, wpM_exc, trunc_same, and_self, if_true, if_false, Bool.false_eq_true, reduceIte, wS_setS, wS_seq, wS_if, wS_asg, wS_exS, wS_retS, wS_nxS, wS_nx, wS_ret, wpM_op2, wpM_op1, wpM_asT, wpM_trt, wpM_notT, wpM_andT, wpM_orT, wpM_andV, wpM_notE, wpM_ifE, wpM_lnil, wpM_lcons, wpM_tupE, wpM_lstF, wpM_frz, wpM_new, wpM_cal, wpM_calB, wpM_calF, wpM_isiE, wpM_vr, wpM_ct, wpM_meth, wpM_chn, wpM_cut, wpM_cutF, wpM_ono, wpM_osm, wpM_revT, wpM_lfE, wS_for, tgN, List.getElem?_cons_zero, List.getElem?_cons_succ, List.set_cons_zero, List.set_cons_succ, List.map_cons, List.map_nil, List.length_cons, List.length_nil, List.replicate_succ, List.replicate_zero, Nat.reduceAdd, Nat.reduceSub, List.cons_append, List.nil_append, isiT (d := .tup ds) (S := S) hd, isT, tru, Bool.not_true, i_of, wpM_bdE, srcOf]
  refine wS_loop (fun i env S' => S' = S ∧ ∃ l t, env = [some (.tup ds), some (.int most), some (.int l), t] ∧ rising most 0 ds = rising most l (ds.drop i)) _ 0 _ _ ⟨rfl, 0, none, rfl, by simp⟩ ?_ ?_
  · rintro j d env S' hj ⟨rfl, l, t, rfl, e⟩
    refine ⟨okSrc_nil, _, rfl, ?_⟩
    rw [Nat.zero_add, drop_at hj] at e
    simp only [wS_rai, wS_try, scope_bl, scope_int, scope_str, scope_non, wpM_ok, wpM_exc, trunc_same, and_self, if_true, if_false, Bool.false_eq_true, reduceIte, wS_setS, wS_seq, wS_if, wS_asg, wS_exS, wS_retS, wS_nxS, wS_nx, wS_ret, wpM_op2, wpM_op1, wpM_asT, wpM_trt, wpM_notT, wpM_andT, wpM_orT, wpM_andV, wpM_notE, wpM_ifE, wpM_lnil, wpM_lcons, wpM_tupE, wpM_lstF, wpM_frz, wpM_new, wpM_cal, wpM_calB, wpM_calF, wpM_isiE, wpM_vr, wpM_ct, wpM_meth, wpM_chn, wpM_cut, wpM_cutF, wpM_ono, wpM_osm, wpM_revT, wpM_lfE, wS_for, tgN, List.getElem?_cons_zero, List.getElem?_cons_succ, List.set_cons_zero, List.set_cons_succ, List.map_cons, List.map_nil, List.length_cons, List.length_nil, List.replicate_succ, List.replicate_zero, Nat.reduceAdd, Nat.reduceSub, List.cons_append, List.nil_append]
    refine within_wp (mem_pure hd d (List.mem_of_getElem? hj)) ?_
    simp only [tru, wS_rai, wS_try, scope_bl, scope_int, scope_str, scope_non, wpM_ok, wpM_exc, trunc_same, and_self, if_true, if_false, Bool.false_eq_true, reduceIte, wS_setS, wS_seq, wS_if, wS_asg, wS_exS, wS_retS, wS_nxS, wS_nx, wS_ret, wpM_op2, wpM_op1, wpM_asT, wpM_trt, wpM_notT, wpM_andT, wpM_orT, wpM_andV, wpM_notE, wpM_ifE, wpM_lnil, wpM_lcons, wpM_tupE, wpM_lstF, wpM_frz, wpM_new, wpM_cal, wpM_calB, wpM_calF, wpM_isiE, wpM_vr, wpM_ct, wpM_meth, wpM_chn, wpM_cut, wpM_cutF, wpM_ono, wpM_osm, wpM_revT, wpM_lfE, wS_for, tgN, List.getElem?_cons_zero, List.getElem?_cons_succ, List.set_cons_zero, List.set_cons_succ, List.map_cons, List.map_nil, List.length_cons, List.length_nil, List.replicate_succ, List.replicate_zero, Nat.reduceAdd, Nat.reduceSub, List.cons_append, List.nil_append]
    cases d with
    | int n =>
      rw [rising_int] at e
      simp only [within]
      rcases Bool.eq_false_or_eq_true (decide (l ≤ n) && decide (n ≤ most)) with h | h
      · rw [h, Bool.true_and] at e
        simp only [h, Bool.not_true, wS_rai, wS_try, scope_bl, scope_int, scope_str, scope_non, wpM_ok, wpM_exc, trunc_same, and_self, if_true, if_false, Bool.false_eq_true, reduceIte, wS_setS, wS_seq, wS_if, wS_asg, wS_exS, wS_retS, wS_nxS, wS_nx, wS_ret, wpM_op2, wpM_op1, wpM_asT, wpM_trt, wpM_notT, wpM_andT, wpM_orT, wpM_andV, wpM_notE, wpM_ifE, wpM_lnil, wpM_lcons, wpM_tupE, wpM_lstF, wpM_frz, wpM_new, wpM_cal, wpM_calB, wpM_calF, wpM_isiE, wpM_vr, wpM_ct, wpM_meth, wpM_chn, wpM_cut, wpM_cutF, wpM_ono, wpM_osm, wpM_revT, wpM_lfE, wS_for, tgN, List.getElem?_cons_zero, List.getElem?_cons_succ, List.set_cons_zero, List.set_cons_succ, List.map_cons, List.map_nil, List.length_cons, List.length_nil, List.replicate_succ, List.replicate_zero, Nat.reduceAdd, Nat.reduceSub, List.cons_append, List.nil_append, o_add]
        exact ⟨trivial, n + 1, _, rfl, by rw [Nat.zero_add]; exact e⟩
      · rw [h, Bool.false_and] at e
        simp only [h, Bool.not_false, wS_rai, wS_try, scope_bl, scope_int, scope_str, scope_non, wpM_ok, wpM_exc, trunc_same, and_self, if_true, if_false, Bool.false_eq_true, reduceIte, wS_setS, wS_seq, wS_if, wS_asg, wS_exS, wS_retS, wS_nxS, wS_nx, wS_ret, wpM_op2, wpM_op1, wpM_asT, wpM_trt, wpM_notT, wpM_andT, wpM_orT, wpM_andV, wpM_notE, wpM_ifE, wpM_lnil, wpM_lcons, wpM_tupE, wpM_lstF, wpM_frz, wpM_new, wpM_cal, wpM_calB, wpM_calF, wpM_isiE, wpM_vr, wpM_ct, wpM_meth, wpM_chn, wpM_cut, wpM_cutF, wpM_ono, wpM_osm, wpM_revT, wpM_lfE, wS_for, tgN, List.getElem?_cons_zero, List.getElem?_cons_succ, List.set_cons_zero, List.set_cons_succ, List.map_cons, List.map_nil, List.length_cons, List.length_nil, List.replicate_succ, List.replicate_zero, Nat.reduceAdd, Nat.reduceSub, List.cons_append, List.nil_append]
        rw [e] at k; exact k
    | _ =>
      rw [rising_not rfl] at e
      simp only [within, Bool.not_false, wS_rai, wS_try, scope_bl, scope_int, scope_str, scope_non, wpM_ok, wpM_exc, trunc_same, and_self, if_true, if_false, Bool.false_eq_true, reduceIte, wS_setS, wS_seq, wS_if, wS_asg, wS_exS, wS_retS, wS_nxS, wS_nx, wS_ret, wpM_op2, wpM_op1, wpM_asT, wpM_trt, wpM_notT, wpM_andT, wpM_orT, wpM_andV, wpM_notE, wpM_ifE, wpM_lnil, wpM_lcons, wpM_tupE, wpM_lstF, wpM_frz, wpM_new, wpM_cal, wpM_calB, wpM_calF, wpM_isiE, wpM_vr, wpM_ct, wpM_meth, wpM_chn, wpM_cut, wpM_cutF, wpM_ono, wpM_osm, wpM_revT, wpM_lfE, wS_for, tgN, List.getElem?_cons_zero, List.getElem?_cons_succ, List.set_cons_zero, List.set_cons_succ, List.map_cons, List.map_nil, List.length_cons, List.length_nil, List.replicate_succ, List.replicate_zero, Nat.reduceAdd, Nat.reduceSub, List.cons_append, List.nil_append]
      rw [e] at k; exact k
  · rintro env S' ⟨rfl, l, t, rfl, e⟩
    refine ⟨okSrc_nil, ?_⟩
    rw [Nat.zero_add, List.drop_length] at e
    simp only [wS_rai, wS_try, scope_bl, scope_int, scope_str, scope_non, wpM_ok, wpM_exc, trunc_same, and_self, if_true, if_false, Bool.false_eq_true, reduceIte, wS_setS, wS_seq, wS_if, wS_asg, wS_exS, wS_retS, wS_nxS, wS_nx, wS_ret, wpM_op2, wpM_op1, wpM_asT, wpM_trt, wpM_notT, wpM_andT, wpM_orT, wpM_andV, wpM_notE, wpM_ifE, wpM_lnil, wpM_lcons, wpM_tupE, wpM_lstF, wpM_frz, wpM_new, wpM_cal, wpM_calB, wpM_calF, wpM_isiE, wpM_vr, wpM_ct, wpM_meth, wpM_chn, wpM_cut, wpM_cutF, wpM_ono, wpM_osm, wpM_revT, wpM_lfE, wS_for, tgN, List.getElem?_cons_zero, List.getElem?_cons_succ, List.set_cons_zero, List.set_cons_succ, List.map_cons, List.map_nil, List.length_cons, List.length_nil, List.replicate_succ, List.replicate_zero, Nat.reduceAdd, Nat.reduceSub, List.cons_append, List.nil_append]
    rw [e] at k; exact k
theorem shape3 (d : D) : (∃ a b c, d = .tup [a, b, c]) ∨ isT d = false ∨ ∃ ds, d = .tup ds ∧ ds.length ≠ 3 := by
  cases d with
  | tup ds =>
    match ds with
    | [a, b, c] => exact .inl ⟨a, b, c, rfl⟩
    | [] => exact .inr (.inr ⟨_, rfl, by simp⟩)
    | [_] => exact .inr (.inr ⟨_, rfl, by simp⟩)
    | [_, _] => exact .inr (.inr ⟨_, rfl, by simp⟩)
    | _ :: _ :: _ :: _ :: _ => exact .inr (.inr ⟨_, rfl, by simp⟩)
  | _ => exact .inr (.inl rfl)
theorem len_tup {ds : List D} : o_len S [.tup ds] = some (.int ds.length) := rfl
theorem wholeF_notT (h : isT d = false) : wholeF d = some "shape" := by
  cases d <;> first | rfl | cases h
theorem wholeF_len {ds : List D} (h : ds.length ≠ 3) : wholeF (.tup ds) = some "shape" := by
  match ds, h with
  | [], _ => rfl
  | [_], _ => rfl
  | [_, _], _ => rfl
  | [a, b, c], h => exact absurd rfl h
  | _ :: _ :: _ :: _ :: _, _ => rfl
def wordD : Option String → D
  | none => .non
  | some w => .str (Str.ofString w)
theorem word_wp (hd : d.pure = true) (k : Q (wordD (wholeF d)) S) : wpM (M_whole_word [d] S) Q E := by
  unfold M_whole_word
  refine wpM_fn ?_
  unfold m_whole_word
  rcases shape3 d with ⟨a, b, c, rfl⟩ | h | ⟨ds, rfl, h⟩
  · have hp : (a.pure && (b.pure && (c.pure && true))) = true := hd
    simp only [Bool.and_eq_true] at hp
    obtain ⟨ha, hb, hc, _⟩ := hp
    simp only [wS_rai, wS_try, scope_bl, scope_int, scope_str, scope_non, wpM_ok, wpM_exc, trunc_same, and_self, if_true, if_false, Bool.false_eq_true, reduceIte, wS_setS, wS_seq, wS_if, wS_asg, wS_exS, wS_retS, wS_nxS, wS_nx, wS_ret, wpM_op2, wpM_op1, wpM_asT, wpM_trt, wpM_notT, wpM_andT, wpM_orT, wpM_andV, wpM_notE, wpM_ifE, wpM_lnil, wpM_lcons, wpM_tupE, wpM_lstF, wpM_frz, wpM_new, wpM_cal, wpM_calB, wpM_calF, wpM_isiE, wpM_vr, wpM_ct, wpM_meth, wpM_chn, wpM_cut, wpM_cutF, wpM_ono, wpM_osm, wpM_revT, wpM_lfE, wS_for, tgN, List.getElem?_cons_zero, List.getElem?_cons_succ, List.set_cons_zero, List.set_cons_succ, List.map_cons, List.map_nil, List.length_cons, List.length_nil, List.replicate_succ, List.replicate_zero, Nat.reduceAdd, Nat.reduceSub, List.cons_append, List.nil_append, isiT hd, isT, tru, Bool.not_true, len_tup, ne_int, tgT, tgs, Option.bind_some, show ((3 : Nat) : Int) = 3 from rfl, beq_self_eq_true]
    refine whole_wp ha ?_
    simp only [wS_rai, wS_try, scope_bl, scope_int, scope_str, scope_non, wpM_ok, wpM_exc, trunc_same, and_self, if_true, if_false, Bool.false_eq_true, reduceIte, wS_setS, wS_seq, wS_if, wS_asg, wS_exS, wS_retS, wS_nxS, wS_nx, wS_ret, wpM_op2, wpM_op1, wpM_asT, wpM_trt, wpM_notT, wpM_andT, wpM_orT, wpM_andV, wpM_notE, wpM_ifE, wpM_lnil, wpM_lcons, wpM_tupE, wpM_lstF, wpM_frz, wpM_new, wpM_cal, wpM_calB, wpM_calF, wpM_isiE, wpM_vr, wpM_ct, wpM_meth, wpM_chn, wpM_cut, wpM_cutF, wpM_ono, wpM_osm, wpM_revT, wpM_lfE, wS_for, tgN, List.getElem?_cons_zero, List.getElem?_cons_succ, List.set_cons_zero, List.set_cons_succ, List.map_cons, List.map_nil, List.length_cons, List.length_nil, List.replicate_succ, List.replicate_zero, Nat.reduceAdd, Nat.reduceSub, List.cons_append, List.nil_append, tru, isiT hb, isiT hc]
    cases a with
    | int s =>
      cases b with
      | tup ends =>
        cases c with
        | tup steps =>
          simp only [isI, isT, Bool.not_true, wS_rai, wS_try, scope_bl, scope_int, scope_str, scope_non, wpM_ok, wpM_exc, trunc_same, and_self, if_true, if_false, Bool.false_eq_true, reduceIte, wS_setS, wS_seq, wS_if, wS_asg, wS_exS, wS_retS, wS_nxS, wS_nx, wS_ret, wpM_op2, wpM_op1, wpM_asT, wpM_trt, wpM_notT, wpM_andT, wpM_orT, wpM_andV, wpM_notE, wpM_ifE, wpM_lnil, wpM_lcons, wpM_tupE, wpM_lstF, wpM_frz, wpM_new, wpM_cal, wpM_calB, wpM_calF, wpM_isiE, wpM_vr, wpM_ct, wpM_meth, wpM_chn, wpM_cut, wpM_cutF, wpM_ono, wpM_osm, wpM_revT, wpM_lfE, wS_for, tgN, List.getElem?_cons_zero, List.getElem?_cons_succ, List.set_cons_zero, List.set_cons_succ, List.map_cons, List.map_nil, List.length_cons, List.length_nil, List.replicate_succ, List.replicate_zero, Nat.reduceAdd, Nat.reduceSub, List.cons_append, List.nil_append]
          refine within_wp rfl ?_
          simp only [wS_rai, wS_try, scope_bl, scope_int, scope_str, scope_non, wpM_ok, wpM_exc, trunc_same, and_self, if_true, if_false, Bool.false_eq_true, reduceIte, wS_setS, wS_seq, wS_if, wS_asg, wS_exS, wS_retS, wS_nxS, wS_nx, wS_ret, wpM_op2, wpM_op1, wpM_asT, wpM_trt, wpM_notT, wpM_andT, wpM_orT, wpM_andV, wpM_notE, wpM_ifE, wpM_lnil, wpM_lcons, wpM_tupE, wpM_lstF, wpM_frz, wpM_new, wpM_cal, wpM_calB, wpM_calF, wpM_isiE, wpM_vr, wpM_ct, wpM_meth, wpM_chn, wpM_cut, wpM_cutF, wpM_ono, wpM_osm, wpM_revT, wpM_lfE, wS_for, tgN, List.getElem?_cons_zero, List.getElem?_cons_succ, List.set_cons_zero, List.set_cons_succ, List.map_cons, List.map_nil, List.length_cons, List.length_nil, List.replicate_succ, List.replicate_zero, Nat.reduceAdd, Nat.reduceSub, List.cons_append, List.nil_append, tru, within]
          rw [wholeF_3] at k
          rcases Bool.eq_false_or_eq_true (decide (1 ≤ s) && decide (s ≤ 40)) with h1 | h1
          rotate_left
          · rw [h1] at k
            simp only [h1, Bool.not_false, wS_rai, wS_try, scope_bl, scope_int, scope_str, scope_non, wpM_ok, wpM_exc, trunc_same, and_self, if_true, if_false, Bool.false_eq_true, reduceIte, wS_setS, wS_seq, wS_if, wS_asg, wS_exS, wS_retS, wS_nxS, wS_nx, wS_ret, wpM_op2, wpM_op1, wpM_asT, wpM_trt, wpM_notT, wpM_andT, wpM_orT, wpM_andV, wpM_notE, wpM_ifE, wpM_lnil, wpM_lcons, wpM_tupE, wpM_lstF, wpM_frz, wpM_new, wpM_cal, wpM_calB, wpM_calF, wpM_isiE, wpM_vr, wpM_ct, wpM_meth, wpM_chn, wpM_cut, wpM_cutF, wpM_ono, wpM_osm, wpM_revT, wpM_lfE, wS_for, tgN, List.getElem?_cons_zero, List.getElem?_cons_succ, List.set_cons_zero, List.set_cons_succ, List.map_cons, List.map_nil, List.length_cons, List.length_nil, List.replicate_succ, List.replicate_zero, Nat.reduceAdd, Nat.reduceSub, List.cons_append, List.nil_append]; exact k
          · rw [h1] at k
            simp only [h1, Bool.not_true, wS_rai, wS_try, scope_bl, scope_int, scope_str, scope_non, wpM_ok, wpM_exc, trunc_same, and_self, if_true, if_false, Bool.false_eq_true, reduceIte, wS_setS, wS_seq, wS_if, wS_asg, wS_exS, wS_retS, wS_nxS, wS_nx, wS_ret, wpM_op2, wpM_op1, wpM_asT, wpM_trt, wpM_notT, wpM_andT, wpM_orT, wpM_andV, wpM_notE, wpM_ifE, wpM_lnil, wpM_lcons, wpM_tupE, wpM_lstF, wpM_frz, wpM_new, wpM_cal, wpM_calB, wpM_calF, wpM_isiE, wpM_vr, wpM_ct, wpM_meth, wpM_chn, wpM_cut, wpM_cutF, wpM_ono, wpM_osm, wpM_revT, wpM_lfE, wS_for, tgN, List.getElem?_cons_zero, List.getElem?_cons_succ, List.set_cons_zero, List.set_cons_succ, List.map_cons, List.map_nil, List.length_cons, List.length_nil, List.replicate_succ, List.replicate_zero, Nat.reduceAdd, Nat.reduceSub, List.cons_append, List.nil_append, o_sub]
            refine rising_wp hb ?_
            simp only [wS_rai, wS_try, scope_bl, scope_int, scope_str, scope_non, wpM_ok, wpM_exc, trunc_same, and_self, if_true, if_false, Bool.false_eq_true, reduceIte, wS_setS, wS_seq, wS_if, wS_asg, wS_exS, wS_retS, wS_nxS, wS_nx, wS_ret, wpM_op2, wpM_op1, wpM_asT, wpM_trt, wpM_notT, wpM_andT, wpM_orT, wpM_andV, wpM_notE, wpM_ifE, wpM_lnil, wpM_lcons, wpM_tupE, wpM_lstF, wpM_frz, wpM_new, wpM_cal, wpM_calB, wpM_calF, wpM_isiE, wpM_vr, wpM_ct, wpM_meth, wpM_chn, wpM_cut, wpM_cutF, wpM_ono, wpM_osm, wpM_revT, wpM_lfE, wS_for, tgN, List.getElem?_cons_zero, List.getElem?_cons_succ, List.set_cons_zero, List.set_cons_succ, List.map_cons, List.map_nil, List.length_cons, List.length_nil, List.replicate_succ, List.replicate_zero, Nat.reduceAdd, Nat.reduceSub, List.cons_append, List.nil_append, tru]
            simp only [if_true] at k
            rcases Bool.eq_false_or_eq_true (rising (s - 1) 0 ends) with h2 | h2
            rotate_left
            · rw [h2] at k
              simp only [h2, Bool.not_false, wS_rai, wS_try, scope_bl, scope_int, scope_str, scope_non, wpM_ok, wpM_exc, trunc_same, and_self, if_true, if_false, Bool.false_eq_true, reduceIte, wS_setS, wS_seq, wS_if, wS_asg, wS_exS, wS_retS, wS_nxS, wS_nx, wS_ret, wpM_op2, wpM_op1, wpM_asT, wpM_trt, wpM_notT, wpM_andT, wpM_orT, wpM_andV, wpM_notE, wpM_ifE, wpM_lnil, wpM_lcons, wpM_tupE, wpM_lstF, wpM_frz, wpM_new, wpM_cal, wpM_calB, wpM_calF, wpM_isiE, wpM_vr, wpM_ct, wpM_meth, wpM_chn, wpM_cut, wpM_cutF, wpM_ono, wpM_osm, wpM_revT, wpM_lfE, wS_for, tgN, List.getElem?_cons_zero, List.getElem?_cons_succ, List.set_cons_zero, List.set_cons_succ, List.map_cons, List.map_nil, List.length_cons, List.length_nil, List.replicate_succ, List.replicate_zero, Nat.reduceAdd, Nat.reduceSub, List.cons_append, List.nil_append]; exact k
            · rw [h2] at k
              simp only [h2, Bool.not_true, wS_rai, wS_try, scope_bl, scope_int, scope_str, scope_non, wpM_ok, wpM_exc, trunc_same, and_self, if_true, if_false, Bool.false_eq_true, reduceIte, wS_setS, wS_seq, wS_if, wS_asg, wS_exS, wS_retS, wS_nxS, wS_nx, wS_ret, wpM_op2, wpM_op1, wpM_asT, wpM_trt, wpM_notT, wpM_andT, wpM_orT, wpM_andV, wpM_notE, wpM_ifE, wpM_lnil, wpM_lcons, wpM_tupE, wpM_lstF, wpM_frz, wpM_new, wpM_cal, wpM_calB, wpM_calF, wpM_isiE, wpM_vr, wpM_ct, wpM_meth, wpM_chn, wpM_cut, wpM_cutF, wpM_ono, wpM_osm, wpM_revT, wpM_lfE, wS_for, tgN, List.getElem?_cons_zero, List.getElem?_cons_succ, List.set_cons_zero, List.set_cons_succ, List.map_cons, List.map_nil, List.length_cons, List.length_nil, List.replicate_succ, List.replicate_zero, Nat.reduceAdd, Nat.reduceSub, List.cons_append, List.nil_append, len_tup, o_cmp]
              simp only [if_true] at k
              by_cases h3 : 240 < steps.length
              · rw [if_pos h3] at k
                rw [decide_eq_true (by omega)]
                simp only [wS_rai, wS_try, scope_bl, scope_int, scope_str, scope_non, wpM_ok, wpM_exc, trunc_same, and_self, if_true, if_false, Bool.false_eq_true, reduceIte, wS_setS, wS_seq, wS_if, wS_asg, wS_exS, wS_retS, wS_nxS, wS_nx, wS_ret, wpM_op2, wpM_op1, wpM_asT, wpM_trt, wpM_notT, wpM_andT, wpM_orT, wpM_andV, wpM_notE, wpM_ifE, wpM_lnil, wpM_lcons, wpM_tupE, wpM_lstF, wpM_frz, wpM_new, wpM_cal, wpM_calB, wpM_calF, wpM_isiE, wpM_vr, wpM_ct, wpM_meth, wpM_chn, wpM_cut, wpM_cutF, wpM_ono, wpM_osm, wpM_revT, wpM_lfE, wS_for, tgN, List.getElem?_cons_zero, List.getElem?_cons_succ, List.set_cons_zero, List.set_cons_succ, List.map_cons, List.map_nil, List.length_cons, List.length_nil, List.replicate_succ, List.replicate_zero, Nat.reduceAdd, Nat.reduceSub, List.cons_append, List.nil_append]; exact k
              · rw [if_neg h3] at k
                rw [decide_eq_false (by omega)]
                simp only [wS_rai, wS_try, scope_bl, scope_int, scope_str, scope_non, wpM_ok, wpM_exc, trunc_same, and_self, if_true, if_false, Bool.false_eq_true, reduceIte, wS_setS, wS_seq, wS_if, wS_asg, wS_exS, wS_retS, wS_nxS, wS_nx, wS_ret, wpM_op2, wpM_op1, wpM_asT, wpM_trt, wpM_notT, wpM_andT, wpM_orT, wpM_andV, wpM_notE, wpM_ifE, wpM_lnil, wpM_lcons, wpM_tupE, wpM_lstF, wpM_frz, wpM_new, wpM_cal, wpM_calB, wpM_calF, wpM_isiE, wpM_vr, wpM_ct, wpM_meth, wpM_chn, wpM_cut, wpM_cutF, wpM_ono, wpM_osm, wpM_revT, wpM_lfE, wS_for, tgN, List.getElem?_cons_zero, List.getElem?_cons_succ, List.set_cons_zero, List.set_cons_succ, List.map_cons, List.map_nil, List.length_cons, List.length_nil, List.replicate_succ, List.replicate_zero, Nat.reduceAdd, Nat.reduceSub, List.cons_append, List.nil_append]; exact k
        | _ => simp only [isI, isT, Bool.not_true, Bool.not_false, wS_rai, wS_try, scope_bl, scope_int, scope_str, scope_non, wpM_ok, wpM_exc, trunc_same, and_self, if_true, if_false, Bool.false_eq_true, reduceIte, wS_setS, wS_seq, wS_if, wS_asg, wS_exS, wS_retS, wS_nxS, wS_nx, wS_ret, wpM_op2, wpM_op1, wpM_asT, wpM_trt, wpM_notT, wpM_andT, wpM_orT, wpM_andV, wpM_notE, wpM_ifE, wpM_lnil, wpM_lcons, wpM_tupE, wpM_lstF, wpM_frz, wpM_new, wpM_cal, wpM_calB, wpM_calF, wpM_isiE, wpM_vr, wpM_ct, wpM_meth, wpM_chn, wpM_cut, wpM_cutF, wpM_ono, wpM_osm, wpM_revT, wpM_lfE, wS_for, tgN, List.getElem?_cons_zero, List.getElem?_cons_succ, List.set_cons_zero, List.set_cons_succ, List.map_cons, List.map_nil, List.length_cons, List.length_nil, List.replicate_succ, List.replicate_zero, Nat.reduceAdd, Nat.reduceSub, List.cons_append, List.nil_append]; exact k
      | _ => simp only [isI, isT, Bool.not_true, Bool.not_false, wS_rai, wS_try, scope_bl, scope_int, scope_str, scope_non, wpM_ok, wpM_exc, trunc_same, and_self, if_true, if_false, Bool.false_eq_true, reduceIte, wS_setS, wS_seq, wS_if, wS_asg, wS_exS, wS_retS, wS_nxS, wS_nx, wS_ret, wpM_op2, wpM_op1, wpM_asT, wpM_trt, wpM_notT, wpM_andT, wpM_orT, wpM_andV, wpM_notE, wpM_ifE, wpM_lnil, wpM_lcons, wpM_tupE, wpM_lstF, wpM_frz, wpM_new, wpM_cal, wpM_calB, wpM_calF, wpM_isiE, wpM_vr, wpM_ct, wpM_meth, wpM_chn, wpM_cut, wpM_cutF, wpM_ono, wpM_osm, wpM_revT, wpM_lfE, wS_for, tgN, List.getElem?_cons_zero, List.getElem?_cons_succ, List.set_cons_zero, List.set_cons_succ, List.map_cons, List.map_nil, List.length_cons, List.length_nil, List.replicate_succ, List.replicate_zero, Nat.reduceAdd, Nat.reduceSub, List.cons_append, List.nil_append]; exact k
    | _ => simp only [isI, isT, Bool.not_true, Bool.not_false, wS_rai, wS_try, scope_bl, scope_int, scope_str, scope_non, wpM_ok, wpM_exc, trunc_same, and_self, if_true, if_false, Bool.false_eq_true, reduceIte, wS_setS, wS_seq, wS_if, wS_asg, wS_exS, wS_retS, wS_nxS, wS_nx, wS_ret, wpM_op2, wpM_op1, wpM_asT, wpM_trt, wpM_notT, wpM_andT, wpM_orT, wpM_andV, wpM_notE, wpM_ifE, wpM_lnil, wpM_lcons, wpM_tupE, wpM_lstF, wpM_frz, wpM_new, wpM_cal, wpM_calB, wpM_calF, wpM_isiE, wpM_vr, wpM_ct, wpM_meth, wpM_chn, wpM_cut, wpM_cutF, wpM_ono, wpM_osm, wpM_revT, wpM_lfE, wS_for, tgN, List.getElem?_cons_zero, List.getElem?_cons_succ, List.set_cons_zero, List.set_cons_succ, List.map_cons, List.map_nil, List.length_cons, List.length_nil, List.replicate_succ, List.replicate_zero, Nat.reduceAdd, Nat.reduceSub, List.cons_append, List.nil_append]; exact k
  · rw [wholeF_notT h] at k
    simp only [wS_rai, wS_try, scope_bl, scope_int, scope_str, scope_non, wpM_ok, wpM_exc, trunc_same, and_self, if_true, if_false, Bool.false_eq_true, reduceIte, wS_setS, wS_seq, wS_if, wS_asg, wS_exS, wS_retS, wS_nxS, wS_nx, wS_ret, wpM_op2, wpM_op1, wpM_asT, wpM_trt, wpM_notT, wpM_andT, wpM_orT, wpM_andV, wpM_notE, wpM_ifE, wpM_lnil, wpM_lcons, wpM_tupE, wpM_lstF, wpM_frz, wpM_new, wpM_cal, wpM_calB, wpM_calF, wpM_isiE, wpM_vr, wpM_ct, wpM_meth, wpM_chn, wpM_cut, wpM_cutF, wpM_ono, wpM_osm, wpM_revT, wpM_lfE, wS_for, tgN, List.getElem?_cons_zero, List.getElem?_cons_succ, List.set_cons_zero, List.set_cons_succ, List.map_cons, List.map_nil, List.length_cons, List.length_nil, List.replicate_succ, List.replicate_zero, Nat.reduceAdd, Nat.reduceSub, List.cons_append, List.nil_append, isiT hd, h, tru, Bool.not_false]
    exact k
  · rw [wholeF_len h] at k
    have h' : ((ds.length : Int) == 3) = false := by rw [beq_eq_false_iff_ne]; omega
    simp only [wS_rai, wS_try, scope_bl, scope_int, scope_str, scope_non, wpM_ok, wpM_exc, trunc_same, and_self, if_true, if_false, Bool.false_eq_true, reduceIte, wS_setS, wS_seq, wS_if, wS_asg, wS_exS, wS_retS, wS_nxS, wS_nx, wS_ret, wpM_op2, wpM_op1, wpM_asT, wpM_trt, wpM_notT, wpM_andT, wpM_orT, wpM_andV, wpM_notE, wpM_ifE, wpM_lnil, wpM_lcons, wpM_tupE, wpM_lstF, wpM_frz, wpM_new, wpM_cal, wpM_calB, wpM_calF, wpM_isiE, wpM_vr, wpM_ct, wpM_meth, wpM_chn, wpM_cut, wpM_cutF, wpM_ono, wpM_osm, wpM_revT, wpM_lfE, wS_for, tgN, List.getElem?_cons_zero, List.getElem?_cons_succ, List.set_cons_zero, List.set_cons_succ, List.map_cons, List.map_nil, List.length_cons, List.length_nil, List.replicate_succ, List.replicate_zero, Nat.reduceAdd, Nat.reduceSub, List.cons_append, List.nil_append, isiT hd, isT, tru, Bool.not_true, len_tup, ne_int, h', Bool.not_false]
    exact k
end
end Z

set_option Elab.async false
set_option linter.all false
set_option maxRecDepth 100000
set_option maxHeartbeats 4000000
set_option autoImplicit false
namespace Z
open PySem PySem.Spec L2 Y PySem.W
def inSt (st b : Int) : Bool := decide (0 ≤ b) && decide (b < st)
def orderF (x : List D) : D → Option String
  | .tup ys => if leT x ys = true then some "order" else none
  | _ => none
def step3 (L : Str) (st : Int) (a : D) : D → D → D → Option String
  | .int b, .str l, .int t => if (inSt st b && inSt st t) = true then (if ((l.length : Int) == 1 && inStr l L) = true then orderF [.int b, .str l, .int t] a else some "letter") else some "state"
  | _, _, _ => some "shape"
def stepF (L : Str) (st : Int) (a : D) (d : D) : Option String := match d with
  | .tup ds => match ds with
    | [] => some "shape"
    | [_] => some "shape"
    | [_, _] => some "shape"
    | [b, l, t] => step3 L st a b l t
    | _ :: _ :: _ :: _ :: _ => some "shape"
  | _ => some "shape"
theorem stepF_3 {L : Str} {st : Int} {a : D} {b t : Int} {l : Str} : stepF L st a (.tup [.int b, .str l, .int t]) = if (inSt st b && inSt st t) = true then (if ((l.length : Int) == 1 && inStr l L) = true then orderF [.int b, .str l, .int t] a else some "letter") else some "state" := rfl
theorem stepF_notT {L : Str} {st : Int} {a d : D} (h : isT d = false) : stepF L st a d = some "shape" := by
  cases d <;> first | rfl | cases h
theorem stepF_len {L : Str} {st : Int} {a : D} {ds : List D} (h : ds.length ≠ 3) : stepF L st a (.tup ds) = some "shape" := by
  match ds, h with
  | [], _ => rfl
  | [_], _ => rfl
  | [_, _], _ => rfl
  | [a, b, c], h => exact absurd rfl h
  | _ :: _ :: _ :: _ :: _, _ => rfl
def Ahead (a : D) : Prop := a = .non ∨ ∃ (b : Int) (l : Str) (t : Int), a = .tup [.int b, .str l, .int t]
theorem stepF_ahead {L : Str} {st : Int} {a d : D} (h : stepF L st a d = none) : ∃ (b : Int) (l : Str) (t : Int), d = .tup [.int b, .str l, .int t] := by
  rcases shape3 d with ⟨b, l, t, rfl⟩ | h' | ⟨ds, rfl, h'⟩
  · have h : step3 L st a b l t = none := h
    cases b <;> cases l <;> cases t <;> first | exact ⟨_, _, _, rfl⟩ | cases h
  · rw [stepF_notT h'] at h; cases h
  · rw [stepF_len h'] at h; cases h
def smS : D → Prop
  | .tup [_, .str l, _] => l.length ≤ sizeLine
  | _ => True
section
variable {S : Sto} {Q : D → Sto → Prop} {E : Str → List (Str × D) → Sto → Prop} {d a : D} {L : Str} {st : Int}
theorem le_tup {b t b' t' : Int} {l l' : Str} : o_le S (.tup [.int b, .str l, .int t]) (.tup [.int b', .str l', .int t']) = some (.bl (leT [.int b, .str l, .int t] [.int b', .str l', .int t'])) := rfl
theorem len_str {l : Str} (h : l.length ≤ sizeLine) : o_len S [.str l] = some (.int l.length) := by simp only [o_len]; rw [if_pos h]
theorem step_wp (hd : d.pure = true) (hs : smS d) (ha : Ahead a) (k : Q (wordD (stepF L st a d)) S) : wpM (M_step_word [.str L, .int st, d, a] S) Q E := by
  unfold M_step_word
  refine wpM_fn ?_
  unfold m_step_word
  rcases shape3 d with ⟨b, l, t, rfl⟩ | h | ⟨ds, rfl, h⟩
  · have hp : (b.pure && (l.pure && (t.pure && true))) = true := hd
    simp only [Bool.and_eq_true] at hp
    obtain ⟨hb, hl, ht, _⟩ := hp
    simp only [wS_rai, wS_try, scope_bl, scope_int, scope_str, scope_non, wpM_ok, wpM_exc, trunc_same, and_self, if_true, if_false, Bool.false_eq_true, reduceIte, wS_setS, wS_seq, wS_if, wS_asg, wS_exS, wS_retS, wS_nxS, wS_nx, wS_ret, wpM_op2, wpM_op1, wpM_asT, wpM_trt, wpM_notT, wpM_andT, wpM_orT, wpM_andV, wpM_notE, wpM_ifE, wpM_lnil, wpM_lcons, wpM_tupE, wpM_lstF, wpM_frz, wpM_new, wpM_cal, wpM_calB, wpM_calF, wpM_isiE, wpM_vr, wpM_ct, wpM_meth, wpM_chn, wpM_cut, wpM_cutF, wpM_ono, wpM_osm, wpM_revT, wpM_lfE, wS_for, tgN, List.getElem?_cons_zero, List.getElem?_cons_succ, List.set_cons_zero, List.set_cons_succ, List.map_cons, List.map_nil, List.length_cons, List.length_nil, List.replicate_succ, List.replicate_zero, Nat.reduceAdd, Nat.reduceSub, List.cons_append, List.nil_append, isiT hd, isT, tru, Bool.not_true, len_tup, ne_int, tgT, tgs, Option.bind_some, show ((3 : Nat) : Int) = 3 from rfl, beq_self_eq_true]
    refine whole_wp hb ?_
    simp only [wS_rai, wS_try, scope_bl, scope_int, scope_str, scope_non, wpM_ok, wpM_exc, trunc_same, and_self, if_true, if_false, Bool.false_eq_true, reduceIte, wS_setS, wS_seq, wS_if, wS_asg, wS_exS, wS_retS, wS_nxS, wS_nx, wS_ret, wpM_op2, wpM_op1, wpM_asT, wpM_trt, wpM_notT, wpM_andT, wpM_orT, wpM_andV, wpM_notE, wpM_ifE, wpM_lnil, wpM_lcons, wpM_tupE, wpM_lstF, wpM_frz, wpM_new, wpM_cal, wpM_calB, wpM_calF, wpM_isiE, wpM_vr, wpM_ct, wpM_meth, wpM_chn, wpM_cut, wpM_cutF, wpM_ono, wpM_osm, wpM_revT, wpM_lfE, wS_for, tgN, List.getElem?_cons_zero, List.getElem?_cons_succ, List.set_cons_zero, List.set_cons_succ, List.map_cons, List.map_nil, List.length_cons, List.length_nil, List.replicate_succ, List.replicate_zero, Nat.reduceAdd, Nat.reduceSub, List.cons_append, List.nil_append, tru, isiS hl]
    cases b with
    | int b =>
      cases l with
      | str l =>
        simp only [isI, isS, Bool.not_true, wS_rai, wS_try, scope_bl, scope_int, scope_str, scope_non, wpM_ok, wpM_exc, trunc_same, and_self, if_true, if_false, Bool.false_eq_true, reduceIte, wS_setS, wS_seq, wS_if, wS_asg, wS_exS, wS_retS, wS_nxS, wS_nx, wS_ret, wpM_op2, wpM_op1, wpM_asT, wpM_trt, wpM_notT, wpM_andT, wpM_orT, wpM_andV, wpM_notE, wpM_ifE, wpM_lnil, wpM_lcons, wpM_tupE, wpM_lstF, wpM_frz, wpM_new, wpM_cal, wpM_calB, wpM_calF, wpM_isiE, wpM_vr, wpM_ct, wpM_meth, wpM_chn, wpM_cut, wpM_cutF, wpM_ono, wpM_osm, wpM_revT, wpM_lfE, wS_for, tgN, List.getElem?_cons_zero, List.getElem?_cons_succ, List.set_cons_zero, List.set_cons_succ, List.map_cons, List.map_nil, List.length_cons, List.length_nil, List.replicate_succ, List.replicate_zero, Nat.reduceAdd, Nat.reduceSub, List.cons_append, List.nil_append]
        refine whole_wp ht ?_
        simp only [tru, wS_rai, wS_try, scope_bl, scope_int, scope_str, scope_non, wpM_ok, wpM_exc, trunc_same, and_self, if_true, if_false, Bool.false_eq_true, reduceIte, wS_setS, wS_seq, wS_if, wS_asg, wS_exS, wS_retS, wS_nxS, wS_nx, wS_ret, wpM_op2, wpM_op1, wpM_asT, wpM_trt, wpM_notT, wpM_andT, wpM_orT, wpM_andV, wpM_notE, wpM_ifE, wpM_lnil, wpM_lcons, wpM_tupE, wpM_lstF, wpM_frz, wpM_new, wpM_cal, wpM_calB, wpM_calF, wpM_isiE, wpM_vr, wpM_ct, wpM_meth, wpM_chn, wpM_cut, wpM_cutF, wpM_ono, wpM_osm, wpM_revT, wpM_lfE, wS_for, tgN, List.getElem?_cons_zero, List.getElem?_cons_succ, List.set_cons_zero, List.set_cons_succ, List.map_cons, List.map_nil, List.length_cons, List.length_nil, List.replicate_succ, List.replicate_zero, Nat.reduceAdd, Nat.reduceSub, List.cons_append, List.nil_append]
        cases t with
        | int t =>
          have hs : l.length ≤ sizeLine := hs
          rw [stepF_3] at k
          simp only [isI, Bool.not_true, wS_rai, wS_try, scope_bl, scope_int, scope_str, scope_non, wpM_ok, wpM_exc, trunc_same, and_self, if_true, if_false, Bool.false_eq_true, reduceIte, wS_setS, wS_seq, wS_if, wS_asg, wS_exS, wS_retS, wS_nxS, wS_nx, wS_ret, wpM_op2, wpM_op1, wpM_asT, wpM_trt, wpM_notT, wpM_andT, wpM_orT, wpM_andV, wpM_notE, wpM_ifE, wpM_lnil, wpM_lcons, wpM_tupE, wpM_lstF, wpM_frz, wpM_new, wpM_cal, wpM_calB, wpM_calF, wpM_isiE, wpM_vr, wpM_ct, wpM_meth, wpM_chn, wpM_cut, wpM_cutF, wpM_ono, wpM_osm, wpM_revT, wpM_lfE, wS_for, tgN, List.getElem?_cons_zero, List.getElem?_cons_succ, List.set_cons_zero, List.set_cons_succ, List.map_cons, List.map_nil, List.length_cons, List.length_nil, List.replicate_succ, List.replicate_zero, Nat.reduceAdd, Nat.reduceSub, List.cons_append, List.nil_append, o_cmp]
          unfold inSt at k
          rcases Bool.eq_false_or_eq_true (decide (0 ≤ b)) with h1 | h1 <;> rcases Bool.eq_false_or_eq_true (decide (b < st)) with h2 | h2 <;> rcases Bool.eq_false_or_eq_true (decide (0 ≤ t)) with h3 | h3 <;> rcases Bool.eq_false_or_eq_true (decide (t < st)) with h4 | h4 <;>
            simp only [h1, h2, h3, h4, Bool.and_true, Bool.and_false, Bool.true_and, Bool.false_and, Bool.not_true, Bool.not_false, wS_rai, wS_try, scope_bl, scope_int, scope_str, scope_non, wpM_ok, wpM_exc, trunc_same, and_self, if_true, if_false, Bool.false_eq_true, reduceIte, wS_setS, wS_seq, wS_if, wS_asg, wS_exS, wS_retS, wS_nxS, wS_nx, wS_ret, wpM_op2, wpM_op1, wpM_asT, wpM_trt, wpM_notT, wpM_andT, wpM_orT, wpM_andV, wpM_notE, wpM_ifE, wpM_lnil, wpM_lcons, wpM_tupE, wpM_lstF, wpM_frz, wpM_new, wpM_cal, wpM_calB, wpM_calF, wpM_isiE, wpM_vr, wpM_ct, wpM_meth, wpM_chn, wpM_cut, wpM_cutF, wpM_ono, wpM_osm, wpM_revT, wpM_lfE, wS_for, tgN, List.getElem?_cons_zero, List.getElem?_cons_succ, List.set_cons_zero, List.set_cons_succ, List.map_cons, List.map_nil, List.length_cons, List.length_nil, List.replicate_succ, List.replicate_zero, Nat.reduceAdd, Nat.reduceSub, List.cons_append, List.nil_append] at k ⊢ <;> first | exact k | skip
          simp only [len_str hs, ne_int, o_inS, wS_rai, wS_try, scope_bl, scope_int, scope_str, scope_non, wpM_ok, wpM_exc, trunc_same, and_self, if_true, if_false, Bool.false_eq_true, reduceIte, wS_setS, wS_seq, wS_if, wS_asg, wS_exS, wS_retS, wS_nxS, wS_nx, wS_ret, wpM_op2, wpM_op1, wpM_asT, wpM_trt, wpM_notT, wpM_andT, wpM_orT, wpM_andV, wpM_notE, wpM_ifE, wpM_lnil, wpM_lcons, wpM_tupE, wpM_lstF, wpM_frz, wpM_new, wpM_cal, wpM_calB, wpM_calF, wpM_isiE, wpM_vr, wpM_ct, wpM_meth, wpM_chn, wpM_cut, wpM_cutF, wpM_ono, wpM_osm, wpM_revT, wpM_lfE, wS_for, tgN, List.getElem?_cons_zero, List.getElem?_cons_succ, List.set_cons_zero, List.set_cons_succ, List.map_cons, List.map_nil, List.length_cons, List.length_nil, List.replicate_succ, List.replicate_zero, Nat.reduceAdd, Nat.reduceSub, List.cons_append, List.nil_append]
          rcases Bool.eq_false_or_eq_true ((l.length : Int) == 1) with h5 | h5 <;> rcases Bool.eq_false_or_eq_true (inStr l L) with h6 | h6 <;>
            simp only [h5, h6, Bool.and_true, Bool.and_false, Bool.true_and, Bool.false_and, Bool.not_true, Bool.not_false, wS_rai, wS_try, scope_bl, scope_int, scope_str, scope_non, wpM_ok, wpM_exc, trunc_same, and_self, if_true, if_false, Bool.false_eq_true, reduceIte, wS_setS, wS_seq, wS_if, wS_asg, wS_exS, wS_retS, wS_nxS, wS_nx, wS_ret, wpM_op2, wpM_op1, wpM_asT, wpM_trt, wpM_notT, wpM_andT, wpM_orT, wpM_andV, wpM_notE, wpM_ifE, wpM_lnil, wpM_lcons, wpM_tupE, wpM_lstF, wpM_frz, wpM_new, wpM_cal, wpM_calB, wpM_calF, wpM_isiE, wpM_vr, wpM_ct, wpM_meth, wpM_chn, wpM_cut, wpM_cutF, wpM_ono, wpM_osm, wpM_revT, wpM_lfE, wS_for, tgN, List.getElem?_cons_zero, List.getElem?_cons_succ, List.set_cons_zero, List.set_cons_succ, List.map_cons, List.map_nil, List.length_cons, List.length_nil, List.replicate_succ, List.replicate_zero, Nat.reduceAdd, Nat.reduceSub, List.cons_append, List.nil_append] at k ⊢ <;> first | exact k | skip
          rcases ha with rfl | ⟨b', l', t', rfl⟩
          · simp only [o_isnot, D.isN, wS_rai, wS_try, scope_bl, scope_int, scope_str, scope_non, wpM_ok, wpM_exc, trunc_same, and_self, if_true, if_false, Bool.false_eq_true, reduceIte, wS_setS, wS_seq, wS_if, wS_asg, wS_exS, wS_retS, wS_nxS, wS_nx, wS_ret, wpM_op2, wpM_op1, wpM_asT, wpM_trt, wpM_notT, wpM_andT, wpM_orT, wpM_andV, wpM_notE, wpM_ifE, wpM_lnil, wpM_lcons, wpM_tupE, wpM_lstF, wpM_frz, wpM_new, wpM_cal, wpM_calB, wpM_calF, wpM_isiE, wpM_vr, wpM_ct, wpM_meth, wpM_chn, wpM_cut, wpM_cutF, wpM_ono, wpM_osm, wpM_revT, wpM_lfE, wS_for, tgN, List.getElem?_cons_zero, List.getElem?_cons_succ, List.set_cons_zero, List.set_cons_succ, List.map_cons, List.map_nil, List.length_cons, List.length_nil, List.replicate_succ, List.replicate_zero, Nat.reduceAdd, Nat.reduceSub, List.cons_append, List.nil_append, Bool.not_true]
            exact k
          · simp only [o_isnot, D.isN, wS_rai, wS_try, scope_bl, scope_int, scope_str, scope_non, wpM_ok, wpM_exc, trunc_same, and_self, if_true, if_false, Bool.false_eq_true, reduceIte, wS_setS, wS_seq, wS_if, wS_asg, wS_exS, wS_retS, wS_nxS, wS_nx, wS_ret, wpM_op2, wpM_op1, wpM_asT, wpM_trt, wpM_notT, wpM_andT, wpM_orT, wpM_andV, wpM_notE, wpM_ifE, wpM_lnil, wpM_lcons, wpM_tupE, wpM_lstF, wpM_frz, wpM_new, wpM_cal, wpM_calB, wpM_calF, wpM_isiE, wpM_vr, wpM_ct, wpM_meth, wpM_chn, wpM_cut, wpM_cutF, wpM_ono, wpM_osm, wpM_revT, wpM_lfE, wS_for, tgN, List.getElem?_cons_zero, List.getElem?_cons_succ, List.set_cons_zero, List.set_cons_succ, List.map_cons, List.map_nil, List.length_cons, List.length_nil, List.replicate_succ, List.replicate_zero, Nat.reduceAdd, Nat.reduceSub, List.cons_append, List.nil_append, Bool.not_false, le_tup]
            unfold orderF at k
            rcases Bool.eq_false_or_eq_true (leT [.int b, .str l, .int t] [.int b', .str l', .int t']) with h7 | h7
            · simp only [h7, wS_rai, wS_try, scope_bl, scope_int, scope_str, scope_non, wpM_ok, wpM_exc, trunc_same, and_self, if_true, if_false, Bool.false_eq_true, reduceIte, wS_setS, wS_seq, wS_if, wS_asg, wS_exS, wS_retS, wS_nxS, wS_nx, wS_ret, wpM_op2, wpM_op1, wpM_asT, wpM_trt, wpM_notT, wpM_andT, wpM_orT, wpM_andV, wpM_notE, wpM_ifE, wpM_lnil, wpM_lcons, wpM_tupE, wpM_lstF, wpM_frz, wpM_new, wpM_cal, wpM_calB, wpM_calF, wpM_isiE, wpM_vr, wpM_ct, wpM_meth, wpM_chn, wpM_cut, wpM_cutF, wpM_ono, wpM_osm, wpM_revT, wpM_lfE, wS_for, tgN, List.getElem?_cons_zero, List.getElem?_cons_succ, List.set_cons_zero, List.set_cons_succ, List.map_cons, List.map_nil, List.length_cons, List.length_nil, List.replicate_succ, List.replicate_zero, Nat.reduceAdd, Nat.reduceSub, List.cons_append, List.nil_append] at k ⊢; exact k
            · simp only [h7, wS_rai, wS_try, scope_bl, scope_int, scope_str, scope_non, wpM_ok, wpM_exc, trunc_same, and_self, if_true, if_false, Bool.false_eq_true, reduceIte, wS_setS, wS_seq, wS_if, wS_asg, wS_exS, wS_retS, wS_nxS, wS_nx, wS_ret, wpM_op2, wpM_op1, wpM_asT, wpM_trt, wpM_notT, wpM_andT, wpM_orT, wpM_andV, wpM_notE, wpM_ifE, wpM_lnil, wpM_lcons, wpM_tupE, wpM_lstF, wpM_frz, wpM_new, wpM_cal, wpM_calB, wpM_calF, wpM_isiE, wpM_vr, wpM_ct, wpM_meth, wpM_chn, wpM_cut, wpM_cutF, wpM_ono, wpM_osm, wpM_revT, wpM_lfE, wS_for, tgN, List.getElem?_cons_zero, List.getElem?_cons_succ, List.set_cons_zero, List.set_cons_succ, List.map_cons, List.map_nil, List.length_cons, List.length_nil, List.replicate_succ, List.replicate_zero, Nat.reduceAdd, Nat.reduceSub, List.cons_append, List.nil_append] at k ⊢; exact k
        | _ => simp only [isI, Bool.not_false, wS_rai, wS_try, scope_bl, scope_int, scope_str, scope_non, wpM_ok, wpM_exc, trunc_same, and_self, if_true, if_false, Bool.false_eq_true, reduceIte, wS_setS, wS_seq, wS_if, wS_asg, wS_exS, wS_retS, wS_nxS, wS_nx, wS_ret, wpM_op2, wpM_op1, wpM_asT, wpM_trt, wpM_notT, wpM_andT, wpM_orT, wpM_andV, wpM_notE, wpM_ifE, wpM_lnil, wpM_lcons, wpM_tupE, wpM_lstF, wpM_frz, wpM_new, wpM_cal, wpM_calB, wpM_calF, wpM_isiE, wpM_vr, wpM_ct, wpM_meth, wpM_chn, wpM_cut, wpM_cutF, wpM_ono, wpM_osm, wpM_revT, wpM_lfE, wS_for, tgN, List.getElem?_cons_zero, List.getElem?_cons_succ, List.set_cons_zero, List.set_cons_succ, List.map_cons, List.map_nil, List.length_cons, List.length_nil, List.replicate_succ, List.replicate_zero, Nat.reduceAdd, Nat.reduceSub, List.cons_append, List.nil_append]; exact k
      | _ => simp only [isI, isS, Bool.not_true, Bool.not_false, wS_rai, wS_try, scope_bl, scope_int, scope_str, scope_non, wpM_ok, wpM_exc, trunc_same, and_self, if_true, if_false, Bool.false_eq_true, reduceIte, wS_setS, wS_seq, wS_if, wS_asg, wS_exS, wS_retS, wS_nxS, wS_nx, wS_ret, wpM_op2, wpM_op1, wpM_asT, wpM_trt, wpM_notT, wpM_andT, wpM_orT, wpM_andV, wpM_notE, wpM_ifE, wpM_lnil, wpM_lcons, wpM_tupE, wpM_lstF, wpM_frz, wpM_new, wpM_cal, wpM_calB, wpM_calF, wpM_isiE, wpM_vr, wpM_ct, wpM_meth, wpM_chn, wpM_cut, wpM_cutF, wpM_ono, wpM_osm, wpM_revT, wpM_lfE, wS_for, tgN, List.getElem?_cons_zero, List.getElem?_cons_succ, List.set_cons_zero, List.set_cons_succ, List.map_cons, List.map_nil, List.length_cons, List.length_nil, List.replicate_succ, List.replicate_zero, Nat.reduceAdd, Nat.reduceSub, List.cons_append, List.nil_append]; exact k
    | _ => simp only [isI, isS, Bool.not_true, Bool.not_false, wS_rai, wS_try, scope_bl, scope_int, scope_str, scope_non, wpM_ok, wpM_exc, trunc_same, and_self, if_true, if_false, Bool.false_eq_true, reduceIte, wS_setS, wS_seq, wS_if, wS_asg, wS_exS, wS_retS, wS_nxS, wS_nx, wS_ret, wpM_op2, wpM_op1, wpM_asT, wpM_trt, wpM_notT, wpM_andT, wpM_orT, wpM_andV, wpM_notE, wpM_ifE, wpM_lnil, wpM_lcons, wpM_tupE, wpM_lstF, wpM_frz, wpM_new, wpM_cal, wpM_calB, wpM_calF, wpM_isiE, wpM_vr, wpM_ct, wpM_meth, wpM_chn, wpM_cut, wpM_cutF, wpM_ono, wpM_osm, wpM_revT, wpM_lfE, wS_for, tgN, List.getElem?_cons_zero, List.getElem?_cons_succ, List.set_cons_zero, List.set_cons_succ, List.map_cons, List.map_nil, List.length_cons, List.length_nil, List.replicate_succ, List.replicate_zero, Nat.reduceAdd, Nat.reduceSub, List.cons_append, List.nil_append]; exact k
  · rw [stepF_notT h] at k
    simp only [wS_rai, wS_try, scope_bl, scope_int, scope_str, scope_non, wpM_ok, wpM_exc, trunc_same, and_self, if_true, if_false, Bool.false_eq_true, reduceIte, wS_setS, wS_seq, wS_if, wS_asg, wS_exS, wS_retS, wS_nxS, wS_nx, wS_ret, wpM_op2, wpM_op1, wpM_asT, wpM_trt, wpM_notT, wpM_andT, wpM_orT, wpM_andV, wpM_notE, wpM_ifE, wpM_lnil, wpM_lcons, wpM_tupE, wpM_lstF, wpM_frz, wpM_new, wpM_cal, wpM_calB, wpM_calF, wpM_isiE, wpM_vr, wpM_ct, wpM_meth, wpM_chn, wpM_cut, wpM_cutF, wpM_ono, wpM_osm, wpM_revT, wpM_lfE, wS_for, tgN, List.getElem?_cons_zero, List.getElem?_cons_succ, List.set_cons_zero, List.set_cons_succ, List.map_cons, List.map_nil, List.length_cons, List.length_nil, List.replicate_succ, List.replicate_zero, Nat.reduceAdd, Nat.reduceSub, List.cons_append, List.nil_append, isiT hd, h, tru, Bool.not_false]
    exact k
  · rw [stepF_len h] at k
    have h' : ((ds.length : Int) == 3) = false := by rw [beq_eq_false_iff_ne]; omega
    simp only [wS_rai, wS_try, scope_bl, scope_int, scope_str, scope_non, wpM_ok, wpM_exc, trunc_same, and_self, if_true, if_false, Bool.false_eq_true, reduceIte, wS_setS, wS_seq, wS_if, wS_asg, wS_exS, wS_retS, wS_nxS, wS_nx, wS_ret, wpM_op2, wpM_op1, wpM_asT, wpM_trt, wpM_notT, wpM_andT, wpM_orT, wpM_andV, wpM_notE, wpM_ifE, wpM_lnil, wpM_lcons, wpM_tupE, wpM_lstF, wpM_frz, wpM_new, wpM_cal, wpM_calB, wpM_calF, wpM_isiE, wpM_vr, wpM_ct, wpM_meth, wpM_chn, wpM_cut, wpM_cutF, wpM_ono, wpM_osm, wpM_revT, wpM_lfE, wS_for, tgN, List.getElem?_cons_zero, List.getElem?_cons_succ, List.set_cons_zero, List.set_cons_succ, List.map_cons, List.map_nil, List.length_cons, List.length_nil, List.replicate_succ, List.replicate_zero, Nat.reduceAdd, Nat.reduceSub, List.cons_append, List.nil_append, isiT hd, isT, tru, Bool.not_true, len_tup, ne_int, h', Bool.not_false]
    exact k
/-! the steps, the whole -/
def stepsF (L : Str) (st : Int) : D → Nat → List D → Option (Int × String)
  | _, _, [] => none
  | a, n, d :: ds => match stepF L st a d with
    | some w => some ((n : Int), w)
    | none => stepsF L st d (n + 1) ds
theorem stepsF_cons {L : Str} {st : Int} {a d : D} {n : Nat} {ds : List D} : stepsF L st a n (d :: ds) = (match stepF L st a d with | some w => some ((n : Int), w) | none => stepsF L st d (n + 1) ds) := rfl
def faultF (L : Str) (d : D) : Option (Int × String) := match wholeF d with
  | some w => some (-1, w)
  | none => match d with
    | .tup [.int st, _, .tup steps] => stepsF L st .non 0 steps
    | _ => none
def faultD : Option (Int × String) → D
  | none => .non
  | some (n, w) => .tup [.int n, .str (Str.ofString w)]
theorem wholeF_none (h : wholeF d = none) : ∃ s ends steps, d = .tup [.int s, .tup ends, .tup steps] := by
  rcases shape3 d with ⟨b, l, t, rfl⟩ | h' | ⟨ds, rfl, h'⟩
  · have h : whole3 b l t = none := h
    cases b <;> cases l <;> cases t <;> first | exact ⟨_, _, _, rfl⟩ | cases h
  · rw [wholeF_notT h'] at h; cases h
  · rw [wholeF_len h'] at h; cases h
def Sm (d : D) : Prop := ∀ s ends steps, d = .tup [s, ends, .tup steps] → ∀ x ∈ steps, smS x
theorem ixT {ds : List D} {j : Nat} {x : D} (h : ds[j]? = some x) : o_ix S (.tup ds) (.int (j : Int)) = some x := atI_nat h
theorem ixT0 {x : D} {ds : List D} : o_ix S (.tup (x :: ds)) (.int 0) = some x := atI_nat (j := 0) rfl
theorem ixT1 {x y : D} {ds : List D} : o_ix S (.tup (x :: y :: ds)) (.int 1) = some y := atI_nat (j := 1) rfl
theorem ixT2 {x y z : D} {ds : List D} : o_ix S (.tup (x :: y :: z :: ds)) (.int 2) = some z := atI_nat (j := 2) rfl
theorem fault_wp (hd : d.pure = true) (hs : Sm d) (k : Q (faultD (faultF L d)) S) : wpM (M_machine_fault [.str L, d] S) Q E := by
  have hsl := sizeLine_eq
  have h2 : 2 ≤ sizeLine := by omega
  unfold M_machine_fault
  refine wpM_fn ?_
  unfold m_machine_fault
  simp only [wS_rai, wS_try, scope_bl, scope_int, scope_str, scope_non, wpM_ok, wpM_exc, trunc_same, and_self, if_true, if_false, Bool.false_eq_true, reduceIte, wS_setS, wS_seq, wS_if, wS_asg, wS_exS, wS_retS, wS_nxS, wS_nx, wS_ret, wpM_op2, wpM_op1, wpM_asT, wpM_trt, wpM_notT, wpM_andT, wpM_orT, wpM_andV, wpM_notE, wpM_ifE, wpM_lnil, wpM_lcons, wpM_tupE, wpM_lstF, wpM_frz, wpM_new, wpM_cal, wpM_calB, wpM_calF, wpM_isiE, wpM_vr, wpM_ct, wpM_meth, wpM_chn, wpM_cut, wpM_cutF, wpM_ono, wpM_osm, wpM_revT, wpM_lfE, wS_for, tgN, List.getElem?_cons_zero, List.getElem?_cons_succ, List.set_cons_zero, List.set_cons_succ, List.map_cons, List.map_nil, List.length_cons, List.length_nil, List.replicate_succ, List.replicate_zero, Nat.reduceAdd, Nat.reduceSub, List.cons_append, List.nil_append]
  refine word_wp hd ?_
  cases e : wholeF d with
  | some w =>
    unfold faultF at k
    rw [e] at k
    simp only [wordD, o_isnot, D.isN, wS_rai, wS_try, scope_bl, scope_int, scope_str, scope_non, wpM_ok, wpM_exc, trunc_same, and_self, if_true, if_false, Bool.false_eq_true, reduceIte, wS_setS, wS_seq, wS_if, wS_asg, wS_exS, wS_retS, wS_nxS, wS_nx, wS_ret, wpM_op2, wpM_op1, wpM_asT, wpM_trt, wpM_notT, wpM_andT, wpM_orT, wpM_andV, wpM_notE, wpM_ifE, wpM_lnil, wpM_lcons, wpM_tupE, wpM_lstF, wpM_frz, wpM_new, wpM_cal, wpM_calB, wpM_calF, wpM_isiE, wpM_vr, wpM_ct, wpM_meth, wpM_chn, wpM_cut, wpM_cutF, wpM_ono, wpM_osm, wpM_revT, wpM_lfE, wS_for, tgN, List.getElem?_cons_zero, List.getElem?_cons_succ, List.set_cons_zero, List.set_cons_succ, List.map_cons, List.map_nil, List.length_cons, List.length_nil, List.replicate_succ, List.replicate_zero, Nat.reduceAdd, Nat.reduceSub, List.cons_append, List.nil_append, o_neg, Bool.not_false, h2]
    rw [scope_pure rfl]
    simp only [wS_rai, wS_try, scope_bl, scope_int, scope_str, scope_non, wpM_ok, wpM_exc, trunc_same, and_self, if_true, if_false, Bool.false_eq_true, reduceIte, wS_setS, wS_seq, wS_if, wS_asg, wS_exS, wS_retS, wS_nxS, wS_nx, wS_ret, wpM_op2, wpM_op1, wpM_asT, wpM_trt, wpM_notT, wpM_andT, wpM_orT, wpM_andV, wpM_notE, wpM_ifE, wpM_lnil, wpM_lcons, wpM_tupE, wpM_lstF, wpM_frz, wpM_new, wpM_cal, wpM_calB, wpM_calF, wpM_isiE, wpM_vr, wpM_ct, wpM_meth, wpM_chn, wpM_cut, wpM_cutF, wpM_ono, wpM_osm, wpM_revT, wpM_lfE, wS_for, tgN, List.getElem?_cons_zero, List.getElem?_cons_succ, List.set_cons_zero, List.set_cons_succ, List.map_cons, List.map_nil, List.length_cons, List.length_nil, List.replicate_succ, List.replicate_zero, Nat.reduceAdd, Nat.reduceSub, List.cons_append, List.nil_append]
    exact k
  | none =>
    obtain ⟨st, ends, steps, rfl⟩ := wholeF_none e
    have hp : pureL [.int st, .tup ends, .tup steps] = true := hd
    have hps : pureL steps = true := mem_pure hp (.tup steps) (by simp)
    have hms : ∀ x ∈ steps, smS x := hs _ _ _ rfl
    unfold faultF at k
    rw [e] at k
    simp only at k
    simp only [wordD, o_isnot, D.isN, wS_rai, wS_try, scope_bl, scope_int, scope_str, scope_non, wpM_ok, wpM_exc, trunc_same, and_self, if_true, if_false, Bool.false_eq_true, reduceIte, wS_setS, wS_seq, wS_if, wS_asg, wS_exS, wS_retS, wS_nxS, wS_nx, wS_ret, wpM_op2, wpM_op1, wpM_asT, wpM_trt, wpM_notT, wpM_andT, wpM_orT, wpM_andV, wpM_notE, wpM_ifE, wpM_lnil, wpM_lcons, wpM_tupE, wpM_lstF, wpM_frz, wpM_new, wpM_cal, wpM_calB, wpM_calF, wpM_isiE, wpM_vr, wpM_ct, wpM_meth, wpM_chn, wpM_cut, wpM_cutF, wpM_ono, wpM_osm, wpM_revT, wpM_lfE, wS_for, tgN, List.getElem?_cons_zero, List.getElem?_cons_succ, List.set_cons_zero, List.set_cons_succ, List.map_cons, List.map_nil, List.length_cons, List.length_nil, List.replicate_succ, List.replicate_zero, Nat.reduceAdd, Nat.reduceSub, List.cons_append, List.nil_append, Bool.not_true, i_enum, wpM_bdE, ixT2, seqSrc, Option.map_some]
    refine wS_loop (fun i env S' => S' = S ∧ ∃ w a e4 e5, env = [some (.str L), some (.tup [.int st, .tup ends, .tup steps]), some w, some a, e4, e5] ∧ Ahead a ∧ stepsF L st .non 0 steps = stepsF L st a i (steps.drop i)) _ 0 _ _ ⟨rfl, _, _, none, none, rfl, .inl rfl, by simp⟩ ?_ ?_
    · rintro j d' env S' hj ⟨rfl, w, a, e4, e5, rfl, ha, es⟩
      obtain ⟨x, hx, rfl⟩ := enL_get hj
      refine ⟨okSrc_nil, _, rfl, ?_⟩
      simp only [wS_rai, wS_try, scope_bl, scope_int, scope_str, scope_non, wpM_ok, wpM_exc, trunc_same, and_self, if_true, if_false, Bool.false_eq_true, reduceIte, wS_setS, wS_seq, wS_if, wS_asg, wS_exS, wS_retS, wS_nxS, wS_nx, wS_ret, wpM_op2, wpM_op1, wpM_asT, wpM_trt, wpM_notT, wpM_andT, wpM_orT, wpM_andV, wpM_notE, wpM_ifE, wpM_lnil, wpM_lcons, wpM_tupE, wpM_lstF, wpM_frz, wpM_new, wpM_cal, wpM_calB, wpM_calF, wpM_isiE, wpM_vr, wpM_ct, wpM_meth, wpM_chn, wpM_cut, wpM_cutF, wpM_ono, wpM_osm, wpM_revT, wpM_lfE, wS_for, tgN, List.getElem?_cons_zero, List.getElem?_cons_succ, List.set_cons_zero, List.set_cons_succ, List.map_cons, List.map_nil, List.length_cons, List.length_nil, List.replicate_succ, List.replicate_zero, Nat.reduceAdd, Nat.reduceSub, List.cons_append, List.nil_append, ixT0]
      have hxm := List.mem_of_getElem? hx
      rw [Nat.zero_add, drop_at hx] at es
      rw [stepsF_cons] at es
      refine step_wp (mem_pure hps x hxm) (hms x hxm) ha ?_
      simp only [wS_rai, wS_try, scope_bl, scope_int, scope_str, scope_non, wpM_ok, wpM_exc, trunc_same, and_self, if_true, if_false, Bool.false_eq_true, reduceIte, wS_setS, wS_seq, wS_if, wS_asg, wS_exS, wS_retS, wS_nxS, wS_nx, wS_ret, wpM_op2, wpM_op1, wpM_asT, wpM_trt, wpM_notT, wpM_andT, wpM_orT, wpM_andV, wpM_notE, wpM_ifE, wpM_lnil, wpM_lcons, wpM_tupE, wpM_lstF, wpM_frz, wpM_new, wpM_cal, wpM_calB, wpM_calF, wpM_isiE, wpM_vr, wpM_ct, wpM_meth, wpM_chn, wpM_cut, wpM_cutF, wpM_ono, wpM_osm, wpM_revT, wpM_lfE, wS_for, tgN, List.getElem?_cons_zero, List.getElem?_cons_succ, List.set_cons_zero, List.set_cons_succ, List.map_cons, List.map_nil, List.length_cons, List.length_nil, List.replicate_succ, List.replicate_zero, Nat.reduceAdd, Nat.reduceSub, List.cons_append, List.nil_append]
      cases e2 : stepF L st a x with
      | some w =>
        rw [e2] at es
        simp only [wordD, o_isnot, D.isN, wS_rai, wS_try, scope_bl, scope_int, scope_str, scope_non, wpM_ok, wpM_exc, trunc_same, and_self, if_true, if_false, Bool.false_eq_true, reduceIte, wS_setS, wS_seq, wS_if, wS_asg, wS_exS, wS_retS, wS_nxS, wS_nx, wS_ret, wpM_op2, wpM_op1, wpM_asT, wpM_trt, wpM_notT, wpM_andT, wpM_orT, wpM_andV, wpM_notE, wpM_ifE, wpM_lnil, wpM_lcons, wpM_tupE, wpM_lstF, wpM_frz, wpM_new, wpM_cal, wpM_calB, wpM_calF, wpM_isiE, wpM_vr, wpM_ct, wpM_meth, wpM_chn, wpM_cut, wpM_cutF, wpM_ono, wpM_osm, wpM_revT, wpM_lfE, wS_for, tgN, List.getElem?_cons_zero, List.getElem?_cons_succ, List.set_cons_zero, List.set_cons_succ, List.map_cons, List.map_nil, List.length_cons, List.length_nil, List.replicate_succ, List.replicate_zero, Nat.reduceAdd, Nat.reduceSub, List.cons_append, List.nil_append, Bool.not_false, h2, Nat.zero_add]
        rw [scope_pure rfl]
        simp only [wS_rai, wS_try, scope_bl, scope_int, scope_str, scope_non, wpM_ok, wpM_exc, trunc_same, and_self, if_true, if_false, Bool.false_eq_true, reduceIte, wS_setS, wS_seq, wS_if, wS_asg, wS_exS, wS_retS, wS_nxS, wS_nx, wS_ret, wpM_op2, wpM_op1, wpM_asT, wpM_trt, wpM_notT, wpM_andT, wpM_orT, wpM_andV, wpM_notE, wpM_ifE, wpM_lnil, wpM_lcons, wpM_tupE, wpM_lstF, wpM_frz, wpM_new, wpM_cal, wpM_calB, wpM_calF, wpM_isiE, wpM_vr, wpM_ct, wpM_meth, wpM_chn, wpM_cut, wpM_cutF, wpM_ono, wpM_osm, wpM_revT, wpM_lfE, wS_for, tgN, List.getElem?_cons_zero, List.getElem?_cons_succ, List.set_cons_zero, List.set_cons_succ, List.map_cons, List.map_nil, List.length_cons, List.length_nil, List.replicate_succ, List.replicate_zero, Nat.reduceAdd, Nat.reduceSub, List.cons_append, List.nil_append]
        have k' : Q (faultD (some ((j : Int), w))) S' := by
          rw [es] at k; exact k
        exact k'
      | none =>
        rw [e2] at es
        simp only [wordD, o_isnot, D.isN, wS_rai, wS_try, scope_bl, scope_int, scope_str, scope_non, wpM_ok, wpM_exc, trunc_same, and_self, if_true, if_false, Bool.false_eq_true, reduceIte, wS_setS, wS_seq, wS_if, wS_asg, wS_exS, wS_retS, wS_nxS, wS_nx, wS_ret, wpM_op2, wpM_op1, wpM_asT, wpM_trt, wpM_notT, wpM_andT, wpM_orT, wpM_andV, wpM_notE, wpM_ifE, wpM_lnil, wpM_lcons, wpM_tupE, wpM_lstF, wpM_frz, wpM_new, wpM_cal, wpM_calB, wpM_calF, wpM_isiE, wpM_vr, wpM_ct, wpM_meth, wpM_chn, wpM_cut, wpM_cutF, wpM_ono, wpM_osm, wpM_revT, wpM_lfE, wS_for, tgN, List.getElem?_cons_zero, List.getElem?_cons_succ, List.set_cons_zero, List.set_cons_succ, List.map_cons, List.map_nil, List.length_cons, List.length_nil, List.replicate_succ, List.replicate_zero, Nat.reduceAdd, Nat.reduceSub, List.cons_append, List.nil_append, Bool.not_true, Nat.zero_add]
        exact ⟨trivial, _, _, _, _, rfl, .inr (stepF_ahead e2), es⟩
    · rintro env S' ⟨rfl, w, a, e4, e5, rfl, ha, es⟩
      refine ⟨okSrc_nil, ?_⟩
      rw [enL_length, Nat.zero_add, List.drop_length] at es
      simp only [wS_rai, wS_try, scope_bl, scope_int, scope_str, scope_non, wpM_ok, wpM_exc, trunc_same, and_self, if_true, if_false, Bool.false_eq_true, reduceIte, wS_setS, wS_seq, wS_if, wS_asg, wS_exS, wS_retS, wS_nxS, wS_nx, wS_ret, wpM_op2, wpM_op1, wpM_asT, wpM_trt, wpM_notT, wpM_andT, wpM_orT, wpM_andV, wpM_notE, wpM_ifE, wpM_lnil, wpM_lcons, wpM_tupE, wpM_lstF, wpM_frz, wpM_new, wpM_cal, wpM_calB, wpM_calF, wpM_isiE, wpM_vr, wpM_ct, wpM_meth, wpM_chn, wpM_cut, wpM_cutF, wpM_ono, wpM_osm, wpM_revT, wpM_lfE, wS_for, tgN, List.getElem?_cons_zero, List.getElem?_cons_succ, List.set_cons_zero, List.set_cons_succ, List.map_cons, List.map_nil, List.length_cons, List.length_nil, List.replicate_succ, List.replicate_zero, Nat.reduceAdd, Nat.reduceSub, List.cons_append, List.nil_append]
      have es' : stepsF L st .non 0 steps = none := es
      rw [es'] at k; exact k
def stepsLen : D → Int
  | .tup [_, _, .tup steps] => steps.length
  | _ => 0
theorem check_wp (hd : d.pure = true) (hs : Sm d) (k : match faultF L d with | none => Q (.int (stepsLen d)) S | some (n, w) => E "BadMachine" [("at", .int n), ("word", .str (Str.ofString w))] S) : wpM (M_check_machine [.str L, d] S) Q E := by
  unfold M_check_machine
  refine wpM_fn ?_
  unfold m_check_machine
  simp only [wS_rai, wS_try, scope_bl, scope_int, scope_str, scope_non, wpM_ok, wpM_exc, trunc_same, and_self, if_true, if_false, Bool.false_eq_true, reduceIte, wS_setS, wS_seq, wS_if, wS_asg, wS_exS, wS_retS, wS_nxS, wS_nx, wS_ret, wpM_op2, wpM_op1, wpM_asT, wpM_trt, wpM_notT, wpM_andT, wpM_orT, wpM_andV, wpM_notE, wpM_ifE, wpM_lnil, wpM_lcons, wpM_tupE, wpM_lstF, wpM_frz, wpM_new, wpM_cal, wpM_calB, wpM_calF, wpM_isiE, wpM_vr, wpM_ct, wpM_meth, wpM_chn, wpM_cut, wpM_cutF, wpM_ono, wpM_osm, wpM_revT, wpM_lfE, wS_for, tgN, List.getElem?_cons_zero, List.getElem?_cons_succ, List.set_cons_zero, List.set_cons_succ, List.map_cons, List.map_nil, List.length_cons, List.length_nil, List.replicate_succ, List.replicate_zero, Nat.reduceAdd, Nat.reduceSub, List.cons_append, List.nil_append]
  refine fault_wp hd hs ?_
  cases e : faultF L d with
  | some p =>
    obtain ⟨n, w⟩ := p
    rw [e] at k
    simp only [faultD, o_isnot, D.isN, wS_rai, wS_try, scope_bl, scope_int, scope_str, scope_non, wpM_ok, wpM_exc, trunc_same, and_self, if_true, if_false, Bool.false_eq_true, reduceIte, wS_setS, wS_seq, wS_if, wS_asg, wS_exS, wS_retS, wS_nxS, wS_nx, wS_ret, wpM_op2, wpM_op1, wpM_asT, wpM_trt, wpM_notT, wpM_andT, wpM_orT, wpM_andV, wpM_notE, wpM_ifE, wpM_lnil, wpM_lcons, wpM_tupE, wpM_lstF, wpM_frz, wpM_new, wpM_cal, wpM_calB, wpM_calF, wpM_isiE, wpM_vr, wpM_ct, wpM_meth, wpM_chn, wpM_cut, wpM_cutF, wpM_ono, wpM_osm, wpM_revT, wpM_lfE, wS_for, tgN, List.getElem?_cons_zero, List.getElem?_cons_succ, List.set_cons_zero, List.set_cons_succ, List.map_cons, List.map_nil, List.length_cons, List.length_nil, List.replicate_succ, List.replicate_zero, Nat.reduceAdd, Nat.reduceSub, List.cons_append, List.nil_append, Bool.not_false, ixT0, ixT1, List.zip_cons_cons, List.zip_nil_right]
    rw [scope_exc rfl]
    simp only [wS_rai, wS_try, scope_bl, scope_int, scope_str, scope_non, wpM_ok, wpM_exc, trunc_same, and_self, if_true, if_false, Bool.false_eq_true, reduceIte, wS_setS, wS_seq, wS_if, wS_asg, wS_exS, wS_retS, wS_nxS, wS_nx, wS_ret, wpM_op2, wpM_op1, wpM_asT, wpM_trt, wpM_notT, wpM_andT, wpM_orT, wpM_andV, wpM_notE, wpM_ifE, wpM_lnil, wpM_lcons, wpM_tupE, wpM_lstF, wpM_frz, wpM_new, wpM_cal, wpM_calB, wpM_calF, wpM_isiE, wpM_vr, wpM_ct, wpM_meth, wpM_chn, wpM_cut, wpM_cutF, wpM_ono, wpM_osm, wpM_revT, wpM_lfE, wS_for, tgN, List.getElem?_cons_zero, List.getElem?_cons_succ, List.set_cons_zero, List.set_cons_succ, List.map_cons, List.map_nil, List.length_cons, List.length_nil, List.replicate_succ, List.replicate_zero, Nat.reduceAdd, Nat.reduceSub, List.cons_append, List.nil_append]
    exact k
  | none =>
    rw [e] at k
    have e' : wholeF d = none := by
      unfold faultF at e
      cases h : wholeF d with
      | none => rfl
      | some w => rw [h] at e; cases e
    obtain ⟨st, ends, steps, rfl⟩ := wholeF_none e'
    simp only [faultD, o_isnot, D.isN, wS_rai, wS_try, scope_bl, scope_int, scope_str, scope_non, wpM_ok, wpM_exc, trunc_same, and_self, if_true, if_false, Bool.false_eq_true, reduceIte, wS_setS, wS_seq, wS_if, wS_asg, wS_exS, wS_retS, wS_nxS, wS_nx, wS_ret, wpM_op2, wpM_op1, wpM_asT, wpM_trt, wpM_notT, wpM_andT, wpM_orT, wpM_andV, wpM_notE, wpM_ifE, wpM_lnil, wpM_lcons, wpM_tupE, wpM_lstF, wpM_frz, wpM_new, wpM_cal, wpM_calB, wpM_calF, wpM_isiE, wpM_vr, wpM_ct, wpM_meth, wpM_chn, wpM_cut, wpM_cutF, wpM_ono, wpM_osm, wpM_revT, wpM_lfE, wS_for, tgN, List.getElem?_cons_zero, List.getElem?_cons_succ, List.set_cons_zero, List.set_cons_succ, List.map_cons, List.map_nil, List.length_cons, List.length_nil, List.replicate_succ, List.replicate_zero, Nat.reduceAdd, Nat.reduceSub, List.cons_append, List.nil_append, Bool.not_true, ixT2, len_tup]
    exact k
def toldD (d : D) : Option (Int × String) → D
  | none => .lst [.str (Str.ofString "told"), .int (stepsLen d)]
  | some (n, w) => .lst [.str (Str.ofString "raised"), .int n, .str (Str.ofString w)]
theorem told_wp (hd : d.pure = true) (hs : Sm d) (k : Q (toldD d (faultF L d)) S) : wpM (M__law_told [.str L, d] S) Q E := by
  have hsl := sizeLine_eq
  have h2 : 2 ≤ sizeLine := by omega
  have h3 : 3 ≤ sizeLine := by omega
  unfold M__law_told
  refine wpM_fn ?_
  unfold m__law_told
  simp only [wS_rai, wS_try, scope_bl, scope_int, scope_str, scope_non, wpM_ok, wpM_exc, trunc_same, and_self, if_true, if_false, Bool.false_eq_true, reduceIte, wS_setS, wS_seq, wS_if, wS_asg, wS_exS, wS_retS, wS_nxS, wS_nx, wS_ret, wpM_op2, wpM_op1, wpM_asT, wpM_trt, wpM_notT, wpM_andT, wpM_orT, wpM_andV, wpM_notE, wpM_ifE, wpM_lnil, wpM_lcons, wpM_tupE, wpM_lstF, wpM_frz, wpM_new, wpM_cal, wpM_calB, wpM_calF, wpM_isiE, wpM_vr, wpM_ct, wpM_meth, wpM_chn, wpM_cut, wpM_cutF, wpM_ono, wpM_osm, wpM_revT, wpM_lfE, wS_for, tgN, List.getElem?_cons_zero, List.getElem?_cons_succ, List.set_cons_zero, List.set_cons_succ, List.map_cons, List.map_nil, List.length_cons, List.length_nil, List.replicate_succ, List.replicate_zero, Nat.reduceAdd, Nat.reduceSub, List.cons_append, List.nil_append]
  refine check_wp hd hs ?_
  cases e : faultF L d with
  | some p =>
    obtain ⟨n, w⟩ := p
    rw [e] at k
    simp only [wS_rai, wS_try, scope_bl, scope_int, scope_str, scope_non, wpM_ok, wpM_exc, trunc_same, and_self, if_true, if_false, Bool.false_eq_true, reduceIte, wS_setS, wS_seq, wS_if, wS_asg, wS_exS, wS_retS, wS_nxS, wS_nx, wS_ret, wpM_op2, wpM_op1, wpM_asT, wpM_trt, wpM_notT, wpM_andT, wpM_orT, wpM_andV, wpM_notE, wpM_ifE, wpM_lnil, wpM_lcons, wpM_tupE, wpM_lstF, wpM_frz, wpM_new, wpM_cal, wpM_calB, wpM_calF, wpM_isiE, wpM_vr, wpM_ct, wpM_meth, wpM_chn, wpM_cut, wpM_cutF, wpM_ono, wpM_osm, wpM_revT, wpM_lfE, wS_for, tgN, List.getElem?_cons_zero, List.getElem?_cons_succ, List.set_cons_zero, List.set_cons_succ, List.map_cons, List.map_nil, List.length_cons, List.length_nil, List.replicate_succ, List.replicate_zero, Nat.reduceAdd, Nat.reduceSub, List.cons_append, List.nil_append]
    rw [if_pos (by decide)]
    simp only [show yes_BadMachine "BadMachine" = some true from by unfold yes_BadMachine yesL; simp [List.lookup], wS_rai, wS_try, scope_bl, scope_int, scope_str, scope_non, wpM_ok, wpM_exc, trunc_same, and_self, if_true, if_false, Bool.false_eq_true, reduceIte, wS_setS, wS_seq, wS_if, wS_asg, wS_exS, wS_retS, wS_nxS, wS_nx, wS_ret, wpM_op2, wpM_op1, wpM_asT, wpM_trt, wpM_notT, wpM_andT, wpM_orT, wpM_andV, wpM_notE, wpM_ifE, wpM_lnil, wpM_lcons, wpM_tupE, wpM_lstF, wpM_frz, wpM_new, wpM_cal, wpM_calB, wpM_calF, wpM_isiE, wpM_vr, wpM_ct, wpM_meth, wpM_chn, wpM_cut, wpM_cutF, wpM_ono, wpM_osm, wpM_revT, wpM_lfE, wS_for, tgN, List.getElem?_cons_zero, List.getElem?_cons_succ, List.set_cons_zero, List.set_cons_succ, List.map_cons, List.map_nil, List.length_cons, List.length_nil, List.replicate_succ, List.replicate_zero, Nat.reduceAdd, Nat.reduceSub, List.cons_append, List.nil_append, fldE, List.mem_singleton, List.lookup, beq_self_eq_true, show ((Str.ofString "word") == (Str.ofString "at")) = false from by decide, h3]
    rw [scope_pure rfl]
    simp only [wS_rai, wS_try, scope_bl, scope_int, scope_str, scope_non, wpM_ok, wpM_exc, trunc_same, and_self, if_true, if_false, Bool.false_eq_true, reduceIte, wS_setS, wS_seq, wS_if, wS_asg, wS_exS, wS_retS, wS_nxS, wS_nx, wS_ret, wpM_op2, wpM_op1, wpM_asT, wpM_trt, wpM_notT, wpM_andT, wpM_orT, wpM_andV, wpM_notE, wpM_ifE, wpM_lnil, wpM_lcons, wpM_tupE, wpM_lstF, wpM_frz, wpM_new, wpM_cal, wpM_calB, wpM_calF, wpM_isiE, wpM_vr, wpM_ct, wpM_meth, wpM_chn, wpM_cut, wpM_cutF, wpM_ono, wpM_osm, wpM_revT, wpM_lfE, wS_for, tgN, List.getElem?_cons_zero, List.getElem?_cons_succ, List.set_cons_zero, List.set_cons_succ, List.map_cons, List.map_nil, List.length_cons, List.length_nil, List.replicate_succ, List.replicate_zero, Nat.reduceAdd, Nat.reduceSub, List.cons_append, List.nil_append]
    exact k
  | none =>
    rw [e] at k
    simp only [wS_rai, wS_try, scope_bl, scope_int, scope_str, scope_non, wpM_ok, wpM_exc, trunc_same, and_self, if_true, if_false, Bool.false_eq_true, reduceIte, wS_setS, wS_seq, wS_if, wS_asg, wS_exS, wS_retS, wS_nxS, wS_nx, wS_ret, wpM_op2, wpM_op1, wpM_asT, wpM_trt, wpM_notT, wpM_andT, wpM_orT, wpM_andV, wpM_notE, wpM_ifE, wpM_lnil, wpM_lcons, wpM_tupE, wpM_lstF, wpM_frz, wpM_new, wpM_cal, wpM_calB, wpM_calF, wpM_isiE, wpM_vr, wpM_ct, wpM_meth, wpM_chn, wpM_cut, wpM_cutF, wpM_ono, wpM_osm, wpM_revT, wpM_lfE, wS_for, tgN, List.getElem?_cons_zero, List.getElem?_cons_succ, List.set_cons_zero, List.set_cons_succ, List.map_cons, List.map_nil, List.length_cons, List.length_nil, List.replicate_succ, List.replicate_zero, Nat.reduceAdd, Nat.reduceSub, List.cons_append, List.nil_append, h2]
    rw [scope_pure rfl]
    simp only [wS_rai, wS_try, scope_bl, scope_int, scope_str, scope_non, wpM_ok, wpM_exc, trunc_same, and_self, if_true, if_false, Bool.false_eq_true, reduceIte, wS_setS, wS_seq, wS_if, wS_asg, wS_exS, wS_retS, wS_nxS, wS_nx, wS_ret, wpM_op2, wpM_op1, wpM_asT, wpM_trt, wpM_notT, wpM_andT, wpM_orT, wpM_andV, wpM_notE, wpM_ifE, wpM_lnil, wpM_lcons, wpM_tupE, wpM_lstF, wpM_frz, wpM_new, wpM_cal, wpM_calB, wpM_calF, wpM_isiE, wpM_vr, wpM_ct, wpM_meth, wpM_chn, wpM_cut, wpM_cutF, wpM_ono, wpM_osm, wpM_revT, wpM_lfE, wS_for, tgN, List.getElem?_cons_zero, List.getElem?_cons_succ, List.set_cons_zero, List.set_cons_succ, List.map_cons, List.map_nil, List.length_cons, List.length_nil, List.replicate_succ, List.replicate_zero, Nat.reduceAdd, Nat.reduceSub, List.cons_append, List.nil_append]
    exact k
end
end Z

set_option Elab.async false
set_option linter.all false
set_option maxRecDepth 100000
set_option maxHeartbeats 4000000
set_option autoImplicit false
namespace Z
open PySem PySem.Spec L2 Y PySem.W
section
variable {S : Sto} {Q : D → Sto → Prop} {E : Str → List (Str × D) → Sto → Prop} {d a : D} {L : Str} {st : Int}
theorem fault_whole {w : String} (e : wholeF d = some w) : faultF L d = some (-1, w) := by
  unfold faultF; rw [e]
theorem le_int {i j : Int} : o_le S (.int i) (.int j) = some (.bl (decide (i ≤ j))) := rfl
theorem whole3_no {a b c : D} (h : (isI a && (isT b && isT c)) = false) : wholeF (.tup [a, b, c]) = some "shape" := by
  show whole3 a b c = _
  cases a <;> cases b <;> cases c <;> first | rfl | cases h
theorem isI_ex (h : isI d = true) : ∃ i, d = .int i := by cases d <;> first | exact ⟨_, rfl⟩ | cases h
theorem isT_ex (h : isT d = true) : ∃ i, d = .tup i := by cases d <;> first | exact ⟨_, rfl⟩ | cases h
theorem isS_ex (h : isS d = true) : ∃ i, d = .str i := by cases d <;> first | exact ⟨_, rfl⟩ | cases h
theorem step3_no {b l t : D} (h : (isI b && (isS l && isI t)) = false) : stepF L st a (.tup [b, l, t]) = some "shape" := by
  show step3 L st a b l t = _
  cases b <;> cases l <;> cases t <;> first | rfl | cases h
theorem due_wp (hd : d.pure = true) (hs : Sm d) (hlen : ∀ s ends steps, d = .tup [s, .tup ends, .tup steps] → ends.length < 2 ^ 60 ∧ steps.length < 2 ^ 60) (k : Q (toldD d (faultF L d)) S) : wpM (M__law_due [.str L, d] S) Q E := by
  have hsl := sizeLine_eq
  have h3 : 3 ≤ sizeLine := by omega
  have h2 : 2 ≤ sizeLine := by omega
  unfold M__law_due
  refine wpM_fn ?_
  unfold m__law_due
  rcases shape3 d with ⟨a, b, c, rfl⟩ | h | ⟨ds, rfl, h⟩
  rotate_left
  · rw [fault_whole (wholeF_notT h)] at k
    simp only [wS_rai, wS_try, scope_bl, scope_int, scope_str, scope_non, wpM_ok, wpM_exc, trunc_same, and_self, if_true, if_false, Bool.false_eq_true, reduceIte, wS_setS, wS_seq, wS_if, wS_asg, wS_exS, wS_retS, wS_nxS, wS_nx, wS_ret, wpM_op2, wpM_op1, wpM_asT, wpM_trt, wpM_notT, wpM_andT, wpM_orT, wpM_andV, wpM_notE, wpM_ifE, wpM_lnil, wpM_lcons, wpM_tupE, wpM_lstF, wpM_frz, wpM_new, wpM_cal, wpM_calB, wpM_calF, wpM_isiE, wpM_vr, wpM_ct, wpM_meth, wpM_chn, wpM_cut, wpM_cutF, wpM_ono, wpM_osm, wpM_revT, wpM_lfE, wS_for, tgN, List.getElem?_cons_zero, List.getElem?_cons_succ, List.set_cons_zero, List.set_cons_succ, List.map_cons, List.map_nil, List.length_cons, List.length_nil, List.replicate_succ, List.replicate_zero, Nat.reduceAdd, Nat.reduceSub, List.cons_append, List.nil_append, isiT hd, h, tru, Bool.not_false, h3, o_neg]
    rw [scope_pure rfl]
    simp only [wS_rai, wS_try, scope_bl, scope_int, scope_str, scope_non, wpM_ok, wpM_exc, trunc_same, and_self, if_true, if_false, Bool.false_eq_true, reduceIte, wS_setS, wS_seq, wS_if, wS_asg, wS_exS, wS_retS, wS_nxS, wS_nx, wS_ret, wpM_op2, wpM_op1, wpM_asT, wpM_trt, wpM_notT, wpM_andT, wpM_orT, wpM_andV, wpM_notE, wpM_ifE, wpM_lnil, wpM_lcons, wpM_tupE, wpM_lstF, wpM_frz, wpM_new, wpM_cal, wpM_calB, wpM_calF, wpM_isiE, wpM_vr, wpM_ct, wpM_meth, wpM_chn, wpM_cut, wpM_cutF, wpM_ono, wpM_osm, wpM_revT, wpM_lfE, wS_for, tgN, List.getElem?_cons_zero, List.getElem?_cons_succ, List.set_cons_zero, List.set_cons_succ, List.map_cons, List.map_nil, List.length_cons, List.length_nil, List.replicate_succ, List.replicate_zero, Nat.reduceAdd, Nat.reduceSub, List.cons_append, List.nil_append]
    exact k
  · rw [fault_whole (wholeF_len h)] at k
    have h' : ((ds.length : Int) == 3) = false := by rw [beq_eq_false_iff_ne]; omega
    simp only [wS_rai, wS_try, scope_bl, scope_int, scope_str, scope_non, wpM_ok, wpM_exc, trunc_same, and_self, if_true, if_false, Bool.false_eq_true, reduceIte, wS_setS, wS_seq, wS_if, wS_asg, wS_exS, wS_retS, wS_nxS, wS_nx, wS_ret, wpM_op2, wpM_op1, wpM_asT, wpM_trt, wpM_notT, wpM_andT, wpM_orT, wpM_andV, wpM_notE, wpM_ifE, wpM_lnil, wpM_lcons, wpM_tupE, wpM_lstF, wpM_frz, wpM_new, wpM_cal, wpM_calB, wpM_calF, wpM_isiE, wpM_vr, wpM_ct, wpM_meth, wpM_chn, wpM_cut, wpM_cutF, wpM_ono, wpM_osm, wpM_revT, wpM_lfE, wS_for, tgN, List.getElem?_cons_zero, List.getElem?_cons_succ, List.set_cons_zero, List.set_cons_succ, List.map_cons, List.map_nil, List.length_cons, List.length_nil, List.replicate_succ, List.replicate_zero, Nat.reduceAdd, Nat.reduceSub, List.cons_append, List.nil_append, isiT hd, isT, tru, Bool.not_true, len_tup, ne_int, h', Bool.not_false, h3, o_neg]
    rw [scope_pure rfl]
    simp only [wS_rai, wS_try, scope_bl, scope_int, scope_str, scope_non, wpM_ok, wpM_exc, trunc_same, and_self, if_true, if_false, Bool.false_eq_true, reduceIte, wS_setS, wS_seq, wS_if, wS_asg, wS_exS, wS_retS, wS_nxS, wS_nx, wS_ret, wpM_op2, wpM_op1, wpM_asT, wpM_trt, wpM_notT, wpM_andT, wpM_orT, wpM_andV, wpM_notE, wpM_ifE, wpM_lnil, wpM_lcons, wpM_tupE, wpM_lstF, wpM_frz, wpM_new, wpM_cal, wpM_calB, wpM_calF, wpM_isiE, wpM_vr, wpM_ct, wpM_meth, wpM_chn, wpM_cut, wpM_cutF, wpM_ono, wpM_osm, wpM_revT, wpM_lfE, wS_for, tgN, List.getElem?_cons_zero, List.getElem?_cons_succ, List.set_cons_zero, List.set_cons_succ, List.map_cons, List.map_nil, List.length_cons, List.length_nil, List.replicate_succ, List.replicate_zero, Nat.reduceAdd, Nat.reduceSub, List.cons_append, List.nil_append]
    exact k
  have hp : (a.pure && (b.pure && (c.pure && true))) = true := hd
  simp only [Bool.and_eq_true] at hp
  obtain ⟨ha, hb, hc, _⟩ := hp
  simp only [wS_rai, wS_try, scope_bl, scope_int, scope_str, scope_non, wpM_ok, wpM_exc, trunc_same, and_self, if_true, if_false, Bool.false_eq_true, reduceIte, wS_setS, wS_seq, wS_if, wS_asg, wS_exS, wS_retS, wS_nxS, wS_nx, wS_ret, wpM_op2, wpM_op1, wpM_asT, wpM_trt, wpM_notT, wpM_andT, wpM_orT, wpM_andV, wpM_notE, wpM_ifE, wpM_lnil, wpM_lcons, wpM_tupE, wpM_lstF, wpM_frz, wpM_new, wpM_cal, wpM_calB, wpM_calF, wpM_isiE, wpM_vr, wpM_ct, wpM_meth, wpM_chn, wpM_cut, wpM_cutF, wpM_ono, wpM_osm, wpM_revT, wpM_lfE, wS_for, tgN, List.getElem?_cons_zero, List.getElem?_cons_succ, List.set_cons_zero, List.set_cons_succ, List.map_cons, List.map_nil, List.length_cons, List.length_nil, List.replicate_succ, List.replicate_zero, Nat.reduceAdd, Nat.reduceSub, List.cons_append, List.nil_append, isiT hd, isT, tru, Bool.not_true, len_tup, ne_int, tgT, tgs, Option.bind_some, show ((3 : Nat) : Int) = 3 from rfl, beq_self_eq_true]
  refine lwhole_wp ha ?_
  simp only [wS_rai, wS_try, scope_bl, scope_int, scope_str, scope_non, wpM_ok, wpM_exc, trunc_same, and_self, if_true, if_false, Bool.false_eq_true, reduceIte, wS_setS, wS_seq, wS_if, wS_asg, wS_exS, wS_retS, wS_nxS, wS_nx, wS_ret, wpM_op2, wpM_op1, wpM_asT, wpM_trt, wpM_notT, wpM_andT, wpM_orT, wpM_andV, wpM_notE, wpM_ifE, wpM_lnil, wpM_lcons, wpM_tupE, wpM_lstF, wpM_frz, wpM_new, wpM_cal, wpM_calB, wpM_calF, wpM_isiE, wpM_vr, wpM_ct, wpM_meth, wpM_chn, wpM_cut, wpM_cutF, wpM_ono, wpM_osm, wpM_revT, wpM_lfE, wS_for, tgN, List.getElem?_cons_zero, List.getElem?_cons_succ, List.set_cons_zero, List.set_cons_succ, List.map_cons, List.map_nil, List.length_cons, List.length_nil, List.replicate_succ, List.replicate_zero, Nat.reduceAdd, Nat.reduceSub, List.cons_append, List.nil_append, tru, isiT hb, isiT hc]
  rcases Bool.eq_false_or_eq_true (isI a && (isT b && isT c)) with hh | hh
  rotate_left
  · rw [fault_whole (whole3_no hh)] at k
    have fin : ∀ X : Prop, (if (!isI a) = true then Q (toldD (.tup [a, b, c]) (some (-1, "shape"))) S else if (!isT b) = true then Q (toldD (.tup [a, b, c]) (some (-1, "shape"))) S else if (!isT c) = true then Q (toldD (.tup [a, b, c]) (some (-1, "shape"))) S else X) := fun X => by
      rcases Bool.eq_false_or_eq_true (isI a) with q1 | q1 <;> rcases Bool.eq_false_or_eq_true (isT b) with q2 | q2 <;> rcases Bool.eq_false_or_eq_true (isT c) with q3 | q3 <;> simp only [q1, q2, q3, Bool.and_true, Bool.and_false, Bool.true_and, Bool.false_and, Bool.not_true, Bool.not_false, if_true, if_false, Bool.false_eq_true] at hh ⊢ <;> first | exact k | cases hh
    simp only [o_neg, wS_rai, wS_try, scope_bl, scope_int, scope_str, scope_non, wpM_ok, wpM_exc, trunc_same, and_self, if_true, if_false, Bool.false_eq_true, reduceIte, wS_setS, wS_seq, wS_if, wS_asg, wS_exS, wS_retS, wS_nxS, wS_nx, wS_ret, wpM_op2, wpM_op1, wpM_asT, wpM_trt, wpM_notT, wpM_andT, wpM_orT, wpM_andV, wpM_notE, wpM_ifE, wpM_lnil, wpM_lcons, wpM_tupE, wpM_lstF, wpM_frz, wpM_new, wpM_cal, wpM_calB, wpM_calF, wpM_isiE, wpM_vr, wpM_ct, wpM_meth, wpM_chn, wpM_cut, wpM_cutF, wpM_ono, wpM_osm, wpM_revT, wpM_lfE, wS_for, tgN, List.getElem?_cons_zero, List.getElem?_cons_succ, List.set_cons_zero, List.set_cons_succ, List.map_cons, List.map_nil, List.length_cons, List.length_nil, List.replicate_succ, List.replicate_zero, Nat.reduceAdd, Nat.reduceSub, List.cons_append, List.nil_append, h3]
    rw [scope_pure rfl]
    simp only [wS_rai, wS_try, scope_bl, scope_int, scope_str, scope_non, wpM_ok, wpM_exc, trunc_same, and_self, if_true, if_false, Bool.false_eq_true, reduceIte, wS_setS, wS_seq, wS_if, wS_asg, wS_exS, wS_retS, wS_nxS, wS_nx, wS_ret, wpM_op2, wpM_op1, wpM_asT, wpM_trt, wpM_notT, wpM_andT, wpM_orT, wpM_andV, wpM_notE, wpM_ifE, wpM_lnil, wpM_lcons, wpM_tupE, wpM_lstF, wpM_frz, wpM_new, wpM_cal, wpM_calB, wpM_calF, wpM_isiE, wpM_vr, wpM_ct, wpM_meth, wpM_chn, wpM_cut, wpM_cutF, wpM_ono, wpM_osm, wpM_revT, wpM_lfE, wS_for, tgN, List.getElem?_cons_zero, List.getElem?_cons_succ, List.set_cons_zero, List.set_cons_succ, List.map_cons, List.map_nil, List.length_cons, List.length_nil, List.replicate_succ, List.replicate_zero, Nat.reduceAdd, Nat.reduceSub, List.cons_append, List.nil_append]
    exact fin _
  · simp only [Bool.and_eq_true] at hh
    obtain ⟨q1, q2, q3⟩ := hh
    obtain ⟨st, rfl⟩ := isI_ex q1
    obtain ⟨ends, rfl⟩ := isT_ex q2
    obtain ⟨steps, rfl⟩ := isT_ex q3
    obtain ⟨l1, l2⟩ := hlen _ _ _ rfl
    have hms : ∀ x ∈ steps, smS x := hs _ _ _ rfl
    simp only [isI, isT, Bool.not_true, wS_rai, wS_try, scope_bl, scope_int, scope_str, scope_non, wpM_ok, wpM_exc, trunc_same, and_self, if_true, if_false, Bool.false_eq_true, reduceIte, wS_setS, wS_seq, wS_if, wS_asg, wS_exS, wS_retS, wS_nxS, wS_nx, wS_ret, wpM_op2, wpM_op1, wpM_asT, wpM_trt, wpM_notT, wpM_andT, wpM_orT, wpM_andV, wpM_notE, wpM_ifE, wpM_lnil, wpM_lcons, wpM_tupE, wpM_lstF, wpM_frz, wpM_new, wpM_cal, wpM_calB, wpM_calF, wpM_isiE, wpM_vr, wpM_ct, wpM_meth, wpM_chn, wpM_cut, wpM_cutF, wpM_ono, wpM_osm, wpM_revT, wpM_lfE, wS_for, tgN, List.getElem?_cons_zero, List.getElem?_cons_succ, List.set_cons_zero, List.set_cons_succ, List.map_cons, List.map_nil, List.length_cons, List.length_nil, List.replicate_succ, List.replicate_zero, Nat.reduceAdd, Nat.reduceSub, List.cons_append, List.nil_append, o_cmp]
    have kw := wholeF_3 (s := st) (ends := ends) (steps := steps)
    rcases Bool.eq_false_or_eq_true (decide (1 ≤ st)) with g1 | g1 <;> rcases Bool.eq_false_or_eq_true (decide (st ≤ 40)) with g2 | g2
    rotate_left
    · simp only [g1, g2, Bool.and_false, Bool.false_eq_true, if_false] at kw
      rw [fault_whole kw] at k
      simp only [g1, g2, wS_rai, wS_try, scope_bl, scope_int, scope_str, scope_non, wpM_ok, wpM_exc, trunc_same, and_self, if_true, if_false, Bool.false_eq_true, reduceIte, wS_setS, wS_seq, wS_if, wS_asg, wS_exS, wS_retS, wS_nxS, wS_nx, wS_ret, wpM_op2, wpM_op1, wpM_asT, wpM_trt, wpM_notT, wpM_andT, wpM_orT, wpM_andV, wpM_notE, wpM_ifE, wpM_lnil, wpM_lcons, wpM_tupE, wpM_lstF, wpM_frz, wpM_new, wpM_cal, wpM_calB, wpM_calF, wpM_isiE, wpM_vr, wpM_ct, wpM_meth, wpM_chn, wpM_cut, wpM_cutF, wpM_ono, wpM_osm, wpM_revT, wpM_lfE, wS_for, tgN, List.getElem?_cons_zero, List.getElem?_cons_succ, List.set_cons_zero, List.set_cons_succ, List.map_cons, List.map_nil, List.length_cons, List.length_nil, List.replicate_succ, List.replicate_zero, Nat.reduceAdd, Nat.reduceSub, List.cons_append, List.nil_append, Bool.not_false, h3, o_neg]
      rw [scope_pure rfl]
      simp only [wS_rai, wS_try, scope_bl, scope_int, scope_str, scope_non, wpM_ok, wpM_exc, trunc_same, and_self, if_true, if_false, Bool.false_eq_true, reduceIte, wS_setS, wS_seq, wS_if, wS_asg, wS_exS, wS_retS, wS_nxS, wS_nx, wS_ret, wpM_op2, wpM_op1, wpM_asT, wpM_trt, wpM_notT, wpM_andT, wpM_orT, wpM_andV, wpM_notE, wpM_ifE, wpM_lnil, wpM_lcons, wpM_tupE, wpM_lstF, wpM_frz, wpM_new, wpM_cal, wpM_calB, wpM_calF, wpM_isiE, wpM_vr, wpM_ct, wpM_meth, wpM_chn, wpM_cut, wpM_cutF, wpM_ono, wpM_osm, wpM_revT, wpM_lfE, wS_for, tgN, List.getElem?_cons_zero, List.getElem?_cons_succ, List.set_cons_zero, List.set_cons_succ, List.map_cons, List.map_nil, List.length_cons, List.length_nil, List.replicate_succ, List.replicate_zero, Nat.reduceAdd, Nat.reduceSub, List.cons_append, List.nil_append]
      exact k
    · simp only [g1, g2, Bool.false_and, Bool.false_eq_true, if_false] at kw
      rw [fault_whole kw] at k
      simp only [g1, g2, wS_rai, wS_try, scope_bl, scope_int, scope_str, scope_non, wpM_ok, wpM_exc, trunc_same, and_self, if_true, if_false, Bool.false_eq_true, reduceIte, wS_setS, wS_seq, wS_if, wS_asg, wS_exS, wS_retS, wS_nxS, wS_nx, wS_ret, wpM_op2, wpM_op1, wpM_asT, wpM_trt, wpM_notT, wpM_andT, wpM_orT, wpM_andV, wpM_notE, wpM_ifE, wpM_lnil, wpM_lcons, wpM_tupE, wpM_lstF, wpM_frz, wpM_new, wpM_cal, wpM_calB, wpM_calF, wpM_isiE, wpM_vr, wpM_ct, wpM_meth, wpM_chn, wpM_cut, wpM_cutF, wpM_ono, wpM_osm, wpM_revT, wpM_lfE, wS_for, tgN, List.getElem?_cons_zero, List.getElem?_cons_succ, List.set_cons_zero, List.set_cons_succ, List.map_cons, List.map_nil, List.length_cons, List.length_nil, List.replicate_succ, List.replicate_zero, Nat.reduceAdd, Nat.reduceSub, List.cons_append, List.nil_append, Bool.not_false, h3, o_neg]
      rw [scope_pure rfl]
      simp only [wS_rai, wS_try, scope_bl, scope_int, scope_str, scope_non, wpM_ok, wpM_exc, trunc_same, and_self, if_true, if_false, Bool.false_eq_true, reduceIte, wS_setS, wS_seq, wS_if, wS_asg, wS_exS, wS_retS, wS_nxS, wS_nx, wS_ret, wpM_op2, wpM_op1, wpM_asT, wpM_trt, wpM_notT, wpM_andT, wpM_orT, wpM_andV, wpM_notE, wpM_ifE, wpM_lnil, wpM_lcons, wpM_tupE, wpM_lstF, wpM_frz, wpM_new, wpM_cal, wpM_calB, wpM_calF, wpM_isiE, wpM_vr, wpM_ct, wpM_meth, wpM_chn, wpM_cut, wpM_cutF, wpM_ono, wpM_osm, wpM_revT, wpM_lfE, wS_for, tgN, List.getElem?_cons_zero, List.getElem?_cons_succ, List.set_cons_zero, List.set_cons_succ, List.map_cons, List.map_nil, List.length_cons, List.length_nil, List.replicate_succ, List.replicate_zero, Nat.reduceAdd, Nat.reduceSub, List.cons_append, List.nil_append]
      exact k
    · simp only [g1, g2, Bool.false_and, Bool.false_eq_true, if_false] at kw
      rw [fault_whole kw] at k
      simp only [g1, g2, wS_rai, wS_try, scope_bl, scope_int, scope_str, scope_non, wpM_ok, wpM_exc, trunc_same, and_self, if_true, if_false, Bool.false_eq_true, reduceIte, wS_setS, wS_seq, wS_if, wS_asg, wS_exS, wS_retS, wS_nxS, wS_nx, wS_ret, wpM_op2, wpM_op1, wpM_asT, wpM_trt, wpM_notT, wpM_andT, wpM_orT, wpM_andV, wpM_notE, wpM_ifE, wpM_lnil, wpM_lcons, wpM_tupE, wpM_lstF, wpM_frz, wpM_new, wpM_cal, wpM_calB, wpM_calF, wpM_isiE, wpM_vr, wpM_ct, wpM_meth, wpM_chn, wpM_cut, wpM_cutF, wpM_ono, wpM_osm, wpM_revT, wpM_lfE, wS_for, tgN, List.getElem?_cons_zero, List.getElem?_cons_succ, List.set_cons_zero, List.set_cons_succ, List.map_cons, List.map_nil, List.length_cons, List.length_nil, List.replicate_succ, List.replicate_zero, Nat.reduceAdd, Nat.reduceSub, List.cons_append, List.nil_append, Bool.not_false, h3, o_neg]
      rw [scope_pure rfl]
      simp only [wS_rai, wS_try, scope_bl, scope_int, scope_str, scope_non, wpM_ok, wpM_exc, trunc_same, and_self, if_true, if_false, Bool.false_eq_true, reduceIte, wS_setS, wS_seq, wS_if, wS_asg, wS_exS, wS_retS, wS_nxS, wS_nx, wS_ret, wpM_op2, wpM_op1, wpM_asT, wpM_trt, wpM_notT, wpM_andT, wpM_orT, wpM_andV, wpM_notE, wpM_ifE, wpM_lnil, wpM_lcons, wpM_tupE, wpM_lstF, wpM_frz, wpM_new, wpM_cal, wpM_calB, wpM_calF, wpM_isiE, wpM_vr, wpM_ct, wpM_meth, wpM_chn, wpM_cut, wpM_cutF, wpM_ono, wpM_osm, wpM_revT, wpM_lfE, wS_for, tgN, List.getElem?_cons_zero, List.getElem?_cons_succ, List.set_cons_zero, List.set_cons_succ, List.map_cons, List.map_nil, List.length_cons, List.length_nil, List.replicate_succ, List.replicate_zero, Nat.reduceAdd, Nat.reduceSub, List.cons_append, List.nil_append]
      exact k
    simp only [g1, g2, Bool.and_true, if_true] at kw
    simp only [g1, g2, wS_rai, wS_try, scope_bl, scope_int, scope_str, scope_non, wpM_ok, wpM_exc, trunc_same, and_self, if_true, if_false, Bool.false_eq_true, reduceIte, wS_setS, wS_seq, wS_if, wS_asg, wS_exS, wS_retS, wS_nxS, wS_nx, wS_ret, wpM_op2, wpM_op1, wpM_asT, wpM_trt, wpM_notT, wpM_andT, wpM_orT, wpM_andV, wpM_notE, wpM_ifE, wpM_lnil, wpM_lcons, wpM_tupE, wpM_lstF, wpM_frz, wpM_new, wpM_cal, wpM_calB, wpM_calF, wpM_isiE, wpM_vr, wpM_ct, wpM_meth, wpM_chn, wpM_cut, wpM_cutF, wpM_ono, wpM_osm, wpM_revT, wpM_lfE, wS_for, tgN, List.getElem?_cons_zero, List.getElem?_cons_succ, List.set_cons_zero, List.set_cons_succ, List.map_cons, List.map_nil, List.length_cons, List.length_nil, List.replicate_succ, List.replicate_zero, Nat.reduceAdd, Nat.reduceSub, List.cons_append, List.nil_append, Bool.not_true, i_rg1, wpM_bdE, len_tup]
    rw [if_pos (by omega)]
    simp only [wS_rai, wS_try, scope_bl, scope_int, scope_str, scope_non, wpM_ok, wpM_exc, trunc_same, and_self, if_true, if_false, Bool.false_eq_true, reduceIte, wS_setS, wS_seq, wS_if, wS_asg, wS_exS, wS_retS, wS_nxS, wS_nx, wS_ret, wpM_op2, wpM_op1, wpM_asT, wpM_trt, wpM_notT, wpM_andT, wpM_orT, wpM_andV, wpM_notE, wpM_ifE, wpM_lnil, wpM_lcons, wpM_tupE, wpM_lstF, wpM_frz, wpM_new, wpM_cal, wpM_calB, wpM_calF, wpM_isiE, wpM_vr, wpM_ct, wpM_meth, wpM_chn, wpM_cut, wpM_cutF, wpM_ono, wpM_osm, wpM_revT, wpM_lfE, wS_for, tgN, List.getElem?_cons_zero, List.getElem?_cons_succ, List.set_cons_zero, List.set_cons_succ, List.map_cons, List.map_nil, List.length_cons, List.length_nil, List.replicate_succ, List.replicate_zero, Nat.reduceAdd, Nat.reduceSub, List.cons_append, List.nil_append]
    refine wS_loop (fun i env S' => S' = S ∧ ∃ e5 e6 l, env = [some (.str L), some (.tup [.int st, .tup ends, .tup steps]), some (.int st), some (.tup ends), some (.tup steps), e5, e6] ∧ rising (st - 1) 0 ends = rising (st - 1) l (ends.drop i) ∧ ((i = 0 ∧ l = 0) ∨ (0 < i ∧ 1 ≤ l ∧ ends[i - 1]? = some (.int (l - 1))))) _ 0 _ _ ⟨rfl, none, none, 0, rfl, by simp, .inl ⟨rfl, rfl⟩⟩ ?_ ?_
    · rintro j d' env S' hj ⟨rfl, e5, e6, l, rfl, er, hl⟩
      obtain ⟨rfl, hjn⟩ := rgL_get hj
      refine ⟨okSrc_nil, _, rfl, ?_⟩
      rw [Nat.zero_add] at er hl
      have hx : ends[j]? = some ends[j] := List.getElem?_eq_getElem hjn
      generalize ends[j] = x at hx
      rw [drop_at hx] at er
      have hxp : x.pure = true := mem_pure (show pureL ends = true from hb) x (List.mem_of_getElem? hx)
      simp only [wS_rai, wS_try, scope_bl, scope_int, scope_str, scope_non, wpM_ok, wpM_exc, trunc_same, and_self, if_true, if_false, Bool.false_eq_true, reduceIte, wS_setS, wS_seq, wS_if, wS_asg, wS_exS, wS_retS, wS_nxS, wS_nx, wS_ret, wpM_op2, wpM_op1, wpM_asT, wpM_trt, wpM_notT, wpM_andT, wpM_orT, wpM_andV, wpM_notE, wpM_ifE, wpM_lnil, wpM_lcons, wpM_tupE, wpM_lstF, wpM_frz, wpM_new, wpM_cal, wpM_calB, wpM_calF, wpM_isiE, wpM_vr, wpM_ct, wpM_meth, wpM_chn, wpM_cut, wpM_cutF, wpM_ono, wpM_osm, wpM_revT, wpM_lfE, wS_for, tgN, List.getElem?_cons_zero, List.getElem?_cons_succ, List.set_cons_zero, List.set_cons_succ, List.map_cons, List.map_nil, List.length_cons, List.length_nil, List.replicate_succ, List.replicate_zero, Nat.reduceAdd, Nat.reduceSub, List.cons_append, List.nil_append, ixT hx]
      refine lwhole_wp hxp ?_
      simp only [wS_rai, wS_try, scope_bl, scope_int, scope_str, scope_non, wpM_ok, wpM_exc, trunc_same, and_self, if_true, if_false, Bool.false_eq_true, reduceIte, wS_setS, wS_seq, wS_if, wS_asg, wS_exS, wS_retS, wS_nxS, wS_nx, wS_ret, wpM_op2, wpM_op1, wpM_asT, wpM_trt, wpM_notT, wpM_andT, wpM_orT, wpM_andV, wpM_notE, wpM_ifE, wpM_lnil, wpM_lcons, wpM_tupE, wpM_lstF, wpM_frz, wpM_new, wpM_cal, wpM_calB, wpM_calF, wpM_isiE, wpM_vr, wpM_ct, wpM_meth, wpM_chn, wpM_cut, wpM_cutF, wpM_ono, wpM_osm, wpM_revT, wpM_lfE, wS_for, tgN, List.getElem?_cons_zero, List.getElem?_cons_succ, List.set_cons_zero, List.set_cons_succ, List.map_cons, List.map_nil, List.length_cons, List.length_nil, List.replicate_succ, List.replicate_zero, Nat.reduceAdd, Nat.reduceSub, List.cons_append, List.nil_append, tru]
      have bad : rising (st - 1) 0 ends = false → Q (.lst [.str (Str.ofString "raised"), .int (-1), .str (Str.ofString "ends")]) S' := fun h => by
        simp only [h, Bool.false_eq_true, if_false] at kw
        rw [fault_whole kw] at k
        exact k
      cases x with
      | int n =>
        rw [rising_int] at er
        simp only [isI, Bool.not_true, wS_rai, wS_try, scope_bl, scope_int, scope_str, scope_non, wpM_ok, wpM_exc, trunc_same, and_self, if_true, if_false, Bool.false_eq_true, reduceIte, wS_setS, wS_seq, wS_if, wS_asg, wS_exS, wS_retS, wS_nxS, wS_nx, wS_ret, wpM_op2, wpM_op1, wpM_asT, wpM_trt, wpM_notT, wpM_andT, wpM_orT, wpM_andV, wpM_notE, wpM_ifE, wpM_lnil, wpM_lcons, wpM_tupE, wpM_lstF, wpM_frz, wpM_new, wpM_cal, wpM_calB, wpM_calF, wpM_isiE, wpM_vr, wpM_ct, wpM_meth, wpM_chn, wpM_cut, wpM_cutF, wpM_ono, wpM_osm, wpM_revT, wpM_lfE, wS_for, tgN, List.getElem?_cons_zero, List.getElem?_cons_succ, List.set_cons_zero, List.set_cons_succ, List.map_cons, List.map_nil, List.length_cons, List.length_nil, List.replicate_succ, List.replicate_zero, Nat.reduceAdd, Nat.reduceSub, List.cons_append, List.nil_append, o_cmp, ixT hx]
        rcases Bool.eq_false_or_eq_true (decide (0 ≤ n)) with g3 | g3
        rotate_left
        · simp only [g3, wS_rai, wS_try, scope_bl, scope_int, scope_str, scope_non, wpM_ok, wpM_exc, trunc_same, and_self, if_true, if_false, Bool.false_eq_true, reduceIte, wS_setS, wS_seq, wS_if, wS_asg, wS_exS, wS_retS, wS_nxS, wS_nx, wS_ret, wpM_op2, wpM_op1, wpM_asT, wpM_trt, wpM_notT, wpM_andT, wpM_orT, wpM_andV, wpM_notE, wpM_ifE, wpM_lnil, wpM_lcons, wpM_tupE, wpM_lstF, wpM_frz, wpM_new, wpM_cal, wpM_calB, wpM_calF, wpM_isiE, wpM_vr, wpM_ct, wpM_meth, wpM_chn, wpM_cut, wpM_cutF, wpM_ono, wpM_osm, wpM_revT, wpM_lfE, wS_for, tgN, List.getElem?_cons_zero, List.getElem?_cons_succ, List.set_cons_zero, List.set_cons_succ, List.map_cons, List.map_nil, List.length_cons, List.length_nil, List.replicate_succ, List.replicate_zero, Nat.reduceAdd, Nat.reduceSub, List.cons_append, List.nil_append, Bool.not_false, h3, o_neg]
          rw [scope_pure rfl]
          simp only [wS_rai, wS_try, scope_bl, scope_int, scope_str, scope_non, wpM_ok, wpM_exc, trunc_same, and_self, if_true, if_false, Bool.false_eq_true, reduceIte, wS_setS, wS_seq, wS_if, wS_asg, wS_exS, wS_retS, wS_nxS, wS_nx, wS_ret, wpM_op2, wpM_op1, wpM_asT, wpM_trt, wpM_notT, wpM_andT, wpM_orT, wpM_andV, wpM_notE, wpM_ifE, wpM_lnil, wpM_lcons, wpM_tupE, wpM_lstF, wpM_frz, wpM_new, wpM_cal, wpM_calB, wpM_calF, wpM_isiE, wpM_vr, wpM_ct, wpM_meth, wpM_chn, wpM_cut, wpM_cutF, wpM_ono, wpM_osm, wpM_revT, wpM_lfE, wS_for, tgN, List.getElem?_cons_zero, List.getElem?_cons_succ, List.set_cons_zero, List.set_cons_succ, List.map_cons, List.map_nil, List.length_cons, List.length_nil, List.replicate_succ, List.replicate_zero, Nat.reduceAdd, Nat.reduceSub, List.cons_append, List.nil_append]
          refine bad ?_
          have := of_decide_eq_false g3
          rw [er, decide_eq_false (show ¬ l ≤ n by omega)]; rfl
        · have g3' := of_decide_eq_true g3
          rcases Bool.eq_false_or_eq_true (decide (n < st)) with g4 | g4
          rotate_left
          · simp only [g3, g4, wS_rai, wS_try, scope_bl, scope_int, scope_str, scope_non, wpM_ok, wpM_exc, trunc_same, and_self, if_true, if_false, Bool.false_eq_true, reduceIte, wS_setS, wS_seq, wS_if, wS_asg, wS_exS, wS_retS, wS_nxS, wS_nx, wS_ret, wpM_op2, wpM_op1, wpM_asT, wpM_trt, wpM_notT, wpM_andT, wpM_orT, wpM_andV, wpM_notE, wpM_ifE, wpM_lnil, wpM_lcons, wpM_tupE, wpM_lstF, wpM_frz, wpM_new, wpM_cal, wpM_calB, wpM_calF, wpM_isiE, wpM_vr, wpM_ct, wpM_meth, wpM_chn, wpM_cut, wpM_cutF, wpM_ono, wpM_osm, wpM_revT, wpM_lfE, wS_for, tgN, List.getElem?_cons_zero, List.getElem?_cons_succ, List.set_cons_zero, List.set_cons_succ, List.map_cons, List.map_nil, List.length_cons, List.length_nil, List.replicate_succ, List.replicate_zero, Nat.reduceAdd, Nat.reduceSub, List.cons_append, List.nil_append, Bool.not_false, h3, o_neg]
            rw [scope_pure rfl]
            simp only [wS_rai, wS_try, scope_bl, scope_int, scope_str, scope_non, wpM_ok, wpM_exc, trunc_same, and_self, if_true, if_false, Bool.false_eq_true, reduceIte, wS_setS, wS_seq, wS_if, wS_asg, wS_exS, wS_retS, wS_nxS, wS_nx, wS_ret, wpM_op2, wpM_op1, wpM_asT, wpM_trt, wpM_notT, wpM_andT, wpM_orT, wpM_andV, wpM_notE, wpM_ifE, wpM_lnil, wpM_lcons, wpM_tupE, wpM_lstF, wpM_frz, wpM_new, wpM_cal, wpM_calB, wpM_calF, wpM_isiE, wpM_vr, wpM_ct, wpM_meth, wpM_chn, wpM_cut, wpM_cutF, wpM_ono, wpM_osm, wpM_revT, wpM_lfE, wS_for, tgN, List.getElem?_cons_zero, List.getElem?_cons_succ, List.set_cons_zero, List.set_cons_succ, List.map_cons, List.map_nil, List.length_cons, List.length_nil, List.replicate_succ, List.replicate_zero, Nat.reduceAdd, Nat.reduceSub, List.cons_append, List.nil_append]
            refine bad ?_
            have := of_decide_eq_false g4
            rw [er, decide_eq_false (show ¬ n ≤ st - 1 by omega), Bool.and_false]; rfl
          · have g4' := of_decide_eq_true g4
            simp only [g3, g4, wS_rai, wS_try, scope_bl, scope_int, scope_str, scope_non, wpM_ok, wpM_exc, trunc_same, and_self, if_true, if_false, Bool.false_eq_true, reduceIte, wS_setS, wS_seq, wS_if, wS_asg, wS_exS, wS_retS, wS_nxS, wS_nx, wS_ret, wpM_op2, wpM_op1, wpM_asT, wpM_trt, wpM_notT, wpM_andT, wpM_orT, wpM_andV, wpM_notE, wpM_ifE, wpM_lnil, wpM_lcons, wpM_tupE, wpM_lstF, wpM_frz, wpM_new, wpM_cal, wpM_calB, wpM_calF, wpM_isiE, wpM_vr, wpM_ct, wpM_meth, wpM_chn, wpM_cut, wpM_cutF, wpM_ono, wpM_osm, wpM_revT, wpM_lfE, wS_for, tgN, List.getElem?_cons_zero, List.getElem?_cons_succ, List.set_cons_zero, List.set_cons_succ, List.map_cons, List.map_nil, List.length_cons, List.length_nil, List.replicate_succ, List.replicate_zero, Nat.reduceAdd, Nat.reduceSub, List.cons_append, List.nil_append, Bool.not_true]
            rw [decide_eq_true (show n ≤ st - 1 by omega), Bool.and_true] at er
            rcases hl with ⟨rfl, rfl⟩ | ⟨hj0, hl1, hl2⟩
            · rw [decide_eq_false (by omega)]
              simp only [wS_rai, wS_try, scope_bl, scope_int, scope_str, scope_non, wpM_ok, wpM_exc, trunc_same, and_self, if_true, if_false, Bool.false_eq_true, reduceIte, wS_setS, wS_seq, wS_if, wS_asg, wS_exS, wS_retS, wS_nxS, wS_nx, wS_ret, wpM_op2, wpM_op1, wpM_asT, wpM_trt, wpM_notT, wpM_andT, wpM_orT, wpM_andV, wpM_notE, wpM_ifE, wpM_lnil, wpM_lcons, wpM_tupE, wpM_lstF, wpM_frz, wpM_new, wpM_cal, wpM_calB, wpM_calF, wpM_isiE, wpM_vr, wpM_ct, wpM_meth, wpM_chn, wpM_cut, wpM_cutF, wpM_ono, wpM_osm, wpM_revT, wpM_lfE, wS_for, tgN, List.getElem?_cons_zero, List.getElem?_cons_succ, List.set_cons_zero, List.set_cons_succ, List.map_cons, List.map_nil, List.length_cons, List.length_nil, List.replicate_succ, List.replicate_zero, Nat.reduceAdd, Nat.reduceSub, List.cons_append, List.nil_append]
              rw [g3, Bool.true_and] at er
              exact ⟨trivial, _, _, n + 1, rfl, er, .inr ⟨by omega, by omega, by simpa using hx⟩⟩
            · rw [decide_eq_true (by omega)]
              obtain ⟨i, rfl⟩ : ∃ i : Nat, j = i + 1 := ⟨j - 1, by omega⟩
              have hl2 : ends[i]? = some (.int (l - 1)) := hl2
              simp only [wS_rai, wS_try, scope_bl, scope_int, scope_str, scope_non, wpM_ok, wpM_exc, trunc_same, and_self, if_true, if_false, Bool.false_eq_true, reduceIte, wS_setS, wS_seq, wS_if, wS_asg, wS_exS, wS_retS, wS_nxS, wS_nx, wS_ret, wpM_op2, wpM_op1, wpM_asT, wpM_trt, wpM_notT, wpM_andT, wpM_orT, wpM_andV, wpM_notE, wpM_ifE, wpM_lnil, wpM_lcons, wpM_tupE, wpM_lstF, wpM_frz, wpM_new, wpM_cal, wpM_calB, wpM_calF, wpM_isiE, wpM_vr, wpM_ct, wpM_meth, wpM_chn, wpM_cut, wpM_cutF, wpM_ono, wpM_osm, wpM_revT, wpM_lfE, wS_for, tgN, List.getElem?_cons_zero, List.getElem?_cons_succ, List.set_cons_zero, List.set_cons_succ, List.map_cons, List.map_nil, List.length_cons, List.length_nil, List.replicate_succ, List.replicate_zero, Nat.reduceAdd, Nat.reduceSub, List.cons_append, List.nil_append, o_sub, show (((i + 1 : Nat) : Int) - 1) = (i : Int) by omega, ixT hl2, ixT hx, le_int]
              by_cases g5 : n ≤ l - 1
              · rw [decide_eq_true g5]
                simp only [wS_rai, wS_try, scope_bl, scope_int, scope_str, scope_non, wpM_ok, wpM_exc, trunc_same, and_self, if_true, if_false, Bool.false_eq_true, reduceIte, wS_setS, wS_seq, wS_if, wS_asg, wS_exS, wS_retS, wS_nxS, wS_nx, wS_ret, wpM_op2, wpM_op1, wpM_asT, wpM_trt, wpM_notT, wpM_andT, wpM_orT, wpM_andV, wpM_notE, wpM_ifE, wpM_lnil, wpM_lcons, wpM_tupE, wpM_lstF, wpM_frz, wpM_new, wpM_cal, wpM_calB, wpM_calF, wpM_isiE, wpM_vr, wpM_ct, wpM_meth, wpM_chn, wpM_cut, wpM_cutF, wpM_ono, wpM_osm, wpM_revT, wpM_lfE, wS_for, tgN, List.getElem?_cons_zero, List.getElem?_cons_succ, List.set_cons_zero, List.set_cons_succ, List.map_cons, List.map_nil, List.length_cons, List.length_nil, List.replicate_succ, List.replicate_zero, Nat.reduceAdd, Nat.reduceSub, List.cons_append, List.nil_append, h3, o_neg]
                rw [scope_pure rfl]
                simp only [wS_rai, wS_try, scope_bl, scope_int, scope_str, scope_non, wpM_ok, wpM_exc, trunc_same, and_self, if_true, if_false, Bool.false_eq_true, reduceIte, wS_setS, wS_seq, wS_if, wS_asg, wS_exS, wS_retS, wS_nxS, wS_nx, wS_ret, wpM_op2, wpM_op1, wpM_asT, wpM_trt, wpM_notT, wpM_andT, wpM_orT, wpM_andV, wpM_notE, wpM_ifE, wpM_lnil, wpM_lcons, wpM_tupE, wpM_lstF, wpM_frz, wpM_new, wpM_cal, wpM_calB, wpM_calF, wpM_isiE, wpM_vr, wpM_ct, wpM_meth, wpM_chn, wpM_cut, wpM_cutF, wpM_ono, wpM_osm, wpM_revT, wpM_lfE, wS_for, tgN, List.getElem?_cons_zero, List.getElem?_cons_succ, List.set_cons_zero, List.set_cons_succ, List.map_cons, List.map_nil, List.length_cons, List.length_nil, List.replicate_succ, List.replicate_zero, Nat.reduceAdd, Nat.reduceSub, List.cons_append, List.nil_append]
                refine bad ?_
                rw [er, decide_eq_false (show ¬ l ≤ n by omega)]; rfl
              · rw [decide_eq_false g5]
                simp only [wS_rai, wS_try, scope_bl, scope_int, scope_str, scope_non, wpM_ok, wpM_exc, trunc_same, and_self, if_true, if_false, Bool.false_eq_true, reduceIte, wS_setS, wS_seq, wS_if, wS_asg, wS_exS, wS_retS, wS_nxS, wS_nx, wS_ret, wpM_op2, wpM_op1, wpM_asT, wpM_trt, wpM_notT, wpM_andT, wpM_orT, wpM_andV, wpM_notE, wpM_ifE, wpM_lnil, wpM_lcons, wpM_tupE, wpM_lstF, wpM_frz, wpM_new, wpM_cal, wpM_calB, wpM_calF, wpM_isiE, wpM_vr, wpM_ct, wpM_meth, wpM_chn, wpM_cut, wpM_cutF, wpM_ono, wpM_osm, wpM_revT, wpM_lfE, wS_for, tgN, List.getElem?_cons_zero, List.getElem?_cons_succ, List.set_cons_zero, List.set_cons_succ, List.map_cons, List.map_nil, List.length_cons, List.length_nil, List.replicate_succ, List.replicate_zero, Nat.reduceAdd, Nat.reduceSub, List.cons_append, List.nil_append]
                rw [decide_eq_true (show l ≤ n by omega), Bool.true_and] at er
                refine ⟨trivial, _, _, n + 1, rfl, ?_, .inr ⟨by omega, by omega, ?_⟩⟩
                · rw [Nat.zero_add]; exact er
                · rw [Nat.zero_add, Nat.add_sub_cancel, hx, show n + 1 - 1 = n by omega]
      | _ =>
        rw [rising_not rfl] at er
        simp only [isI, Bool.not_false, wS_rai, wS_try, scope_bl, scope_int, scope_str, scope_non, wpM_ok, wpM_exc, trunc_same, and_self, if_true, if_false, Bool.false_eq_true, reduceIte, wS_setS, wS_seq, wS_if, wS_asg, wS_exS, wS_retS, wS_nxS, wS_nx, wS_ret, wpM_op2, wpM_op1, wpM_asT, wpM_trt, wpM_notT, wpM_andT, wpM_orT, wpM_andV, wpM_notE, wpM_ifE, wpM_lnil, wpM_lcons, wpM_tupE, wpM_lstF, wpM_frz, wpM_new, wpM_cal, wpM_calB, wpM_calF, wpM_isiE, wpM_vr, wpM_ct, wpM_meth, wpM_chn, wpM_cut, wpM_cutF, wpM_ono, wpM_osm, wpM_revT, wpM_lfE, wS_for, tgN, List.getElem?_cons_zero, List.getElem?_cons_succ, List.set_cons_zero, List.set_cons_succ, List.map_cons, List.map_nil, List.length_cons, List.length_nil, List.replicate_succ, List.replicate_zero, Nat.reduceAdd, Nat.reduceSub, List.cons_append, List.nil_append, h3, o_neg]
        rw [scope_pure rfl]
        simp only [wS_rai, wS_try, scope_bl, scope_int, scope_str, scope_non, wpM_ok, wpM_exc, trunc_same, and_self, if_true, if_false, Bool.false_eq_true, reduceIte, wS_setS, wS_seq, wS_if, wS_asg, wS_exS, wS_retS, wS_nxS, wS_nx, wS_ret, wpM_op2, wpM_op1, wpM_asT, wpM_trt, wpM_notT, wpM_andT, wpM_orT, wpM_andV, wpM_notE, wpM_ifE, wpM_lnil, wpM_lcons, wpM_tupE, wpM_lstF, wpM_frz, wpM_new, wpM_cal, wpM_calB, wpM_calF, wpM_isiE, wpM_vr, wpM_ct, wpM_meth, wpM_chn, wpM_cut, wpM_cutF, wpM_ono, wpM_osm, wpM_revT, wpM_lfE, wS_for, tgN, List.getElem?_cons_zero, List.getElem?_cons_succ, List.set_cons_zero, List.set_cons_succ, List.map_cons, List.map_nil, List.length_cons, List.length_nil, List.replicate_succ, List.replicate_zero, Nat.reduceAdd, Nat.reduceSub, List.cons_append, List.nil_append]
        exact bad er
    · rintro env S' ⟨rfl, e5, e6, l, rfl, er, hl⟩
      refine ⟨okSrc_nil, ?_⟩
      rw [rgL_len, Nat.zero_add, List.drop_length] at er
      simp only [show rising (st - 1) 0 ends = true from er, if_true] at kw
      simp only [wS_rai, wS_try, scope_bl, scope_int, scope_str, scope_non, wpM_ok, wpM_exc, trunc_same, and_self, if_true, if_false, Bool.false_eq_true, reduceIte, wS_setS, wS_seq, wS_if, wS_asg, wS_exS, wS_retS, wS_nxS, wS_nx, wS_ret, wpM_op2, wpM_op1, wpM_asT, wpM_trt, wpM_notT, wpM_andT, wpM_orT, wpM_andV, wpM_notE, wpM_ifE, wpM_lnil, wpM_lcons, wpM_tupE, wpM_lstF, wpM_frz, wpM_new, wpM_cal, wpM_calB, wpM_calF, wpM_isiE, wpM_vr, wpM_ct, wpM_meth, wpM_chn, wpM_cut, wpM_cutF, wpM_ono, wpM_osm, wpM_revT, wpM_lfE, wS_for, tgN, List.getElem?_cons_zero, List.getElem?_cons_succ, List.set_cons_zero, List.set_cons_succ, List.map_cons, List.map_nil, List.length_cons, List.length_nil, List.replicate_succ, List.replicate_zero, Nat.reduceAdd, Nat.reduceSub, List.cons_append, List.nil_append, len_tup, o_cmp]
      by_cases g6 : 240 < steps.length
      · rw [if_pos g6] at kw
        rw [fault_whole kw] at k
        rw [decide_eq_true (by omega)]
        simp only [wS_rai, wS_try, scope_bl, scope_int, scope_str, scope_non, wpM_ok, wpM_exc, trunc_same, and_self, if_true, if_false, Bool.false_eq_true, reduceIte, wS_setS, wS_seq, wS_if, wS_asg, wS_exS, wS_retS, wS_nxS, wS_nx, wS_ret, wpM_op2, wpM_op1, wpM_asT, wpM_trt, wpM_notT, wpM_andT, wpM_orT, wpM_andV, wpM_notE, wpM_ifE, wpM_lnil, wpM_lcons, wpM_tupE, wpM_lstF, wpM_frz, wpM_new, wpM_cal, wpM_calB, wpM_calF, wpM_isiE, wpM_vr, wpM_ct, wpM_meth, wpM_chn, wpM_cut, wpM_cutF, wpM_ono, wpM_osm, wpM_revT, wpM_lfE, wS_for, tgN, List.getElem?_cons_zero, List.getElem?_cons_succ, List.set_cons_zero, List.set_cons_succ, List.map_cons, List.map_nil, List.length_cons, List.length_nil, List.replicate_succ, List.replicate_zero, Nat.reduceAdd, Nat.reduceSub, List.cons_append, List.nil_append, h3, o_neg]
        rw [scope_pure rfl]
        simp only [wS_rai, wS_try, scope_bl, scope_int, scope_str, scope_non, wpM_ok, wpM_exc, trunc_same, and_self, if_true, if_false, Bool.false_eq_true, reduceIte, wS_setS, wS_seq, wS_if, wS_asg, wS_exS, wS_retS, wS_nxS, wS_nx, wS_ret, wpM_op2, wpM_op1, wpM_asT, wpM_trt, wpM_notT, wpM_andT, wpM_orT, wpM_andV, wpM_notE, wpM_ifE, wpM_lnil, wpM_lcons, wpM_tupE, wpM_lstF, wpM_frz, wpM_new, wpM_cal, wpM_calB, wpM_calF, wpM_isiE, wpM_vr, wpM_ct, wpM_meth, wpM_chn, wpM_cut, wpM_cutF, wpM_ono, wpM_osm, wpM_revT, wpM_lfE, wS_for, tgN, List.getElem?_cons_zero, List.getElem?_cons_succ, List.set_cons_zero, List.set_cons_succ, List.map_cons, List.map_nil, List.length_cons, List.length_nil, List.replicate_succ, List.replicate_zero, Nat.reduceAdd, Nat.reduceSub, List.cons_append, List.nil_append]
        exact k
      rw [if_neg g6] at kw
      rw [decide_eq_false (by omega)]
      have kf : faultF L (.tup [.int st, .tup ends, .tup steps]) = stepsF L st .non 0 steps := by
        unfold faultF; rw [kw]
      rw [kf] at k
      simp only [wS_rai, wS_try, scope_bl, scope_int, scope_str, scope_non, wpM_ok, wpM_exc, trunc_same, and_self, if_true, if_false, Bool.false_eq_true, reduceIte, wS_setS, wS_seq, wS_if, wS_asg, wS_exS, wS_retS, wS_nxS, wS_nx, wS_ret, wpM_op2, wpM_op1, wpM_asT, wpM_trt, wpM_notT, wpM_andT, wpM_orT, wpM_andV, wpM_notE, wpM_ifE, wpM_lnil, wpM_lcons, wpM_tupE, wpM_lstF, wpM_frz, wpM_new, wpM_cal, wpM_calB, wpM_calF, wpM_isiE, wpM_vr, wpM_ct, wpM_meth, wpM_chn, wpM_cut, wpM_cutF, wpM_ono, wpM_osm, wpM_revT, wpM_lfE, wS_for, tgN, List.getElem?_cons_zero, List.getElem?_cons_succ, List.set_cons_zero, List.set_cons_succ, List.map_cons, List.map_nil, List.length_cons, List.length_nil, List.replicate_succ, List.replicate_zero, Nat.reduceAdd, Nat.reduceSub, List.cons_append, List.nil_append, i_rg1, wpM_bdE, len_tup]
      rw [if_pos (by omega)]
      simp only [wS_rai, wS_try, scope_bl, scope_int, scope_str, scope_non, wpM_ok, wpM_exc, trunc_same, and_self, if_true, if_false, Bool.false_eq_true, reduceIte, wS_setS, wS_seq, wS_if, wS_asg, wS_exS, wS_retS, wS_nxS, wS_nx, wS_ret, wpM_op2, wpM_op1, wpM_asT, wpM_trt, wpM_notT, wpM_andT, wpM_orT, wpM_andV, wpM_notE, wpM_ifE, wpM_lnil, wpM_lcons, wpM_tupE, wpM_lstF, wpM_frz, wpM_new, wpM_cal, wpM_calB, wpM_calF, wpM_isiE, wpM_vr, wpM_ct, wpM_meth, wpM_chn, wpM_cut, wpM_cutF, wpM_ono, wpM_osm, wpM_revT, wpM_lfE, wS_for, tgN, List.getElem?_cons_zero, List.getElem?_cons_succ, List.set_cons_zero, List.set_cons_succ, List.map_cons, List.map_nil, List.length_cons, List.length_nil, List.replicate_succ, List.replicate_zero, Nat.reduceAdd, Nat.reduceSub, List.cons_append, List.nil_append]
      refine wS_loop (fun i env S'' => S'' = S' ∧ ∃ e5 e6 a, env = [some (.str L), some (.tup [.int st, .tup ends, .tup steps]), some (.int st), some (.tup ends), some (.tup steps), e5, e6] ∧ stepsF L st .non 0 steps = stepsF L st a i (steps.drop i) ∧ ((i = 0 ∧ a = .non) ∨ (0 < i ∧ steps[i - 1]? = some a ∧ ∃ (b : Int) (l : Str) (t : Int), a = .tup [.int b, .str l, .int t]))) _ 0 _ _ ⟨rfl, _, _, .non, rfl, by simp, .inl ⟨rfl, rfl⟩⟩ ?_ ?_
      · rintro j d' env S'' hj ⟨rfl, e5, e6, a, rfl, es, hl⟩
        obtain ⟨rfl, hjn⟩ := rgL_get hj
        refine ⟨okSrc_nil, _, rfl, ?_⟩
        rw [Nat.zero_add] at es hl
        have hx : steps[j]? = some steps[j] := List.getElem?_eq_getElem hjn
        generalize steps[j] = x at hx
        rw [drop_at hx, stepsF_cons] at es
        have hxm := List.mem_of_getElem? hx
        have hxp : x.pure = true := mem_pure (show pureL steps = true from hc) x hxm
        have hsm := hms x hxm
        simp only [wS_rai, wS_try, scope_bl, scope_int, scope_str, scope_non, wpM_ok, wpM_exc, trunc_same, and_self, if_true, if_false, Bool.false_eq_true, reduceIte, wS_setS, wS_seq, wS_if, wS_asg, wS_exS, wS_retS, wS_nxS, wS_nx, wS_ret, wpM_op2, wpM_op1, wpM_asT, wpM_trt, wpM_notT, wpM_andT, wpM_orT, wpM_andV, wpM_notE, wpM_ifE, wpM_lnil, wpM_lcons, wpM_tupE, wpM_lstF, wpM_frz, wpM_new, wpM_cal, wpM_calB, wpM_calF, wpM_isiE, wpM_vr, wpM_ct, wpM_meth, wpM_chn, wpM_cut, wpM_cutF, wpM_ono, wpM_osm, wpM_revT, wpM_lfE, wS_for, tgN, List.getElem?_cons_zero, List.getElem?_cons_succ, List.set_cons_zero, List.set_cons_succ, List.map_cons, List.map_nil, List.length_cons, List.length_nil, List.replicate_succ, List.replicate_zero, Nat.reduceAdd, Nat.reduceSub, List.cons_append, List.nil_append, ixT hx, isiT hxp, tru]
        have bad : ∀ w, stepF L st a x = some w → Q (.lst [.str (Str.ofString "raised"), .int (j : Int), .str (Str.ofString w)]) S'' := fun w h => by
          rw [h] at es
          rw [es] at k; exact k
        rcases shape3 x with ⟨b, l, t, rfl⟩ | h | ⟨ds, rfl, h⟩
        rotate_left
        · simp only [h, wS_rai, wS_try, scope_bl, scope_int, scope_str, scope_non, wpM_ok, wpM_exc, trunc_same, and_self, if_true, if_false, Bool.false_eq_true, reduceIte, wS_setS, wS_seq, wS_if, wS_asg, wS_exS, wS_retS, wS_nxS, wS_nx, wS_ret, wpM_op2, wpM_op1, wpM_asT, wpM_trt, wpM_notT, wpM_andT, wpM_orT, wpM_andV, wpM_notE, wpM_ifE, wpM_lnil, wpM_lcons, wpM_tupE, wpM_lstF, wpM_frz, wpM_new, wpM_cal, wpM_calB, wpM_calF, wpM_isiE, wpM_vr, wpM_ct, wpM_meth, wpM_chn, wpM_cut, wpM_cutF, wpM_ono, wpM_osm, wpM_revT, wpM_lfE, wS_for, tgN, List.getElem?_cons_zero, List.getElem?_cons_succ, List.set_cons_zero, List.set_cons_succ, List.map_cons, List.map_nil, List.length_cons, List.length_nil, List.replicate_succ, List.replicate_zero, Nat.reduceAdd, Nat.reduceSub, List.cons_append, List.nil_append, Bool.not_false, h3]
          rw [scope_pure rfl]
          simp only [wS_rai, wS_try, scope_bl, scope_int, scope_str, scope_non, wpM_ok, wpM_exc, trunc_same, and_self, if_true, if_false, Bool.false_eq_true, reduceIte, wS_setS, wS_seq, wS_if, wS_asg, wS_exS, wS_retS, wS_nxS, wS_nx, wS_ret, wpM_op2, wpM_op1, wpM_asT, wpM_trt, wpM_notT, wpM_andT, wpM_orT, wpM_andV, wpM_notE, wpM_ifE, wpM_lnil, wpM_lcons, wpM_tupE, wpM_lstF, wpM_frz, wpM_new, wpM_cal, wpM_calB, wpM_calF, wpM_isiE, wpM_vr, wpM_ct, wpM_meth, wpM_chn, wpM_cut, wpM_cutF, wpM_ono, wpM_osm, wpM_revT, wpM_lfE, wS_for, tgN, List.getElem?_cons_zero, List.getElem?_cons_succ, List.set_cons_zero, List.set_cons_succ, List.map_cons, List.map_nil, List.length_cons, List.length_nil, List.replicate_succ, List.replicate_zero, Nat.reduceAdd, Nat.reduceSub, List.cons_append, List.nil_append]
          exact bad _ (stepF_notT h)
        · have h' : ((ds.length : Int) == 3) = false := by rw [beq_eq_false_iff_ne]; omega
          simp only [isT, wS_rai, wS_try, scope_bl, scope_int, scope_str, scope_non, wpM_ok, wpM_exc, trunc_same, and_self, if_true, if_false, Bool.false_eq_true, reduceIte, wS_setS, wS_seq, wS_if, wS_asg, wS_exS, wS_retS, wS_nxS, wS_nx, wS_ret, wpM_op2, wpM_op1, wpM_asT, wpM_trt, wpM_notT, wpM_andT, wpM_orT, wpM_andV, wpM_notE, wpM_ifE, wpM_lnil, wpM_lcons, wpM_tupE, wpM_lstF, wpM_frz, wpM_new, wpM_cal, wpM_calB, wpM_calF, wpM_isiE, wpM_vr, wpM_ct, wpM_meth, wpM_chn, wpM_cut, wpM_cutF, wpM_ono, wpM_osm, wpM_revT, wpM_lfE, wS_for, tgN, List.getElem?_cons_zero, List.getElem?_cons_succ, List.set_cons_zero, List.set_cons_succ, List.map_cons, List.map_nil, List.length_cons, List.length_nil, List.replicate_succ, List.replicate_zero, Nat.reduceAdd, Nat.reduceSub, List.cons_append, List.nil_append, Bool.not_true, len_tup, ne_int, h', Bool.not_false, h3]
          rw [scope_pure rfl]
          simp only [wS_rai, wS_try, scope_bl, scope_int, scope_str, scope_non, wpM_ok, wpM_exc, trunc_same, and_self, if_true, if_false, Bool.false_eq_true, reduceIte, wS_setS, wS_seq, wS_if, wS_asg, wS_exS, wS_retS, wS_nxS, wS_nx, wS_ret, wpM_op2, wpM_op1, wpM_asT, wpM_trt, wpM_notT, wpM_andT, wpM_orT, wpM_andV, wpM_notE, wpM_ifE, wpM_lnil, wpM_lcons, wpM_tupE, wpM_lstF, wpM_frz, wpM_new, wpM_cal, wpM_calB, wpM_calF, wpM_isiE, wpM_vr, wpM_ct, wpM_meth, wpM_chn, wpM_cut, wpM_cutF, wpM_ono, wpM_osm, wpM_revT, wpM_lfE, wS_for, tgN, List.getElem?_cons_zero, List.getElem?_cons_succ, List.set_cons_zero, List.set_cons_succ, List.map_cons, List.map_nil, List.length_cons, List.length_nil, List.replicate_succ, List.replicate_zero, Nat.reduceAdd, Nat.reduceSub, List.cons_append, List.nil_append]
          exact bad _ (stepF_len h)
        have hp3 : (b.pure && (l.pure && (t.pure && true))) = true := hxp
        simp only [Bool.and_eq_true] at hp3
        obtain ⟨hpb, hpl, hpt, _⟩ := hp3
        simp only [isT, wS_rai, wS_try, scope_bl, scope_int, scope_str, scope_non, wpM_ok, wpM_exc, trunc_same, and_self, if_true, if_false, Bool.false_eq_true, reduceIte, wS_setS, wS_seq, wS_if, wS_asg, wS_exS, wS_retS, wS_nxS, wS_nx, wS_ret, wpM_op2, wpM_op1, wpM_asT, wpM_trt, wpM_notT, wpM_andT, wpM_orT, wpM_andV, wpM_notE, wpM_ifE, wpM_lnil, wpM_lcons, wpM_tupE, wpM_lstF, wpM_frz, wpM_new, wpM_cal, wpM_calB, wpM_calF, wpM_isiE, wpM_vr, wpM_ct, wpM_meth, wpM_chn, wpM_cut, wpM_cutF, wpM_ono, wpM_osm, wpM_revT, wpM_lfE, wS_for, tgN, List.getElem?_cons_zero, List.getElem?_cons_succ, List.set_cons_zero, List.set_cons_succ, List.map_cons, List.map_nil, List.length_cons, List.length_nil, List.replicate_succ, List.replicate_zero, Nat.reduceAdd, Nat.reduceSub, List.cons_append, List.nil_append, Bool.not_true, len_tup, ne_int, show ((3 : Nat) : Int) = 3 from rfl, beq_self_eq_true, ixT0, ixT1, ixT2]
        refine lwhole_wp hpb ?_
        simp only [wS_rai, wS_try, scope_bl, scope_int, scope_str, scope_non, wpM_ok, wpM_exc, trunc_same, and_self, if_true, if_false, Bool.false_eq_true, reduceIte, wS_setS, wS_seq, wS_if, wS_asg, wS_exS, wS_retS, wS_nxS, wS_nx, wS_ret, wpM_op2, wpM_op1, wpM_asT, wpM_trt, wpM_notT, wpM_andT, wpM_orT, wpM_andV, wpM_notE, wpM_ifE, wpM_lnil, wpM_lcons, wpM_tupE, wpM_lstF, wpM_frz, wpM_new, wpM_cal, wpM_calB, wpM_calF, wpM_isiE, wpM_vr, wpM_ct, wpM_meth, wpM_chn, wpM_cut, wpM_cutF, wpM_ono, wpM_osm, wpM_revT, wpM_lfE, wS_for, tgN, List.getElem?_cons_zero, List.getElem?_cons_succ, List.set_cons_zero, List.set_cons_succ, List.map_cons, List.map_nil, List.length_cons, List.length_nil, List.replicate_succ, List.replicate_zero, Nat.reduceAdd, Nat.reduceSub, List.cons_append, List.nil_append, tru, ixT1, isiS hpl]
        cases b with
        | int b =>
          cases l with
          | str l =>
            simp only [isI, isS, Bool.not_true, wS_rai, wS_try, scope_bl, scope_int, scope_str, scope_non, wpM_ok, wpM_exc, trunc_same, and_self, if_true, if_false, Bool.false_eq_true, reduceIte, wS_setS, wS_seq, wS_if, wS_asg, wS_exS, wS_retS, wS_nxS, wS_nx, wS_ret, wpM_op2, wpM_op1, wpM_asT, wpM_trt, wpM_notT, wpM_andT, wpM_orT, wpM_andV, wpM_notE, wpM_ifE, wpM_lnil, wpM_lcons, wpM_tupE, wpM_lstF, wpM_frz, wpM_new, wpM_cal, wpM_calB, wpM_calF, wpM_isiE, wpM_vr, wpM_ct, wpM_meth, wpM_chn, wpM_cut, wpM_cutF, wpM_ono, wpM_osm, wpM_revT, wpM_lfE, wS_for, tgN, List.getElem?_cons_zero, List.getElem?_cons_succ, List.set_cons_zero, List.set_cons_succ, List.map_cons, List.map_nil, List.length_cons, List.length_nil, List.replicate_succ, List.replicate_zero, Nat.reduceAdd, Nat.reduceSub, List.cons_append, List.nil_append, ixT2]
            refine lwhole_wp hpt ?_
            simp only [tru, wS_rai, wS_try, scope_bl, scope_int, scope_str, scope_non, wpM_ok, wpM_exc, trunc_same, and_self, if_true, if_false, Bool.false_eq_true, reduceIte, wS_setS, wS_seq, wS_if, wS_asg, wS_exS, wS_retS, wS_nxS, wS_nx, wS_ret, wpM_op2, wpM_op1, wpM_asT, wpM_trt, wpM_notT, wpM_andT, wpM_orT, wpM_andV, wpM_notE, wpM_ifE, wpM_lnil, wpM_lcons, wpM_tupE, wpM_lstF, wpM_frz, wpM_new, wpM_cal, wpM_calB, wpM_calF, wpM_isiE, wpM_vr, wpM_ct, wpM_meth, wpM_chn, wpM_cut, wpM_cutF, wpM_ono, wpM_osm, wpM_revT, wpM_lfE, wS_for, tgN, List.getElem?_cons_zero, List.getElem?_cons_succ, List.set_cons_zero, List.set_cons_succ, List.map_cons, List.map_nil, List.length_cons, List.length_nil, List.replicate_succ, List.replicate_zero, Nat.reduceAdd, Nat.reduceSub, List.cons_append, List.nil_append]
            cases t with
            | int t =>
              have hs : l.length ≤ sizeLine := hsm
              have kk := stepF_3 (L := L) (st := st) (a := a) (b := b) (t := t) (l := l)
              unfold inSt at kk
              simp only [isI, Bool.not_true, wS_rai, wS_try, scope_bl, scope_int, scope_str, scope_non, wpM_ok, wpM_exc, trunc_same, and_self, if_true, if_false, Bool.false_eq_true, reduceIte, wS_setS, wS_seq, wS_if, wS_asg, wS_exS, wS_retS, wS_nxS, wS_nx, wS_ret, wpM_op2, wpM_op1, wpM_asT, wpM_trt, wpM_notT, wpM_andT, wpM_orT, wpM_andV, wpM_notE, wpM_ifE, wpM_lnil, wpM_lcons, wpM_tupE, wpM_lstF, wpM_frz, wpM_new, wpM_cal, wpM_calB, wpM_calF, wpM_isiE, wpM_vr, wpM_ct, wpM_meth, wpM_chn, wpM_cut, wpM_cutF, wpM_ono, wpM_osm, wpM_revT, wpM_lfE, wS_for, tgN, List.getElem?_cons_zero, List.getElem?_cons_succ, List.set_cons_zero, List.set_cons_succ, List.map_cons, List.map_nil, List.length_cons, List.length_nil, List.replicate_succ, List.replicate_zero, Nat.reduceAdd, Nat.reduceSub, List.cons_append, List.nil_append, o_cmp, ixT0, ixT1, ixT2, h3]
              rcases Bool.eq_false_or_eq_true (decide (0 ≤ b)) with h1 | h1 <;> rcases Bool.eq_false_or_eq_true (decide (b < st)) with h2' | h2' <;> rcases Bool.eq_false_or_eq_true (decide (0 ≤ t)) with h3' | h3' <;> rcases Bool.eq_false_or_eq_true (decide (t < st)) with h4 | h4 <;>
                simp only [h1, h2', h3', h4, Bool.and_true, Bool.and_false, Bool.true_and, Bool.false_and, Bool.not_true, Bool.not_false, wS_rai, wS_try, scope_bl, scope_int, scope_str, scope_non, wpM_ok, wpM_exc, trunc_same, and_self, if_true, if_false, Bool.false_eq_true, reduceIte, wS_setS, wS_seq, wS_if, wS_asg, wS_exS, wS_retS, wS_nxS, wS_nx, wS_ret, wpM_op2, wpM_op1, wpM_asT, wpM_trt, wpM_notT, wpM_andT, wpM_orT, wpM_andV, wpM_notE, wpM_ifE, wpM_lnil, wpM_lcons, wpM_tupE, wpM_lstF, wpM_frz, wpM_new, wpM_cal, wpM_calB, wpM_calF, wpM_isiE, wpM_vr, wpM_ct, wpM_meth, wpM_chn, wpM_cut, wpM_cutF, wpM_ono, wpM_osm, wpM_revT, wpM_lfE, wS_for, tgN, List.getElem?_cons_zero, List.getElem?_cons_succ, List.set_cons_zero, List.set_cons_succ, List.map_cons, List.map_nil, List.length_cons, List.length_nil, List.replicate_succ, List.replicate_zero, Nat.reduceAdd, Nat.reduceSub, List.cons_append, List.nil_append, ixT0, ixT1, ixT2] at kk ⊢ <;> first | (rw [scope_pure rfl]; simp only [wS_rai, wS_try, scope_bl, scope_int, scope_str, scope_non, wpM_ok, wpM_exc, trunc_same, and_self, if_true, if_false, Bool.false_eq_true, reduceIte, wS_setS, wS_seq, wS_if, wS_asg, wS_exS, wS_retS, wS_nxS, wS_nx, wS_ret, wpM_op2, wpM_op1, wpM_asT, wpM_trt, wpM_notT, wpM_andT, wpM_orT, wpM_andV, wpM_notE, wpM_ifE, wpM_lnil, wpM_lcons, wpM_tupE, wpM_lstF, wpM_frz, wpM_new, wpM_cal, wpM_calB, wpM_calF, wpM_isiE, wpM_vr, wpM_ct, wpM_meth, wpM_chn, wpM_cut, wpM_cutF, wpM_ono, wpM_osm, wpM_revT, wpM_lfE, wS_for, tgN, List.getElem?_cons_zero, List.getElem?_cons_succ, List.set_cons_zero, List.set_cons_succ, List.map_cons, List.map_nil, List.length_cons, List.length_nil, List.replicate_succ, List.replicate_zero, Nat.reduceAdd, Nat.reduceSub, List.cons_append, List.nil_append]; exact bad _ kk) | skip
              simp only [len_str hs, ne_int, o_inS, wS_rai, wS_try, scope_bl, scope_int, scope_str, scope_non, wpM_ok, wpM_exc, trunc_same, and_self, if_true, if_false, Bool.false_eq_true, reduceIte, wS_setS, wS_seq, wS_if, wS_asg, wS_exS, wS_retS, wS_nxS, wS_nx, wS_ret, wpM_op2, wpM_op1, wpM_asT, wpM_trt, wpM_notT, wpM_andT, wpM_orT, wpM_andV, wpM_notE, wpM_ifE, wpM_lnil, wpM_lcons, wpM_tupE, wpM_lstF, wpM_frz, wpM_new, wpM_cal, wpM_calB, wpM_calF, wpM_isiE, wpM_vr, wpM_ct, wpM_meth, wpM_chn, wpM_cut, wpM_cutF, wpM_ono, wpM_osm, wpM_revT, wpM_lfE, wS_for, tgN, List.getElem?_cons_zero, List.getElem?_cons_succ, List.set_cons_zero, List.set_cons_succ, List.map_cons, List.map_nil, List.length_cons, List.length_nil, List.replicate_succ, List.replicate_zero, Nat.reduceAdd, Nat.reduceSub, List.cons_append, List.nil_append, ixT1]
              rcases Bool.eq_false_or_eq_true ((l.length : Int) == 1) with h5 | h5 <;> rcases Bool.eq_false_or_eq_true (inStr l L) with h6 | h6 <;>
                simp only [h5, h6, Bool.and_true, Bool.and_false, Bool.true_and, Bool.false_and, Bool.not_true, Bool.not_false, wS_rai, wS_try, scope_bl, scope_int, scope_str, scope_non, wpM_ok, wpM_exc, trunc_same, and_self, if_true, if_false, Bool.false_eq_true, reduceIte, wS_setS, wS_seq, wS_if, wS_asg, wS_exS, wS_retS, wS_nxS, wS_nx, wS_ret, wpM_op2, wpM_op1, wpM_asT, wpM_trt, wpM_notT, wpM_andT, wpM_orT, wpM_andV, wpM_notE, wpM_ifE, wpM_lnil, wpM_lcons, wpM_tupE, wpM_lstF, wpM_frz, wpM_new, wpM_cal, wpM_calB, wpM_calF, wpM_isiE, wpM_vr, wpM_ct, wpM_meth, wpM_chn, wpM_cut, wpM_cutF, wpM_ono, wpM_osm, wpM_revT, wpM_lfE, wS_for, tgN, List.getElem?_cons_zero, List.getElem?_cons_succ, List.set_cons_zero, List.set_cons_succ, List.map_cons, List.map_nil, List.length_cons, List.length_nil, List.replicate_succ, List.replicate_zero, Nat.reduceAdd, Nat.reduceSub, List.cons_append, List.nil_append] at kk ⊢ <;> first | (rw [scope_pure rfl]; simp only [wS_rai, wS_try, scope_bl, scope_int, scope_str, scope_non, wpM_ok, wpM_exc, trunc_same, and_self, if_true, if_false, Bool.false_eq_true, reduceIte, wS_setS, wS_seq, wS_if, wS_asg, wS_exS, wS_retS, wS_nxS, wS_nx, wS_ret, wpM_op2, wpM_op1, wpM_asT, wpM_trt, wpM_notT, wpM_andT, wpM_orT, wpM_andV, wpM_notE, wpM_ifE, wpM_lnil, wpM_lcons, wpM_tupE, wpM_lstF, wpM_frz, wpM_new, wpM_cal, wpM_calB, wpM_calF, wpM_isiE, wpM_vr, wpM_ct, wpM_meth, wpM_chn, wpM_cut, wpM_cutF, wpM_ono, wpM_osm, wpM_revT, wpM_lfE, wS_for, tgN, List.getElem?_cons_zero, List.getElem?_cons_succ, List.set_cons_zero, List.set_cons_succ, List.map_cons, List.map_nil, List.length_cons, List.length_nil, List.replicate_succ, List.replicate_zero, Nat.reduceAdd, Nat.reduceSub, List.cons_append, List.nil_append]; exact bad _ kk) | skip
              rcases hl with ⟨rfl, rfl⟩ | ⟨hj0, hl1, b', l', t', rfl⟩
              · rw [decide_eq_false (by omega)]
                simp only [wS_rai, wS_try, scope_bl, scope_int, scope_str, scope_non, wpM_ok, wpM_exc, trunc_same, and_self, if_true, if_false, Bool.false_eq_true, reduceIte, wS_setS, wS_seq, wS_if, wS_asg, wS_exS, wS_retS, wS_nxS, wS_nx, wS_ret, wpM_op2, wpM_op1, wpM_asT, wpM_trt, wpM_notT, wpM_andT, wpM_orT, wpM_andV, wpM_notE, wpM_ifE, wpM_lnil, wpM_lcons, wpM_tupE, wpM_lstF, wpM_frz, wpM_new, wpM_cal, wpM_calB, wpM_calF, wpM_isiE, wpM_vr, wpM_ct, wpM_meth, wpM_chn, wpM_cut, wpM_cutF, wpM_ono, wpM_osm, wpM_revT, wpM_lfE, wS_for, tgN, List.getElem?_cons_zero, List.getElem?_cons_succ, List.set_cons_zero, List.set_cons_succ, List.map_cons, List.map_nil, List.length_cons, List.length_nil, List.replicate_succ, List.replicate_zero, Nat.reduceAdd, Nat.reduceSub, List.cons_append, List.nil_append]
                rw [show stepF L st .non (.tup [.int b, .str l, .int t]) = none from kk] at es
                exact ⟨trivial, _, _, _, rfl, es, .inr ⟨by omega, by simpa using hx, _, _, _, rfl⟩⟩
              · rw [decide_eq_true (by omega)]
                obtain ⟨i, rfl⟩ : ∃ i : Nat, j = i + 1 := ⟨j - 1, by omega⟩
                have hl1 : steps[i]? = some (.tup [.int b', .str l', .int t']) := hl1
                simp only [wS_rai, wS_try, scope_bl, scope_int, scope_str, scope_non, wpM_ok, wpM_exc, trunc_same, and_self, if_true, if_false, Bool.false_eq_true, reduceIte, wS_setS, wS_seq, wS_if, wS_asg, wS_exS, wS_retS, wS_nxS, wS_nx, wS_ret, wpM_op2, wpM_op1, wpM_asT, wpM_trt, wpM_notT, wpM_andT, wpM_orT, wpM_andV, wpM_notE, wpM_ifE, wpM_lnil, wpM_lcons, wpM_tupE, wpM_lstF, wpM_frz, wpM_new, wpM_cal, wpM_calB, wpM_calF, wpM_isiE, wpM_vr, wpM_ct, wpM_meth, wpM_chn, wpM_cut, wpM_cutF, wpM_ono, wpM_osm, wpM_revT, wpM_lfE, wS_for, tgN, List.getElem?_cons_zero, List.getElem?_cons_succ, List.set_cons_zero, List.set_cons_succ, List.map_cons, List.map_nil, List.length_cons, List.length_nil, List.replicate_succ, List.replicate_zero, Nat.reduceAdd, Nat.reduceSub, List.cons_append, List.nil_append, o_sub, show (((i + 1 : Nat) : Int) - 1) = (i : Int) by omega, ixT hl1, le_tup]
                unfold orderF at kk
                rcases Bool.eq_false_or_eq_true (leT [.int b, .str l, .int t] [.int b', .str l', .int t']) with h7 | h7
                · simp only [h7, wS_rai, wS_try, scope_bl, scope_int, scope_str, scope_non, wpM_ok, wpM_exc, trunc_same, and_self, if_true, if_false, Bool.false_eq_true, reduceIte, wS_setS, wS_seq, wS_if, wS_asg, wS_exS, wS_retS, wS_nxS, wS_nx, wS_ret, wpM_op2, wpM_op1, wpM_asT, wpM_trt, wpM_notT, wpM_andT, wpM_orT, wpM_andV, wpM_notE, wpM_ifE, wpM_lnil, wpM_lcons, wpM_tupE, wpM_lstF, wpM_frz, wpM_new, wpM_cal, wpM_calB, wpM_calF, wpM_isiE, wpM_vr, wpM_ct, wpM_meth, wpM_chn, wpM_cut, wpM_cutF, wpM_ono, wpM_osm, wpM_revT, wpM_lfE, wS_for, tgN, List.getElem?_cons_zero, List.getElem?_cons_succ, List.set_cons_zero, List.set_cons_succ, List.map_cons, List.map_nil, List.length_cons, List.length_nil, List.replicate_succ, List.replicate_zero, Nat.reduceAdd, Nat.reduceSub, List.cons_append, List.nil_append] at kk ⊢
                  rw [scope_pure rfl]
                  simp only [wS_rai, wS_try, scope_bl, scope_int, scope_str, scope_non, wpM_ok, wpM_exc, trunc_same, and_self, if_true, if_false, Bool.false_eq_true, reduceIte, wS_setS, wS_seq, wS_if, wS_asg, wS_exS, wS_retS, wS_nxS, wS_nx, wS_ret, wpM_op2, wpM_op1, wpM_asT, wpM_trt, wpM_notT, wpM_andT, wpM_orT, wpM_andV, wpM_notE, wpM_ifE, wpM_lnil, wpM_lcons, wpM_tupE, wpM_lstF, wpM_frz, wpM_new, wpM_cal, wpM_calB, wpM_calF, wpM_isiE, wpM_vr, wpM_ct, wpM_meth, wpM_chn, wpM_cut, wpM_cutF, wpM_ono, wpM_osm, wpM_revT, wpM_lfE, wS_for, tgN, List.getElem?_cons_zero, List.getElem?_cons_succ, List.set_cons_zero, List.set_cons_succ, List.map_cons, List.map_nil, List.length_cons, List.length_nil, List.replicate_succ, List.replicate_zero, Nat.reduceAdd, Nat.reduceSub, List.cons_append, List.nil_append]
                  exact bad _ kk
                · simp only [h7, wS_rai, wS_try, scope_bl, scope_int, scope_str, scope_non, wpM_ok, wpM_exc, trunc_same, and_self, if_true, if_false, Bool.false_eq_true, reduceIte, wS_setS, wS_seq, wS_if, wS_asg, wS_exS, wS_retS, wS_nxS, wS_nx, wS_ret, wpM_op2, wpM_op1, wpM_asT, wpM_trt, wpM_notT, wpM_andT, wpM_orT, wpM_andV, wpM_notE, wpM_ifE, wpM_lnil, wpM_lcons, wpM_tupE, wpM_lstF, wpM_frz, wpM_new, wpM_cal, wpM_calB, wpM_calF, wpM_isiE, wpM_vr, wpM_ct, wpM_meth, wpM_chn, wpM_cut, wpM_cutF, wpM_ono, wpM_osm, wpM_revT, wpM_lfE, wS_for, tgN, List.getElem?_cons_zero, List.getElem?_cons_succ, List.set_cons_zero, List.set_cons_succ, List.map_cons, List.map_nil, List.length_cons, List.length_nil, List.replicate_succ, List.replicate_zero, Nat.reduceAdd, Nat.reduceSub, List.cons_append, List.nil_append] at kk ⊢
                  rw [kk] at es
                  refine ⟨trivial, _, _, .tup [.int b, .str l, .int t], rfl, ?_, .inr ⟨by omega, ?_, b, l, t, rfl⟩⟩
                  · rw [Nat.zero_add]; exact es
                  · rw [Nat.zero_add, Nat.add_sub_cancel]; exact hx
            | _ =>
              simp only [isI, Bool.not_false, wS_rai, wS_try, scope_bl, scope_int, scope_str, scope_non, wpM_ok, wpM_exc, trunc_same, and_self, if_true, if_false, Bool.false_eq_true, reduceIte, wS_setS, wS_seq, wS_if, wS_asg, wS_exS, wS_retS, wS_nxS, wS_nx, wS_ret, wpM_op2, wpM_op1, wpM_asT, wpM_trt, wpM_notT, wpM_andT, wpM_orT, wpM_andV, wpM_notE, wpM_ifE, wpM_lnil, wpM_lcons, wpM_tupE, wpM_lstF, wpM_frz, wpM_new, wpM_cal, wpM_calB, wpM_calF, wpM_isiE, wpM_vr, wpM_ct, wpM_meth, wpM_chn, wpM_cut, wpM_cutF, wpM_ono, wpM_osm, wpM_revT, wpM_lfE, wS_for, tgN, List.getElem?_cons_zero, List.getElem?_cons_succ, List.set_cons_zero, List.set_cons_succ, List.map_cons, List.map_nil, List.length_cons, List.length_nil, List.replicate_succ, List.replicate_zero, Nat.reduceAdd, Nat.reduceSub, List.cons_append, List.nil_append, h3]
              rw [scope_pure rfl]
              simp only [wS_rai, wS_try, scope_bl, scope_int, scope_str, scope_non, wpM_ok, wpM_exc, trunc_same, and_self, if_true, if_false, Bool.false_eq_true, reduceIte, wS_setS, wS_seq, wS_if, wS_asg, wS_exS, wS_retS, wS_nxS, wS_nx, wS_ret, wpM_op2, wpM_op1, wpM_asT, wpM_trt, wpM_notT, wpM_andT, wpM_orT, wpM_andV, wpM_notE, wpM_ifE, wpM_lnil, wpM_lcons, wpM_tupE, wpM_lstF, wpM_frz, wpM_new, wpM_cal, wpM_calB, wpM_calF, wpM_isiE, wpM_vr, wpM_ct, wpM_meth, wpM_chn, wpM_cut, wpM_cutF, wpM_ono, wpM_osm, wpM_revT, wpM_lfE, wS_for, tgN, List.getElem?_cons_zero, List.getElem?_cons_succ, List.set_cons_zero, List.set_cons_succ, List.map_cons, List.map_nil, List.length_cons, List.length_nil, List.replicate_succ, List.replicate_zero, Nat.reduceAdd, Nat.reduceSub, List.cons_append, List.nil_append]
              exact bad _ (step3_no rfl)
          | _ =>
            simp only [isI, isS, Bool.not_true, Bool.not_false, wS_rai, wS_try, scope_bl, scope_int, scope_str, scope_non, wpM_ok, wpM_exc, trunc_same, and_self, if_true, if_false, Bool.false_eq_true, reduceIte, wS_setS, wS_seq, wS_if, wS_asg, wS_exS, wS_retS, wS_nxS, wS_nx, wS_ret, wpM_op2, wpM_op1, wpM_asT, wpM_trt, wpM_notT, wpM_andT, wpM_orT, wpM_andV, wpM_notE, wpM_ifE, wpM_lnil, wpM_lcons, wpM_tupE, wpM_lstF, wpM_frz, wpM_new, wpM_cal, wpM_calB, wpM_calF, wpM_isiE, wpM_vr, wpM_ct, wpM_meth, wpM_chn, wpM_cut, wpM_cutF, wpM_ono, wpM_osm, wpM_revT, wpM_lfE, wS_for, tgN, List.getElem?_cons_zero, List.getElem?_cons_succ, List.set_cons_zero, List.set_cons_succ, List.map_cons, List.map_nil, List.length_cons, List.length_nil, List.replicate_succ, List.replicate_zero, Nat.reduceAdd, Nat.reduceSub, List.cons_append, List.nil_append, h3]
            rw [scope_pure rfl]
            simp only [wS_rai, wS_try, scope_bl, scope_int, scope_str, scope_non, wpM_ok, wpM_exc, trunc_same, and_self, if_true, if_false, Bool.false_eq_true, reduceIte, wS_setS, wS_seq, wS_if, wS_asg, wS_exS, wS_retS, wS_nxS, wS_nx, wS_ret, wpM_op2, wpM_op1, wpM_asT, wpM_trt, wpM_notT, wpM_andT, wpM_orT, wpM_andV, wpM_notE, wpM_ifE, wpM_lnil, wpM_lcons, wpM_tupE, wpM_lstF, wpM_frz, wpM_new, wpM_cal, wpM_calB, wpM_calF, wpM_isiE, wpM_vr, wpM_ct, wpM_meth, wpM_chn, wpM_cut, wpM_cutF, wpM_ono, wpM_osm, wpM_revT, wpM_lfE, wS_for, tgN, List.getElem?_cons_zero, List.getElem?_cons_succ, List.set_cons_zero, List.set_cons_succ, List.map_cons, List.map_nil, List.length_cons, List.length_nil, List.replicate_succ, List.replicate_zero, Nat.reduceAdd, Nat.reduceSub, List.cons_append, List.nil_append]
            exact bad _ (step3_no rfl)
        | _ =>
          simp only [isI, isS, Bool.not_true, Bool.not_false, wS_rai, wS_try, scope_bl, scope_int, scope_str, scope_non, wpM_ok, wpM_exc, trunc_same, and_self, if_true, if_false, Bool.false_eq_true, reduceIte, wS_setS, wS_seq, wS_if, wS_asg, wS_exS, wS_retS, wS_nxS, wS_nx, wS_ret, wpM_op2, wpM_op1, wpM_asT, wpM_trt, wpM_notT, wpM_andT, wpM_orT, wpM_andV, wpM_notE, wpM_ifE, wpM_lnil, wpM_lcons, wpM_tupE, wpM_lstF, wpM_frz, wpM_new, wpM_cal, wpM_calB, wpM_calF, wpM_isiE, wpM_vr, wpM_ct, wpM_meth, wpM_chn, wpM_cut, wpM_cutF, wpM_ono, wpM_osm, wpM_revT, wpM_lfE, wS_for, tgN, List.getElem?_cons_zero, List.getElem?_cons_succ, List.set_cons_zero, List.set_cons_succ, List.map_cons, List.map_nil, List.length_cons, List.length_nil, List.replicate_succ, List.replicate_zero, Nat.reduceAdd, Nat.reduceSub, List.cons_append, List.nil_append, h3]
          rw [scope_pure rfl]
          simp only [wS_rai, wS_try, scope_bl, scope_int, scope_str, scope_non, wpM_ok, wpM_exc, trunc_same, and_self, if_true, if_false, Bool.false_eq_true, reduceIte, wS_setS, wS_seq, wS_if, wS_asg, wS_exS, wS_retS, wS_nxS, wS_nx, wS_ret, wpM_op2, wpM_op1, wpM_asT, wpM_trt, wpM_notT, wpM_andT, wpM_orT, wpM_andV, wpM_notE, wpM_ifE, wpM_lnil, wpM_lcons, wpM_tupE, wpM_lstF, wpM_frz, wpM_new, wpM_cal, wpM_calB, wpM_calF, wpM_isiE, wpM_vr, wpM_ct, wpM_meth, wpM_chn, wpM_cut, wpM_cutF, wpM_ono, wpM_osm, wpM_revT, wpM_lfE, wS_for, tgN, List.getElem?_cons_zero, List.getElem?_cons_succ, List.set_cons_zero, List.set_cons_succ, List.map_cons, List.map_nil, List.length_cons, List.length_nil, List.replicate_succ, List.replicate_zero, Nat.reduceAdd, Nat.reduceSub, List.cons_append, List.nil_append]
          exact bad _ (step3_no rfl)
      · rintro env S'' ⟨rfl, e5, e6, a, rfl, es, hl⟩
        refine ⟨okSrc_nil, ?_⟩
        rw [rgL_len, Nat.zero_add, List.drop_length] at es
        have es' : stepsF L st .non 0 steps = none := es
        rw [es'] at k
        simp only [wS_rai, wS_try, scope_bl, scope_int, scope_str, scope_non, wpM_ok, wpM_exc, trunc_same, and_self, if_true, if_false, Bool.false_eq_true, reduceIte, wS_setS, wS_seq, wS_if, wS_asg, wS_exS, wS_retS, wS_nxS, wS_nx, wS_ret, wpM_op2, wpM_op1, wpM_asT, wpM_trt, wpM_notT, wpM_andT, wpM_orT, wpM_andV, wpM_notE, wpM_ifE, wpM_lnil, wpM_lcons, wpM_tupE, wpM_lstF, wpM_frz, wpM_new, wpM_cal, wpM_calB, wpM_calF, wpM_isiE, wpM_vr, wpM_ct, wpM_meth, wpM_chn, wpM_cut, wpM_cutF, wpM_ono, wpM_osm, wpM_revT, wpM_lfE, wS_for, tgN, List.getElem?_cons_zero, List.getElem?_cons_succ, List.set_cons_zero, List.set_cons_succ, List.map_cons, List.map_nil, List.length_cons, List.length_nil, List.replicate_succ, List.replicate_zero, Nat.reduceAdd, Nat.reduceSub, List.cons_append, List.nil_append, len_tup, h2]
        rw [scope_pure rfl]
        simp only [wS_rai, wS_try, scope_bl, scope_int, scope_str, scope_non, wpM_ok, wpM_exc, trunc_same, and_self, if_true, if_false, Bool.false_eq_true, reduceIte, wS_setS, wS_seq, wS_if, wS_asg, wS_exS, wS_retS, wS_nxS, wS_nx, wS_ret, wpM_op2, wpM_op1, wpM_asT, wpM_trt, wpM_notT, wpM_andT, wpM_orT, wpM_andV, wpM_notE, wpM_ifE, wpM_lnil, wpM_lcons, wpM_tupE, wpM_lstF, wpM_frz, wpM_new, wpM_cal, wpM_calB, wpM_calF, wpM_isiE, wpM_vr, wpM_ct, wpM_meth, wpM_chn, wpM_cut, wpM_cutF, wpM_ono, wpM_osm, wpM_revT, wpM_lfE, wS_for, tgN, List.getElem?_cons_zero, List.getElem?_cons_succ, List.set_cons_zero, List.set_cons_succ, List.map_cons, List.map_nil, List.length_cons, List.length_nil, List.replicate_succ, List.replicate_zero, Nat.reduceAdd, Nat.reduceSub, List.cons_append, List.nil_append]
        exact k
end
end Z

set_option Elab.async false
set_option linter.all false
set_option maxRecDepth 100000
set_option maxHeartbeats 4000000
set_option autoImplicit false
namespace Z
open PySem PySem.Spec L2 Y PySem.W
section
variable {S : Sto} {Q : D → Sto → Prop} {E : Str → List (Str × D) → Sto → Prop}
theorem eq_bl {a b : Bool} : o_eq S (.bl a) (.bl b) = some (.bl (a == b)) := by
  simp [o_eq, toPS, toP, SeqAt.shaped, PyData.canLay0, PyData.depth, PyData.eqv]
theorem ne_bl {a b : Bool} : o_ne S (.bl a) (.bl b) = some (.bl (!(a == b))) := by
  simp [o_ne, toPS, toP, SeqAt.shaped, PyData.canLay0, PyData.depth, PyData.eqv]
theorem eq_str {a b : Str} (h1 : PyData.strOk a = true) (h2 : PyData.strOk b = true) : o_eq S (.str a) (.str b) = some (.bl (a == b)) := by
  simp [o_eq, toPS, toP, SeqAt.shaped, PyData.canLay0, PyData.depth, PyData.eqv, h1, h2]
theorem toPL_rep : ∀ n : Nat, toPL (List.replicate n (.bl true)) = some (List.replicate n (.bool true))
  | 0 => rfl
  | n + 1 => by
    show (toP (.bl true)).bind (fun p => (toPL (List.replicate n (.bl true))).map fun ps => p :: ps) = _
    rw [toPL_rep n]; rfl
theorem lay_rep : ∀ n : Nat, PyData.canLayAll0 (List.replicate n (.bool true)) = true
  | 0 => by simp [PyData.canLayAll0]
  | n + 1 => by simp [List.replicate_succ, PyData.canLayAll0, PyData.canLay0, lay_rep n]
theorem dep_rep : ∀ n : Nat, PyData.depthAll (List.replicate n (.bool true)) = 0
  | 0 => by simp [PyData.depthAll]
  | n + 1 => by simp [List.replicate_succ, PyData.depthAll, PyData.depth, dep_rep n]
theorem count_rep : ∀ n : Nat, (List.replicate n (PyData.bool true)).countP (fun z => PyData.eqv z (.bool false)) = 0
  | 0 => rfl
  | n + 1 => by rw [List.replicate_succ, List.countP_cons, count_rep n]; simp [PyData.eqv]
theorem cnt_true {n : Nat} : m_count S (.lst (List.replicate n (.bl true))) [.bl false] = some (.int 0, S) := by
  have e : toPS S (.lst (List.replicate n (.bl true))) = some (.list (List.replicate n (.bool true))) := by
    show (toPL _).map PyData.list = _
    rw [toPL_rep]; rfl
  have e2 : toP (.bl false) = some (.bool false) := rfl
  simp only [m_count, e, e2, Option.bind_some]
  rw [if_pos]
  · rw [count_rep]; rfl
  · simp [SeqAt.shaped, PyData.canLay0, PyData.depth, lay_rep, dep_rep]
theorem bel_rep {k : Nat} : ∀ n : Nat, belL k (List.replicate n (.bl true)) = true
  | 0 => rfl
  | n + 1 => by
    show ((D.bl true).bel k && belL k (List.replicate n (.bl true))) = true
    rw [bel_rep n]; rfl
/-- a comprehension all whose values are True -/
theorem comp_true {tg : TgM} {el : EM} {env0 : En} {G : Sto → Bool} {all : List D} {Q : D → Sto → Prop} (hn : all.length ≤ 1000) (hG : ∀ X, G (S ++ X) = true)
    (h : ∀ d ∈ all, ∀ X, ∃ env1, tg d env0 = some env1 ∧ wpM (el env1 (S ++ X)) (fun x S2 => x = .bl true ∧ S2 = S ++ X) (fun _ _ _ => False)) (k : Q (.lst (List.replicate all.length (.bl true))) S) :
    wpM (clp tg yesT el env0 S.length G all (S ++ [some (.lst [])])) (fun _ S2 => match S2[S.length]? with
    | some (some (.lst ds)) => if belL S.length ds = true then Q (.lst ds) (trunc S (S2.set S.length none)) else Q (.lst ds) (S2.set S.length none)
    | _ => False) E := by
  have hsl := sizeLine_eq
  refine wpM_clp (fun i S' => S' = S ++ [some (.lst (List.replicate i (.bl true)))] ∧ i ≤ 1000) all 0 _ ⟨rfl, by omega⟩ ?_ ?_
  · rintro j d S' hj ⟨rfl, hi⟩
    have hjn := (List.getElem?_eq_some_iff.mp hj).1
    obtain ⟨env1, e1, e2⟩ := h d (List.mem_of_getElem? hj) [some (.lst (List.replicate (0 + j) (.bl true)))]
    refine ⟨hG _, env1, e1, ?_⟩
    simp only [yesT, wpM_ok, if_true]
    refine wpM_mono' e2 ?_
    rintro x S2 ⟨rfl, rfl⟩
    refine ⟨List.replicate (0 + j) (.bl true), by simp, by simp; omega, ?_, by omega⟩
    rw [List.set_append_right _ _ (Nat.le_refl _), Nat.sub_self, List.set_cons_zero, ← List.replicate_succ']
  · rintro S' ⟨rfl, hi⟩
    refine ⟨hG _, ?_⟩
    rw [Nat.zero_add, List.getElem?_append_right (Nat.le_refl _), Nat.sub_self]
    simp only [List.getElem?_cons_zero]
    rw [if_pos (bel_rep _), List.set_append_right _ _ (Nat.le_refl _), Nat.sub_self, List.set_cons_zero, trunc_self]
    exact k
theorem comp_trueF {it : IM} {tg : TgM} {el : EM} {vs : List Nat} {env : En} {all : List D} {src : List (Nat × List D)} {Q : D → Sto → Prop} (hit : it env S = .ok (all, src) S) (hn : all.length ≤ 1000) (hG : ∀ X, okSrc src (S ++ X))
    (h : ∀ d ∈ all, ∀ X, ∃ env1, tg d (wipeE env vs) = some env1 ∧ wpM (el env1 (S ++ X)) (fun x S2 => x = .bl true ∧ S2 = S ++ X) (fun _ _ _ => False)) (k : Q (.lst (List.replicate all.length (.bl true))) S) :
    wpM (compF it tg yesT el vs env S) Q E := by
  rw [wpM_compF, hit, wpM_ok]
  exact comp_true hn (fun X => okB_iff.mpr (hG X)) h k
def atom : D → Bool
  | .int _ => true
  | .str s => PyData.strOk s
  | _ => false
theorem same_atom {n : Nat} {d : D} (h : atom d = true) (k : Q (.bl true) S) : wpM (R__law_same (n + 1) [d, d] S) Q E := by
  unfold R__law_same
  refine wpM_fn ?_
  unfold m__law_same
  cases d with
  | int i =>
    simp only [wS_rai, wS_try, scope_bl, scope_int, scope_str, scope_non, wpM_ok, wpM_exc, trunc_same, and_self, if_true, if_false, Bool.false_eq_true, reduceIte, wS_setS, wS_seq, wS_if, wS_asg, wS_exS, wS_retS, wS_nxS, wS_nx, wS_ret, wpM_op2, wpM_op1, wpM_asT, wpM_trt, wpM_notT, wpM_andT, wpM_orT, wpM_andV, wpM_notE, wpM_ifE, wpM_lnil, wpM_lcons, wpM_tupE, wpM_lstF, wpM_frz, wpM_new, wpM_cal, wpM_calB, wpM_calF, wpM_isiE, wpM_vr, wpM_ct, wpM_meth, wpM_chn, wpM_cut, wpM_cutF, wpM_ono, wpM_osm, wpM_revT, wpM_lfE, wS_for, tgN, List.getElem?_cons_zero, List.getElem?_cons_succ, List.set_cons_zero, List.set_cons_succ, List.map_cons, List.map_nil, List.length_cons, List.length_nil, List.replicate_succ, List.replicate_zero, Nat.reduceAdd, Nat.reduceSub, List.cons_append, List.nil_append, wpM_isiTE, tyN, Option.map_some, List.any_cons, List.any_nil, st_NoneType_bool, st_NoneType_int, st_NoneType_str, st_NoneType_tuple, st_NoneType_list, st_bool_bool, st_bool_int, st_bool_str, st_bool_tuple, st_bool_list, st_int_bool, st_int_int, st_int_str, st_int_tuple, st_int_list, st_str_bool, st_str_int, st_str_str, st_str_tuple, st_str_list, st_tuple_bool, st_tuple_int, st_tuple_str, st_tuple_tuple, st_tuple_list, st_list_bool, st_list_int, st_list_str, st_list_tuple, st_list_list, Bool.or_self, tru, o_is, D.isN, beq_self_eq_true, eq_bl, eq_int, show (2 ≤ 1000) from by decide]
    exact k
  | str i =>
    simp only [wS_rai, wS_try, scope_bl, scope_int, scope_str, scope_non, wpM_ok, wpM_exc, trunc_same, and_self, if_true, if_false, Bool.false_eq_true, reduceIte, wS_setS, wS_seq, wS_if, wS_asg, wS_exS, wS_retS, wS_nxS, wS_nx, wS_ret, wpM_op2, wpM_op1, wpM_asT, wpM_trt, wpM_notT, wpM_andT, wpM_orT, wpM_andV, wpM_notE, wpM_ifE, wpM_lnil, wpM_lcons, wpM_tupE, wpM_lstF, wpM_frz, wpM_new, wpM_cal, wpM_calB, wpM_calF, wpM_isiE, wpM_vr, wpM_ct, wpM_meth, wpM_chn, wpM_cut, wpM_cutF, wpM_ono, wpM_osm, wpM_revT, wpM_lfE, wS_for, tgN, List.getElem?_cons_zero, List.getElem?_cons_succ, List.set_cons_zero, List.set_cons_succ, List.map_cons, List.map_nil, List.length_cons, List.length_nil, List.replicate_succ, List.replicate_zero, Nat.reduceAdd, Nat.reduceSub, List.cons_append, List.nil_append, wpM_isiTE, tyN, Option.map_some, List.any_cons, List.any_nil, st_NoneType_bool, st_NoneType_int, st_NoneType_str, st_NoneType_tuple, st_NoneType_list, st_bool_bool, st_bool_int, st_bool_str, st_bool_tuple, st_bool_list, st_int_bool, st_int_int, st_int_str, st_int_tuple, st_int_list, st_str_bool, st_str_int, st_str_str, st_str_tuple, st_str_list, st_tuple_bool, st_tuple_int, st_tuple_str, st_tuple_tuple, st_tuple_list, st_list_bool, st_list_int, st_list_str, st_list_tuple, st_list_list, Bool.or_self, tru, o_is, D.isN, beq_self_eq_true, eq_bl, eq_str (show PyData.strOk i = true from h) (show PyData.strOk i = true from h), show (2 ≤ 1000) from by decide]
    exact k
  | _ => cases h
theorem same_lst {n : Nat} {ds : List D} (hn : ds.length ≤ 1000) (h : ∀ d ∈ ds, atom d = true) (k : Q (.bl true) S) : wpM (R__law_same (n + 2) [.lst ds, .lst ds] S) Q E := by
  unfold R__law_same
  refine wpM_fn ?_
  unfold m__law_same
  simp only [wS_rai, wS_try, scope_bl, scope_int, scope_str, scope_non, wpM_ok, wpM_exc, trunc_same, and_self, if_true, if_false, Bool.false_eq_true, reduceIte, wS_setS, wS_seq, wS_if, wS_asg, wS_exS, wS_retS, wS_nxS, wS_nx, wS_ret, wpM_op2, wpM_op1, wpM_asT, wpM_trt, wpM_notT, wpM_andT, wpM_orT, wpM_andV, wpM_notE, wpM_ifE, wpM_lnil, wpM_lcons, wpM_tupE, wpM_lstF, wpM_frz, wpM_new, wpM_cal, wpM_calB, wpM_calF, wpM_isiE, wpM_vr, wpM_ct, wpM_meth, wpM_chn, wpM_cut, wpM_cutF, wpM_ono, wpM_osm, wpM_revT, wpM_lfE, wS_for, tgN, List.getElem?_cons_zero, List.getElem?_cons_succ, List.set_cons_zero, List.set_cons_succ, List.map_cons, List.map_nil, List.length_cons, List.length_nil, List.replicate_succ, List.replicate_zero, Nat.reduceAdd, Nat.reduceSub, List.cons_append, List.nil_append, wpM_isiTE, tyN, Option.map_some, List.any_cons, List.any_nil, st_NoneType_bool, st_NoneType_int, st_NoneType_str, st_NoneType_tuple, st_NoneType_list, st_bool_bool, st_bool_int, st_bool_str, st_bool_tuple, st_bool_list, st_int_bool, st_int_int, st_int_str, st_int_tuple, st_int_list, st_str_bool, st_str_int, st_str_str, st_str_tuple, st_str_list, st_tuple_bool, st_tuple_int, st_tuple_str, st_tuple_tuple, st_tuple_list, st_list_bool, st_list_int, st_list_str, st_list_tuple, st_list_list, Bool.or_self, Bool.or_true, Bool.or_false, tru, ne_bl, beq_self_eq_true, Bool.not_true, o_len, seqOf, ne_int, show (2 ≤ 1000) from by decide]
  have hz : (zipL ds ds).length = ds.length := by rw [zipL_length]; omega
  refine comp_trueF (all := zipL ds ds) (src := []) (by simp [i_zip, lcons, lnil, vr, bd, lf, seqSrc]) (by omega) (fun X => okSrc_nil) (fun d hd X => ?_) ?_
  · obtain ⟨i, hi⟩ := List.getElem?_of_mem hd
    obtain ⟨x, y, e1, e2, rfl⟩ := zipL_get hi
    rw [e1] at e2
    cases e2
    refine ⟨_, rfl, ?_⟩
    simp only [wS_rai, wS_try, scope_bl, scope_int, scope_str, scope_non, wpM_ok, wpM_exc, trunc_same, and_self, if_true, if_false, Bool.false_eq_true, reduceIte, wS_setS, wS_seq, wS_if, wS_asg, wS_exS, wS_retS, wS_nxS, wS_nx, wS_ret, wpM_op2, wpM_op1, wpM_asT, wpM_trt, wpM_notT, wpM_andT, wpM_orT, wpM_andV, wpM_notE, wpM_ifE, wpM_lnil, wpM_lcons, wpM_tupE, wpM_lstF, wpM_frz, wpM_new, wpM_cal, wpM_calB, wpM_calF, wpM_isiE, wpM_vr, wpM_ct, wpM_meth, wpM_chn, wpM_cut, wpM_cutF, wpM_ono, wpM_osm, wpM_revT, wpM_lfE, wS_for, tgN, List.getElem?_cons_zero, List.getElem?_cons_succ, List.set_cons_zero, List.set_cons_succ, List.map_cons, List.map_nil, List.length_cons, List.length_nil, List.replicate_succ, List.replicate_zero, Nat.reduceAdd, Nat.reduceSub, List.cons_append, List.nil_append]
    exact same_atom (h x (List.mem_of_getElem? e1)) ⟨rfl, rfl⟩
  · rw [if_pos (show tyD "list" S (.lst _) = true from rfl)]
    simp only [cnt_true, wS_rai, wS_try, scope_bl, scope_int, scope_str, scope_non, wpM_ok, wpM_exc, trunc_same, and_self, if_true, if_false, Bool.false_eq_true, reduceIte, wS_setS, wS_seq, wS_if, wS_asg, wS_exS, wS_retS, wS_nxS, wS_nx, wS_ret, wpM_op2, wpM_op1, wpM_asT, wpM_trt, wpM_notT, wpM_andT, wpM_orT, wpM_andV, wpM_notE, wpM_ifE, wpM_lnil, wpM_lcons, wpM_tupE, wpM_lstF, wpM_frz, wpM_new, wpM_cal, wpM_calB, wpM_calF, wpM_isiE, wpM_vr, wpM_ct, wpM_meth, wpM_chn, wpM_cut, wpM_cutF, wpM_ono, wpM_osm, wpM_revT, wpM_lfE, wS_for, tgN, List.getElem?_cons_zero, List.getElem?_cons_succ, List.set_cons_zero, List.set_cons_succ, List.map_cons, List.map_nil, List.length_cons, List.length_nil, List.replicate_succ, List.replicate_zero, Nat.reduceAdd, Nat.reduceSub, List.cons_append, List.nil_append, eq_int, beq_self_eq_true]
    exact k
theorem strOk_of (w : String) : PyData.strOk (Str.ofString w) = true := by
  rw [Str.ofString_eq_toList]
  unfold PyData.strOk
  rw [Array.all_eq_true']
  intro x hx
  rw [List.mem_toArray] at hx
  obtain ⟨c, _, rfl⟩ := List.mem_map.mp hx
  refine decide_eq_true ?_
  have h := c.valid
  have h2 : c.toNat.isValidChar := h
  rcases h2 with h2 | h2
  · omega
  · exact h2.2
theorem toldD_flat {d : D} {f : Option (Int × String)} : ∃ ds, toldD d f = .lst ds ∧ ds.length ≤ 1000 ∧ ∀ x ∈ ds, atom x = true := by
  cases f with
  | none => exact ⟨_, rfl, by simp, by simp [atom, strOk_of]⟩
  | some p =>
    obtain ⟨n, w⟩ := p
    exact ⟨_, rfl, by simp, by simp [atom, strOk_of]⟩
theorem same_wp {d : D} {f : Option (Int × String)} (k : Q (.bl true) S) : wpM (M__law_same [toldD d f, toldD d f] S) Q E := by
  obtain ⟨ds, e, h1, h2⟩ := toldD_flat (d := d) (f := f)
  rw [e]
  unfold M__law_same
  exact same_lst (n := 6) h1 h2 k
end
end Z

set_option Elab.async false
set_option linter.all false
set_option maxRecDepth 100000
set_option maxHeartbeats 4000000
set_option autoImplicit false
namespace Z
open PySem PySem.Spec L2 Y PySem.W
/-! steps as triples -/
abbrev T3 := Int × Nat × Int
def trip (p : T3) : D := .tup [.int p.1, .str ⟨#[p.2.1]⟩, .int p.2.2]
def tripP (p : T3) : PyData := .tuple [.int p.1, .str ⟨#[p.2.1]⟩, .int p.2.2]
def lexle (p q : T3) : Bool := decide (p.1 < q.1 ∨ (p.1 = q.1 ∧ (p.2.1 < q.2.1 ∨ (p.2.1 = q.2.1 ∧ p.2.2 ≤ q.2.2))))
theorem one_lt {a b : Nat} : (([a] : List Nat) < [b]) ↔ a < b := by
  rw [List.cons_lt_cons_iff]; simp
theorem str_eq1 {a b : Nat} : ((⟨#[a]⟩ : Str) == ⟨#[b]⟩) = decide (a = b) := by
  by_cases h : a = b
  · subst h; simp
  · rw [decide_eq_false h, beq_eq_false_iff_ne]
    intro e
    have := congrArg Str.cps e
    simp at this
    exact h this
theorem leT_trip (p q : T3) : leT [.int p.1, .str ⟨#[p.2.1]⟩, .int p.2.2] [.int q.1, .str ⟨#[q.2.1]⟩, .int q.2.2] = lexle p q := by
  obtain ⟨a, b, c⟩ := p
  obtain ⟨a', b', c'⟩ := q
  simp only [leT, eq1, le1, str_eq1, strLe, lexle]
  have e1 : (!decide (([b'] : List Nat) < [b])) = decide (b ≤ b') := by
    by_cases h : b' < b
    · rw [decide_eq_true (one_lt.mpr h), decide_eq_false (by omega)]; rfl
    · rw [decide_eq_false (fun z => h (one_lt.mp z)), decide_eq_true (by omega)]; rfl
  show (if (a == a') = true then (if decide (b = b') = true then (if (c == c') = true then true else decide (c ≤ c')) else (!decide (([b'] : List Nat) < [b]))) else decide (a ≤ a')) = _
  rw [e1, Bool.eq_iff_iff]
  by_cases h1 : a = a'
  · by_cases h2 : b = b'
    · by_cases h3 : c = c'
      · simp [h1, h2, h3]
      · simp [h1, h2, h3]
    · simp [h1, h2]; omega
  · simp [h1]; omega
theorem pD_trip (p : T3) : pD (trip p) = tripP p := rfl
theorem leD_trip (p q : T3) : leD (trip p) (trip q) = lexle p q := by
  obtain ⟨a, b, c⟩ := p
  obtain ⟨a', b', c'⟩ := q
  show (!dataLt (tripP (a', b', c')) (tripP (a, b, c))) = _
  unfold tripP lexle
  rw [dataLt_tuple, dataLt_cons (by simp [alike]), dataLt_cons (by simp [alike]), dataLt_cons (by simp [alike]), dataLt_int, dataLt_str, dataLt_int]
  rw [PyProof.Rows.lex_irrefl]
  have e1 : decide ((⟨#[b']⟩ : Str).cps.toList < (⟨#[b]⟩ : Str).cps.toList) = decide (b' < b) := by
    by_cases h : b' < b
    · rw [decide_eq_true h]; exact decide_eq_true (one_lt.mpr h)
    · rw [decide_eq_false h]; exact decide_eq_false (fun z => h (one_lt.mp z))
  rw [e1]
  simp only [PyData.eqv, str_eq1]
  rw [Bool.eq_iff_iff]
  by_cases h1 : a' = a
  · by_cases h2 : b' = b
    · by_cases h3 : c' = c
      · simp [h1, h2, h3]
      · simp [h1, h2, h3]; try omega
    · simp [h1, h2]; try omega
  · simp [h1]; try omega
theorem lexle_total (p q : T3) : (lexle p q || lexle q p) = true := by
  obtain ⟨a, b, c⟩ := p
  obtain ⟨a', b', c'⟩ := q
  unfold lexle
  rw [Bool.or_eq_true, decide_eq_true_eq, decide_eq_true_eq]
  simp only
  omega
theorem lexle_trans (p q r : T3) (h1 : lexle p q = true) (h2 : lexle q r = true) : lexle p r = true := by
  obtain ⟨a, b, c⟩ := p
  obtain ⟨a', b', c'⟩ := q
  obtain ⟨a'', b'', c''⟩ := r
  unfold lexle at *
  rw [decide_eq_true_eq] at *
  simp only at *
  omega
theorem lexle_anti (p q : T3) (h1 : lexle p q = true) (h2 : lexle q p = true) : p = q := by
  obtain ⟨a, b, c⟩ := p
  obtain ⟨a', b', c'⟩ := q
  unfold lexle at *
  rw [decide_eq_true_eq] at *
  simp only at *
  have e1 : a = a' := by omega
  have e2 : b = b' := by omega
  have e3 : c = c' := by omega
  rw [e1, e2, e3]
theorem sort_trip (ts : List T3) : (ts.map trip).mergeSort leD = (ts.mergeSort lexle).map trip :=
  (List.map_mergeSort (r := lexle) (s := leD) (f := trip) (l := ts) fun a _ b _ => (leD_trip a b).symm).symm
def okT (L : Str) (st : Int) (p : T3) : Prop := inSt st p.1 = true ∧ inSt st p.2.2 = true ∧ p.2.1 ∈ L.cps.toList
theorem inStr_one {L : Str} {c : Nat} : inStr ⟨#[c]⟩ L = decide (c ∈ L.cps.toList) := StrLaws.found_one L c
theorem stepsF_sorted {L : Str} {st : Int} : ∀ (ts : List T3) (a : D) (n : Nat), ts.Pairwise (fun p q => lexle p q = true) → ts.Nodup → (∀ p ∈ ts, okT L st p) → (a = .non ∨ ∃ p, a = trip p ∧ ∀ q ∈ ts, lexle p q = true ∧ p ≠ q) → stepsF L st a n (ts.map trip) = none
  | [], _, _, _, _, _, _ => rfl
  | q :: ts, a, n, hp, hn, ho, ha => by
    rw [List.map_cons, stepsF_cons]
    obtain ⟨o1, o2, o3⟩ := ho q List.mem_cons_self
    have e : stepF L st a (trip q) = none := by
      show stepF L st a (.tup [.int q.1, .str ⟨#[q.2.1]⟩, .int q.2.2]) = none
      rw [stepF_3, o1, o2, inStr_one, decide_eq_true o3]
      rw [if_pos (show (true && true) = true from rfl), if_pos (show ((((⟨#[q.2.1]⟩ : Str).length : Int) == 1) && true) = true from rfl)]
      rcases ha with rfl | ⟨p, rfl, hpq⟩
      · rfl
      · obtain ⟨h1, h2⟩ := hpq q List.mem_cons_self
        show (if leT [.int q.1, .str ⟨#[q.2.1]⟩, .int q.2.2] [.int p.1, .str ⟨#[p.2.1]⟩, .int p.2.2] = true then some "order" else none) = none
        rw [leT_trip, if_neg]
        intro h3
        exact h2 (lexle_anti p q h1 h3)
    rw [e]
    rw [List.pairwise_cons] at hp
    rw [List.nodup_cons] at hn
    exact stepsF_sorted ts (trip q) (n + 1) hp.2 hn.2 (fun p hp' => ho p (List.mem_cons_of_mem _ hp')) (.inr ⟨q, rfl, fun r hr => ⟨hp.1 r hr, fun e => hn.1 (e ▸ hr)⟩⟩)
theorem steps_ok {L : Str} {st : Int} {ts : List T3} (hn : ts.Nodup) (ho : ∀ p ∈ ts, okT L st p) : stepsF L st .non 0 ((ts.map trip).mergeSort leD) = none := by
  rw [sort_trip]
  refine stepsF_sorted _ _ _ (List.pairwise_mergeSort (le := lexle) (fun a b c => lexle_trans a b c) (fun a b => lexle_total a b) ts) ?_ (fun p hp => ho p (List.mem_mergeSort.mp hp)) (.inl rfl)
  exact (List.mergeSort_perm ts lexle).nodup_iff.mpr hn
theorem rising_mono {most most' : Int} (h : most ≤ most') : ∀ (l : Int) (ds : List D), rising most l ds = true → rising most' l ds = true
  | _, [], _ => rfl
  | l, d :: ds, e => by
    cases d with
    | int n =>
      rw [rising_int] at e ⊢
      simp only [Bool.and_eq_true, decide_eq_true_eq] at e ⊢
      exact ⟨⟨e.1.1, by omega⟩, rising_mono h _ ds e.2⟩
    | _ => rw [rising_not rfl] at e; cases e
theorem rising_snoc {most n : Int} : ∀ (l : Int) (ds : List D), rising most l ds = true → most < n → l ≤ n → rising n l (ds ++ [.int n]) = true
  | l, [], _, _, h => by
    rw [List.nil_append, rising_int, decide_eq_true h, decide_eq_true (Int.le_refl n)]; rfl
  | l, d :: ds, e, h1, h2 => by
    cases d with
    | int k =>
      rw [rising_int] at e
      rw [List.cons_append, rising_int]
      simp only [Bool.and_eq_true, decide_eq_true_eq] at e ⊢
      exact ⟨⟨e.1.1, by omega⟩, rising_snoc (k + 1) ds e.2 h1 (by omega)⟩
    | _ => rw [rising_not rfl] at e; cases e
end Z

set_option Elab.async false
set_option linter.all false
set_option maxRecDepth 100000
set_option maxHeartbeats 4000000
set_option autoImplicit false
namespace Z
open PySem PySem.Spec L2 Y PySem.W
/-! a right machine -/
structure MOk (L : Str) (most : Int) (d : D) : Prop where
  ex : ∃ (st : Int) (ends : List D) (ts : List T3), d = .tup [.int st, .tup ends, .tup ((ts.map trip).mergeSort leD)] ∧ 1 ≤ st ∧ st ≤ most ∧ rising (st - 1) 0 ends = true ∧ ends.length ≤ 1000 ∧ pureL ends = true ∧ ts.Nodup ∧ (∀ p ∈ ts, okT L st p) ∧ ts.length ≤ 240
theorem toP_trip (p : T3) : toP (trip p) = some (tripP p) := rfl
theorem toPL_trip : ∀ ts : List T3, toPL (ts.map trip) = some (ts.map tripP)
  | [] => rfl
  | t :: ts => by
    show (toP (trip t)).bind (fun p => (toPL (ts.map trip)).map fun ps => p :: ps) = _
    rw [toPL_trip ts]; rfl
theorem lay_trip {p : T3} (h : p.2.1 < 1114112) : (tripP p).canLay0 = true := by
  have : PyData.strOk ⟨#[p.2.1]⟩ = true := by simp [PyData.strOk, h]
  simp [tripP, PyData.canLay0, PyData.canLayAll0, this]
theorem dep_trip (p : T3) : (tripP p).depth = 1 := by simp [tripP, PyData.depth, PyData.depthAll]
theorem layL_trip : ∀ {ts : List T3}, (∀ p ∈ ts, p.2.1 < 1114112) → PyData.canLayAll0 (ts.map tripP) = true
  | [], _ => by simp [PyData.canLayAll0]
  | t :: ts, h => by
    simp only [List.map_cons, PyData.canLayAll0, lay_trip (h t List.mem_cons_self), layL_trip fun p hp => h p (List.mem_cons_of_mem _ hp)]; rfl
theorem depL_trip : ∀ ts : List T3, PyData.depthAll (ts.map tripP) ≤ 1
  | [] => by simp [PyData.depthAll]
  | t :: ts => by
    have h1 := depL_trip ts
    have h2 := dep_trip t
    simp only [List.map_cons, PyData.depthAll]
    omega
theorem eqv_trip (p : T3) : PyData.eqv (tripP p) (tripP p) = true := by simp [tripP, PyData.eqv, PyData.eqvAll]
theorem inL_trip {S : Sto} {n : Nat} {ts : List T3} {p : T3} (h : S[n]? = some (some (.lst (ts.map trip)))) (hp : p.2.1 < 1114112) (hts : ∀ q ∈ ts, q.2.1 < 1114112) : ∃ b, o_inL true S (trip p) (.ref n) = some (.bl b) ∧ (b = true → p ∉ ts) ∧ (ts = [] → b = true) := by
  have e : toPS S (.ref n) = some (.list (ts.map tripP)) := by
    simp only [toPS, h, toPL_trip]; rfl
  refine ⟨!((ts.map tripP).any fun z => PyData.eqv z (tripP p)), ?_, fun hb hm => ?_, fun h => by rw [h]; rfl⟩
  · simp only [o_inL, toP_trip, e, Option.bind_some]
    rw [if_pos]
    · rfl
    · have h1 := depL_trip ts
      have h2 := dep_trip p
      simp [SeqAt.shaped, PyData.canLay0, PyData.depth, lay_trip hp, layL_trip hts, h2]
      omega
  · have : ((ts.map tripP).any fun z => PyData.eqv z (tripP p)) = true := List.any_eq_true.mpr ⟨tripP p, List.mem_map_of_mem hm, eqv_trip p⟩
    rw [this] at hb; cases hb
theorem trip_pure (p : T3) : (trip p).pure = true := rfl
theorem trips_pure {ts : List T3} : pureL (ts.map trip) = true := pureL_mem fun d hd => by
  obtain ⟨p, _, rfl⟩ := List.mem_map.mp hd
  rfl
theorem sorted_trip {S : Sto} {ts : List T3} : o_sorted S [.lst (ts.map trip)] = some ((ts.map trip).mergeSort leD) := by
  refine sorted_ok (toPL_trip ts) (AllAlike.of (enc := tripP) fun a b => by simp [tripP, alike, alikeAll]) (Sortable.tuples (enc := tripP) fun b => ⟨_, _, rfl⟩) fun p hp => ?_
  obtain ⟨t, _, rfl⟩ := List.mem_map.mp hp
  rw [dep_trip]; omega
theorem sortedR_trip {S : Sto} {n : Nat} {ts : List T3} (h : S[n]? = some (some (.lst (ts.map trip)))) : o_sorted S [.ref n] = some ((ts.map trip).mergeSort leD) := by
  have := sorted_trip (S := S) (ts := ts)
  simp only [o_sorted, lstOf, h] at this ⊢
  exact this
theorem letter_at {S : Sto} {L : Str} {j : Nat} (hL : LOk L) (hj : j < L.cps.size) : ∃ c, c ∈ L.cps.toList ∧ o_ix S (.str L) (.int (j : Int)) = some (.str ⟨#[c]⟩) := by
  have hsl := sizeLine_eq
  have hj' : j < L.cps.toList.length := by rw [Array.length_toList]; exact hj
  refine ⟨L.cps.toList[j], List.getElem_mem hj', ?_⟩
  have hl : L.length ≤ sizeLine := by
    show L.cps.size ≤ sizeLine
    have := hL.2.1
    omega
  simp only [o_ix]
  rw [if_pos hl, atI_nat (List.getElem?_eq_getElem hj')]; rfl
theorem len_L {S : Sto} {L : Str} (hL : LOk L) : o_len S [.str L] = some (.int (L.cps.size : Int)) := len_str (by
  have hsl := sizeLine_eq
  show L.cps.size ≤ sizeLine
  have := hL.2.1
  omega)
theorem inSt_of {st v : Int} (h0 : 0 ≤ v) (h1 : v < st) : inSt st v = true := by
  unfold inSt; rw [decide_eq_true h0, decide_eq_true h1]; rfl
theorem eq_intS {i j : Int} {S : Sto} : o_eq S (.int i) (.int j) = some (.bl (i == j)) := eq_int
theorem machine_wp {G : List Int} {m most many : Int} {rest : Sto} {L : Str} {Q : D → Sto → Prop} {E : Str → List (Str × D) → Sto → Prop} (hG : GoodP G m) (hL : LOk L) (h1 : 0 < most) (h2 : most ≤ 1000) (h3 : 0 ≤ many) (h4 : many ≤ 200)
    (k : ∀ d G' m', GoodP G' m' → MOk L most d → Q d (PSt G' m' rest)) : wpM (M__law_machine [.ref 1, .str L, .int most, .int many] (PSt G m rest)) Q E := by
  have hsl := sizeLine_eq
  have h3s : 3 ≤ sizeLine := by omega
  unfold M__law_machine
  refine wpM_fn ?_
  unfold m__law_machine
  simp only [wS_rai, wS_try, scope_bl, scope_int, scope_str, scope_non, wpM_ok, wpM_exc, trunc_same, and_self, if_true, if_false, Bool.false_eq_true, reduceIte, wS_setS, wS_seq, wS_if, wS_asg, wS_exS, wS_retS, wS_nxS, wS_nx, wS_ret, wpM_op2, wpM_op1, wpM_asT, wpM_trt, wpM_notT, wpM_andT, wpM_orT, wpM_andV, wpM_notE, wpM_ifE, wpM_lnil, wpM_lcons, wpM_tupE, wpM_lstF, wpM_frz, wpM_new, wpM_cal, wpM_calB, wpM_calF, wpM_isiE, wpM_vr, wpM_ct, wpM_meth, wpM_chn, wpM_cut, wpM_cutF, wpM_ono, wpM_osm, wpM_revT, wpM_lfE, wS_for, tgN, List.getElem?_cons_zero, List.getElem?_cons_succ, List.set_cons_zero, List.set_cons_succ, List.map_cons, List.map_nil, List.length_cons, List.length_nil, List.replicate_succ, List.replicate_zero, Nat.reduceAdd, Nat.reduceSub, List.cons_append, List.nil_append]
  refine pick_wp hG h1 (by omega) ?_
  intro v G1 m1 hG1 v0 v1
  simp only [wS_rai, wS_try, scope_bl, scope_int, scope_str, scope_non, wpM_ok, wpM_exc, trunc_same, and_self, if_true, if_false, Bool.false_eq_true, reduceIte, wS_setS, wS_seq, wS_if, wS_asg, wS_exS, wS_retS, wS_nxS, wS_nx, wS_ret, wpM_op2, wpM_op1, wpM_asT, wpM_trt, wpM_notT, wpM_andT, wpM_orT, wpM_andV, wpM_notE, wpM_ifE, wpM_lnil, wpM_lcons, wpM_tupE, wpM_lstF, wpM_frz, wpM_new, wpM_cal, wpM_calB, wpM_calF, wpM_isiE, wpM_vr, wpM_ct, wpM_meth, wpM_chn, wpM_cut, wpM_cutF, wpM_ono, wpM_osm, wpM_revT, wpM_lfE, wS_for, tgN, List.getElem?_cons_zero, List.getElem?_cons_succ, List.set_cons_zero, List.set_cons_succ, List.map_cons, List.map_nil, List.length_cons, List.length_nil, List.replicate_succ, List.replicate_zero, Nat.reduceAdd, Nat.reduceSub, List.cons_append, List.nil_append, o_add, wpM_compF, i_rg1, wpM_bdE]
  obtain ⟨i, hvi⟩ := Int.eq_ofNat_of_zero_le v0
  rw [if_pos (by omega)]
  simp only [wS_rai, wS_try, scope_bl, scope_int, scope_str, scope_non, wpM_ok, wpM_exc, trunc_same, and_self, if_true, if_false, Bool.false_eq_true, reduceIte, wS_setS, wS_seq, wS_if, wS_asg, wS_exS, wS_retS, wS_nxS, wS_nx, wS_ret, wpM_op2, wpM_op1, wpM_asT, wpM_trt, wpM_notT, wpM_andT, wpM_orT, wpM_andV, wpM_notE, wpM_ifE, wpM_lnil, wpM_lcons, wpM_tupE, wpM_lstF, wpM_frz, wpM_new, wpM_cal, wpM_calB, wpM_calF, wpM_isiE, wpM_vr, wpM_ct, wpM_meth, wpM_chn, wpM_cut, wpM_cutF, wpM_ono, wpM_osm, wpM_revT, wpM_lfE, wS_for, tgN, List.getElem?_cons_zero, List.getElem?_cons_succ, List.set_cons_zero, List.set_cons_succ, List.map_cons, List.map_nil, List.length_cons, List.length_nil, List.replicate_succ, List.replicate_zero, Nat.reduceAdd, Nat.reduceSub, List.cons_append, List.nil_append]
  have hst : (1 + v) = ((1 + i : Nat) : Int) := by omega
  rw [show rest.length + 1 + 1 = rest.length + 2 + 0 from rfl]
  refine wpM_clp (fun j S' => ∃ G' m' acc, S' = PSt G' m' (rest ++ [some (.lst acc)]) ∧ GoodP G' m' ∧ rising ((j : Int) - 1) 0 acc = true ∧ acc.length ≤ j ∧ pureL acc = true) _ 0 _ ⟨G1, m1, [], rfl, hG1, rfl, Nat.zero_le _, rfl⟩ ?_ ?_
  · rintro j d S' hj ⟨G', m', acc, rfl, hG', hr, hl, hp⟩
    rw [hst] at hj
    obtain ⟨rfl, hjn⟩ := rgL_get hj
    refine ⟨okB_nil, _, rfl, ?_⟩
    simp only [wS_rai, wS_try, scope_bl, scope_int, scope_str, scope_non, wpM_ok, wpM_exc, trunc_same, and_self, if_true, if_false, Bool.false_eq_true, reduceIte, wS_setS, wS_seq, wS_if, wS_asg, wS_exS, wS_retS, wS_nxS, wS_nx, wS_ret, wpM_op2, wpM_op1, wpM_asT, wpM_trt, wpM_notT, wpM_andT, wpM_orT, wpM_andV, wpM_notE, wpM_ifE, wpM_lnil, wpM_lcons, wpM_tupE, wpM_lstF, wpM_frz, wpM_new, wpM_cal, wpM_calB, wpM_calF, wpM_isiE, wpM_vr, wpM_ct, wpM_meth, wpM_chn, wpM_cut, wpM_cutF, wpM_ono, wpM_osm, wpM_revT, wpM_lfE, wS_for, tgN, List.getElem?_cons_zero, List.getElem?_cons_succ, List.set_cons_zero, List.set_cons_succ, List.map_cons, List.map_nil, List.length_cons, List.length_nil, List.replicate_succ, List.replicate_zero, Nat.reduceAdd, Nat.reduceSub, List.cons_append, List.nil_append, wipeE]
    refine pick_wp hG' (by decide) (by decide) ?_
    intro w G2 m2 hG2 w0 w1
    simp only [wS_rai, wS_try, scope_bl, scope_int, scope_str, scope_non, wpM_ok, wpM_exc, trunc_same, and_self, if_true, if_false, Bool.false_eq_true, reduceIte, wS_setS, wS_seq, wS_if, wS_asg, wS_exS, wS_retS, wS_nxS, wS_nx, wS_ret, wpM_op2, wpM_op1, wpM_asT, wpM_trt, wpM_notT, wpM_andT, wpM_orT, wpM_andV, wpM_notE, wpM_ifE, wpM_lnil, wpM_lcons, wpM_tupE, wpM_lstF, wpM_frz, wpM_new, wpM_cal, wpM_calB, wpM_calF, wpM_isiE, wpM_vr, wpM_ct, wpM_meth, wpM_chn, wpM_cut, wpM_cutF, wpM_ono, wpM_osm, wpM_revT, wpM_lfE, wS_for, tgN, List.getElem?_cons_zero, List.getElem?_cons_succ, List.set_cons_zero, List.set_cons_succ, List.map_cons, List.map_nil, List.length_cons, List.length_nil, List.replicate_succ, List.replicate_zero, Nat.reduceAdd, Nat.reduceSub, List.cons_append, List.nil_append, eq_intS]
    rw [Nat.zero_add] at hr hl
    rcases Bool.eq_false_or_eq_true (w == 0) with hw | hw
    · rw [hw]
      simp only [wS_rai, wS_try, scope_bl, scope_int, scope_str, scope_non, wpM_ok, wpM_exc, trunc_same, and_self, if_true, if_false, Bool.false_eq_true, reduceIte, wS_setS, wS_seq, wS_if, wS_asg, wS_exS, wS_retS, wS_nxS, wS_nx, wS_ret, wpM_op2, wpM_op1, wpM_asT, wpM_trt, wpM_notT, wpM_andT, wpM_orT, wpM_andV, wpM_notE, wpM_ifE, wpM_lnil, wpM_lcons, wpM_tupE, wpM_lstF, wpM_frz, wpM_new, wpM_cal, wpM_calB, wpM_calF, wpM_isiE, wpM_vr, wpM_ct, wpM_meth, wpM_chn, wpM_cut, wpM_cutF, wpM_ono, wpM_osm, wpM_revT, wpM_lfE, wS_for, tgN, List.getElem?_cons_zero, List.getElem?_cons_succ, List.set_cons_zero, List.set_cons_succ, List.map_cons, List.map_nil, List.length_cons, List.length_nil, List.replicate_succ, List.replicate_zero, Nat.reduceAdd, Nat.reduceSub, List.cons_append, List.nil_append]
      refine ⟨acc, get0 (G := G2) (m := m2), by omega, G2, m2, acc ++ [.int (j : Int)], by simp, hG2, ?_, ?_, ?_⟩
      · have := rising_snoc 0 acc hr (show ((j : Int) - 1) < (j : Int) by omega) (by omega)
        rw [show (((0 + j + 1 : Nat) : Int) - 1) = (j : Int) by omega]
        exact this
      · rw [List.length_append, List.length_singleton]; omega
      · exact pureL_mem fun d hd => by
          rcases List.mem_append.mp hd with hd | hd
          · exact mem_pure hp d hd
          · rw [List.mem_singleton.mp hd]; rfl
    · rw [hw]
      simp only [wS_rai, wS_try, scope_bl, scope_int, scope_str, scope_non, wpM_ok, wpM_exc, trunc_same, and_self, if_true, if_false, Bool.false_eq_true, reduceIte, wS_setS, wS_seq, wS_if, wS_asg, wS_exS, wS_retS, wS_nxS, wS_nx, wS_ret, wpM_op2, wpM_op1, wpM_asT, wpM_trt, wpM_notT, wpM_andT, wpM_orT, wpM_andV, wpM_notE, wpM_ifE, wpM_lnil, wpM_lcons, wpM_tupE, wpM_lstF, wpM_frz, wpM_new, wpM_cal, wpM_calB, wpM_calF, wpM_isiE, wpM_vr, wpM_ct, wpM_meth, wpM_chn, wpM_cut, wpM_cutF, wpM_ono, wpM_osm, wpM_revT, wpM_lfE, wS_for, tgN, List.getElem?_cons_zero, List.getElem?_cons_succ, List.set_cons_zero, List.set_cons_succ, List.map_cons, List.map_nil, List.length_cons, List.length_nil, List.replicate_succ, List.replicate_zero, Nat.reduceAdd, Nat.reduceSub, List.cons_append, List.nil_append]
      exact ⟨G2, m2, acc, rfl, hG2, rising_mono (by omega) 0 acc hr, by omega, hp⟩
  · rintro S' ⟨G', m', acc, rfl, hG', hr, hl, hp⟩
    refine ⟨okB_nil, ?_⟩
    rw [hst, rgL_len, Nat.zero_add] at hr hl
    rw [get0]
    simp only
    rw [if_pos (belL_of_pure acc hp), setX, trunc_X]
    simp only [wS_rai, wS_try, scope_bl, scope_int, scope_str, scope_non, wpM_ok, wpM_exc, trunc_same, and_self, if_true, if_false, Bool.false_eq_true, reduceIte, wS_setS, wS_seq, wS_if, wS_asg, wS_exS, wS_retS, wS_nxS, wS_nx, wS_ret, wpM_op2, wpM_op1, wpM_asT, wpM_trt, wpM_notT, wpM_andT, wpM_orT, wpM_andV, wpM_notE, wpM_ifE, wpM_lnil, wpM_lcons, wpM_tupE, wpM_lstF, wpM_frz, wpM_new, wpM_cal, wpM_calB, wpM_calF, wpM_isiE, wpM_vr, wpM_ct, wpM_meth, wpM_chn, wpM_cut, wpM_cutF, wpM_ono, wpM_osm, wpM_revT, wpM_lfE, wS_for, tgN, List.getElem?_cons_zero, List.getElem?_cons_succ, List.set_cons_zero, List.set_cons_succ, List.map_cons, List.map_nil, List.length_cons, List.length_nil, List.replicate_succ, List.replicate_zero, Nat.reduceAdd, Nat.reduceSub, List.cons_append, List.nil_append, o_tuple, seqOf, Option.map_some, h3]
    refine pick_wp hG' (by omega) (by omega) ?_
    intro w G2 m2 hG2 w0 w1
    obtain ⟨n, hwn⟩ := Int.eq_ofNat_of_zero_le w0
    dsimp only
    rw [if_pos (by omega)]
    simp only [wS_rai, wS_try, scope_bl, scope_int, scope_str, scope_non, wpM_ok, wpM_exc, trunc_same, and_self, if_true, if_false, Bool.false_eq_true, reduceIte, wS_setS, wS_seq, wS_if, wS_asg, wS_exS, wS_retS, wS_nxS, wS_nx, wS_ret, wpM_op2, wpM_op1, wpM_asT, wpM_trt, wpM_notT, wpM_andT, wpM_orT, wpM_andV, wpM_notE, wpM_ifE, wpM_lnil, wpM_lcons, wpM_tupE, wpM_lstF, wpM_frz, wpM_new, wpM_cal, wpM_calB, wpM_calF, wpM_isiE, wpM_vr, wpM_ct, wpM_meth, wpM_chn, wpM_cut, wpM_cutF, wpM_ono, wpM_osm, wpM_revT, wpM_lfE, wS_for, tgN, List.getElem?_cons_zero, List.getElem?_cons_succ, List.set_cons_zero, List.set_cons_succ, List.map_cons, List.map_nil, List.length_cons, List.length_nil, List.replicate_succ, List.replicate_zero, Nat.reduceAdd, Nat.reduceSub, List.cons_append, List.nil_append]
    have hcs := hL.2.1
    have hc1 := hL.1
    refine wS_loop (fun j env S' => ∃ G' m' ts e7 e8, env = [some (.ref 1), some (.str L), some (.int most), some (.int many), some (.int (1 + v)), some (.tup acc), some (.ref (rest.length + 2 + 0)), e7, e8, none] ∧ S' = PSt G' m' (rest ++ [some (.lst (List.map trip ts))]) ∧ GoodP G' m' ∧ ts.Nodup ∧ (∀ p ∈ ts, okT L (1 + v) p) ∧ ts.length ≤ j) _ 0 _ _ ⟨G2, m2, [], none, none, rfl, rfl, hG2, List.nodup_nil, (fun p hp => by cases hp), Nat.le_refl _⟩ ?_ ?_
    · rintro j d env S' hj ⟨G3, m3, ts, e7, e8, rfl, rfl, hG3, hn, ho, hl⟩
      rw [hwn] at hj
      obtain ⟨rfl, hjn⟩ := rgL_get hj
      refine ⟨okSrc_nil, _, rfl, ?_⟩
      simp only [wS_rai, wS_try, scope_bl, scope_int, scope_str, scope_non, wpM_ok, wpM_exc, trunc_same, and_self, if_true, if_false, Bool.false_eq_true, reduceIte, wS_setS, wS_seq, wS_if, wS_asg, wS_exS, wS_retS, wS_nxS, wS_nx, wS_ret, wpM_op2, wpM_op1, wpM_asT, wpM_trt, wpM_notT, wpM_andT, wpM_orT, wpM_andV, wpM_notE, wpM_ifE, wpM_lnil, wpM_lcons, wpM_tupE, wpM_lstF, wpM_frz, wpM_new, wpM_cal, wpM_calB, wpM_calF, wpM_isiE, wpM_vr, wpM_ct, wpM_meth, wpM_chn, wpM_cut, wpM_cutF, wpM_ono, wpM_osm, wpM_revT, wpM_lfE, wS_for, tgN, List.getElem?_cons_zero, List.getElem?_cons_succ, List.set_cons_zero, List.set_cons_succ, List.map_cons, List.map_nil, List.length_cons, List.length_nil, List.replicate_succ, List.replicate_zero, Nat.reduceAdd, Nat.reduceSub, List.cons_append, List.nil_append]
      refine pick_wp hG3 (by omega) (by omega) ?_
      intro a G4 m4 hG4 a0 a1
      simp only [wS_rai, wS_try, scope_bl, scope_int, scope_str, scope_non, wpM_ok, wpM_exc, trunc_same, and_self, if_true, if_false, Bool.false_eq_true, reduceIte, wS_setS, wS_seq, wS_if, wS_asg, wS_exS, wS_retS, wS_nxS, wS_nx, wS_ret, wpM_op2, wpM_op1, wpM_asT, wpM_trt, wpM_notT, wpM_andT, wpM_orT, wpM_andV, wpM_notE, wpM_ifE, wpM_lnil, wpM_lcons, wpM_tupE, wpM_lstF, wpM_frz, wpM_new, wpM_cal, wpM_calB, wpM_calF, wpM_isiE, wpM_vr, wpM_ct, wpM_meth, wpM_chn, wpM_cut, wpM_cutF, wpM_ono, wpM_osm, wpM_revT, wpM_lfE, wS_for, tgN, List.getElem?_cons_zero, List.getElem?_cons_succ, List.set_cons_zero, List.set_cons_succ, List.map_cons, List.map_nil, List.length_cons, List.length_nil, List.replicate_succ, List.replicate_zero, Nat.reduceAdd, Nat.reduceSub, List.cons_append, List.nil_append, len_L hL]
      have q1 : (0 : Int) < (L.cps.size : Int) := by omega
      have q2 : (L.cps.size : Int) < 1073741824 := by omega
      refine pick_wp hG4 q1 q2 ?_
      intro x G5 m5 hG5 x0 x1
      obtain ⟨xi, hxi⟩ := Int.eq_ofNat_of_zero_le x0
      obtain ⟨c, hc, ec⟩ := letter_at (S := PSt G5 m5 (rest ++ [some (.lst (List.map trip ts))])) hL (show xi < L.cps.size by omega)
      rw [hxi, ec]
      simp only [wS_rai, wS_try, scope_bl, scope_int, scope_str, scope_non, wpM_ok, wpM_exc, trunc_same, and_self, if_true, if_false, Bool.false_eq_true, reduceIte, wS_setS, wS_seq, wS_if, wS_asg, wS_exS, wS_retS, wS_nxS, wS_nx, wS_ret, wpM_op2, wpM_op1, wpM_asT, wpM_trt, wpM_notT, wpM_andT, wpM_orT, wpM_andV, wpM_notE, wpM_ifE, wpM_lnil, wpM_lcons, wpM_tupE, wpM_lstF, wpM_frz, wpM_new, wpM_cal, wpM_calB, wpM_calF, wpM_isiE, wpM_vr, wpM_ct, wpM_meth, wpM_chn, wpM_cut, wpM_cutF, wpM_ono, wpM_osm, wpM_revT, wpM_lfE, wS_for, tgN, List.getElem?_cons_zero, List.getElem?_cons_succ, List.set_cons_zero, List.set_cons_succ, List.map_cons, List.map_nil, List.length_cons, List.length_nil, List.replicate_succ, List.replicate_zero, Nat.reduceAdd, Nat.reduceSub, List.cons_append, List.nil_append]
      refine pick_wp hG5 (by omega) (by omega) ?_
      intro b G6 m6 hG6 b0 b1
      simp only [wS_rai, wS_try, scope_bl, scope_int, scope_str, scope_non, wpM_ok, wpM_exc, trunc_same, and_self, if_true, if_false, Bool.false_eq_true, reduceIte, wS_setS, wS_seq, wS_if, wS_asg, wS_exS, wS_retS, wS_nxS, wS_nx, wS_ret, wpM_op2, wpM_op1, wpM_asT, wpM_trt, wpM_notT, wpM_andT, wpM_orT, wpM_andV, wpM_notE, wpM_ifE, wpM_lnil, wpM_lcons, wpM_tupE, wpM_lstF, wpM_frz, wpM_new, wpM_cal, wpM_calB, wpM_calF, wpM_isiE, wpM_vr, wpM_ct, wpM_meth, wpM_chn, wpM_cut, wpM_cutF, wpM_ono, wpM_osm, wpM_revT, wpM_lfE, wS_for, tgN, List.getElem?_cons_zero, List.getElem?_cons_succ, List.set_cons_zero, List.set_cons_succ, List.map_cons, List.map_nil, List.length_cons, List.length_nil, List.replicate_succ, List.replicate_zero, Nat.reduceAdd, Nat.reduceSub, List.cons_append, List.nil_append, h3s]
      have valid := hL.2.2
      have g0 : (PSt G6 m6 (rest ++ [some (.lst (List.map trip ts))]))[rest.length + 2 + 0]? = some (some (.lst (ts.map trip))) := get0
      obtain ⟨bb, e1, e2, _⟩ := inL_trip (p := (a, c, b)) g0 (valid c hc) (fun q hq => valid q.2.1 (ho q hq).2.2)
      have e1 : o_inL true (PSt G6 m6 (rest ++ [some (.lst (List.map trip ts))])) (.tup [.int a, .str ⟨#[c]⟩, .int b]) (.ref (rest.length + 2 + 0)) = some (.bl bb) := e1
      rw [e1]
      cases bb with
      | false =>
        simp only [wS_rai, wS_try, scope_bl, scope_int, scope_str, scope_non, wpM_ok, wpM_exc, trunc_same, and_self, if_true, if_false, Bool.false_eq_true, reduceIte, wS_setS, wS_seq, wS_if, wS_asg, wS_exS, wS_retS, wS_nxS, wS_nx, wS_ret, wpM_op2, wpM_op1, wpM_asT, wpM_trt, wpM_notT, wpM_andT, wpM_orT, wpM_andV, wpM_notE, wpM_ifE, wpM_lnil, wpM_lcons, wpM_tupE, wpM_lstF, wpM_frz, wpM_new, wpM_cal, wpM_calB, wpM_calF, wpM_isiE, wpM_vr, wpM_ct, wpM_meth, wpM_chn, wpM_cut, wpM_cutF, wpM_ono, wpM_osm, wpM_revT, wpM_lfE, wS_for, tgN, List.getElem?_cons_zero, List.getElem?_cons_succ, List.set_cons_zero, List.set_cons_succ, List.map_cons, List.map_nil, List.length_cons, List.length_nil, List.replicate_succ, List.replicate_zero, Nat.reduceAdd, Nat.reduceSub, List.cons_append, List.nil_append]
        exact ⟨G6, m6, ts, _, _, rfl, rfl, hG6, hn, ho, by omega⟩
      | true =>
        simp only [wS_rai, wS_try, scope_bl, scope_int, scope_str, scope_non, wpM_ok, wpM_exc, trunc_same, and_self, if_true, if_false, Bool.false_eq_true, reduceIte, wS_setS, wS_seq, wS_if, wS_asg, wS_exS, wS_retS, wS_nxS, wS_nx, wS_ret, wpM_op2, wpM_op1, wpM_asT, wpM_trt, wpM_notT, wpM_andT, wpM_orT, wpM_andV, wpM_notE, wpM_ifE, wpM_lnil, wpM_lcons, wpM_tupE, wpM_lstF, wpM_frz, wpM_new, wpM_cal, wpM_calB, wpM_calF, wpM_isiE, wpM_vr, wpM_ct, wpM_meth, wpM_chn, wpM_cut, wpM_cutF, wpM_ono, wpM_osm, wpM_revT, wpM_lfE, wS_for, tgN, List.getElem?_cons_zero, List.getElem?_cons_succ, List.set_cons_zero, List.set_cons_succ, List.map_cons, List.map_nil, List.length_cons, List.length_nil, List.replicate_succ, List.replicate_zero, Nat.reduceAdd, Nat.reduceSub, List.cons_append, List.nil_append]
        rw [if_pos (tyL g0), app_at g0 (by rw [List.length_map]; omega), setX]
        refine ⟨G6, m6, ts ++ [(a, c, b)], _, _, rfl, by rw [List.map_append]; rfl, hG6, ?_, ?_, by rw [List.length_append, List.length_singleton]; omega⟩
        · rw [List.nodup_append]
          refine ⟨hn, by simp, fun p hp q hq => ?_⟩
          rw [List.mem_singleton.mp hq]
          intro e
          exact e2 rfl (e ▸ hp)
        · intro p hp
          rcases List.mem_append.mp hp with hp | hp
          · exact ho p hp
          · rw [List.mem_singleton.mp hp]
            exact ⟨inSt_of a0 a1, inSt_of b0 b1, hc⟩
    · rintro env S' ⟨G3, m3, ts, e7, e8, rfl, rfl, hG3, hn, ho, hl⟩
      rw [hwn, rgL_len] at hl
      refine ⟨okSrc_nil, ?_⟩
      have g0 : (PSt G3 m3 (rest ++ [some (.lst (List.map trip ts))]))[rest.length + 2 + 0]? = some (some (.lst (ts.map trip))) := get0
      simp only [wS_rai, wS_try, scope_bl, scope_int, scope_str, scope_non, wpM_ok, wpM_exc, trunc_same, and_self, if_true, if_false, Bool.false_eq_true, reduceIte, wS_setS, wS_seq, wS_if, wS_asg, wS_exS, wS_retS, wS_nxS, wS_nx, wS_ret, wpM_op2, wpM_op1, wpM_asT, wpM_trt, wpM_notT, wpM_andT, wpM_orT, wpM_andV, wpM_notE, wpM_ifE, wpM_lnil, wpM_lcons, wpM_tupE, wpM_lstF, wpM_frz, wpM_new, wpM_cal, wpM_calB, wpM_calF, wpM_isiE, wpM_vr, wpM_ct, wpM_meth, wpM_chn, wpM_cut, wpM_cutF, wpM_ono, wpM_osm, wpM_revT, wpM_lfE, wS_for, tgN, List.getElem?_cons_zero, List.getElem?_cons_succ, List.set_cons_zero, List.set_cons_succ, List.map_cons, List.map_nil, List.length_cons, List.length_nil, List.replicate_succ, List.replicate_zero, Nat.reduceAdd, Nat.reduceSub, List.cons_append, List.nil_append, sortedR_trip g0, o_tuple, seqOf, Option.map_some, h3s]
      have ps : pureL ((ts.map trip).mergeSort leD) = true := pureL_mem fun d hd => mem_pure trips_pure d (List.mem_mergeSort.mp hd)
      rw [scope_pure (show (D.tup [.int (1 + v), .tup acc, .tup ((ts.map trip).mergeSort leD)]).pure = true from by
        show (true && (pureL acc && (pureL ((ts.map trip).mergeSort leD) && true))) = true
        rw [hp, ps]; rfl), wpM_ok, trunc_X]
      refine k _ G3 m3 hG3 ⟨1 + v, acc, ts, rfl, by omega, by omega, ?_, by omega, hp, hn, ho, by omega⟩
      rw [show (1 + v) - 1 = (((1 + i : Nat) : Int) - 1) by omega]
      exact hr
end Z

set_option Elab.async false
set_option linter.all false
set_option maxRecDepth 100000
set_option maxHeartbeats 4000000
set_option autoImplicit false
namespace Z
open PySem PySem.Spec L2 Y PySem.W
mutual
def fd : D → Bool
  | .non => true
  | .bl _ => true
  | .int _ => true
  | .str s => decide (s.length ≤ 1000)
  | .tup ds => fdL ds
  | .lst ds => fdL ds
  | .ref _ => false
def fdL : List D → Bool
  | [] => true
  | d :: ds => fd d && fdL ds
end
mutual
theorem fd_pure : ∀ d : D, fd d = true → d.pure = true
  | .non, _ => rfl
  | .bl _, _ => rfl
  | .int _, _ => rfl
  | .str _, _ => rfl
  | .tup ds, h => fdL_pure ds h
  | .lst ds, h => fdL_pure ds h
  | .ref _, h => by cases h
theorem fdL_pure : ∀ ds : List D, fdL ds = true → pureL ds = true
  | [], _ => rfl
  | d :: ds, h => by
    have h' : (fd d && fdL ds) = true := h
    obtain ⟨h1, h2⟩ := Bool.and_eq_true_iff.mp h'
    show (d.pure && pureL ds) = true
    rw [fd_pure d h1, fdL_pure ds h2]; rfl
end
theorem fdL_mem : ∀ {ds : List D}, fdL ds = true ↔ ∀ d ∈ ds, fd d = true
  | [] => ⟨(fun _ d h => by cases h), (fun _ => rfl)⟩
  | d :: ds => by
    show (fd d && fdL ds) = true ↔ _
    rw [Bool.and_eq_true, fdL_mem]
    constructor
    · rintro ⟨h1, h2⟩ x hx
      rcases List.mem_cons.mp hx with e | hx
      · rw [e]; exact h1
      · exact h2 x hx
    · exact fun h => ⟨h d List.mem_cons_self, fun x hx => h x (List.mem_cons_of_mem _ hx)⟩
theorem fd_Sm {d : D} (h : fd d = true) : Sm d := by
  have hsl := sizeLine_eq
  rintro s ends steps rfl x hx
  have h1 : fdL [s, ends, .tup steps] = true := h
  have h2 : fd (.tup steps) = true := fdL_mem.mp h1 _ (by simp)
  have h3 : fd x = true := fdL_mem.mp (show fdL steps = true from h2) x hx
  unfold smS
  split
  · rename_i a l b
    have h4 : fd (.str l) = true := fdL_mem.mp (show fdL [a, .str l, b] = true from h3) _ (by simp)
    have h5 : l.length ≤ 1000 := of_decide_eq_true h4
    omega
  · trivial
theorem fd_trip (p : T3) : fd (trip p) = true := by
  show (true && (decide ((⟨#[p.2.1]⟩ : Str).length ≤ 1000) && (true && true))) = true
  rw [decide_eq_true (show (⟨#[p.2.1]⟩ : Str).length ≤ 1000 from (show (1 : Nat) ≤ 1000 by omega))]; rfl
theorem cutL_mem {ds : List D} {lo hi : Option Int} {x : D} (h : x ∈ cutL ds lo hi) : x ∈ ds := List.mem_of_mem_drop (List.mem_of_mem_take h)
theorem cutL_len {ds : List D} {lo hi : Option Int} : (cutL ds lo hi).length ≤ ds.length := by
  unfold cutL
  rw [List.length_take, List.length_drop]; omega
section
variable {S : Sto} {rest : Sto} {G : List Int} {m : Int} {L : Str} {Q : D → Sto → Prop} {E : Str → List (Str × D) → Sto → Prop}
theorem ix_lst {ds : List D} {v : Int} (h0 : 0 ≤ v) (h1 : v < (ds.length : Int)) : ∃ d, d ∈ ds ∧ ∀ S, o_ix S (.lst ds) (.int v) = some d := by
  obtain ⟨j, hj⟩ := Int.eq_ofNat_of_zero_le h0
  have hjl : j < ds.length := by omega
  refine ⟨ds[j], List.getElem_mem hjl, fun S => ?_⟩
  rw [hj]
  exact atI_nat (List.getElem?_eq_getElem hjl)
theorem len_lst {ds : List D} : o_len S [.lst ds] = some (.int (ds.length : Int)) := rfl
theorem str_small : ∀ n : Nat, n < 1001 → (toString (n : Int) : Str).length ≤ 1000 := by decide +kernel
theorem log_small {n : Nat} (h : n ≤ 1000) : ((n : Int)).natAbs.log2 < 1920 := by
  rw [Int.natAbs_natCast]
  by_cases h0 : n = 0
  · subst h0; decide
  · have := Nat.log2_lt h0 (k := 1920)
    rw [this]
    exact Nat.lt_of_le_of_lt h (by decide)
theorem bstates_wp {st : Int} (hG : GoodP G m) (h0 : 0 ≤ st) (h1 : st ≤ 1000) (k : ∀ d G' m', GoodP G' m' → fd d = true → Q d (PSt G' m' rest)) : wpM (M__law_bent_states [.ref 1, .int st] (PSt G m rest)) Q E := by
  have hsl := sizeLine_eq
  have h12 : 12 ≤ sizeLine := by omega
  have h1s : 1 ≤ sizeLine := by omega
  unfold M__law_bent_states
  refine wpM_fn ?_
  unfold m__law_bent_states
  obtain ⟨n, hn⟩ := Int.eq_ofNat_of_zero_le h0
  have hs : (toString st : Str).length ≤ 1000 := by rw [hn]; exact str_small n (by omega)
  have hlog : st.natAbs.log2 < 1920 := by rw [hn]; exact log_small (by omega)
  simp only [wS_rai, wS_try, scope_bl, scope_int, scope_str, scope_non, wpM_ok, wpM_exc, trunc_same, and_self, if_true, if_false, Bool.false_eq_true, reduceIte, wS_setS, wS_seq, wS_if, wS_asg, wS_exS, wS_retS, wS_nxS, wS_nx, wS_ret, wpM_op2, wpM_op1, wpM_asT, wpM_trt, wpM_notT, wpM_andT, wpM_orT, wpM_andV, wpM_notE, wpM_ifE, wpM_lnil, wpM_lcons, wpM_tupE, wpM_lstF, wpM_frz, wpM_new, wpM_cal, wpM_calB, wpM_calF, wpM_isiE, wpM_vr, wpM_ct, wpM_meth, wpM_chn, wpM_cut, wpM_cutF, wpM_ono, wpM_osm, wpM_revT, wpM_lfE, wS_for, tgN, List.getElem?_cons_zero, List.getElem?_cons_succ, List.set_cons_zero, List.set_cons_succ, List.map_cons, List.map_nil, List.length_cons, List.length_nil, List.replicate_succ, List.replicate_zero, Nat.reduceAdd, Nat.reduceSub, List.cons_append, List.nil_append, o_neg, o_str, hlog, o_pow, o_sub, o_add, h12, h1s, len_lst]
  rw [if_pos (by decide)]
  simp only [wS_rai, wS_try, scope_bl, scope_int, scope_str, scope_non, wpM_ok, wpM_exc, trunc_same, and_self, if_true, if_false, Bool.false_eq_true, reduceIte, wS_setS, wS_seq, wS_if, wS_asg, wS_exS, wS_retS, wS_nxS, wS_nx, wS_ret, wpM_op2, wpM_op1, wpM_asT, wpM_trt, wpM_notT, wpM_andT, wpM_orT, wpM_andV, wpM_notE, wpM_ifE, wpM_lnil, wpM_lcons, wpM_tupE, wpM_lstF, wpM_frz, wpM_new, wpM_cal, wpM_calB, wpM_calF, wpM_isiE, wpM_vr, wpM_ct, wpM_meth, wpM_chn, wpM_cut, wpM_cutF, wpM_ono, wpM_osm, wpM_revT, wpM_lfE, wS_for, tgN, List.getElem?_cons_zero, List.getElem?_cons_succ, List.set_cons_zero, List.set_cons_succ, List.map_cons, List.map_nil, List.length_cons, List.length_nil, List.replicate_succ, List.replicate_zero, Nat.reduceAdd, Nat.reduceSub, List.cons_append, List.nil_append, o_neg, o_sub, o_add, h12, h1s, len_lst]
  refine pick_wp hG (by decide) (by decide) ?_
  intro v G1 m1 hG1 v0 v1
  obtain ⟨d, hd, e⟩ := ix_lst (ds := [.int 0, .int (-1), .int 41, .int 40, .bl true, .non, .str (toString st), .tup [.int st], .int (10 ^ (39 : Int).toNat), .int (-10 ^ (39 : Int).toNat), .int (st - 1), .int (st + 1)]) v0 v1
  rw [e]
  have hf : fd d = true := by
    refine fdL_mem.mp ?_ d hd
    simp only [fdL, fd, Bool.and_true, Bool.true_and, decide_eq_true_eq]
    exact hs
  simp only [wS_rai, wS_try, scope_bl, scope_int, scope_str, scope_non, wpM_ok, wpM_exc, trunc_same, and_self, if_true, if_false, Bool.false_eq_true, reduceIte, wS_setS, wS_seq, wS_if, wS_asg, wS_exS, wS_retS, wS_nxS, wS_nx, wS_ret, wpM_op2, wpM_op1, wpM_asT, wpM_trt, wpM_notT, wpM_andT, wpM_orT, wpM_andV, wpM_notE, wpM_ifE, wpM_lnil, wpM_lcons, wpM_tupE, wpM_lstF, wpM_frz, wpM_new, wpM_cal, wpM_calB, wpM_calF, wpM_isiE, wpM_vr, wpM_ct, wpM_meth, wpM_chn, wpM_cut, wpM_cutF, wpM_ono, wpM_osm, wpM_revT, wpM_lfE, wS_for, tgN, List.getElem?_cons_zero, List.getElem?_cons_succ, List.set_cons_zero, List.set_cons_succ, List.map_cons, List.map_nil, List.length_cons, List.length_nil, List.replicate_succ, List.replicate_zero, Nat.reduceAdd, Nat.reduceSub, List.cons_append, List.nil_append]
  rw [scope_pure (fd_pure d hf), wpM_ok, trunc_P0]
  exact k d G1 m1 hG1 hf
end
end Z

set_option Elab.async false
set_option linter.all false
set_option maxRecDepth 100000
set_option maxHeartbeats 4000000
set_option autoImplicit false
namespace Z
open PySem PySem.Spec L2 Y PySem.W
section
variable {S : Sto} {rest : Sto} {G : List Int} {m : Int} {L : Str} {Q : D → Sto → Prop} {E : Str → List (Str × D) → Sto → Prop}
theorem add_tup {a b : List D} (h : a.length + b.length ≤ sizeLine) : o_add S (.tup a) (.tup b) = some (.tup (a ++ b)) := by
  simp only [o_add]; rw [if_pos h]
theorem fdL_app {a b : List D} (h1 : fdL a = true) (h2 : fdL b = true) : fdL (a ++ b) = true := fdL_mem.mpr fun d hd => by
  rcases List.mem_append.mp hd with h | h
  · exact fdL_mem.mp h1 d h
  · exact fdL_mem.mp h2 d h
theorem fdL_cut {a : List D} {lo hi : Option Int} (h : fdL a = true) : fdL (cutL a lo hi) = true := fdL_mem.mpr fun d hd => fdL_mem.mp h d (cutL_mem hd)
theorem fdL_one {d : D} (h : fd d = true) : fdL [d] = true := by show (fd d && true) = true; rw [h]; rfl
theorem cut_tup {a : List D} {lo hi : Option Int} : o_cut S (.tup a) lo hi = some (.tup (cutL a lo hi)) := rfl
theorem bends_wp {st : Int} {ends : List D} (hG : GoodP G m) (hf : fdL ends = true) (hl : ends.length ≤ 1000) (k : ∀ d G' m', GoodP G' m' → fd d = true → (∀ es, d = .tup es → es.length ≤ 1001) → Q d (PSt G' m' rest)) : wpM (M__law_bent_ends [.ref 1, .int st, .tup ends] (PSt G m rest)) Q E := by
  have hsl := sizeLine_eq
  have h10 : 10 ≤ sizeLine := by omega
  have h4s : 4 ≤ sizeLine := by omega
  have h1s : 1 ≤ sizeLine := by omega
  unfold M__law_bent_ends
  refine wpM_fn ?_
  unfold m__law_bent_ends
  simp only [wS_rai, wS_try, scope_bl, scope_int, scope_str, scope_non, wpM_ok, wpM_exc, trunc_same, and_self, if_true, if_false, Bool.false_eq_true, reduceIte, wS_setS, wS_seq, wS_if, wS_asg, wS_exS, wS_retS, wS_nxS, wS_nx, wS_ret, wpM_op2, wpM_op1, wpM_asT, wpM_trt, wpM_notT, wpM_andT, wpM_orT, wpM_andV, wpM_notE, wpM_ifE, wpM_lnil, wpM_lcons, wpM_tupE, wpM_lstF, wpM_frz, wpM_new, wpM_cal, wpM_calB, wpM_calF, wpM_isiE, wpM_vr, wpM_ct, wpM_meth, wpM_chn, wpM_cut, wpM_cutF, wpM_ono, wpM_osm, wpM_revT, wpM_lfE, wS_for, tgN, List.getElem?_cons_zero, List.getElem?_cons_succ, List.set_cons_zero, List.set_cons_succ, List.map_cons, List.map_nil, List.length_cons, List.length_nil, List.replicate_succ, List.replicate_zero, Nat.reduceAdd, Nat.reduceSub, List.cons_append, List.nil_append]
  refine pick_wp hG (by decide) (by decide) ?_
  intro v G1 m1 hG1 v0 v1
  simp only [wS_rai, wS_try, scope_bl, scope_int, scope_str, scope_non, wpM_ok, wpM_exc, trunc_same, and_self, if_true, if_false, Bool.false_eq_true, reduceIte, wS_setS, wS_seq, wS_if, wS_asg, wS_exS, wS_retS, wS_nxS, wS_nx, wS_ret, wpM_op2, wpM_op1, wpM_asT, wpM_trt, wpM_notT, wpM_andT, wpM_orT, wpM_andV, wpM_notE, wpM_ifE, wpM_lnil, wpM_lcons, wpM_tupE, wpM_lstF, wpM_frz, wpM_new, wpM_cal, wpM_calB, wpM_calF, wpM_isiE, wpM_vr, wpM_ct, wpM_meth, wpM_chn, wpM_cut, wpM_cutF, wpM_ono, wpM_osm, wpM_revT, wpM_lfE, wS_for, tgN, List.getElem?_cons_zero, List.getElem?_cons_succ, List.set_cons_zero, List.set_cons_succ, List.map_cons, List.map_nil, List.length_cons, List.length_nil, List.replicate_succ, List.replicate_zero, Nat.reduceAdd, Nat.reduceSub, List.cons_append, List.nil_append, eq_intS]
  rcases Bool.eq_false_or_eq_true (v == 0) with hv | hv
  · rw [hv]
    simp only [wS_rai, wS_try, scope_bl, scope_int, scope_str, scope_non, wpM_ok, wpM_exc, trunc_same, and_self, if_true, if_false, Bool.false_eq_true, reduceIte, wS_setS, wS_seq, wS_if, wS_asg, wS_exS, wS_retS, wS_nxS, wS_nx, wS_ret, wpM_op2, wpM_op1, wpM_asT, wpM_trt, wpM_notT, wpM_andT, wpM_orT, wpM_andV, wpM_notE, wpM_ifE, wpM_lnil, wpM_lcons, wpM_tupE, wpM_lstF, wpM_frz, wpM_new, wpM_cal, wpM_calB, wpM_calF, wpM_isiE, wpM_vr, wpM_ct, wpM_meth, wpM_chn, wpM_cut, wpM_cutF, wpM_ono, wpM_osm, wpM_revT, wpM_lfE, wS_for, tgN, List.getElem?_cons_zero, List.getElem?_cons_succ, List.set_cons_zero, List.set_cons_succ, List.map_cons, List.map_nil, List.length_cons, List.length_nil, List.replicate_succ, List.replicate_zero, Nat.reduceAdd, Nat.reduceSub, List.cons_append, List.nil_append, o_listA, seqOf, h4s]
    refine pick_wp hG1 (by decide) (by decide) ?_
    intro w G2 m2 hG2 w0 w1
    obtain ⟨d, hd, e⟩ := ix_lst (ds := [.lst ends, .non, .int 0, .str (Str.ofString "0")]) w0 w1
    rw [e]
    have hfd : fd d = true := by
      refine fdL_mem.mp ?_ d hd
      simp only [fdL, fd, Bool.and_true, Bool.true_and, Bool.and_eq_true, decide_eq_true_eq]
      exact ⟨hf, by decide⟩
    simp only [wS_rai, wS_try, scope_bl, scope_int, scope_str, scope_non, wpM_ok, wpM_exc, trunc_same, and_self, if_true, if_false, Bool.false_eq_true, reduceIte, wS_setS, wS_seq, wS_if, wS_asg, wS_exS, wS_retS, wS_nxS, wS_nx, wS_ret, wpM_op2, wpM_op1, wpM_asT, wpM_trt, wpM_notT, wpM_andT, wpM_orT, wpM_andV, wpM_notE, wpM_ifE, wpM_lnil, wpM_lcons, wpM_tupE, wpM_lstF, wpM_frz, wpM_new, wpM_cal, wpM_calB, wpM_calF, wpM_isiE, wpM_vr, wpM_ct, wpM_meth, wpM_chn, wpM_cut, wpM_cutF, wpM_ono, wpM_osm, wpM_revT, wpM_lfE, wS_for, tgN, List.getElem?_cons_zero, List.getElem?_cons_succ, List.set_cons_zero, List.set_cons_succ, List.map_cons, List.map_nil, List.length_cons, List.length_nil, List.replicate_succ, List.replicate_zero, Nat.reduceAdd, Nat.reduceSub, List.cons_append, List.nil_append]
    rw [scope_pure (fd_pure d hfd), wpM_ok, trunc_P0]
    refine k d G2 m2 hG2 hfd fun es he => ?_
    subst he
    simp at hd
  · rw [hv]
    simp only [wS_rai, wS_try, scope_bl, scope_int, scope_str, scope_non, wpM_ok, wpM_exc, trunc_same, and_self, if_true, if_false, Bool.false_eq_true, reduceIte, wS_setS, wS_seq, wS_if, wS_asg, wS_exS, wS_retS, wS_nxS, wS_nx, wS_ret, wpM_op2, wpM_op1, wpM_asT, wpM_trt, wpM_notT, wpM_andT, wpM_orT, wpM_andV, wpM_notE, wpM_ifE, wpM_lnil, wpM_lcons, wpM_tupE, wpM_lstF, wpM_frz, wpM_new, wpM_cal, wpM_calB, wpM_calF, wpM_isiE, wpM_vr, wpM_ct, wpM_meth, wpM_chn, wpM_cut, wpM_cutF, wpM_ono, wpM_osm, wpM_revT, wpM_lfE, wS_for, tgN, List.getElem?_cons_zero, List.getElem?_cons_succ, List.set_cons_zero, List.set_cons_succ, List.map_cons, List.map_nil, List.length_cons, List.length_nil, List.replicate_succ, List.replicate_zero, Nat.reduceAdd, Nat.reduceSub, List.cons_append, List.nil_append, o_neg, o_sub, o_pow, h10, h1s]
    rw [if_pos (by decide)]
    simp only [wS_rai, wS_try, scope_bl, scope_int, scope_str, scope_non, wpM_ok, wpM_exc, trunc_same, and_self, if_true, if_false, Bool.false_eq_true, reduceIte, wS_setS, wS_seq, wS_if, wS_asg, wS_exS, wS_retS, wS_nxS, wS_nx, wS_ret, wpM_op2, wpM_op1, wpM_asT, wpM_trt, wpM_notT, wpM_andT, wpM_orT, wpM_andV, wpM_notE, wpM_ifE, wpM_lnil, wpM_lcons, wpM_tupE, wpM_lstF, wpM_frz, wpM_new, wpM_cal, wpM_calB, wpM_calF, wpM_isiE, wpM_vr, wpM_ct, wpM_meth, wpM_chn, wpM_cut, wpM_cutF, wpM_ono, wpM_osm, wpM_revT, wpM_lfE, wS_for, tgN, List.getElem?_cons_zero, List.getElem?_cons_succ, List.set_cons_zero, List.set_cons_succ, List.map_cons, List.map_nil, List.length_cons, List.length_nil, List.replicate_succ, List.replicate_zero, Nat.reduceAdd, Nat.reduceSub, List.cons_append, List.nil_append, o_neg, o_sub, o_pow, h10, h1s]
    refine pick_wp hG1 (by decide) (by decide) ?_
    intro w G2 m2 hG2 w0 w1
    obtain ⟨odd, hod, e⟩ := ix_lst (ds := [.int st, .int (-1), .bl true, .non, .str (Str.ofString "0"), .int 0, .int (st - 1), .int (10 ^ (39 : Int).toNat), .tup [.int 0], .bl false]) w0 w1
    rw [e]
    have hfo : fd odd = true := by
      refine fdL_mem.mp ?_ odd hod
      simp only [fdL, fd, Bool.and_true, Bool.true_and, Bool.and_eq_true, decide_eq_true_eq]
      decide
    simp only [wS_rai, wS_try, scope_bl, scope_int, scope_str, scope_non, wpM_ok, wpM_exc, trunc_same, and_self, if_true, if_false, Bool.false_eq_true, reduceIte, wS_setS, wS_seq, wS_if, wS_asg, wS_exS, wS_retS, wS_nxS, wS_nx, wS_ret, wpM_op2, wpM_op1, wpM_asT, wpM_trt, wpM_notT, wpM_andT, wpM_orT, wpM_andV, wpM_notE, wpM_ifE, wpM_lnil, wpM_lcons, wpM_tupE, wpM_lstF, wpM_frz, wpM_new, wpM_cal, wpM_calB, wpM_calF, wpM_isiE, wpM_vr, wpM_ct, wpM_meth, wpM_chn, wpM_cut, wpM_cutF, wpM_ono, wpM_osm, wpM_revT, wpM_lfE, wS_for, tgN, List.getElem?_cons_zero, List.getElem?_cons_succ, List.set_cons_zero, List.set_cons_succ, List.map_cons, List.map_nil, List.length_cons, List.length_nil, List.replicate_succ, List.replicate_zero, Nat.reduceAdd, Nat.reduceSub, List.cons_append, List.nil_append, len_tup, o_add]
    refine pick_wp hG2 (by omega) (by omega) ?_
    intro p G3 m3 hG3 p0 p1
    have c1 := @cutL_len ends none (some p)
    have c2 := @cutL_len ends (some p) none
    have c3 := @cutL_len ends (some (p + 1)) none
    simp only [wS_rai, wS_try, scope_bl, scope_int, scope_str, scope_non, wpM_ok, wpM_exc, trunc_same, and_self, if_true, if_false, Bool.false_eq_true, reduceIte, wS_setS, wS_seq, wS_if, wS_asg, wS_exS, wS_retS, wS_nxS, wS_nx, wS_ret, wpM_op2, wpM_op1, wpM_asT, wpM_trt, wpM_notT, wpM_andT, wpM_orT, wpM_andV, wpM_notE, wpM_ifE, wpM_lnil, wpM_lcons, wpM_tupE, wpM_lstF, wpM_frz, wpM_new, wpM_cal, wpM_calB, wpM_calF, wpM_isiE, wpM_vr, wpM_ct, wpM_meth, wpM_chn, wpM_cut, wpM_cutF, wpM_ono, wpM_osm, wpM_revT, wpM_lfE, wS_for, tgN, List.getElem?_cons_zero, List.getElem?_cons_succ, List.set_cons_zero, List.set_cons_succ, List.map_cons, List.map_nil, List.length_cons, List.length_nil, List.replicate_succ, List.replicate_zero, Nat.reduceAdd, Nat.reduceSub, List.cons_append, List.nil_append, eq_intS]
    rcases Bool.eq_false_or_eq_true (v == 1) with hv1 | hv1
    · rw [hv1]
      simp only [wS_rai, wS_try, scope_bl, scope_int, scope_str, scope_non, wpM_ok, wpM_exc, trunc_same, and_self, if_true, if_false, Bool.false_eq_true, reduceIte, wS_setS, wS_seq, wS_if, wS_asg, wS_exS, wS_retS, wS_nxS, wS_nx, wS_ret, wpM_op2, wpM_op1, wpM_asT, wpM_trt, wpM_notT, wpM_andT, wpM_orT, wpM_andV, wpM_notE, wpM_ifE, wpM_lnil, wpM_lcons, wpM_tupE, wpM_lstF, wpM_frz, wpM_new, wpM_cal, wpM_calB, wpM_calF, wpM_isiE, wpM_vr, wpM_ct, wpM_meth, wpM_chn, wpM_cut, wpM_cutF, wpM_ono, wpM_osm, wpM_revT, wpM_lfE, wS_for, tgN, List.getElem?_cons_zero, List.getElem?_cons_succ, List.set_cons_zero, List.set_cons_succ, List.map_cons, List.map_nil, List.length_cons, List.length_nil, List.replicate_succ, List.replicate_zero, Nat.reduceAdd, Nat.reduceSub, List.cons_append, List.nil_append, cut_tup, h1s]
      rw [if_pos (by omega)]
      simp only
      rw [if_pos (by rw [List.length_append, List.length_singleton]; omega)]
      have hf2 : fd (.tup (cutL ends none (some p) ++ [odd] ++ cutL ends (some p) none)) = true := fdL_app (fdL_app (fdL_cut hf) (fdL_one hfo)) (fdL_cut hf)
      simp only [wS_rai, wS_try, scope_bl, scope_int, scope_str, scope_non, wpM_ok, wpM_exc, trunc_same, and_self, if_true, if_false, Bool.false_eq_true, reduceIte, wS_setS, wS_seq, wS_if, wS_asg, wS_exS, wS_retS, wS_nxS, wS_nx, wS_ret, wpM_op2, wpM_op1, wpM_asT, wpM_trt, wpM_notT, wpM_andT, wpM_orT, wpM_andV, wpM_notE, wpM_ifE, wpM_lnil, wpM_lcons, wpM_tupE, wpM_lstF, wpM_frz, wpM_new, wpM_cal, wpM_calB, wpM_calF, wpM_isiE, wpM_vr, wpM_ct, wpM_meth, wpM_chn, wpM_cut, wpM_cutF, wpM_ono, wpM_osm, wpM_revT, wpM_lfE, wS_for, tgN, List.getElem?_cons_zero, List.getElem?_cons_succ, List.set_cons_zero, List.set_cons_succ, List.map_cons, List.map_nil, List.length_cons, List.length_nil, List.replicate_succ, List.replicate_zero, Nat.reduceAdd, Nat.reduceSub, List.cons_append, List.nil_append]
      rw [scope_pure (fd_pure _ hf2), wpM_ok, trunc_P0]
      refine k _ G3 m3 hG3 hf2 fun es he => ?_
      cases he
      have hlen : (cutL ends none (some p)).length + (cutL ends (some p) none).length ≤ ends.length := by
        obtain ⟨i, hi⟩ := Int.eq_ofNat_of_zero_le p0
        unfold cutL
        rw [HT.sIx_none, HT.sIx_none, hi, HT.sIx_nat, HT.sIx_nat]
        simp only [List.length_take, List.length_drop]
        omega
      simp only [List.length_append, List.length_singleton]
      omega
    · rw [hv1]
      simp only [wS_rai, wS_try, scope_bl, scope_int, scope_str, scope_non, wpM_ok, wpM_exc, trunc_same, and_self, if_true, if_false, Bool.false_eq_true, reduceIte, wS_setS, wS_seq, wS_if, wS_asg, wS_exS, wS_retS, wS_nxS, wS_nx, wS_ret, wpM_op2, wpM_op1, wpM_asT, wpM_trt, wpM_notT, wpM_andT, wpM_orT, wpM_andV, wpM_notE, wpM_ifE, wpM_lnil, wpM_lcons, wpM_tupE, wpM_lstF, wpM_frz, wpM_new, wpM_cal, wpM_calB, wpM_calF, wpM_isiE, wpM_vr, wpM_ct, wpM_meth, wpM_chn, wpM_cut, wpM_cutF, wpM_ono, wpM_osm, wpM_revT, wpM_lfE, wS_for, tgN, List.getElem?_cons_zero, List.getElem?_cons_succ, List.set_cons_zero, List.set_cons_succ, List.map_cons, List.map_nil, List.length_cons, List.length_nil, List.replicate_succ, List.replicate_zero, Nat.reduceAdd, Nat.reduceSub, List.cons_append, List.nil_append, eq_intS]
      rcases Bool.eq_false_or_eq_true (v == 2) with hv2 | hv2
      · rw [hv2]
        simp only [wS_rai, wS_try, scope_bl, scope_int, scope_str, scope_non, wpM_ok, wpM_exc, trunc_same, and_self, if_true, if_false, Bool.false_eq_true, reduceIte, wS_setS, wS_seq, wS_if, wS_asg, wS_exS, wS_retS, wS_nxS, wS_nx, wS_ret, wpM_op2, wpM_op1, wpM_asT, wpM_trt, wpM_notT, wpM_andT, wpM_orT, wpM_andV, wpM_notE, wpM_ifE, wpM_lnil, wpM_lcons, wpM_tupE, wpM_lstF, wpM_frz, wpM_new, wpM_cal, wpM_calB, wpM_calF, wpM_isiE, wpM_vr, wpM_ct, wpM_meth, wpM_chn, wpM_cut, wpM_cutF, wpM_ono, wpM_osm, wpM_revT, wpM_lfE, wS_for, tgN, List.getElem?_cons_zero, List.getElem?_cons_succ, List.set_cons_zero, List.set_cons_succ, List.map_cons, List.map_nil, List.length_cons, List.length_nil, List.replicate_succ, List.replicate_zero, Nat.reduceAdd, Nat.reduceSub, List.cons_append, List.nil_append, cut_tup, h1s, o_add]
        rw [if_pos (by omega)]
        simp only
        rw [if_pos (by rw [List.length_append, List.length_singleton]; omega)]
        have hf2 : fd (.tup (cutL ends none (some p) ++ [odd] ++ cutL ends (some (p + 1)) none)) = true := fdL_app (fdL_app (fdL_cut hf) (fdL_one hfo)) (fdL_cut hf)
        simp only [wS_rai, wS_try, scope_bl, scope_int, scope_str, scope_non, wpM_ok, wpM_exc, trunc_same, and_self, if_true, if_false, Bool.false_eq_true, reduceIte, wS_setS, wS_seq, wS_if, wS_asg, wS_exS, wS_retS, wS_nxS, wS_nx, wS_ret, wpM_op2, wpM_op1, wpM_asT, wpM_trt, wpM_notT, wpM_andT, wpM_orT, wpM_andV, wpM_notE, wpM_ifE, wpM_lnil, wpM_lcons, wpM_tupE, wpM_lstF, wpM_frz, wpM_new, wpM_cal, wpM_calB, wpM_calF, wpM_isiE, wpM_vr, wpM_ct, wpM_meth, wpM_chn, wpM_cut, wpM_cutF, wpM_ono, wpM_osm, wpM_revT, wpM_lfE, wS_for, tgN, List.getElem?_cons_zero, List.getElem?_cons_succ, List.set_cons_zero, List.set_cons_succ, List.map_cons, List.map_nil, List.length_cons, List.length_nil, List.replicate_succ, List.replicate_zero, Nat.reduceAdd, Nat.reduceSub, List.cons_append, List.nil_append]
        rw [scope_pure (fd_pure _ hf2), wpM_ok, trunc_P0]
        refine k _ G3 m3 hG3 hf2 fun es he => ?_
        cases he
        have hlen : (cutL ends none (some p)).length + (cutL ends (some (p + 1)) none).length ≤ ends.length := by
          obtain ⟨i, hi⟩ := Int.eq_ofNat_of_zero_le p0
          unfold cutL
          rw [HT.sIx_none, HT.sIx_none, hi, show ((i : Int) + 1) = ((i + 1 : Nat) : Int) by omega, HT.sIx_nat, HT.sIx_nat]
          simp only [List.length_take, List.length_drop]
          omega
        simp only [List.length_append, List.length_singleton]
        omega
      · rw [hv2]
        simp only [wS_rai, wS_try, scope_bl, scope_int, scope_str, scope_non, wpM_ok, wpM_exc, trunc_same, and_self, if_true, if_false, Bool.false_eq_true, reduceIte, wS_setS, wS_seq, wS_if, wS_asg, wS_exS, wS_retS, wS_nxS, wS_nx, wS_ret, wpM_op2, wpM_op1, wpM_asT, wpM_trt, wpM_notT, wpM_andT, wpM_orT, wpM_andV, wpM_notE, wpM_ifE, wpM_lnil, wpM_lcons, wpM_tupE, wpM_lstF, wpM_frz, wpM_new, wpM_cal, wpM_calB, wpM_calF, wpM_isiE, wpM_vr, wpM_ct, wpM_meth, wpM_chn, wpM_cut, wpM_cutF, wpM_ono, wpM_osm, wpM_revT, wpM_lfE, wS_for, tgN, List.getElem?_cons_zero, List.getElem?_cons_succ, List.set_cons_zero, List.set_cons_succ, List.map_cons, List.map_nil, List.length_cons, List.length_nil, List.replicate_succ, List.replicate_zero, Nat.reduceAdd, Nat.reduceSub, List.cons_append, List.nil_append]
        have hf2 : fd (.tup ends.reverse) = true := fdL_mem.mpr fun d hd => fdL_mem.mp hf d (List.mem_reverse.mp hd)
        rw [scope_pure (fd_pure _ hf2), wpM_ok, trunc_P0]
        refine k _ G3 m3 hG3 hf2 fun es he => ?_
        cases he
        rw [List.length_reverse]; omega
theorem nodup_len : ∀ {l r : List Nat}, l.Nodup → (∀ x ∈ l, x ∈ r) → l.length ≤ r.length
  | [], _, _, _ => Nat.zero_le _
  | x :: l, r, hn, h => by
    rw [List.nodup_cons] at hn
    have hx := h x List.mem_cons_self
    have ih := nodup_len (l := l) (r := r.erase x) hn.2 fun y hy => by
      have ne : y ≠ x := fun e => hn.1 (e ▸ hy)
      exact (List.mem_erase_of_ne ne).mpr (h y (List.mem_cons_of_mem _ hy))
    rw [List.length_erase_of_mem hx] at ih
    have : 0 < r.length := List.length_pos_of_mem hx
    rw [List.length_cons]; omega
end
end Z

set_option Elab.async false
set_option linter.all false
set_option maxRecDepth 100000
set_option maxHeartbeats 4000000
set_option autoImplicit false
namespace Z
open PySem PySem.Spec L2 Y PySem.W
section
variable {S : Sto} {rest : Sto} {G : List Int} {m : Int} {L : Str} {Q : D → Sto → Prop} {E : Str → List (Str × D) → Sto → Prop}
theorem comp_filter {it : IM} {tg : TgM} {ts : TM} {el : EM} {vs : List Nat} {env : En} {all : List D} {p : D → Bool} (hit : it env S = .ok (all, []) S) (hn : all.length ≤ 1000) (hp : pureL all = true)
    (h : ∀ d ∈ all, ∀ X, ∃ env1, tg d (wipeE env vs) = some env1 ∧ wpM (ts env1 (S ++ X)) (fun t S1 => t = p d ∧ S1 = S ++ X) (fun _ _ _ => False) ∧ wpM (el env1 (S ++ X)) (fun x S2 => x = d ∧ S2 = S ++ X) (fun _ _ _ => False)) (k : Q (.lst (all.filter p)) S) :
    wpM (compF it tg ts el vs env S) Q E := by
  have hsl := sizeLine_eq
  rw [wpM_compF, hit, wpM_ok]
  refine wpM_clp (fun i S' => S' = S ++ [some (.lst ((all.take i).filter p))]) all 0 _ rfl ?_ ?_
  · rintro j d S' hj rfl
    rw [Nat.zero_add]
    obtain ⟨hjn, hjd⟩ := List.getElem?_eq_some_iff.mp hj
    obtain ⟨env1, e1, e2, e3⟩ := h d (List.mem_of_getElem? hj) [some (.lst ((all.take j).filter p))]
    have et : all.take (j + 1) = all.take j ++ [d] := by rw [List.take_succ, hj]; rfl
    refine ⟨okB_nil, env1, e1, ?_⟩
    refine wpM_mono' e2 ?_
    rintro t S1 ⟨rfl, rfl⟩
    rcases Bool.eq_false_or_eq_true (p d) with hpd | hpd
    · rw [hpd, if_pos rfl]
      refine wpM_mono' e3 ?_
      rintro x S2 ⟨rfl, rfl⟩
      refine ⟨(all.take j).filter p, by simp, ?_, ?_⟩
      · have := List.length_filter_le p (all.take j)
        rw [List.length_take] at this
        omega
      · rw [List.set_append_right _ _ (Nat.le_refl _), Nat.sub_self, List.set_cons_zero, et, List.filter_append, List.filter_cons_of_pos hpd]; rfl
    · rw [hpd, if_neg Bool.false_ne_true, et, List.filter_append, List.filter_cons_of_neg (by rw [hpd]; exact Bool.false_ne_true)]
      simp
  · rintro S' rfl
    refine ⟨okB_nil, ?_⟩
    rw [Nat.zero_add, List.take_length, List.getElem?_append_right (Nat.le_refl _), Nat.sub_self]
    simp only [List.getElem?_cons_zero]
    rw [if_pos (belL_of_pure _ (pureL_mem fun d hd => mem_pure hp d (List.mem_filter.mp hd).1)), List.set_append_right _ _ (Nat.le_refl _), Nat.sub_self, List.set_cons_zero, trunc_self]
    exact k
def notIn (L : Str) : D → Bool
  | .str z => !inStr z L
  | _ => false
theorem left_pos {az : Str} (hL : LOk L) (hz : az.cps.size = 26) (hn : az.cps.toList.Nodup) : 0 < ((sgns az).filter (notIn L)).length := by
  by_cases h : ∃ c ∈ az.cps.toList, c ∉ L.cps.toList
  · obtain ⟨c, h1, h2⟩ := h
    refine List.length_pos_of_mem (a := .str ⟨#[c]⟩) (List.mem_filter.mpr ⟨List.mem_map.mpr ⟨c, h1, rfl⟩, ?_⟩)
    show (!inStr ⟨#[c]⟩ L) = true
    rw [inStr_one, decide_eq_false h2]; rfl
  · have h' : ∀ c ∈ az.cps.toList, c ∈ L.cps.toList := fun c hc => Classical.byContradiction fun q => h ⟨c, hc, q⟩
    have := nodup_len hn h'
    rw [Array.length_toList, Array.length_toList, hz] at this
    have := hL.2.1
    omega
theorem fd_one (c : Nat) : fd (.str ⟨#[c]⟩) = true := decide_eq_true (show (1 : Nat) ≤ 1000 by omega)
theorem ixt0 {p : T3} : o_ix S (trip p) (.int 0) = some (.int p.1) := ixT0
theorem ixt1 {p : T3} : o_ix S (trip p) (.int 1) = some (.str ⟨#[p.2.1]⟩) := ixT1
theorem ixt2 {p : T3} : o_ix S (trip p) (.int 2) = some (.int p.2.2) := ixT2
theorem bstep_wp {st : Int} {p : T3} (hG : GoodP G m) (hL : LOk L) (h0 : 1 ≤ st) (h1 : st ≤ 1000) (k : ∀ d G' m', GoodP G' m' → fd d = true → Q d (PSt G' m' rest)) : wpM (M__law_bent_step [.ref 1, .str L, .int st, trip p] (PSt G m rest)) Q E := by
  have hsl := sizeLine_eq
  have q9 : 9 ≤ sizeLine := by omega
  have q12 : 12 ≤ sizeLine := by omega
  have q3 : 3 ≤ sizeLine := by omega
  have q1 : 1 ≤ sizeLine := by omega
  have q0 : 0 ≤ sizeLine := by omega
  unfold M__law_bent_step
  refine wpM_fn ?_
  unfold m__law_bent_step
  have hft := fd_trip p
  simp only [wS_rai, wS_try, scope_bl, scope_int, scope_str, scope_non, wpM_ok, wpM_exc, trunc_same, and_self, if_true, if_false, Bool.false_eq_true, reduceIte, wS_setS, wS_seq, wS_if, wS_asg, wS_exS, wS_retS, wS_nxS, wS_nx, wS_ret, wpM_op2, wpM_op1, wpM_asT, wpM_trt, wpM_notT, wpM_andT, wpM_orT, wpM_andV, wpM_notE, wpM_ifE, wpM_lnil, wpM_lcons, wpM_tupE, wpM_lstF, wpM_frz, wpM_new, wpM_cal, wpM_calB, wpM_calF, wpM_isiE, wpM_vr, wpM_ct, wpM_meth, wpM_chn, wpM_cut, wpM_cutF, wpM_ono, wpM_osm, wpM_revT, wpM_lfE, wS_for, tgN, List.getElem?_cons_zero, List.getElem?_cons_succ, List.set_cons_zero, List.set_cons_succ, List.map_cons, List.map_nil, List.length_cons, List.length_nil, List.replicate_succ, List.replicate_zero, Nat.reduceAdd, Nat.reduceSub, List.cons_append, List.nil_append]
  refine pick_wp hG (by decide) (by decide) ?_
  intro v G1 m1 hG1 v0 v1
  simp only [wS_rai, wS_try, scope_bl, scope_int, scope_str, scope_non, wpM_ok, wpM_exc, trunc_same, and_self, if_true, if_false, Bool.false_eq_true, reduceIte, wS_setS, wS_seq, wS_if, wS_asg, wS_exS, wS_retS, wS_nxS, wS_nx, wS_ret, wpM_op2, wpM_op1, wpM_asT, wpM_trt, wpM_notT, wpM_andT, wpM_orT, wpM_andV, wpM_notE, wpM_ifE, wpM_lnil, wpM_lcons, wpM_tupE, wpM_lstF, wpM_frz, wpM_new, wpM_cal, wpM_calB, wpM_calF, wpM_isiE, wpM_vr, wpM_ct, wpM_meth, wpM_chn, wpM_cut, wpM_cutF, wpM_ono, wpM_osm, wpM_revT, wpM_lfE, wS_for, tgN, List.getElem?_cons_zero, List.getElem?_cons_succ, List.set_cons_zero, List.set_cons_succ, List.map_cons, List.map_nil, List.length_cons, List.length_nil, List.replicate_succ, List.replicate_zero, Nat.reduceAdd, Nat.reduceSub, List.cons_append, List.nil_append, eq_intS]
  rcases Bool.eq_false_or_eq_true (v == 0) with hv | hv
  · rw [hv]
    have e1 : ∀ S, o_listA S [trip p] = some [.int p.1, .str ⟨#[p.2.1]⟩, .int p.2.2] := fun S => rfl
    have e2 : ∀ S, o_cut S (trip p) none (some 2) = some (.tup (cutL [.int p.1, .str ⟨#[p.2.1]⟩, .int p.2.2] none (some 2))) := fun S => rfl
    have e3 : ∀ S, o_add S (trip p) (.tup [.int 0]) = some (.tup [.int p.1, .str ⟨#[p.2.1]⟩, .int p.2.2, .int 0]) := fun S => by
      show o_add S (.tup _) (.tup _) = _
      rw [add_tup (by show 4 ≤ sizeLine; omega)]; rfl
    simp only [wS_rai, wS_try, scope_bl, scope_int, scope_str, scope_non, wpM_ok, wpM_exc, trunc_same, and_self, if_true, if_false, Bool.false_eq_true, reduceIte, wS_setS, wS_seq, wS_if, wS_asg, wS_exS, wS_retS, wS_nxS, wS_nx, wS_ret, wpM_op2, wpM_op1, wpM_asT, wpM_trt, wpM_notT, wpM_andT, wpM_orT, wpM_andV, wpM_notE, wpM_ifE, wpM_lnil, wpM_lcons, wpM_tupE, wpM_lstF, wpM_frz, wpM_new, wpM_cal, wpM_calB, wpM_calF, wpM_isiE, wpM_vr, wpM_ct, wpM_meth, wpM_chn, wpM_cut, wpM_cutF, wpM_ono, wpM_osm, wpM_revT, wpM_lfE, wS_for, tgN, List.getElem?_cons_zero, List.getElem?_cons_succ, List.set_cons_zero, List.set_cons_succ, List.map_cons, List.map_nil, List.length_cons, List.length_nil, List.replicate_succ, List.replicate_zero, Nat.reduceAdd, Nat.reduceSub, List.cons_append, List.nil_append, e1, e2, e3, ixt0, ixt1, ixt2, q9, q3, q1, q0, len_lst]
    refine pick_wp hG1 (by decide) (by decide) ?_
    intro w G2 m2 hG2 w0 w1
    obtain ⟨d, hd, e⟩ := ix_lst (ds := [.lst [.int p.1, .str ⟨#[p.2.1]⟩, .int p.2.2], .tup (cutL [.int p.1, .str ⟨#[p.2.1]⟩, .int p.2.2] none (some 2)), .tup [.int p.1, .str ⟨#[p.2.1]⟩, .int p.2.2, .int 0], .non, .int 5, .str (Str.ofString "0a0"), .tup [.str ⟨#[p.2.1]⟩, .int p.1, .int p.2.2], .tup [.int p.1, .int p.2.2, .str ⟨#[p.2.1]⟩], .tup []]) w0 w1
    rw [e]
    have hc : fdL (cutL [.int p.1, .str ⟨#[p.2.1]⟩, .int p.2.2] none (some 2)) = true := fdL_cut hft
    have h1c : decide ((⟨#[p.2.1]⟩ : Str).length ≤ 1000) = true := decide_eq_true (show (1 : Nat) ≤ 1000 by omega)
    have hfd : fd d = true := by
      refine fdL_mem.mp ?_ d hd
      simp only [fdL, fd, hc, h1c, Bool.and_true, Bool.true_and]
      decide
    simp only [wS_rai, wS_try, scope_bl, scope_int, scope_str, scope_non, wpM_ok, wpM_exc, trunc_same, and_self, if_true, if_false, Bool.false_eq_true, reduceIte, wS_setS, wS_seq, wS_if, wS_asg, wS_exS, wS_retS, wS_nxS, wS_nx, wS_ret, wpM_op2, wpM_op1, wpM_asT, wpM_trt, wpM_notT, wpM_andT, wpM_orT, wpM_andV, wpM_notE, wpM_ifE, wpM_lnil, wpM_lcons, wpM_tupE, wpM_lstF, wpM_frz, wpM_new, wpM_cal, wpM_calB, wpM_calF, wpM_isiE, wpM_vr, wpM_ct, wpM_meth, wpM_chn, wpM_cut, wpM_cutF, wpM_ono, wpM_osm, wpM_revT, wpM_lfE, wS_for, tgN, List.getElem?_cons_zero, List.getElem?_cons_succ, List.set_cons_zero, List.set_cons_succ, List.map_cons, List.map_nil, List.length_cons, List.length_nil, List.replicate_succ, List.replicate_zero, Nat.reduceAdd, Nat.reduceSub, List.cons_append, List.nil_append]
    rw [scope_pure (fd_pure d hfd), wpM_ok, trunc_P0]
    exact k d G2 m2 hG2 hfd
  · rw [hv]
    simp only [wS_rai, wS_try, scope_bl, scope_int, scope_str, scope_non, wpM_ok, wpM_exc, trunc_same, and_self, if_true, if_false, Bool.false_eq_true, reduceIte, wS_setS, wS_seq, wS_if, wS_asg, wS_exS, wS_retS, wS_nxS, wS_nx, wS_ret, wpM_op2, wpM_op1, wpM_asT, wpM_trt, wpM_notT, wpM_andT, wpM_orT, wpM_andV, wpM_notE, wpM_ifE, wpM_lnil, wpM_lcons, wpM_tupE, wpM_lstF, wpM_frz, wpM_new, wpM_cal, wpM_calB, wpM_calF, wpM_isiE, wpM_vr, wpM_ct, wpM_meth, wpM_chn, wpM_cut, wpM_cutF, wpM_ono, wpM_osm, wpM_revT, wpM_lfE, wS_for, tgN, List.getElem?_cons_zero, List.getElem?_cons_succ, List.set_cons_zero, List.set_cons_succ, List.map_cons, List.map_nil, List.length_cons, List.length_nil, List.replicate_succ, List.replicate_zero, Nat.reduceAdd, Nat.reduceSub, List.cons_append, List.nil_append, eq_intS]
    rcases Bool.eq_false_or_eq_true (v == 1) with hv1 | hv1
    · rw [hv1]
      simp only [wS_rai, wS_try, scope_bl, scope_int, scope_str, scope_non, wpM_ok, wpM_exc, trunc_same, and_self, if_true, if_false, Bool.false_eq_true, reduceIte, wS_setS, wS_seq, wS_if, wS_asg, wS_exS, wS_retS, wS_nxS, wS_nx, wS_ret, wpM_op2, wpM_op1, wpM_asT, wpM_trt, wpM_notT, wpM_andT, wpM_orT, wpM_andV, wpM_notE, wpM_ifE, wpM_lnil, wpM_lcons, wpM_tupE, wpM_lstF, wpM_frz, wpM_new, wpM_cal, wpM_calB, wpM_calF, wpM_isiE, wpM_vr, wpM_ct, wpM_meth, wpM_chn, wpM_cut, wpM_cutF, wpM_ono, wpM_osm, wpM_revT, wpM_lfE, wS_for, tgN, List.getElem?_cons_zero, List.getElem?_cons_succ, List.set_cons_zero, List.set_cons_succ, List.map_cons, List.map_nil, List.length_cons, List.length_nil, List.replicate_succ, List.replicate_zero, Nat.reduceAdd, Nat.reduceSub, List.cons_append, List.nil_append, o_neg, o_pow, o_sub, q9, q1]
      rw [if_pos (by decide)]
      simp only [wS_rai, wS_try, scope_bl, scope_int, scope_str, scope_non, wpM_ok, wpM_exc, trunc_same, and_self, if_true, if_false, Bool.false_eq_true, reduceIte, wS_setS, wS_seq, wS_if, wS_asg, wS_exS, wS_retS, wS_nxS, wS_nx, wS_ret, wpM_op2, wpM_op1, wpM_asT, wpM_trt, wpM_notT, wpM_andT, wpM_orT, wpM_andV, wpM_notE, wpM_ifE, wpM_lnil, wpM_lcons, wpM_tupE, wpM_lstF, wpM_frz, wpM_new, wpM_cal, wpM_calB, wpM_calF, wpM_isiE, wpM_vr, wpM_ct, wpM_meth, wpM_chn, wpM_cut, wpM_cutF, wpM_ono, wpM_osm, wpM_revT, wpM_lfE, wS_for, tgN, List.getElem?_cons_zero, List.getElem?_cons_succ, List.set_cons_zero, List.set_cons_succ, List.map_cons, List.map_nil, List.length_cons, List.length_nil, List.replicate_succ, List.replicate_zero, Nat.reduceAdd, Nat.reduceSub, List.cons_append, List.nil_append, o_neg, o_pow, o_sub, q9, q1]
      refine pick_wp hG1 (by decide) (by decide) ?_
      intro w G2 m2 hG2 w0 w1
      obtain ⟨odd, hod, e⟩ := ix_lst (ds := [.int st, .int (-1), .bl true, .non, .str (Str.ofString "0"), .int (10 ^ (39 : Int).toNat), .tup [.int 0], .bl false, .int (st - 1)]) w0 w1
      rw [e]
      have hfo : fd odd = true := by
        refine fdL_mem.mp ?_ odd hod
        simp only [fdL, fd, Bool.and_true, Bool.true_and]
        decide
      simp only [wS_rai, wS_try, scope_bl, scope_int, scope_str, scope_non, wpM_ok, wpM_exc, trunc_same, and_self, if_true, if_false, Bool.false_eq_true, reduceIte, wS_setS, wS_seq, wS_if, wS_asg, wS_exS, wS_retS, wS_nxS, wS_nx, wS_ret, wpM_op2, wpM_op1, wpM_asT, wpM_trt, wpM_notT, wpM_andT, wpM_orT, wpM_andV, wpM_notE, wpM_ifE, wpM_lnil, wpM_lcons, wpM_tupE, wpM_lstF, wpM_frz, wpM_new, wpM_cal, wpM_calB, wpM_calF, wpM_isiE, wpM_vr, wpM_ct, wpM_meth, wpM_chn, wpM_cut, wpM_cutF, wpM_ono, wpM_osm, wpM_revT, wpM_lfE, wS_for, tgN, List.getElem?_cons_zero, List.getElem?_cons_succ, List.set_cons_zero, List.set_cons_succ, List.map_cons, List.map_nil, List.length_cons, List.length_nil, List.replicate_succ, List.replicate_zero, Nat.reduceAdd, Nat.reduceSub, List.cons_append, List.nil_append]
      refine pick_wp hG2 (by decide) (by decide) ?_
      intro x G3 m3 hG3 x0 x1
      simp only [wS_rai, wS_try, scope_bl, scope_int, scope_str, scope_non, wpM_ok, wpM_exc, trunc_same, and_self, if_true, if_false, Bool.false_eq_true, reduceIte, wS_setS, wS_seq, wS_if, wS_asg, wS_exS, wS_retS, wS_nxS, wS_nx, wS_ret, wpM_op2, wpM_op1, wpM_asT, wpM_trt, wpM_notT, wpM_andT, wpM_orT, wpM_andV, wpM_notE, wpM_ifE, wpM_lnil, wpM_lcons, wpM_tupE, wpM_lstF, wpM_frz, wpM_new, wpM_cal, wpM_calB, wpM_calF, wpM_isiE, wpM_vr, wpM_ct, wpM_meth, wpM_chn, wpM_cut, wpM_cutF, wpM_ono, wpM_osm, wpM_revT, wpM_lfE, wS_for, tgN, List.getElem?_cons_zero, List.getElem?_cons_succ, List.set_cons_zero, List.set_cons_succ, List.map_cons, List.map_nil, List.length_cons, List.length_nil, List.replicate_succ, List.replicate_zero, Nat.reduceAdd, Nat.reduceSub, List.cons_append, List.nil_append, tru, ixt0, ixt1, ixt2, q3]
      have hs := fd_one p.2.1
      have f1 : fd (.tup [odd, .str ⟨#[p.2.1]⟩, .int p.2.2]) = true := by
        show (fd odd && (fd (.str ⟨#[p.2.1]⟩) && (true && true))) = true
        rw [hfo, hs]; rfl
      have f2 : fd (.tup [.int p.1, .str ⟨#[p.2.1]⟩, odd]) = true := by
        show (true && (fd (.str ⟨#[p.2.1]⟩) && (fd odd && true))) = true
        rw [hfo, hs]; rfl
      rcases Bool.eq_false_or_eq_true (x != 0) with hx | hx
      · rw [hx]
        simp only [wS_rai, wS_try, scope_bl, scope_int, scope_str, scope_non, wpM_ok, wpM_exc, trunc_same, and_self, if_true, if_false, Bool.false_eq_true, reduceIte, wS_setS, wS_seq, wS_if, wS_asg, wS_exS, wS_retS, wS_nxS, wS_nx, wS_ret, wpM_op2, wpM_op1, wpM_asT, wpM_trt, wpM_notT, wpM_andT, wpM_orT, wpM_andV, wpM_notE, wpM_ifE, wpM_lnil, wpM_lcons, wpM_tupE, wpM_lstF, wpM_frz, wpM_new, wpM_cal, wpM_calB, wpM_calF, wpM_isiE, wpM_vr, wpM_ct, wpM_meth, wpM_chn, wpM_cut, wpM_cutF, wpM_ono, wpM_osm, wpM_revT, wpM_lfE, wS_for, tgN, List.getElem?_cons_zero, List.getElem?_cons_succ, List.set_cons_zero, List.set_cons_succ, List.map_cons, List.map_nil, List.length_cons, List.length_nil, List.replicate_succ, List.replicate_zero, Nat.reduceAdd, Nat.reduceSub, List.cons_append, List.nil_append]
        rw [scope_pure (fd_pure _ f1), wpM_ok, trunc_P0]
        exact k _ G3 m3 hG3 f1
      · rw [hx]
        simp only [wS_rai, wS_try, scope_bl, scope_int, scope_str, scope_non, wpM_ok, wpM_exc, trunc_same, and_self, if_true, if_false, Bool.false_eq_true, reduceIte, wS_setS, wS_seq, wS_if, wS_asg, wS_exS, wS_retS, wS_nxS, wS_nx, wS_ret, wpM_op2, wpM_op1, wpM_asT, wpM_trt, wpM_notT, wpM_andT, wpM_orT, wpM_andV, wpM_notE, wpM_ifE, wpM_lnil, wpM_lcons, wpM_tupE, wpM_lstF, wpM_frz, wpM_new, wpM_cal, wpM_calB, wpM_calF, wpM_isiE, wpM_vr, wpM_ct, wpM_meth, wpM_chn, wpM_cut, wpM_cutF, wpM_ono, wpM_osm, wpM_revT, wpM_lfE, wS_for, tgN, List.getElem?_cons_zero, List.getElem?_cons_succ, List.set_cons_zero, List.set_cons_succ, List.map_cons, List.map_nil, List.length_cons, List.length_nil, List.replicate_succ, List.replicate_zero, Nat.reduceAdd, Nat.reduceSub, List.cons_append, List.nil_append]
        rw [scope_pure (fd_pure _ f2), wpM_ok, trunc_P0]
        exact k _ G3 m3 hG3 f2
    · rw [hv1]
      simp only [wS_rai, wS_try, scope_bl, scope_int, scope_str, scope_non, wpM_ok, wpM_exc, trunc_same, and_self, if_true, if_false, Bool.false_eq_true, reduceIte, wS_setS, wS_seq, wS_if, wS_asg, wS_exS, wS_retS, wS_nxS, wS_nx, wS_ret, wpM_op2, wpM_op1, wpM_asT, wpM_trt, wpM_notT, wpM_andT, wpM_orT, wpM_andV, wpM_notE, wpM_ifE, wpM_lnil, wpM_lcons, wpM_tupE, wpM_lstF, wpM_frz, wpM_new, wpM_cal, wpM_calB, wpM_calF, wpM_isiE, wpM_vr, wpM_ct, wpM_meth, wpM_chn, wpM_cut, wpM_cutF, wpM_ono, wpM_osm, wpM_revT, wpM_lfE, wS_for, tgN, List.getElem?_cons_zero, List.getElem?_cons_succ, List.set_cons_zero, List.set_cons_succ, List.map_cons, List.map_nil, List.length_cons, List.length_nil, List.replicate_succ, List.replicate_zero, Nat.reduceAdd, Nat.reduceSub, List.cons_append, List.nil_append, eq_intS]
      rcases Bool.eq_false_or_eq_true (v == 2) with hv2 | hv2
      · rw [hv2]
        have hz : (Str.ofString "abcdefghijklmnopqrstuvwxyz").cps.size = 26 := by decide +kernel
        have hn : (Str.ofString "abcdefghijklmnopqrstuvwxyz").cps.toList.Nodup := by decide +kernel
        generalize Str.ofString "abcdefghijklmnopqrstuvwxyz" = az at hz hn ⊢
        simp only [wS_rai, wS_try, scope_bl, scope_int, scope_str, scope_non, wpM_ok, wpM_exc, trunc_same, and_self, if_true, if_false, Bool.false_eq_true, reduceIte, wS_setS, wS_seq, wS_if, wS_asg, wS_exS, wS_retS, wS_nxS, wS_nx, wS_ret, wpM_op2, wpM_op1, wpM_asT, wpM_trt, wpM_notT, wpM_andT, wpM_orT, wpM_andV, wpM_notE, wpM_ifE, wpM_lnil, wpM_lcons, wpM_tupE, wpM_lstF, wpM_frz, wpM_new, wpM_cal, wpM_calB, wpM_calF, wpM_isiE, wpM_vr, wpM_ct, wpM_meth, wpM_chn, wpM_cut, wpM_cutF, wpM_ono, wpM_osm, wpM_revT, wpM_lfE, wS_for, tgN, List.getElem?_cons_zero, List.getElem?_cons_succ, List.set_cons_zero, List.set_cons_succ, List.map_cons, List.map_nil, List.length_cons, List.length_nil, List.replicate_succ, List.replicate_zero, Nat.reduceAdd, Nat.reduceSub, List.cons_append, List.nil_append]
        have hs26 : (sgns az).length = 26 := by rw [sgns_len, hz]
        have hlp := left_pos hL hz hn
        refine comp_filter (all := sgns az) (p := notIn L) (by simp [i_of, ct, bd, lf, srcOf]) (by omega) sgns_pure (fun d hd X => ?_) ?_
        · obtain ⟨c, _, rfl⟩ := sgns_mem hd
          refine ⟨_, rfl, ?_, ?_⟩
          · simp only [wS_rai, wS_try, scope_bl, scope_int, scope_str, scope_non, wpM_ok, wpM_exc, trunc_same, and_self, if_true, if_false, Bool.false_eq_true, reduceIte, wS_setS, wS_seq, wS_if, wS_asg, wS_exS, wS_retS, wS_nxS, wS_nx, wS_ret, wpM_op2, wpM_op1, wpM_asT, wpM_trt, wpM_notT, wpM_andT, wpM_orT, wpM_andV, wpM_notE, wpM_ifE, wpM_lnil, wpM_lcons, wpM_tupE, wpM_lstF, wpM_frz, wpM_new, wpM_cal, wpM_calB, wpM_calF, wpM_isiE, wpM_vr, wpM_ct, wpM_meth, wpM_chn, wpM_cut, wpM_cutF, wpM_ono, wpM_osm, wpM_revT, wpM_lfE, wS_for, tgN, List.getElem?_cons_zero, List.getElem?_cons_succ, List.set_cons_zero, List.set_cons_succ, List.map_cons, List.map_nil, List.length_cons, List.length_nil, List.replicate_succ, List.replicate_zero, Nat.reduceAdd, Nat.reduceSub, List.cons_append, List.nil_append, wipeE, o_inS]
            refine ⟨?_, ?_⟩ <;> first | rfl | trivial
          · first | (simp only [wS_rai, wS_try, scope_bl, scope_int, scope_str, scope_non, wpM_ok, wpM_exc, trunc_same, and_self, if_true, if_false, Bool.false_eq_true, reduceIte, wS_setS, wS_seq, wS_if, wS_asg, wS_exS, wS_retS, wS_nxS, wS_nx, wS_ret, wpM_op2, wpM_op1, wpM_asT, wpM_trt, wpM_notT, wpM_andT, wpM_orT, wpM_andV, wpM_notE, wpM_ifE, wpM_lnil, wpM_lcons, wpM_tupE, wpM_lstF, wpM_frz, wpM_new, wpM_cal, wpM_calB, wpM_calF, wpM_isiE, wpM_vr, wpM_ct, wpM_meth, wpM_chn, wpM_cut, wpM_cutF, wpM_ono, wpM_osm, wpM_revT, wpM_lfE, wS_for, tgN, List.getElem?_cons_zero, List.getElem?_cons_succ, List.set_cons_zero, List.set_cons_succ, List.map_cons, List.map_nil, List.length_cons, List.length_nil, List.replicate_succ, List.replicate_zero, Nat.reduceAdd, Nat.reduceSub, List.cons_append, List.nil_append, wipeE]; done) | (simp only [wS_rai, wS_try, scope_bl, scope_int, scope_str, scope_non, wpM_ok, wpM_exc, trunc_same, and_self, if_true, if_false, Bool.false_eq_true, reduceIte, wS_setS, wS_seq, wS_if, wS_asg, wS_exS, wS_retS, wS_nxS, wS_nx, wS_ret, wpM_op2, wpM_op1, wpM_asT, wpM_trt, wpM_notT, wpM_andT, wpM_orT, wpM_andV, wpM_notE, wpM_ifE, wpM_lnil, wpM_lcons, wpM_tupE, wpM_lstF, wpM_frz, wpM_new, wpM_cal, wpM_calB, wpM_calF, wpM_isiE, wpM_vr, wpM_ct, wpM_meth, wpM_chn, wpM_cut, wpM_cutF, wpM_ono, wpM_osm, wpM_revT, wpM_lfE, wS_for, tgN, List.getElem?_cons_zero, List.getElem?_cons_succ, List.set_cons_zero, List.set_cons_succ, List.map_cons, List.map_nil, List.length_cons, List.length_nil, List.replicate_succ, List.replicate_zero, Nat.reduceAdd, Nat.reduceSub, List.cons_append, List.nil_append, wipeE]; exact ⟨rfl, rfl⟩)
        · have hll : ((sgns az).filter (notIn L)).length ≤ 26 := by
            have := List.length_filter_le (notIn L) (sgns az)
            omega
          obtain ⟨c0, hc0, ec0⟩ : ∃ c, c ∈ L.cps.toList ∧ ∀ S, o_ix S (.str L) (.int 0) = some (.str ⟨#[c]⟩) := by
            obtain ⟨c, h1, h2⟩ := letter_at (S := []) hL (show 0 < L.cps.size from hL.1)
            exact ⟨c, h1, fun S => h2⟩
          have eadd : ∀ S, o_add S (.str ⟨#[c0]⟩) (.str ⟨#[c0]⟩) = some (.str ((⟨#[c0]⟩ : Str) ++ ⟨#[c0]⟩)) := fun S => by
            simp only [o_add]
            rw [if_pos (show (⟨#[c0]⟩ : Str).length + (⟨#[c0]⟩ : Str).length ≤ sizeLine from (show (1 : Nat) + 1 ≤ sizeLine by omega))]
          simp only [wS_rai, wS_try, scope_bl, scope_int, scope_str, scope_non, wpM_ok, wpM_exc, trunc_same, and_self, if_true, if_false, Bool.false_eq_true, reduceIte, wS_setS, wS_seq, wS_if, wS_asg, wS_exS, wS_retS, wS_nxS, wS_nx, wS_ret, wpM_op2, wpM_op1, wpM_asT, wpM_trt, wpM_notT, wpM_andT, wpM_orT, wpM_andV, wpM_notE, wpM_ifE, wpM_lnil, wpM_lcons, wpM_tupE, wpM_lstF, wpM_frz, wpM_new, wpM_cal, wpM_calB, wpM_calF, wpM_isiE, wpM_vr, wpM_ct, wpM_meth, wpM_chn, wpM_cut, wpM_cutF, wpM_ono, wpM_osm, wpM_revT, wpM_lfE, wS_for, tgN, List.getElem?_cons_zero, List.getElem?_cons_succ, List.set_cons_zero, List.set_cons_succ, List.map_cons, List.map_nil, List.length_cons, List.length_nil, List.replicate_succ, List.replicate_zero, Nat.reduceAdd, Nat.reduceSub, List.cons_append, List.nil_append, ec0, eadd, len_lst]
          refine pick_wp hG1 (by omega) (by omega) ?_
          intro w G2 m2 hG2 w0 w1
          obtain ⟨dl, hdl, el⟩ := ix_lst (ds := (sgns az).filter (notIn L)) w0 w1
          rw [el]
          obtain ⟨cl, _, rfl⟩ := sgns_mem (List.mem_filter.mp hdl).1
          simp only [wS_rai, wS_try, scope_bl, scope_int, scope_str, scope_non, wpM_ok, wpM_exc, trunc_same, and_self, if_true, if_false, Bool.false_eq_true, reduceIte, wS_setS, wS_seq, wS_if, wS_asg, wS_exS, wS_retS, wS_nxS, wS_nx, wS_ret, wpM_op2, wpM_op1, wpM_asT, wpM_trt, wpM_notT, wpM_andT, wpM_orT, wpM_andV, wpM_notE, wpM_ifE, wpM_lnil, wpM_lcons, wpM_tupE, wpM_lstF, wpM_frz, wpM_new, wpM_cal, wpM_calB, wpM_calF, wpM_isiE, wpM_vr, wpM_ct, wpM_meth, wpM_chn, wpM_cut, wpM_cutF, wpM_ono, wpM_osm, wpM_revT, wpM_lfE, wS_for, tgN, List.getElem?_cons_zero, List.getElem?_cons_succ, List.set_cons_zero, List.set_cons_succ, List.map_cons, List.map_nil, List.length_cons, List.length_nil, List.replicate_succ, List.replicate_zero, Nat.reduceAdd, Nat.reduceSub, List.cons_append, List.nil_append, ec0, q1, q12, ixt0, len_lst]
          refine pick_wp hG2 (by decide) (by decide) ?_
          intro x G3 m3 hG3 x0 x1
          obtain ⟨odd, hod, e⟩ := ix_lst (ds := [.str (Str.ofString ""), .str ((⟨#[c0]⟩ : Str) ++ ⟨#[c0]⟩), .str L, .str ⟨#[cl]⟩, .str (Str.ofString "A"), .str (Str.ofString "0"), .str (Str.ofString " "), .non, .int 1, .tup [.str ⟨#[c0]⟩], .lst [.str ⟨#[c0]⟩], .str ⟨#[c0]⟩]) x0 x1
          rw [e]
          have hfo : fd odd = true := by
            refine fdL_mem.mp ?_ odd hod
            have a1 : decide ((⟨#[c0]⟩ : Str).length ≤ 1000) = true := decide_eq_true (show (1 : Nat) ≤ 1000 by omega)
            have a2 : decide ((⟨#[cl]⟩ : Str).length ≤ 1000) = true := decide_eq_true (show (1 : Nat) ≤ 1000 by omega)
            have a3 : decide (((⟨#[c0]⟩ : Str) ++ ⟨#[c0]⟩).length ≤ 1000) = true := decide_eq_true (show (2 : Nat) ≤ 1000 by omega)
            have a4 : decide (L.length ≤ 1000) = true := decide_eq_true (by
              have := hL.2.1
              show L.cps.size ≤ 1000
              omega)
            simp only [fdL, fd, a1, a2, a3, a4, Bool.and_true, Bool.true_and]
            decide
          simp only [wS_rai, wS_try, scope_bl, scope_int, scope_str, scope_non, wpM_ok, wpM_exc, trunc_same, and_self, if_true, if_false, Bool.false_eq_true, reduceIte, wS_setS, wS_seq, wS_if, wS_asg, wS_exS, wS_retS, wS_nxS, wS_nx, wS_ret, wpM_op2, wpM_op1, wpM_asT, wpM_trt, wpM_notT, wpM_andT, wpM_orT, wpM_andV, wpM_notE, wpM_ifE, wpM_lnil, wpM_lcons, wpM_tupE, wpM_lstF, wpM_frz, wpM_new, wpM_cal, wpM_calB, wpM_calF, wpM_isiE, wpM_vr, wpM_ct, wpM_meth, wpM_chn, wpM_cut, wpM_cutF, wpM_ono, wpM_osm, wpM_revT, wpM_lfE, wS_for, tgN, List.getElem?_cons_zero, List.getElem?_cons_succ, List.set_cons_zero, List.set_cons_succ, List.map_cons, List.map_nil, List.length_cons, List.length_nil, List.replicate_succ, List.replicate_zero, Nat.reduceAdd, Nat.reduceSub, List.cons_append, List.nil_append, ixt2, q3]
          have f2 : fd (.tup [.int p.1, odd, .int p.2.2]) = true := by
            show (true && (fd odd && (true && true))) = true
            rw [hfo]; rfl
          rw [scope_pure (fd_pure _ f2), wpM_ok, trunc_P0]
          exact k _ G3 m3 hG3 f2
      · rw [hv2]
        simp only [wS_rai, wS_try, scope_bl, scope_int, scope_str, scope_non, wpM_ok, wpM_exc, trunc_same, and_self, if_true, if_false, Bool.false_eq_true, reduceIte, wS_setS, wS_seq, wS_if, wS_asg, wS_exS, wS_retS, wS_nxS, wS_nx, wS_ret, wpM_op2, wpM_op1, wpM_asT, wpM_trt, wpM_notT, wpM_andT, wpM_orT, wpM_andV, wpM_notE, wpM_ifE, wpM_lnil, wpM_lcons, wpM_tupE, wpM_lstF, wpM_frz, wpM_new, wpM_cal, wpM_calB, wpM_calF, wpM_isiE, wpM_vr, wpM_ct, wpM_meth, wpM_chn, wpM_cut, wpM_cutF, wpM_ono, wpM_osm, wpM_revT, wpM_lfE, wS_for, tgN, List.getElem?_cons_zero, List.getElem?_cons_succ, List.set_cons_zero, List.set_cons_succ, List.map_cons, List.map_nil, List.length_cons, List.length_nil, List.replicate_succ, List.replicate_zero, Nat.reduceAdd, Nat.reduceSub, List.cons_append, List.nil_append, eq_intS]
        rcases Bool.eq_false_or_eq_true (v == 3) with hv3 | hv3
        · rw [hv3]
          simp only [wS_rai, wS_try, scope_bl, scope_int, scope_str, scope_non, wpM_ok, wpM_exc, trunc_same, and_self, if_true, if_false, Bool.false_eq_true, reduceIte, wS_setS, wS_seq, wS_if, wS_asg, wS_exS, wS_retS, wS_nxS, wS_nx, wS_ret, wpM_op2, wpM_op1, wpM_asT, wpM_trt, wpM_notT, wpM_andT, wpM_orT, wpM_andV, wpM_notE, wpM_ifE, wpM_lnil, wpM_lcons, wpM_tupE, wpM_lstF, wpM_frz, wpM_new, wpM_cal, wpM_calB, wpM_calF, wpM_isiE, wpM_vr, wpM_ct, wpM_meth, wpM_chn, wpM_cut, wpM_cutF, wpM_ono, wpM_osm, wpM_revT, wpM_lfE, wS_for, tgN, List.getElem?_cons_zero, List.getElem?_cons_succ, List.set_cons_zero, List.set_cons_succ, List.map_cons, List.map_nil, List.length_cons, List.length_nil, List.replicate_succ, List.replicate_zero, Nat.reduceAdd, Nat.reduceSub, List.cons_append, List.nil_append, o_neg, q3]
          have f2 : fd (.tup [.int st, .str (Str.ofString "?"), .int (-1)]) = true := by
            show (true && (fd (.str (Str.ofString "?")) && (true && true))) = true
            decide
          rw [scope_pure (fd_pure _ f2), wpM_ok, trunc_P0]
          exact k _ G1 m1 hG1 f2
        · rw [hv3]
          simp only [wS_rai, wS_try, scope_bl, scope_int, scope_str, scope_non, wpM_ok, wpM_exc, trunc_same, and_self, if_true, if_false, Bool.false_eq_true, reduceIte, wS_setS, wS_seq, wS_if, wS_asg, wS_exS, wS_retS, wS_nxS, wS_nx, wS_ret, wpM_op2, wpM_op1, wpM_asT, wpM_trt, wpM_notT, wpM_andT, wpM_orT, wpM_andV, wpM_notE, wpM_ifE, wpM_lnil, wpM_lcons, wpM_tupE, wpM_lstF, wpM_frz, wpM_new, wpM_cal, wpM_calB, wpM_calF, wpM_isiE, wpM_vr, wpM_ct, wpM_meth, wpM_chn, wpM_cut, wpM_cutF, wpM_ono, wpM_osm, wpM_revT, wpM_lfE, wS_for, tgN, List.getElem?_cons_zero, List.getElem?_cons_succ, List.set_cons_zero, List.set_cons_succ, List.map_cons, List.map_nil, List.length_cons, List.length_nil, List.replicate_succ, List.replicate_zero, Nat.reduceAdd, Nat.reduceSub, List.cons_append, List.nil_append]
          refine pick_wp hG1 (by omega) (by omega) ?_
          intro a G2 m2 hG2 a0 a1
          simp only [wS_rai, wS_try, scope_bl, scope_int, scope_str, scope_non, wpM_ok, wpM_exc, trunc_same, and_self, if_true, if_false, Bool.false_eq_true, reduceIte, wS_setS, wS_seq, wS_if, wS_asg, wS_exS, wS_retS, wS_nxS, wS_nx, wS_ret, wpM_op2, wpM_op1, wpM_asT, wpM_trt, wpM_notT, wpM_andT, wpM_orT, wpM_andV, wpM_notE, wpM_ifE, wpM_lnil, wpM_lcons, wpM_tupE, wpM_lstF, wpM_frz, wpM_new, wpM_cal, wpM_calB, wpM_calF, wpM_isiE, wpM_vr, wpM_ct, wpM_meth, wpM_chn, wpM_cut, wpM_cutF, wpM_ono, wpM_osm, wpM_revT, wpM_lfE, wS_for, tgN, List.getElem?_cons_zero, List.getElem?_cons_succ, List.set_cons_zero, List.set_cons_succ, List.map_cons, List.map_nil, List.length_cons, List.length_nil, List.replicate_succ, List.replicate_zero, Nat.reduceAdd, Nat.reduceSub, List.cons_append, List.nil_append, len_L hL]
          have hc1 := hL.1
          have hc2 := hL.2.1
          have y1 : (0 : Int) < (L.cps.size : Int) := by omega
          have y2 : (L.cps.size : Int) < 1073741824 := by omega
          refine pick_wp hG2 y1 y2 ?_
          intro x G3 m3 hG3 x0 x1
          obtain ⟨xi, hxi⟩ := Int.eq_ofNat_of_zero_le x0
          obtain ⟨c, hc, ec⟩ := letter_at (S := PSt G3 m3 rest) hL (show xi < L.cps.size by omega)
          rw [hxi, ec]
          simp only [wS_rai, wS_try, scope_bl, scope_int, scope_str, scope_non, wpM_ok, wpM_exc, trunc_same, and_self, if_true, if_false, Bool.false_eq_true, reduceIte, wS_setS, wS_seq, wS_if, wS_asg, wS_exS, wS_retS, wS_nxS, wS_nx, wS_ret, wpM_op2, wpM_op1, wpM_asT, wpM_trt, wpM_notT, wpM_andT, wpM_orT, wpM_andV, wpM_notE, wpM_ifE, wpM_lnil, wpM_lcons, wpM_tupE, wpM_lstF, wpM_frz, wpM_new, wpM_cal, wpM_calB, wpM_calF, wpM_isiE, wpM_vr, wpM_ct, wpM_meth, wpM_chn, wpM_cut, wpM_cutF, wpM_ono, wpM_osm, wpM_revT, wpM_lfE, wS_for, tgN, List.getElem?_cons_zero, List.getElem?_cons_succ, List.set_cons_zero, List.set_cons_succ, List.map_cons, List.map_nil, List.length_cons, List.length_nil, List.replicate_succ, List.replicate_zero, Nat.reduceAdd, Nat.reduceSub, List.cons_append, List.nil_append]
          refine pick_wp hG3 (by omega) (by omega) ?_
          intro b G4 m4 hG4 b0 b1
          simp only [wS_rai, wS_try, scope_bl, scope_int, scope_str, scope_non, wpM_ok, wpM_exc, trunc_same, and_self, if_true, if_false, Bool.false_eq_true, reduceIte, wS_setS, wS_seq, wS_if, wS_asg, wS_exS, wS_retS, wS_nxS, wS_nx, wS_ret, wpM_op2, wpM_op1, wpM_asT, wpM_trt, wpM_notT, wpM_andT, wpM_orT, wpM_andV, wpM_notE, wpM_ifE, wpM_lnil, wpM_lcons, wpM_tupE, wpM_lstF, wpM_frz, wpM_new, wpM_cal, wpM_calB, wpM_calF, wpM_isiE, wpM_vr, wpM_ct, wpM_meth, wpM_chn, wpM_cut, wpM_cutF, wpM_ono, wpM_osm, wpM_revT, wpM_lfE, wS_for, tgN, List.getElem?_cons_zero, List.getElem?_cons_succ, List.set_cons_zero, List.set_cons_succ, List.map_cons, List.map_nil, List.length_cons, List.length_nil, List.replicate_succ, List.replicate_zero, Nat.reduceAdd, Nat.reduceSub, List.cons_append, List.nil_append, q3]
          have f2 : fd (.tup [.int a, .str ⟨#[c]⟩, .int b]) = true := fd_trip (a, c, b)
          rw [scope_pure (fd_pure _ f2), wpM_ok, trunc_P0]
          exact k _ G4 m4 hG4 f2
end
end Z

set_option Elab.async false
set_option linter.all false
set_option maxRecDepth 100000
set_option maxHeartbeats 4000000
set_option autoImplicit false
namespace Z
open PySem PySem.Spec L2 Y PySem.W
def Fine (d : D) : Prop := fd d = true ∧ ∀ s ends steps, d = .tup [s, .tup ends, .tup steps] → ends.length < 2 ^ 60 ∧ steps.length < 2 ^ 60
theorem trips_fd {ts : List T3} : fdL (ts.map trip) = true := fdL_mem.mpr fun d hd => by
  obtain ⟨p, _, rfl⟩ := List.mem_map.mp hd
  exact fd_trip p
theorem rising_fd {most : Int} : ∀ (l : Int) (ds : List D), rising most l ds = true → fdL ds = true
  | _, [], _ => rfl
  | l, d :: ds, e => by
    cases d with
    | int n =>
      rw [rising_int] at e
      simp only [Bool.and_eq_true] at e
      show (true && fdL ds) = true
      rw [rising_fd _ ds e.2]; rfl
    | _ => rw [rising_not rfl] at e; cases e
section
variable {S : Sto} {rest : Sto} {G : List Int} {m : Int} {L : Str} {Q : D → Sto → Prop} {E : Str → List (Str × D) → Sto → Prop}
theorem fd3 {a b c : D} (h1 : fd a = true) (h2 : fd b = true) (h3 : fd c = true) : fd (.tup [a, b, c]) = true := by
  show (fd a && (fd b && (fd c && true))) = true
  rw [h1, h2, h3]; rfl
theorem bwhole_wp {a b c : D} (hG : GoodP G m) (h1 : fd a = true) (h2 : fd b = true) (h3 : fd c = true) (k : ∀ d G' m', GoodP G' m' → fd d = true → wholeF d = some "shape" → Q d (PSt G' m' rest)) : wpM (M__law_bent_whole [.ref 1, .tup [a, b, c]] (PSt G m rest)) Q E := by
  have hsl := sizeLine_eq
  have q1 : 1 ≤ sizeLine := by omega
  have q0 : 0 ≤ sizeLine := by omega
  have q10 : 10 ≤ sizeLine := by omega
  unfold M__law_bent_whole
  refine wpM_fn ?_
  unfold m__law_bent_whole
  have e1 : ∀ S, o_listA S [.tup [a, b, c]] = some [a, b, c] := fun S => rfl
  have e2 : ∀ S, o_cut S (.tup [a, b, c]) none (some 2) = some (.tup [a, b]) := fun S => rfl
  have e3 : ∀ S, o_add S (.tup [a, b, c]) (.tup [.int 0]) = some (.tup [a, b, c, .int 0]) := fun S => by
    rw [add_tup (by show 4 ≤ sizeLine; omega)]; rfl
  simp only [wS_rai, wS_try, scope_bl, scope_int, scope_str, scope_non, wpM_ok, wpM_exc, trunc_same, and_self, if_true, if_false, Bool.false_eq_true, reduceIte, wS_setS, wS_seq, wS_if, wS_asg, wS_exS, wS_retS, wS_nxS, wS_nx, wS_ret, wpM_op2, wpM_op1, wpM_asT, wpM_trt, wpM_notT, wpM_andT, wpM_orT, wpM_andV, wpM_notE, wpM_ifE, wpM_lnil, wpM_lcons, wpM_tupE, wpM_lstF, wpM_frz, wpM_new, wpM_cal, wpM_calB, wpM_calF, wpM_isiE, wpM_vr, wpM_ct, wpM_meth, wpM_chn, wpM_cut, wpM_cutF, wpM_ono, wpM_osm, wpM_revT, wpM_lfE, wS_for, tgN, List.getElem?_cons_zero, List.getElem?_cons_succ, List.set_cons_zero, List.set_cons_succ, List.map_cons, List.map_nil, List.length_cons, List.length_nil, List.replicate_succ, List.replicate_zero, Nat.reduceAdd, Nat.reduceSub, List.cons_append, List.nil_append, e1, e2, e3, q1, q0, q10, len_lst]
  refine pick_wp hG (by decide) (by decide) ?_
  intro v G1 m1 hG1 v0 v1
  obtain ⟨d, hd, e⟩ := ix_lst (ds := [.lst [a, b, c], .tup [a, b], .tup [a, b, c, .int 0], .tup [], .non, .int 7, .str (Str.ofString "abc"), .tup [.tup [a, b, c]], .lst [.tup [a, b, c]], .bl true]) v0 v1
  rw [e]
  have hfd : fd d = true := by
    refine fdL_mem.mp ?_ d hd
    simp only [fdL, fd, h1, h2, h3, Bool.and_true, Bool.true_and]
    decide
  have hw : wholeF d = some "shape" := by
    simp only [List.mem_cons, List.not_mem_nil, or_false] at hd
    rcases hd with rfl | rfl | rfl | rfl | rfl | rfl | rfl | rfl | rfl | rfl <;> rfl
  simp only [wS_rai, wS_try, scope_bl, scope_int, scope_str, scope_non, wpM_ok, wpM_exc, trunc_same, and_self, if_true, if_false, Bool.false_eq_true, reduceIte, wS_setS, wS_seq, wS_if, wS_asg, wS_exS, wS_retS, wS_nxS, wS_nx, wS_ret, wpM_op2, wpM_op1, wpM_asT, wpM_trt, wpM_notT, wpM_andT, wpM_orT, wpM_andV, wpM_notE, wpM_ifE, wpM_lnil, wpM_lcons, wpM_tupE, wpM_lstF, wpM_frz, wpM_new, wpM_cal, wpM_calB, wpM_calF, wpM_isiE, wpM_vr, wpM_ct, wpM_meth, wpM_chn, wpM_cut, wpM_cutF, wpM_ono, wpM_osm, wpM_revT, wpM_lfE, wS_for, tgN, List.getElem?_cons_zero, List.getElem?_cons_succ, List.set_cons_zero, List.set_cons_succ, List.map_cons, List.map_nil, List.length_cons, List.length_nil, List.replicate_succ, List.replicate_zero, Nat.reduceAdd, Nat.reduceSub, List.cons_append, List.nil_append]
  rw [scope_pure (fd_pure d hfd), wpM_ok, trunc_P0]
  exact k d G1 m1 hG1 hfd hw
theorem add_int {i j : Int} : o_add S (.int i) (.int j) = some (.int (i + j)) := rfl
theorem bent_wp {most : Int} {d : D} (hG : GoodP G m) (hL : LOk L) (hd : MOk L most d) (hm : most ≤ 1000) (k : ∀ d G' m', GoodP G' m' → Fine d → Q d (PSt G' m' rest)) : wpM (M__law_bent [.ref 1, .str L, d] (PSt G m rest)) Q E := by
  have hsl := sizeLine_eq
  have q1 : 1 ≤ sizeLine := by omega
  have q3 : 3 ≤ sizeLine := by omega
  have q7 : 7 ≤ sizeLine := by omega
  obtain ⟨st, ends, ts0, rfl, hst1, hst2, hr, hel, hep, hnd, hok, htl⟩ := hd.ex
  rw [sort_trip]
  have htl : (ts0.mergeSort lexle).length ≤ 240 := by rw [List.length_mergeSort]; exact htl
  generalize ts0.mergeSort lexle = ts at htl ⊢
  have hef : fdL ends = true := rising_fd _ _ hr
  unfold M__law_bent
  refine wpM_fn ?_
  unfold m__law_bent
  simp only [wS_rai, wS_try, scope_bl, scope_int, scope_str, scope_non, wpM_ok, wpM_exc, trunc_same, and_self, if_true, if_false, Bool.false_eq_true, reduceIte, wS_setS, wS_seq, wS_if, wS_asg, wS_exS, wS_retS, wS_nxS, wS_nx, wS_ret, wpM_op2, wpM_op1, wpM_asT, wpM_trt, wpM_notT, wpM_andT, wpM_orT, wpM_andV, wpM_notE, wpM_ifE, wpM_lnil, wpM_lcons, wpM_tupE, wpM_lstF, wpM_frz, wpM_new, wpM_cal, wpM_calB, wpM_calF, wpM_isiE, wpM_vr, wpM_ct, wpM_meth, wpM_chn, wpM_cut, wpM_cutF, wpM_ono, wpM_osm, wpM_revT, wpM_lfE, wS_for, tgN, List.getElem?_cons_zero, List.getElem?_cons_succ, List.set_cons_zero, List.set_cons_succ, List.map_cons, List.map_nil, List.length_cons, List.length_nil, List.replicate_succ, List.replicate_zero, Nat.reduceAdd, Nat.reduceSub, List.cons_append, List.nil_append, tgT, tgs, Option.bind_some, i_rg1, wpM_bdE]
  refine pick_wp hG (by decide) (by decide) ?_
  intro v G1 m1 hG1 v0 v1
  obtain ⟨n, hn⟩ := Int.eq_ofNat_of_zero_le v0
  simp only [wS_rai, wS_try, scope_bl, scope_int, scope_str, scope_non, wpM_ok, wpM_exc, trunc_same, and_self, if_true, if_false, Bool.false_eq_true, reduceIte, wS_setS, wS_seq, wS_if, wS_asg, wS_exS, wS_retS, wS_nxS, wS_nx, wS_ret, wpM_op2, wpM_op1, wpM_asT, wpM_trt, wpM_notT, wpM_andT, wpM_orT, wpM_andV, wpM_notE, wpM_ifE, wpM_lnil, wpM_lcons, wpM_tupE, wpM_lstF, wpM_frz, wpM_new, wpM_cal, wpM_calB, wpM_calF, wpM_isiE, wpM_vr, wpM_ct, wpM_meth, wpM_chn, wpM_cut, wpM_cutF, wpM_ono, wpM_osm, wpM_revT, wpM_lfE, wS_for, tgN, List.getElem?_cons_zero, List.getElem?_cons_succ, List.set_cons_zero, List.set_cons_succ, List.map_cons, List.map_nil, List.length_cons, List.length_nil, List.replicate_succ, List.replicate_zero, Nat.reduceAdd, Nat.reduceSub, List.cons_append, List.nil_append, o_add]
  rw [if_pos (by omega)]
  simp only [wS_rai, wS_try, scope_bl, scope_int, scope_str, scope_non, wpM_ok, wpM_exc, trunc_same, and_self, if_true, if_false, Bool.false_eq_true, reduceIte, wS_setS, wS_seq, wS_if, wS_asg, wS_exS, wS_retS, wS_nxS, wS_nx, wS_ret, wpM_op2, wpM_op1, wpM_asT, wpM_trt, wpM_notT, wpM_andT, wpM_orT, wpM_andV, wpM_notE, wpM_ifE, wpM_lnil, wpM_lcons, wpM_tupE, wpM_lstF, wpM_frz, wpM_new, wpM_cal, wpM_calB, wpM_calF, wpM_isiE, wpM_vr, wpM_ct, wpM_meth, wpM_chn, wpM_cut, wpM_cutF, wpM_ono, wpM_osm, wpM_revT, wpM_lfE, wS_for, tgN, List.getElem?_cons_zero, List.getElem?_cons_succ, List.set_cons_zero, List.set_cons_succ, List.map_cons, List.map_nil, List.length_cons, List.length_nil, List.replicate_succ, List.replicate_zero, Nat.reduceAdd, Nat.reduceSub, List.cons_append, List.nil_append]
  refine wS_loop (fun i env S' => ∃ G' m' s e t e6 e7 e8 e9, env = [some (.ref 1), some (.str L), some (.tup [.int st, .tup ends, .tup (List.map trip ts)]), some s, some e, some t, e6, e7, e8, e9] ∧ S' = PSt G' m' rest ∧ GoodP G' m' ∧ fd s = true ∧ fd e = true ∧ (∀ es, e = .tup es → es.length ≤ 1001) ∧ fd t = true ∧ ∀ ss, t = .tup ss → ss.length ≤ 1000 + i ∧ (ss ≠ [] → ts ≠ [])) _ 0 _ _ ⟨G1, m1, _, _, _, _, _, _, _, rfl, rfl, hG1, rfl, hef, (fun es he => by cases he; omega), trips_fd, fun ss hs => by
    cases hs
    exact ⟨by rw [List.length_map]; omega, fun h e => h (by rw [e]; rfl)⟩⟩ ?_ ?_
  · rintro j d' env S' hj ⟨G2, m2, s, e, t, e6, e7, e8, e9, rfl, rfl, hG2, hs, he, hes, ht, hts⟩
    refine ⟨okSrc_nil, _, rfl, ?_⟩
    rw [Nat.zero_add] at hts ⊢
    simp only [wS_rai, wS_try, scope_bl, scope_int, scope_str, scope_non, wpM_ok, wpM_exc, trunc_same, and_self, if_true, if_false, Bool.false_eq_true, reduceIte, wS_setS, wS_seq, wS_if, wS_asg, wS_exS, wS_retS, wS_nxS, wS_nx, wS_ret, wpM_op2, wpM_op1, wpM_asT, wpM_trt, wpM_notT, wpM_andT, wpM_orT, wpM_andV, wpM_notE, wpM_ifE, wpM_lnil, wpM_lcons, wpM_tupE, wpM_lstF, wpM_frz, wpM_new, wpM_cal, wpM_calB, wpM_calF, wpM_isiE, wpM_vr, wpM_ct, wpM_meth, wpM_chn, wpM_cut, wpM_cutF, wpM_ono, wpM_osm, wpM_revT, wpM_lfE, wS_for, tgN, List.getElem?_cons_zero, List.getElem?_cons_succ, List.set_cons_zero, List.set_cons_succ, List.map_cons, List.map_nil, List.length_cons, List.length_nil, List.replicate_succ, List.replicate_zero, Nat.reduceAdd, Nat.reduceSub, List.cons_append, List.nil_append]
    refine pick_wp hG2 (by decide) (by decide) ?_
    intro kd G3 m3 hG3 k0 k1
    simp only [wS_rai, wS_try, scope_bl, scope_int, scope_str, scope_non, wpM_ok, wpM_exc, trunc_same, and_self, if_true, if_false, Bool.false_eq_true, reduceIte, wS_setS, wS_seq, wS_if, wS_asg, wS_exS, wS_retS, wS_nxS, wS_nx, wS_ret, wpM_op2, wpM_op1, wpM_asT, wpM_trt, wpM_notT, wpM_andT, wpM_orT, wpM_andV, wpM_notE, wpM_ifE, wpM_lnil, wpM_lcons, wpM_tupE, wpM_lstF, wpM_frz, wpM_new, wpM_cal, wpM_calB, wpM_calF, wpM_isiE, wpM_vr, wpM_ct, wpM_meth, wpM_chn, wpM_cut, wpM_cutF, wpM_ono, wpM_osm, wpM_revT, wpM_lfE, wS_for, tgN, List.getElem?_cons_zero, List.getElem?_cons_succ, List.set_cons_zero, List.set_cons_succ, List.map_cons, List.map_nil, List.length_cons, List.length_nil, List.replicate_succ, List.replicate_zero, Nat.reduceAdd, Nat.reduceSub, List.cons_append, List.nil_append, eq_intS]
    rcases Bool.eq_false_or_eq_true (kd == 0) with c0 | c0
    · rw [c0]
      simp only [wS_rai, wS_try, scope_bl, scope_int, scope_str, scope_non, wpM_ok, wpM_exc, trunc_same, and_self, if_true, if_false, Bool.false_eq_true, reduceIte, wS_setS, wS_seq, wS_if, wS_asg, wS_exS, wS_retS, wS_nxS, wS_nx, wS_ret, wpM_op2, wpM_op1, wpM_asT, wpM_trt, wpM_notT, wpM_andT, wpM_orT, wpM_andV, wpM_notE, wpM_ifE, wpM_lnil, wpM_lcons, wpM_tupE, wpM_lstF, wpM_frz, wpM_new, wpM_cal, wpM_calB, wpM_calF, wpM_isiE, wpM_vr, wpM_ct, wpM_meth, wpM_chn, wpM_cut, wpM_cutF, wpM_ono, wpM_osm, wpM_revT, wpM_lfE, wS_for, tgN, List.getElem?_cons_zero, List.getElem?_cons_succ, List.set_cons_zero, List.set_cons_succ, List.map_cons, List.map_nil, List.length_cons, List.length_nil, List.replicate_succ, List.replicate_zero, Nat.reduceAdd, Nat.reduceSub, List.cons_append, List.nil_append, ixT0]
      refine bstates_wp hG3 (by omega) (by omega) ?_
      intro x G4 m4 hG4 hx
      exact ⟨G4, m4, _, _, _, _, _, _, _, rfl, rfl, hG4, hx, he, hes, ht, fun ss hss => ⟨by have := (hts ss hss).1; omega, (hts ss hss).2⟩⟩
    rw [c0]
    simp only [wS_rai, wS_try, scope_bl, scope_int, scope_str, scope_non, wpM_ok, wpM_exc, trunc_same, and_self, if_true, if_false, Bool.false_eq_true, reduceIte, wS_setS, wS_seq, wS_if, wS_asg, wS_exS, wS_retS, wS_nxS, wS_nx, wS_ret, wpM_op2, wpM_op1, wpM_asT, wpM_trt, wpM_notT, wpM_andT, wpM_orT, wpM_andV, wpM_notE, wpM_ifE, wpM_lnil, wpM_lcons, wpM_tupE, wpM_lstF, wpM_frz, wpM_new, wpM_cal, wpM_calB, wpM_calF, wpM_isiE, wpM_vr, wpM_ct, wpM_meth, wpM_chn, wpM_cut, wpM_cutF, wpM_ono, wpM_osm, wpM_revT, wpM_lfE, wS_for, tgN, List.getElem?_cons_zero, List.getElem?_cons_succ, List.set_cons_zero, List.set_cons_succ, List.map_cons, List.map_nil, List.length_cons, List.length_nil, List.replicate_succ, List.replicate_zero, Nat.reduceAdd, Nat.reduceSub, List.cons_append, List.nil_append, eq_intS]
    rcases Bool.eq_false_or_eq_true (kd == 1) with c1 | c1
    · rw [c1]
      simp only [wS_rai, wS_try, scope_bl, scope_int, scope_str, scope_non, wpM_ok, wpM_exc, trunc_same, and_self, if_true, if_false, Bool.false_eq_true, reduceIte, wS_setS, wS_seq, wS_if, wS_asg, wS_exS, wS_retS, wS_nxS, wS_nx, wS_ret, wpM_op2, wpM_op1, wpM_asT, wpM_trt, wpM_notT, wpM_andT, wpM_orT, wpM_andV, wpM_notE, wpM_ifE, wpM_lnil, wpM_lcons, wpM_tupE, wpM_lstF, wpM_frz, wpM_new, wpM_cal, wpM_calB, wpM_calF, wpM_isiE, wpM_vr, wpM_ct, wpM_meth, wpM_chn, wpM_cut, wpM_cutF, wpM_ono, wpM_osm, wpM_revT, wpM_lfE, wS_for, tgN, List.getElem?_cons_zero, List.getElem?_cons_succ, List.set_cons_zero, List.set_cons_succ, List.map_cons, List.map_nil, List.length_cons, List.length_nil, List.replicate_succ, List.replicate_zero, Nat.reduceAdd, Nat.reduceSub, List.cons_append, List.nil_append, ixT0, ixT1]
      refine bends_wp hG3 hef hel ?_
      intro x G4 m4 hG4 hx hxl
      exact ⟨G4, m4, _, _, _, _, _, _, _, rfl, rfl, hG4, hs, hx, hxl, ht, fun ss hss => ⟨by have := (hts ss hss).1; omega, (hts ss hss).2⟩⟩
    rw [c1]
    simp only [wS_rai, wS_try, scope_bl, scope_int, scope_str, scope_non, wpM_ok, wpM_exc, trunc_same, and_self, if_true, if_false, Bool.false_eq_true, reduceIte, wS_setS, wS_seq, wS_if, wS_asg, wS_exS, wS_retS, wS_nxS, wS_nx, wS_ret, wpM_op2, wpM_op1, wpM_asT, wpM_trt, wpM_notT, wpM_andT, wpM_orT, wpM_andV, wpM_notE, wpM_ifE, wpM_lnil, wpM_lcons, wpM_tupE, wpM_lstF, wpM_frz, wpM_new, wpM_cal, wpM_calB, wpM_calF, wpM_isiE, wpM_vr, wpM_ct, wpM_meth, wpM_chn, wpM_cut, wpM_cutF, wpM_ono, wpM_osm, wpM_revT, wpM_lfE, wS_for, tgN, List.getElem?_cons_zero, List.getElem?_cons_succ, List.set_cons_zero, List.set_cons_succ, List.map_cons, List.map_nil, List.length_cons, List.length_nil, List.replicate_succ, List.replicate_zero, Nat.reduceAdd, Nat.reduceSub, List.cons_append, List.nil_append, eq_intS]
    have hTt := fun S => isiT (S := S) (fd_pure t ht)
    rcases Bool.eq_false_or_eq_true (kd == 2) with c2 | c2
    · rw [c2]
      simp only [wS_rai, wS_try, scope_bl, scope_int, scope_str, scope_non, wpM_ok, wpM_exc, trunc_same, and_self, if_true, if_false, Bool.false_eq_true, reduceIte, wS_setS, wS_seq, wS_if, wS_asg, wS_exS, wS_retS, wS_nxS, wS_nx, wS_ret, wpM_op2, wpM_op1, wpM_asT, wpM_trt, wpM_notT, wpM_andT, wpM_orT, wpM_andV, wpM_notE, wpM_ifE, wpM_lnil, wpM_lcons, wpM_tupE, wpM_lstF, wpM_frz, wpM_new, wpM_cal, wpM_calB, wpM_calF, wpM_isiE, wpM_vr, wpM_ct, wpM_meth, wpM_chn, wpM_cut, wpM_cutF, wpM_ono, wpM_osm, wpM_revT, wpM_lfE, wS_for, tgN, List.getElem?_cons_zero, List.getElem?_cons_succ, List.set_cons_zero, List.set_cons_succ, List.map_cons, List.map_nil, List.length_cons, List.length_nil, List.replicate_succ, List.replicate_zero, Nat.reduceAdd, Nat.reduceSub, List.cons_append, List.nil_append, ixT2, len_tup, add_int, List.length_map]
      have a1 : (0 : Int) < (ts.length : Int) + 1 := by omega
      have a2 : (ts.length : Int) + 1 < 1073741824 := by omega
      refine pick_wp hG3 a1 a2 ?_
      intro pl G4 m4 hG4 p0 p1
      have cl := @cutL_len (List.map trip ts) none (some pl)
      rw [List.length_map] at cl
      have ea : ∀ S, o_add S (.tup (List.map trip ts)) (.tup (cutL (List.map trip ts) none (some pl))) = some (.tup (List.map trip ts ++ cutL (List.map trip ts) none (some pl))) := fun S => add_tup (by rw [List.length_map]; omega)
      have el : ∀ S, o_listA S [.tup (List.map trip ts)] = some (List.map trip ts) := fun S => rfl
      simp only [wS_rai, wS_try, scope_bl, scope_int, scope_str, scope_non, wpM_ok, wpM_exc, trunc_same, and_self, if_true, if_false, Bool.false_eq_true, reduceIte, wS_setS, wS_seq, wS_if, wS_asg, wS_exS, wS_retS, wS_nxS, wS_nx, wS_ret, wpM_op2, wpM_op1, wpM_asT, wpM_trt, wpM_notT, wpM_andT, wpM_orT, wpM_andV, wpM_notE, wpM_ifE, wpM_lnil, wpM_lcons, wpM_tupE, wpM_lstF, wpM_frz, wpM_new, wpM_cal, wpM_calB, wpM_calF, wpM_isiE, wpM_vr, wpM_ct, wpM_meth, wpM_chn, wpM_cut, wpM_cutF, wpM_ono, wpM_osm, wpM_revT, wpM_lfE, wS_for, tgN, List.getElem?_cons_zero, List.getElem?_cons_succ, List.set_cons_zero, List.set_cons_succ, List.map_cons, List.map_nil, List.length_cons, List.length_nil, List.replicate_succ, List.replicate_zero, Nat.reduceAdd, Nat.reduceSub, List.cons_append, List.nil_append, ixT2, el, cut_tup, ea, q7]
      refine pick_wp hG4 (by decide) (by decide) ?_
      intro y G5 m5 hG5 y0 y1
      obtain ⟨dd, hdd, e⟩ := ix_lst (ds := [.lst (List.map trip ts), .non, .tup (List.map trip ts).reverse, .tup (List.map trip ts ++ cutL (List.map trip ts) none (some pl)), .str (Str.ofString "abc"), .tup (cutL (List.map trip ts) none (some pl)), .int 3]) y0 y1
      rw [e]
      have f0 := trips_fd (ts := ts)
      have f1 : fdL (List.map trip ts).reverse = true := fdL_mem.mpr fun x hx => fdL_mem.mp f0 x (List.mem_reverse.mp hx)
      have f2 := fdL_cut (lo := none) (hi := some pl) f0
      have f3 := fdL_app f0 f2
      have hfd : fd dd = true := by
        refine fdL_mem.mp ?_ dd hdd
        simp only [fdL, fd, f0, f1, f2, f3, Bool.and_true, Bool.true_and]
        decide
      simp only [wS_rai, wS_try, scope_bl, scope_int, scope_str, scope_non, wpM_ok, wpM_exc, trunc_same, and_self, if_true, if_false, Bool.false_eq_true, reduceIte, wS_setS, wS_seq, wS_if, wS_asg, wS_exS, wS_retS, wS_nxS, wS_nx, wS_ret, wpM_op2, wpM_op1, wpM_asT, wpM_trt, wpM_notT, wpM_andT, wpM_orT, wpM_andV, wpM_notE, wpM_ifE, wpM_lnil, wpM_lcons, wpM_tupE, wpM_lstF, wpM_frz, wpM_new, wpM_cal, wpM_calB, wpM_calF, wpM_isiE, wpM_vr, wpM_ct, wpM_meth, wpM_chn, wpM_cut, wpM_cutF, wpM_ono, wpM_osm, wpM_revT, wpM_lfE, wS_for, tgN, List.getElem?_cons_zero, List.getElem?_cons_succ, List.set_cons_zero, List.set_cons_succ, List.map_cons, List.map_nil, List.length_cons, List.length_nil, List.replicate_succ, List.replicate_zero, Nat.reduceAdd, Nat.reduceSub, List.cons_append, List.nil_append]
      refine ⟨G5, m5, _, _, _, _, _, _, _, rfl, rfl, hG5, hs, he, hes, hfd, fun ss hss => ?_⟩
      subst hss
      simp only [List.mem_cons, List.not_mem_nil, or_false, D.tup.injEq, reduceCtorEq, false_or] at hdd
      rcases hdd with rfl | rfl | rfl
      · exact ⟨by rw [List.length_reverse, List.length_map]; omega, fun h e => h (by rw [e]; rfl)⟩
      · exact ⟨by rw [List.length_append, List.length_map]; omega, fun h e => h (by rw [e]; simp [cutL])⟩
      · exact ⟨by omega, fun h e => h (by rw [e]; simp [cutL])⟩
    rw [c2]
    simp only [wS_rai, wS_try, scope_bl, scope_int, scope_str, scope_non, wpM_ok, wpM_exc, trunc_same, and_self, if_true, if_false, Bool.false_eq_true, reduceIte, wS_setS, wS_seq, wS_if, wS_asg, wS_exS, wS_retS, wS_nxS, wS_nx, wS_ret, wpM_op2, wpM_op1, wpM_asT, wpM_trt, wpM_notT, wpM_andT, wpM_orT, wpM_andV, wpM_notE, wpM_ifE, wpM_lnil, wpM_lcons, wpM_tupE, wpM_lstF, wpM_frz, wpM_new, wpM_cal, wpM_calB, wpM_calF, wpM_isiE, wpM_vr, wpM_ct, wpM_meth, wpM_chn, wpM_cut, wpM_cutF, wpM_ono, wpM_osm, wpM_revT, wpM_lfE, wS_for, tgN, List.getElem?_cons_zero, List.getElem?_cons_succ, List.set_cons_zero, List.set_cons_succ, List.map_cons, List.map_nil, List.length_cons, List.length_nil, List.replicate_succ, List.replicate_zero, Nat.reduceAdd, Nat.reduceSub, List.cons_append, List.nil_append, hTt, tru]
    rcases Bool.eq_false_or_eq_true (isT t) with c3 | c3
    rotate_left
    · rw [c3]
      simp only [Bool.not_false]
      simp only [wS_rai, wS_try, scope_bl, scope_int, scope_str, scope_non, wpM_ok, wpM_exc, trunc_same, and_self, if_true, if_false, Bool.false_eq_true, reduceIte, wS_setS, wS_seq, wS_if, wS_asg, wS_exS, wS_retS, wS_nxS, wS_nx, wS_ret, wpM_op2, wpM_op1, wpM_asT, wpM_trt, wpM_notT, wpM_andT, wpM_orT, wpM_andV, wpM_notE, wpM_ifE, wpM_lnil, wpM_lcons, wpM_tupE, wpM_lstF, wpM_frz, wpM_new, wpM_cal, wpM_calB, wpM_calF, wpM_isiE, wpM_vr, wpM_ct, wpM_meth, wpM_chn, wpM_cut, wpM_cutF, wpM_ono, wpM_osm, wpM_revT, wpM_lfE, wS_for, tgN, List.getElem?_cons_zero, List.getElem?_cons_succ, List.set_cons_zero, List.set_cons_succ, List.map_cons, List.map_nil, List.length_cons, List.length_nil, List.replicate_succ, List.replicate_zero, Nat.reduceAdd, Nat.reduceSub, List.cons_append, List.nil_append, ixT2, len_tup, add_int, List.length_map]
      have a1 : (0 : Int) < (ts.length : Int) + 1 := by omega
      have a2 : (ts.length : Int) + 1 < 1073741824 := by omega
      refine pick_wp hG3 a1 a2 ?_
      intro pl G4 m4 hG4 p0 p1
      have cl := @cutL_len (List.map trip ts) none (some pl)
      rw [List.length_map] at cl
      have ea : ∀ S, o_add S (.tup (List.map trip ts)) (.tup (cutL (List.map trip ts) none (some pl))) = some (.tup (List.map trip ts ++ cutL (List.map trip ts) none (some pl))) := fun S => add_tup (by rw [List.length_map]; omega)
      have el : ∀ S, o_listA S [.tup (List.map trip ts)] = some (List.map trip ts) := fun S => rfl
      simp only [wS_rai, wS_try, scope_bl, scope_int, scope_str, scope_non, wpM_ok, wpM_exc, trunc_same, and_self, if_true, if_false, Bool.false_eq_true, reduceIte, wS_setS, wS_seq, wS_if, wS_asg, wS_exS, wS_retS, wS_nxS, wS_nx, wS_ret, wpM_op2, wpM_op1, wpM_asT, wpM_trt, wpM_notT, wpM_andT, wpM_orT, wpM_andV, wpM_notE, wpM_ifE, wpM_lnil, wpM_lcons, wpM_tupE, wpM_lstF, wpM_frz, wpM_new, wpM_cal, wpM_calB, wpM_calF, wpM_isiE, wpM_vr, wpM_ct, wpM_meth, wpM_chn, wpM_cut, wpM_cutF, wpM_ono, wpM_osm, wpM_revT, wpM_lfE, wS_for, tgN, List.getElem?_cons_zero, List.getElem?_cons_succ, List.set_cons_zero, List.set_cons_succ, List.map_cons, List.map_nil, List.length_cons, List.length_nil, List.replicate_succ, List.replicate_zero, Nat.reduceAdd, Nat.reduceSub, List.cons_append, List.nil_append, ixT2, el, cut_tup, ea, q7]
      refine pick_wp hG4 (by decide) (by decide) ?_
      intro y G5 m5 hG5 y0 y1
      obtain ⟨dd, hdd, e⟩ := ix_lst (ds := [.lst (List.map trip ts), .non, .tup (List.map trip ts).reverse, .tup (List.map trip ts ++ cutL (List.map trip ts) none (some pl)), .str (Str.ofString "abc"), .tup (cutL (List.map trip ts) none (some pl)), .int 3]) y0 y1
      rw [e]
      have f0 := trips_fd (ts := ts)
      have f1 : fdL (List.map trip ts).reverse = true := fdL_mem.mpr fun x hx => fdL_mem.mp f0 x (List.mem_reverse.mp hx)
      have f2 := fdL_cut (lo := none) (hi := some pl) f0
      have f3 := fdL_app f0 f2
      have hfd : fd dd = true := by
        refine fdL_mem.mp ?_ dd hdd
        simp only [fdL, fd, f0, f1, f2, f3, Bool.and_true, Bool.true_and]
        decide
      simp only [wS_rai, wS_try, scope_bl, scope_int, scope_str, scope_non, wpM_ok, wpM_exc, trunc_same, and_self, if_true, if_false, Bool.false_eq_true, reduceIte, wS_setS, wS_seq, wS_if, wS_asg, wS_exS, wS_retS, wS_nxS, wS_nx, wS_ret, wpM_op2, wpM_op1, wpM_asT, wpM_trt, wpM_notT, wpM_andT, wpM_orT, wpM_andV, wpM_notE, wpM_ifE, wpM_lnil, wpM_lcons, wpM_tupE, wpM_lstF, wpM_frz, wpM_new, wpM_cal, wpM_calB, wpM_calF, wpM_isiE, wpM_vr, wpM_ct, wpM_meth, wpM_chn, wpM_cut, wpM_cutF, wpM_ono, wpM_osm, wpM_revT, wpM_lfE, wS_for, tgN, List.getElem?_cons_zero, List.getElem?_cons_succ, List.set_cons_zero, List.set_cons_succ, List.map_cons, List.map_nil, List.length_cons, List.length_nil, List.replicate_succ, List.replicate_zero, Nat.reduceAdd, Nat.reduceSub, List.cons_append, List.nil_append]
      refine ⟨G5, m5, _, _, _, _, _, _, _, rfl, rfl, hG5, hs, he, hes, hfd, fun ss hss => ?_⟩
      subst hss
      simp only [List.mem_cons, List.not_mem_nil, or_false, D.tup.injEq, reduceCtorEq, false_or] at hdd
      rcases hdd with rfl | rfl | rfl
      · exact ⟨by rw [List.length_reverse, List.length_map]; omega, fun h e => h (by rw [e]; rfl)⟩
      · exact ⟨by rw [List.length_append, List.length_map]; omega, fun h e => h (by rw [e]; simp [cutL])⟩
      · exact ⟨by omega, fun h e => h (by rw [e]; simp [cutL])⟩
    rw [c3]
    obtain ⟨ss, rfl⟩ := isT_ex c3
    obtain ⟨hsl1, hsl2⟩ := hts ss rfl
    have hj3 : j ≤ 3 := by
      rw [hn, show (1 + (n : Int)) = ((1 + n : Nat) : Int) by omega] at hj
      have := (rgL_get hj).2
      omega
    simp only [Bool.not_true, wS_rai, wS_try, scope_bl, scope_int, scope_str, scope_non, wpM_ok, wpM_exc, trunc_same, and_self, if_true, if_false, Bool.false_eq_true, reduceIte, wS_setS, wS_seq, wS_if, wS_asg, wS_exS, wS_retS, wS_nxS, wS_nx, wS_ret, wpM_op2, wpM_op1, wpM_asT, wpM_trt, wpM_notT, wpM_andT, wpM_orT, wpM_andV, wpM_notE, wpM_ifE, wpM_lnil, wpM_lcons, wpM_tupE, wpM_lstF, wpM_frz, wpM_new, wpM_cal, wpM_calB, wpM_calF, wpM_isiE, wpM_vr, wpM_ct, wpM_meth, wpM_chn, wpM_cut, wpM_cutF, wpM_ono, wpM_osm, wpM_revT, wpM_lfE, wS_for, tgN, List.getElem?_cons_zero, List.getElem?_cons_succ, List.set_cons_zero, List.set_cons_succ, List.map_cons, List.map_nil, List.length_cons, List.length_nil, List.replicate_succ, List.replicate_zero, Nat.reduceAdd, Nat.reduceSub, List.cons_append, List.nil_append, tru]
    cases hse : ss.isEmpty with
    | true =>
      simp only [Bool.not_true, wS_rai, wS_try, scope_bl, scope_int, scope_str, scope_non, wpM_ok, wpM_exc, trunc_same, and_self, if_true, if_false, Bool.false_eq_true, reduceIte, wS_setS, wS_seq, wS_if, wS_asg, wS_exS, wS_retS, wS_nxS, wS_nx, wS_ret, wpM_op2, wpM_op1, wpM_asT, wpM_trt, wpM_notT, wpM_andT, wpM_orT, wpM_andV, wpM_notE, wpM_ifE, wpM_lnil, wpM_lcons, wpM_tupE, wpM_lstF, wpM_frz, wpM_new, wpM_cal, wpM_calB, wpM_calF, wpM_isiE, wpM_vr, wpM_ct, wpM_meth, wpM_chn, wpM_cut, wpM_cutF, wpM_ono, wpM_osm, wpM_revT, wpM_lfE, wS_for, tgN, List.getElem?_cons_zero, List.getElem?_cons_succ, List.set_cons_zero, List.set_cons_succ, List.map_cons, List.map_nil, List.length_cons, List.length_nil, List.replicate_succ, List.replicate_zero, Nat.reduceAdd, Nat.reduceSub, List.cons_append, List.nil_append]
      exact ⟨G3, m3, _, _, _, _, _, _, _, rfl, rfl, hG3, hs, he, hes, ht, fun ss' hss => ⟨by have := (hts ss' hss).1; omega, (hts ss' hss).2⟩⟩
    | false =>
      have hne : ss ≠ [] := fun e => by rw [e] at hse; cases hse
      have htn : 0 < ts.length := List.length_pos_iff.mpr (hsl2 hne)
      have hsn : 0 < ss.length := List.length_pos_iff.mpr hne
      simp only [Bool.not_false, wS_rai, wS_try, scope_bl, scope_int, scope_str, scope_non, wpM_ok, wpM_exc, trunc_same, and_self, if_true, if_false, Bool.false_eq_true, reduceIte, wS_setS, wS_seq, wS_if, wS_asg, wS_exS, wS_retS, wS_nxS, wS_nx, wS_ret, wpM_op2, wpM_op1, wpM_asT, wpM_trt, wpM_notT, wpM_andT, wpM_orT, wpM_andV, wpM_notE, wpM_ifE, wpM_lnil, wpM_lcons, wpM_tupE, wpM_lstF, wpM_frz, wpM_new, wpM_cal, wpM_calB, wpM_calF, wpM_isiE, wpM_vr, wpM_ct, wpM_meth, wpM_chn, wpM_cut, wpM_cutF, wpM_ono, wpM_osm, wpM_revT, wpM_lfE, wS_for, tgN, List.getElem?_cons_zero, List.getElem?_cons_succ, List.set_cons_zero, List.set_cons_succ, List.map_cons, List.map_nil, List.length_cons, List.length_nil, List.replicate_succ, List.replicate_zero, Nat.reduceAdd, Nat.reduceSub, List.cons_append, List.nil_append, o_cmp]
      rcases Bool.eq_false_or_eq_true (decide (kd < 7)) with c4 | c4
      rotate_left
      · rw [c4]
        simp only [wS_rai, wS_try, scope_bl, scope_int, scope_str, scope_non, wpM_ok, wpM_exc, trunc_same, and_self, if_true, if_false, Bool.false_eq_true, reduceIte, wS_setS, wS_seq, wS_if, wS_asg, wS_exS, wS_retS, wS_nxS, wS_nx, wS_ret, wpM_op2, wpM_op1, wpM_asT, wpM_trt, wpM_notT, wpM_andT, wpM_orT, wpM_andV, wpM_notE, wpM_ifE, wpM_lnil, wpM_lcons, wpM_tupE, wpM_lstF, wpM_frz, wpM_new, wpM_cal, wpM_calB, wpM_calF, wpM_isiE, wpM_vr, wpM_ct, wpM_meth, wpM_chn, wpM_cut, wpM_cutF, wpM_ono, wpM_osm, wpM_revT, wpM_lfE, wS_for, tgN, List.getElem?_cons_zero, List.getElem?_cons_succ, List.set_cons_zero, List.set_cons_succ, List.map_cons, List.map_nil, List.length_cons, List.length_nil, List.replicate_succ, List.replicate_zero, Nat.reduceAdd, Nat.reduceSub, List.cons_append, List.nil_append]
        exact ⟨G3, m3, _, _, _, _, _, _, _, rfl, rfl, hG3, hs, he, hes, ht, fun ss' hss => ⟨by have := (hts ss' hss).1; omega, (hts ss' hss).2⟩⟩
      rw [c4]
      simp only [wS_rai, wS_try, scope_bl, scope_int, scope_str, scope_non, wpM_ok, wpM_exc, trunc_same, and_self, if_true, if_false, Bool.false_eq_true, reduceIte, wS_setS, wS_seq, wS_if, wS_asg, wS_exS, wS_retS, wS_nxS, wS_nx, wS_ret, wpM_op2, wpM_op1, wpM_asT, wpM_trt, wpM_notT, wpM_andT, wpM_orT, wpM_andV, wpM_notE, wpM_ifE, wpM_lnil, wpM_lcons, wpM_tupE, wpM_lstF, wpM_frz, wpM_new, wpM_cal, wpM_calB, wpM_calF, wpM_isiE, wpM_vr, wpM_ct, wpM_meth, wpM_chn, wpM_cut, wpM_cutF, wpM_ono, wpM_osm, wpM_revT, wpM_lfE, wS_for, tgN, List.getElem?_cons_zero, List.getElem?_cons_succ, List.set_cons_zero, List.set_cons_succ, List.map_cons, List.map_nil, List.length_cons, List.length_nil, List.replicate_succ, List.replicate_zero, Nat.reduceAdd, Nat.reduceSub, List.cons_append, List.nil_append, len_tup]
      have a1 : (0 : Int) < (ss.length : Int) := by omega
      have a2 : (ss.length : Int) < 1073741824 := by omega
      refine pick_wp hG3 a1 a2 ?_
      intro pl G4 m4 hG4 p0 p1
      simp only [wS_rai, wS_try, scope_bl, scope_int, scope_str, scope_non, wpM_ok, wpM_exc, trunc_same, and_self, if_true, if_false, Bool.false_eq_true, reduceIte, wS_setS, wS_seq, wS_if, wS_asg, wS_exS, wS_retS, wS_nxS, wS_nx, wS_ret, wpM_op2, wpM_op1, wpM_asT, wpM_trt, wpM_notT, wpM_andT, wpM_orT, wpM_andV, wpM_notE, wpM_ifE, wpM_lnil, wpM_lcons, wpM_tupE, wpM_lstF, wpM_frz, wpM_new, wpM_cal, wpM_calB, wpM_calF, wpM_isiE, wpM_vr, wpM_ct, wpM_meth, wpM_chn, wpM_cut, wpM_cutF, wpM_ono, wpM_osm, wpM_revT, wpM_lfE, wS_for, tgN, List.getElem?_cons_zero, List.getElem?_cons_succ, List.set_cons_zero, List.set_cons_succ, List.map_cons, List.map_nil, List.length_cons, List.length_nil, List.replicate_succ, List.replicate_zero, Nat.reduceAdd, Nat.reduceSub, List.cons_append, List.nil_append, ixT2, len_tup, o_sub, o_min2, List.length_map]
      obtain ⟨ix, hix, hixl⟩ : ∃ i : Nat, (if (ts.length : Int) - 1 < pl then (ts.length : Int) - 1 else pl) = (i : Int) ∧ i < ts.length := by
        split
        · exact ⟨ts.length - 1, by omega, by omega⟩
        · exact ⟨pl.toNat, by omega, by omega⟩
      have hget : (List.map trip ts)[ix]? = some (trip ts[ix]) := by rw [List.getElem?_map, List.getElem?_eq_getElem hixl]; rfl
      rw [hix, ixT hget]
      simp only [wS_rai, wS_try, scope_bl, scope_int, scope_str, scope_non, wpM_ok, wpM_exc, trunc_same, and_self, if_true, if_false, Bool.false_eq_true, reduceIte, wS_setS, wS_seq, wS_if, wS_asg, wS_exS, wS_retS, wS_nxS, wS_nx, wS_ret, wpM_op2, wpM_op1, wpM_asT, wpM_trt, wpM_notT, wpM_andT, wpM_orT, wpM_andV, wpM_notE, wpM_ifE, wpM_lnil, wpM_lcons, wpM_tupE, wpM_lstF, wpM_frz, wpM_new, wpM_cal, wpM_calB, wpM_calF, wpM_isiE, wpM_vr, wpM_ct, wpM_meth, wpM_chn, wpM_cut, wpM_cutF, wpM_ono, wpM_osm, wpM_revT, wpM_lfE, wS_for, tgN, List.getElem?_cons_zero, List.getElem?_cons_succ, List.set_cons_zero, List.set_cons_succ, List.map_cons, List.map_nil, List.length_cons, List.length_nil, List.replicate_succ, List.replicate_zero, Nat.reduceAdd, Nat.reduceSub, List.cons_append, List.nil_append, cut_tup, ixT0]
      refine bstep_wp hG4 hL hst1 (by omega) ?_
      intro x G5 m5 hG5 hx
      have b1 := @cutL_len ss none (some pl)
      simp only [wS_rai, wS_try, scope_bl, scope_int, scope_str, scope_non, wpM_ok, wpM_exc, trunc_same, and_self, if_true, if_false, Bool.false_eq_true, reduceIte, wS_setS, wS_seq, wS_if, wS_asg, wS_exS, wS_retS, wS_nxS, wS_nx, wS_ret, wpM_op2, wpM_op1, wpM_asT, wpM_trt, wpM_notT, wpM_andT, wpM_orT, wpM_andV, wpM_notE, wpM_ifE, wpM_lnil, wpM_lcons, wpM_tupE, wpM_lstF, wpM_frz, wpM_new, wpM_cal, wpM_calB, wpM_calF, wpM_isiE, wpM_vr, wpM_ct, wpM_meth, wpM_chn, wpM_cut, wpM_cutF, wpM_ono, wpM_osm, wpM_revT, wpM_lfE, wS_for, tgN, List.getElem?_cons_zero, List.getElem?_cons_succ, List.set_cons_zero, List.set_cons_succ, List.map_cons, List.map_nil, List.length_cons, List.length_nil, List.replicate_succ, List.replicate_zero, Nat.reduceAdd, Nat.reduceSub, List.cons_append, List.nil_append, q1, o_int, add_int, o_cmp]
      have hlen : ∀ q : Int, pl ≤ q → q ≤ pl + 1 → (cutL ss none (some pl)).length + (cutL ss (some q) none).length ≤ ss.length := fun q q1 q2 => by
        obtain ⟨i, hi⟩ := Int.eq_ofNat_of_zero_le p0
        obtain ⟨i', hi'⟩ := Int.eq_ofNat_of_zero_le (show 0 ≤ q by omega)
        unfold cutL
        rw [HT.sIx_none, HT.sIx_none, hi, hi', HT.sIx_nat, HT.sIx_nat]
        simp only [List.length_take, List.length_drop]
        omega
      generalize hq : (pl + if decide (kd < 6) = true then 1 else 0) = q
      have hq1 : pl ≤ q ∧ q ≤ pl + 1 := by
        rw [← hq]; split <;> omega
      have hl2 := hlen q hq1.1 hq1.2
      rw [add_tup (by rw [List.length_singleton]; omega)]
      simp only [wS_rai, wS_try, scope_bl, scope_int, scope_str, scope_non, wpM_ok, wpM_exc, trunc_same, and_self, if_true, if_false, Bool.false_eq_true, reduceIte, wS_setS, wS_seq, wS_if, wS_asg, wS_exS, wS_retS, wS_nxS, wS_nx, wS_ret, wpM_op2, wpM_op1, wpM_asT, wpM_trt, wpM_notT, wpM_andT, wpM_orT, wpM_andV, wpM_notE, wpM_ifE, wpM_lnil, wpM_lcons, wpM_tupE, wpM_lstF, wpM_frz, wpM_new, wpM_cal, wpM_calB, wpM_calF, wpM_isiE, wpM_vr, wpM_ct, wpM_meth, wpM_chn, wpM_cut, wpM_cutF, wpM_ono, wpM_osm, wpM_revT, wpM_lfE, wS_for, tgN, List.getElem?_cons_zero, List.getElem?_cons_succ, List.set_cons_zero, List.set_cons_succ, List.map_cons, List.map_nil, List.length_cons, List.length_nil, List.replicate_succ, List.replicate_zero, Nat.reduceAdd, Nat.reduceSub, List.cons_append, List.nil_append, cut_tup]
      rw [add_tup (by rw [List.length_append, List.length_singleton]; omega)]
      have hf2 : fd (.tup (cutL ss none (some pl) ++ [x] ++ cutL ss (some q) none)) = true := fdL_app (fdL_app (fdL_cut ht) (fdL_one hx)) (fdL_cut ht)
      simp only [wS_rai, wS_try, scope_bl, scope_int, scope_str, scope_non, wpM_ok, wpM_exc, trunc_same, and_self, if_true, if_false, Bool.false_eq_true, reduceIte, wS_setS, wS_seq, wS_if, wS_asg, wS_exS, wS_retS, wS_nxS, wS_nx, wS_ret, wpM_op2, wpM_op1, wpM_asT, wpM_trt, wpM_notT, wpM_andT, wpM_orT, wpM_andV, wpM_notE, wpM_ifE, wpM_lnil, wpM_lcons, wpM_tupE, wpM_lstF, wpM_frz, wpM_new, wpM_cal, wpM_calB, wpM_calF, wpM_isiE, wpM_vr, wpM_ct, wpM_meth, wpM_chn, wpM_cut, wpM_cutF, wpM_ono, wpM_osm, wpM_revT, wpM_lfE, wS_for, tgN, List.getElem?_cons_zero, List.getElem?_cons_succ, List.set_cons_zero, List.set_cons_succ, List.map_cons, List.map_nil, List.length_cons, List.length_nil, List.replicate_succ, List.replicate_zero, Nat.reduceAdd, Nat.reduceSub, List.cons_append, List.nil_append]
      refine ⟨G5, m5, _, _, _, _, _, _, _, rfl, rfl, hG5, hs, he, hes, hf2, fun ss' hss => ?_⟩
      cases hss
      exact ⟨by simp only [List.length_append, List.length_singleton]; omega, fun _ => hsl2 hne⟩
  · rintro env S' ⟨G2, m2, s, e, t, e6, e7, e8, e9, rfl, rfl, hG2, hs, he, hes, ht, hts⟩
    refine ⟨okSrc_nil, ?_⟩
    simp only [wS_rai, wS_try, scope_bl, scope_int, scope_str, scope_non, wpM_ok, wpM_exc, trunc_same, and_self, if_true, if_false, Bool.false_eq_true, reduceIte, wS_setS, wS_seq, wS_if, wS_asg, wS_exS, wS_retS, wS_nxS, wS_nx, wS_ret, wpM_op2, wpM_op1, wpM_asT, wpM_trt, wpM_notT, wpM_andT, wpM_orT, wpM_andV, wpM_notE, wpM_ifE, wpM_lnil, wpM_lcons, wpM_tupE, wpM_lstF, wpM_frz, wpM_new, wpM_cal, wpM_calB, wpM_calF, wpM_isiE, wpM_vr, wpM_ct, wpM_meth, wpM_chn, wpM_cut, wpM_cutF, wpM_ono, wpM_osm, wpM_revT, wpM_lfE, wS_for, tgN, List.getElem?_cons_zero, List.getElem?_cons_succ, List.set_cons_zero, List.set_cons_succ, List.map_cons, List.map_nil, List.length_cons, List.length_nil, List.replicate_succ, List.replicate_zero, Nat.reduceAdd, Nat.reduceSub, List.cons_append, List.nil_append, q3]
    have hf := fd3 hs he ht
    rw [scope_pure (fd_pure _ hf), wpM_ok, trunc_P0]
    refine k _ G2 m2 hG2 ⟨hf, fun s' ends' steps' hh => ?_⟩
    cases hh
    have a1 := hes ends' rfl
    have a2 := (hts steps' rfl).1
    rw [hn, show (1 + (n : Int)) = ((1 + n : Nat) : Int) by omega, rgL_len] at a2
    exact ⟨by omega, by omega⟩
end
end Z

set_option Elab.async false
set_option linter.all false
set_option maxRecDepth 100000
set_option maxHeartbeats 4000000
set_option autoImplicit false
namespace Z
open PySem PySem.Spec L2 Y PySem.W
section
variable {S : Sto} {rest : Sto} {G : List Int} {m : Int} {L : Str} {Q : D → Sto → Prop} {E : Str → List (Str × D) → Sto → Prop}
theorem int_of_mem {ns : List Int} {d : D} {lo hi : Option Int} (h : d ∈ cutL (ns.map D.int) lo hi) : ∃ i, d = .int i := by
  obtain ⟨i, _, e⟩ := List.mem_map.mp (cutL_mem h)
  exact ⟨i, e.symm⟩
theorem shl_ok : o_shl S (.int 1) (.int 2000) = some (.int (1 * 2 ^ (2000 : Int).toNat)) := by
  simp only [o_shl]
  rw [if_pos (by decide)]
theorem big_pos : (0 : Int) < 1 * 2 ^ (2000 : Int).toNat := by
  rw [Int.one_mul]
  exact Int.pow_pos (by decide)
theorem pool_wp {ns : List Int} (hn : ns.length ≤ 63) (k : ∀ G m, GoodP G m → Q (.ref 1) (PSt G m [])) : wpM (M__law_pool [.lst (ns.map D.int)] []) Q E := by
  have hsl := sizeLine_eq
  have q0 : 0 ≤ sizeLine := by omega
  have q2 : 2 ≤ sizeLine := by omega
  unfold M__law_pool
  refine wpM_run ?_
  unfold m__law_pool
  simp only [wS_rai, wS_try, scope_bl, scope_int, scope_str, scope_non, wpM_ok, wpM_exc, trunc_same, and_self, if_true, if_false, Bool.false_eq_true, reduceIte, wS_setS, wS_seq, wS_if, wS_asg, wS_exS, wS_retS, wS_nxS, wS_nx, wS_ret, wpM_op2, wpM_op1, wpM_asT, wpM_trt, wpM_notT, wpM_andT, wpM_orT, wpM_andV, wpM_notE, wpM_ifE, wpM_lnil, wpM_lcons, wpM_tupE, wpM_lstF, wpM_frz, wpM_new, wpM_cal, wpM_calB, wpM_calF, wpM_isiE, wpM_vr, wpM_ct, wpM_meth, wpM_chn, wpM_cut, wpM_cutF, wpM_ono, wpM_osm, wpM_revT, wpM_lfE, wS_for, tgN, List.getElem?_cons_zero, List.getElem?_cons_succ, List.set_cons_zero, List.set_cons_succ, List.map_cons, List.map_nil, List.length_cons, List.length_nil, List.replicate_succ, List.replicate_zero, Nat.reduceAdd, Nat.reduceSub, List.cons_append, List.nil_append, q0, i_of, wpM_bdE, lstOf, Option.map_some, srcOf]
  refine wS_loop (fun i env S' => ∃ G m e3 e4, env = [some (.lst (ns.map D.int)), some (.ref 0), some (.int m), e3, e4] ∧ S' = [some (.lst (G.map D.int))] ∧ GoodP G m ∧ G.length ≤ i) _ 0 _ _ ⟨[], 71993, none, none, rfl, rfl, ⟨(fun g hg => by cases hg), by decide, by decide⟩, Nat.le_refl _⟩ ?_ ?_
  · rintro j d env S' hj ⟨G, m, e3, e4, rfl, rfl, hG, hl⟩
    refine ⟨okSrc_nil, _, rfl, ?_⟩
    obtain ⟨i, rfl⟩ := int_of_mem (List.mem_of_getElem? hj)
    have hjl : j < 63 := by
      have h1 := (List.getElem?_eq_some_iff.mp hj).1
      have h2 := @cutL_len (ns.map D.int) none (some 63)
      rw [List.length_map] at h2
      omega
    simp only [wS_rai, wS_try, scope_bl, scope_int, scope_str, scope_non, wpM_ok, wpM_exc, trunc_same, and_self, if_true, if_false, Bool.false_eq_true, reduceIte, wS_setS, wS_seq, wS_if, wS_asg, wS_exS, wS_retS, wS_nxS, wS_nx, wS_ret, wpM_op2, wpM_op1, wpM_asT, wpM_trt, wpM_notT, wpM_andT, wpM_orT, wpM_andV, wpM_notE, wpM_ifE, wpM_lnil, wpM_lcons, wpM_tupE, wpM_lstF, wpM_frz, wpM_new, wpM_cal, wpM_calB, wpM_calF, wpM_isiE, wpM_vr, wpM_ct, wpM_meth, wpM_chn, wpM_cut, wpM_cutF, wpM_ono, wpM_osm, wpM_revT, wpM_lfE, wS_for, tgN, List.getElem?_cons_zero, List.getElem?_cons_succ, List.set_cons_zero, List.set_cons_succ, List.map_cons, List.map_nil, List.length_cons, List.length_nil, List.replicate_succ, List.replicate_zero, Nat.reduceAdd, Nat.reduceSub, List.cons_append, List.nil_append, o_int, o_abs, shl_ok, o_mod, big_pos]
    generalize hN : (if i < 0 then -i else i) % (1 * 2 ^ (2000 : Int).toNat) = N
    have hN0 : 0 ≤ N := by rw [← hN]; exact Int.emod_nonneg _ (by have := big_pos; omega)
    have hm := mul_ok (a := m) (b := 23011) hG.2.1 (by have := hG.2.2; omega)
    simp only [wS_rai, wS_try, scope_bl, scope_int, scope_str, scope_non, wpM_ok, wpM_exc, trunc_same, and_self, if_true, if_false, Bool.false_eq_true, reduceIte, wS_setS, wS_seq, wS_if, wS_asg, wS_exS, wS_retS, wS_nxS, wS_nx, wS_ret, wpM_op2, wpM_op1, wpM_asT, wpM_trt, wpM_notT, wpM_andT, wpM_orT, wpM_andV, wpM_notE, wpM_ifE, wpM_lnil, wpM_lcons, wpM_tupE, wpM_lstF, wpM_frz, wpM_new, wpM_cal, wpM_calB, wpM_calF, wpM_isiE, wpM_vr, wpM_ct, wpM_meth, wpM_chn, wpM_cut, wpM_cutF, wpM_ono, wpM_osm, wpM_revT, wpM_lfE, wS_for, tgN, List.getElem?_cons_zero, List.getElem?_cons_succ, List.set_cons_zero, List.set_cons_succ, List.map_cons, List.map_nil, List.length_cons, List.length_nil, List.replicate_succ, List.replicate_zero, Nat.reduceAdd, Nat.reduceSub, List.cons_append, List.nil_append, o_mul, hm, o_add, o_mod, show ((0 : Int) < 1800000017) from by decide, show ((0 : Int) < 2147483399) from by decide, o_pow, o_cmp]
    rw [if_pos (by decide)]
    simp only [wS_rai, wS_try, scope_bl, scope_int, scope_str, scope_non, wpM_ok, wpM_exc, trunc_same, and_self, if_true, if_false, Bool.false_eq_true, reduceIte, wS_setS, wS_seq, wS_if, wS_asg, wS_exS, wS_retS, wS_nxS, wS_nx, wS_ret, wpM_op2, wpM_op1, wpM_asT, wpM_trt, wpM_notT, wpM_andT, wpM_orT, wpM_andV, wpM_notE, wpM_ifE, wpM_lnil, wpM_lcons, wpM_tupE, wpM_lstF, wpM_frz, wpM_new, wpM_cal, wpM_calB, wpM_calF, wpM_isiE, wpM_vr, wpM_ct, wpM_meth, wpM_chn, wpM_cut, wpM_cutF, wpM_ono, wpM_osm, wpM_revT, wpM_lfE, wS_for, tgN, List.getElem?_cons_zero, List.getElem?_cons_succ, List.set_cons_zero, List.set_cons_succ, List.map_cons, List.map_nil, List.length_cons, List.length_nil, List.replicate_succ, List.replicate_zero, Nat.reduceAdd, Nat.reduceSub, List.cons_append, List.nil_append, o_cmp]
    generalize hM : (m * 23011 + N % 1800000017 + 103) % 2147483399 = M
    have hM1 : 0 ≤ M ∧ M < 2147483399 := by
      rw [← hM]
      exact ⟨Int.emod_nonneg _ (by decide), Int.emod_lt_of_pos _ (by decide)⟩
    rcases Bool.eq_false_or_eq_true (decide ((10 : Int) ^ (18 : Int).toNat ≤ N)) with c | c
    · rw [c]
      have g0 : ([some (.lst (G.map D.int))] : Sto)[0]? = some (some (.lst (G.map D.int))) := rfl
      simp only [wS_rai, wS_try, scope_bl, scope_int, scope_str, scope_non, wpM_ok, wpM_exc, trunc_same, and_self, if_true, if_false, Bool.false_eq_true, reduceIte, wS_setS, wS_seq, wS_if, wS_asg, wS_exS, wS_retS, wS_nxS, wS_nx, wS_ret, wpM_op2, wpM_op1, wpM_asT, wpM_trt, wpM_notT, wpM_andT, wpM_orT, wpM_andV, wpM_notE, wpM_ifE, wpM_lnil, wpM_lcons, wpM_tupE, wpM_lstF, wpM_frz, wpM_new, wpM_cal, wpM_calB, wpM_calF, wpM_isiE, wpM_vr, wpM_ct, wpM_meth, wpM_chn, wpM_cut, wpM_cutF, wpM_ono, wpM_osm, wpM_revT, wpM_lfE, wS_for, tgN, List.getElem?_cons_zero, List.getElem?_cons_succ, List.set_cons_zero, List.set_cons_succ, List.map_cons, List.map_nil, List.length_cons, List.length_nil, List.replicate_succ, List.replicate_zero, Nat.reduceAdd, Nat.reduceSub, List.cons_append, List.nil_append]
      rw [if_pos (tyL g0), app_at g0 (by rw [List.length_map]; omega)]
      simp only [wS_rai, wS_try, scope_bl, scope_int, scope_str, scope_non, wpM_ok, wpM_exc, trunc_same, and_self, if_true, if_false, Bool.false_eq_true, reduceIte, wS_setS, wS_seq, wS_if, wS_asg, wS_exS, wS_retS, wS_nxS, wS_nx, wS_ret, wpM_op2, wpM_op1, wpM_asT, wpM_trt, wpM_notT, wpM_andT, wpM_orT, wpM_andV, wpM_notE, wpM_ifE, wpM_lnil, wpM_lcons, wpM_tupE, wpM_lstF, wpM_frz, wpM_new, wpM_cal, wpM_calB, wpM_calF, wpM_isiE, wpM_vr, wpM_ct, wpM_meth, wpM_chn, wpM_cut, wpM_cutF, wpM_ono, wpM_osm, wpM_revT, wpM_lfE, wS_for, tgN, List.getElem?_cons_zero, List.getElem?_cons_succ, List.set_cons_zero, List.set_cons_succ, List.map_cons, List.map_nil, List.length_cons, List.length_nil, List.replicate_succ, List.replicate_zero, Nat.reduceAdd, Nat.reduceSub, List.cons_append, List.nil_append]
      refine ⟨G ++ [N], M, _, _, rfl, by rw [List.map_append]; rfl, ⟨fun g hg => ?_, hM1.1, hM1.2⟩, by rw [List.length_append, List.length_singleton]; omega⟩
      rcases List.mem_append.mp hg with h | h
      · exact hG.1 g h
      · rw [List.mem_singleton.mp h]; exact hN0
    · rw [c]
      simp only [wS_rai, wS_try, scope_bl, scope_int, scope_str, scope_non, wpM_ok, wpM_exc, trunc_same, and_self, if_true, if_false, Bool.false_eq_true, reduceIte, wS_setS, wS_seq, wS_if, wS_asg, wS_exS, wS_retS, wS_nxS, wS_nx, wS_ret, wpM_op2, wpM_op1, wpM_asT, wpM_trt, wpM_notT, wpM_andT, wpM_orT, wpM_andV, wpM_notE, wpM_ifE, wpM_lnil, wpM_lcons, wpM_tupE, wpM_lstF, wpM_frz, wpM_new, wpM_cal, wpM_calB, wpM_calF, wpM_isiE, wpM_vr, wpM_ct, wpM_meth, wpM_chn, wpM_cut, wpM_cutF, wpM_ono, wpM_osm, wpM_revT, wpM_lfE, wS_for, tgN, List.getElem?_cons_zero, List.getElem?_cons_succ, List.set_cons_zero, List.set_cons_succ, List.map_cons, List.map_nil, List.length_cons, List.length_nil, List.replicate_succ, List.replicate_zero, Nat.reduceAdd, Nat.reduceSub, List.cons_append, List.nil_append]
      exact ⟨G, M, _, _, rfl, rfl, ⟨hG.1, hM1.1, hM1.2⟩, by omega⟩
  · rintro env S' ⟨G, m, e3, e4, rfl, rfl, hG, hl⟩
    refine ⟨okSrc_nil, ?_⟩
    simp only [wS_rai, wS_try, scope_bl, scope_int, scope_str, scope_non, wpM_ok, wpM_exc, trunc_same, and_self, if_true, if_false, Bool.false_eq_true, reduceIte, wS_setS, wS_seq, wS_if, wS_asg, wS_exS, wS_retS, wS_nxS, wS_nx, wS_ret, wpM_op2, wpM_op1, wpM_asT, wpM_trt, wpM_notT, wpM_andT, wpM_orT, wpM_andV, wpM_notE, wpM_ifE, wpM_lnil, wpM_lcons, wpM_tupE, wpM_lstF, wpM_frz, wpM_new, wpM_cal, wpM_calB, wpM_calF, wpM_isiE, wpM_vr, wpM_ct, wpM_meth, wpM_chn, wpM_cut, wpM_cutF, wpM_ono, wpM_osm, wpM_revT, wpM_lfE, wS_for, tgN, List.getElem?_cons_zero, List.getElem?_cons_succ, List.set_cons_zero, List.set_cons_succ, List.map_cons, List.map_nil, List.length_cons, List.length_nil, List.replicate_succ, List.replicate_zero, Nat.reduceAdd, Nat.reduceSub, List.cons_append, List.nil_append, q2]
    exact k G m hG
theorem mok_fault {most : Int} {d : D} (h : MOk L most d) (hm : most ≤ 40) : faultF L d = none ∧ d.pure = true ∧ Fine d ∧ ∃ st ends steps, d = .tup [.int st, .tup ends, .tup steps] := by
  obtain ⟨st, ends, ts, rfl, h1, h2, h3, h4, h5, h6, h7, h8⟩ := h.ex
  have f1 : fdL ((ts.map trip).mergeSort leD) = true := fdL_mem.mpr fun d hd => fdL_mem.mp trips_fd d (List.mem_mergeSort.mp hd)
  have f2 := fd3 (a := .int st) rfl (show fd (.tup ends) = true from rising_fd _ _ h3) (show fd (.tup ((ts.map trip).mergeSort leD)) = true from f1)
  have hl : ((ts.map trip).mergeSort leD).length ≤ 240 := by rw [List.length_mergeSort, List.length_map]; exact h8
  refine ⟨?_, fd_pure _ f2, ⟨f2, fun s e t hh => ?_⟩, _, _, _, rfl⟩
  · have hw : wholeF (.tup [.int st, .tup ends, .tup ((ts.map trip).mergeSort leD)]) = none := by
      rw [wholeF_3, decide_eq_true h1, decide_eq_true (show st ≤ 40 by omega), h3, if_pos rfl, if_pos (show (true && true) = true from rfl), if_neg (by omega)]
    unfold faultF
    rw [hw]
    exact steps_ok h6 h7
  · cases hh
    exact ⟨by omega, by omega⟩
theorem fine_told {d : D} (h : Fine d) (k : Q (toldD d (faultF L d)) S) : wpM (M__law_told [.str L, d] S) Q E := told_wp (fd_pure d h.1) (fd_Sm h.1) k
theorem fine_due {d : D} (h : Fine d) (k : Q (toldD d (faultF L d)) S) : wpM (M__law_due [.str L, d] S) Q E := due_wp (fd_pure d h.1) (fd_Sm h.1) h.2 k
end
end Z

set_option Elab.async false
set_option linter.all false
set_option maxRecDepth 100000
set_option maxHeartbeats 4000000
set_option autoImplicit false
namespace Z
open PySem PySem.Spec L2 Y PySem.W
section
variable {S : Sto} {rest X : Sto} {G : List Int} {m : Int} {L : Str} {Q : D → Sto → Prop} {E : Str → List (Str × D) → Sto → Prop}
theorem get2 {a b c : Option Ob} : (PSt G m (rest ++ (a :: b :: c :: X)))[rest.length + 2 + 2]? = some c := by rw [getX]; rfl
theorem fdL_rg {i j : Int} : fdL (rgL i j) = true := fdL_mem.mpr fun d hd => by
  unfold rgL at hd
  obtain ⟨n, _, rfl⟩ := List.mem_map.mp hd
  rfl
theorem wpM_tupRg {l : LM} {env : En} : wpM (tupRg l env S) Q E = wpM (l env S) (fun ds S1 => wpM (match ds with
  | [.int j] => if -(2 ^ 62) ≤ j ∧ j ≤ 2 ^ 24 then Res.ok (D.tup (rgL 0 j)) S1 else .err
  | _ => .err) Q E) E := by
  unfold tupRg; rw [wpM_bdE]; try rfl
theorem rg40 : ∀ S : Sto, (if -(2 ^ 62) ≤ (40 : Int) ∧ (40 : Int) ≤ 2 ^ 24 then Res.ok (D.tup (rgL 0 40)) S else .err) = .ok (.tup (rgL 0 40)) S := fun S => if_pos (by decide)
theorem rg41 : ∀ S : Sto, (if -(2 ^ 62) ≤ (41 : Int) ∧ (41 : Int) ≤ 2 ^ 24 then Res.ok (D.tup (rgL 0 41)) S else .err) = .ok (.tup (rgL 0 41)) S := fun S => if_pos (by decide)
theorem rgL_len40 : (rgL 0 40).length = 40 := by simp [rgL]
theorem rgL_len41 : (rgL 0 41).length = 41 := by simp [rgL]
theorem fine3 {s : Int} {e t : List D} (h1 : fdL e = true) (h2 : fdL t = true) (l1 : e.length ≤ 1000) (l2 : t.length ≤ 1000) : Fine (.tup [.int s, .tup e, .tup t]) := by
  refine ⟨fd3 rfl h1 h2, fun s e t h => ?_⟩
  cases h
  exact ⟨by omega, by omega⟩
theorem lst_at {n : Nat} {ds : List D} (h : S[n]? = some (some (.lst ds))) : lstOf S (.ref n) = some ds := by simp [lstOf, h]
theorem tup_lst {ds : List D} : o_tuple S [.lst ds] = some (.tup ds) := rfl
theorem cut_trips (us : List T3) (n : Nat) : ∃ as : List T3, cutL (us.map trip) none (some (n : Int)) = as.map trip ∧ as.length ≤ us.length ∧ (0 < us.length → 0 < n → 0 < as.length) := by
  refine ⟨us.take (min n us.length), ?_, by rw [List.length_take]; omega, fun h1 h2 => by rw [List.length_take]; omega⟩
  unfold cutL
  rw [HT.sIx_none, HT.sIx_nat, List.length_map, List.drop_zero, Nat.sub_zero, List.map_take]
theorem wS_seqP {a b : SM} {env : En} {k : SK} (P : En → Sto → Prop) (h1 : wS (a env S) ⟨P, k.bk, k.ct, k.rt, k.ex⟩) (h2 : ∀ e S, P e S → wS (b e S) k) : wS (seqS a b env S) k := by
  rw [wS_seq]
  revert h1
  cases a env S with
  | nx e S1 => exact fun h => h2 e S1 h
  | _ => exact fun h => h
theorem wide_wp (hG : GoodP G m) (hL : LOk L) (k : ∀ G' m', GoodP G' m' → Q (.bl true) (PSt G' m' rest)) : wpM (M__law_wide [.ref 1, .str L] (PSt G m rest)) Q E := by
  have hsl := sizeLine_eq
  have q0 : 0 ≤ sizeLine := by omega
  have q1 : 1 ≤ sizeLine := by omega
  have q3 : 3 ≤ sizeLine := by omega
  have q6 : 6 ≤ sizeLine := by omega
  have hcs := hL.2.1
  have hc1 := hL.1
  unfold M__law_wide
  refine wpM_fn ?_
  unfold m__law_wide
  simp only [List.map_cons, List.map_nil, List.length_cons, List.length_nil, Nat.reduceAdd, Nat.reduceSub, List.replicate_succ, List.replicate_zero, List.cons_append, List.nil_append]
  refine wS_seqP (fun e S' => e = [some (.ref 1), some (.str L), some (.ref (rest.length + 2 + 0)), none, none, none, none, none, none] ∧ S' = PSt G m (rest ++ [some (.lst [])])) ?_ ?_
  · simp only [wS_rai, wS_try, scope_bl, scope_int, scope_str, scope_non, wpM_ok, wpM_exc, trunc_same, and_self, if_true, if_false, Bool.false_eq_true, reduceIte, wS_setS, wS_seq, wS_if, wS_asg, wS_exS, wS_retS, wS_nxS, wS_nx, wS_ret, wpM_op2, wpM_op1, wpM_asT, wpM_trt, wpM_notT, wpM_andT, wpM_orT, wpM_andV, wpM_notE, wpM_ifE, wpM_lnil, wpM_lcons, wpM_tupE, wpM_lstF, wpM_frz, wpM_new, wpM_cal, wpM_calB, wpM_calF, wpM_isiE, wpM_vr, wpM_ct, wpM_meth, wpM_chn, wpM_cut, wpM_cutF, wpM_ono, wpM_osm, wpM_revT, wpM_lfE, wS_for, tgN, List.getElem?_cons_zero, List.getElem?_cons_succ, List.set_cons_zero, List.set_cons_succ, List.map_cons, List.map_nil, List.length_cons, List.length_nil, List.replicate_succ, List.replicate_zero, Nat.reduceAdd, Nat.reduceSub, List.cons_append, List.nil_append, q0]
    try exact ⟨by simp, by simp⟩
  rintro env S' ⟨rfl, rfl⟩
  refine wS_seqP (fun e S' => ∃ G3 m3 ts e3 e4, e = [some (.ref 1), some (.str L), some (.ref (rest.length + 2 + 0)), e3, e4, none, none, none, none] ∧ S' = PSt G3 m3 (rest ++ [some (.lst (List.map trip ts))]) ∧ GoodP G3 m3 ∧ ts.length ≤ 241 ∧ ts ≠ []) ?_ ?_
  · simp only [wS_rai, wS_try, scope_bl, scope_int, scope_str, scope_non, wpM_ok, wpM_exc, trunc_same, and_self, if_true, if_false, Bool.false_eq_true, reduceIte, wS_setS, wS_seq, wS_if, wS_asg, wS_exS, wS_retS, wS_nxS, wS_nx, wS_ret, wpM_op2, wpM_op1, wpM_asT, wpM_trt, wpM_notT, wpM_andT, wpM_orT, wpM_andV, wpM_notE, wpM_ifE, wpM_lnil, wpM_lcons, wpM_tupE, wpM_lstF, wpM_frz, wpM_new, wpM_cal, wpM_calB, wpM_calF, wpM_isiE, wpM_vr, wpM_ct, wpM_meth, wpM_chn, wpM_cut, wpM_cutF, wpM_ono, wpM_osm, wpM_revT, wpM_lfE, wS_for, tgN, List.getElem?_cons_zero, List.getElem?_cons_succ, List.set_cons_zero, List.set_cons_succ, List.map_cons, List.map_nil, List.length_cons, List.length_nil, List.replicate_succ, List.replicate_zero, Nat.reduceAdd, Nat.reduceSub, List.cons_append, List.nil_append, i_rg1, wpM_bdE]
    rw [if_pos (by decide)]
    obtain ⟨NN, hNN, hNp, hNl⟩ : ∃ N : Nat, (1000 : Int) = (N : Int) ∧ 0 < N ∧ N ≤ 1000 := ⟨1000, rfl, by decide, by decide⟩
    rw [hNN]
    simp only [wS_rai, wS_try, scope_bl, scope_int, scope_str, scope_non, wpM_ok, wpM_exc, trunc_same, and_self, if_true, if_false, Bool.false_eq_true, reduceIte, wS_setS, wS_seq, wS_if, wS_asg, wS_exS, wS_retS, wS_nxS, wS_nx, wS_ret, wpM_op2, wpM_op1, wpM_asT, wpM_trt, wpM_notT, wpM_andT, wpM_orT, wpM_andV, wpM_notE, wpM_ifE, wpM_lnil, wpM_lcons, wpM_tupE, wpM_lstF, wpM_frz, wpM_new, wpM_cal, wpM_calB, wpM_calF, wpM_isiE, wpM_vr, wpM_ct, wpM_meth, wpM_chn, wpM_cut, wpM_cutF, wpM_ono, wpM_osm, wpM_revT, wpM_lfE, wS_for, tgN, List.getElem?_cons_zero, List.getElem?_cons_succ, List.set_cons_zero, List.set_cons_succ, List.map_cons, List.map_nil, List.length_cons, List.length_nil, List.replicate_succ, List.replicate_zero, Nat.reduceAdd, Nat.reduceSub, List.cons_append, List.nil_append]
    refine wS_loop (fun i env S' => ∃ G' m' ts e3 e4, env = [some (.ref 1), some (.str L), some (.ref (rest.length + 2 + 0)), e3, e4, none, none, none, none] ∧ S' = PSt G' m' (rest ++ [some (.lst (List.map trip ts))]) ∧ GoodP G' m' ∧ ts.length ≤ 241 ∧ (∀ p ∈ ts, okT L 40 p) ∧ (0 < i → ts ≠ [])) _ 0 _ _ ⟨G, m, [], none, none, rfl, rfl, hG, by simp, (fun p hp => by cases hp), fun h => absurd h (Nat.lt_irrefl 0)⟩ ?_ ?_
    · rintro j d env S' hj ⟨G3, m3, ts, e3, e4, rfl, rfl, hG3, hl, ho, hne⟩
      obtain ⟨rfl, hjn⟩ := rgL_get hj
      refine ⟨okSrc_nil, _, rfl, ?_⟩
      simp only [wS_rai, wS_try, scope_bl, scope_int, scope_str, scope_non, wpM_ok, wpM_exc, trunc_same, and_self, if_true, if_false, Bool.false_eq_true, reduceIte, wS_setS, wS_seq, wS_if, wS_asg, wS_exS, wS_retS, wS_nxS, wS_nx, wS_ret, wpM_op2, wpM_op1, wpM_asT, wpM_trt, wpM_notT, wpM_andT, wpM_orT, wpM_andV, wpM_notE, wpM_ifE, wpM_lnil, wpM_lcons, wpM_tupE, wpM_lstF, wpM_frz, wpM_new, wpM_cal, wpM_calB, wpM_calF, wpM_isiE, wpM_vr, wpM_ct, wpM_meth, wpM_chn, wpM_cut, wpM_cutF, wpM_ono, wpM_osm, wpM_revT, wpM_lfE, wS_for, tgN, List.getElem?_cons_zero, List.getElem?_cons_succ, List.set_cons_zero, List.set_cons_succ, List.map_cons, List.map_nil, List.length_cons, List.length_nil, List.replicate_succ, List.replicate_zero, Nat.reduceAdd, Nat.reduceSub, List.cons_append, List.nil_append]
      refine pick_wp hG3 (by decide) (by decide) ?_
      intro a G4 m4 hG4 a0 a1
      simp only [wS_rai, wS_try, scope_bl, scope_int, scope_str, scope_non, wpM_ok, wpM_exc, trunc_same, and_self, if_true, if_false, Bool.false_eq_true, reduceIte, wS_setS, wS_seq, wS_if, wS_asg, wS_exS, wS_retS, wS_nxS, wS_nx, wS_ret, wpM_op2, wpM_op1, wpM_asT, wpM_trt, wpM_notT, wpM_andT, wpM_orT, wpM_andV, wpM_notE, wpM_ifE, wpM_lnil, wpM_lcons, wpM_tupE, wpM_lstF, wpM_frz, wpM_new, wpM_cal, wpM_calB, wpM_calF, wpM_isiE, wpM_vr, wpM_ct, wpM_meth, wpM_chn, wpM_cut, wpM_cutF, wpM_ono, wpM_osm, wpM_revT, wpM_lfE, wS_for, tgN, List.getElem?_cons_zero, List.getElem?_cons_succ, List.set_cons_zero, List.set_cons_succ, List.map_cons, List.map_nil, List.length_cons, List.length_nil, List.replicate_succ, List.replicate_zero, Nat.reduceAdd, Nat.reduceSub, List.cons_append, List.nil_append, len_L hL]
      have y1 : (0 : Int) < (L.cps.size : Int) := by omega
      have y2 : (L.cps.size : Int) < 1073741824 := by omega
      refine pick_wp hG4 y1 y2 ?_
      intro x G5 m5 hG5 x0 x1
      obtain ⟨xi, hxi⟩ := Int.eq_ofNat_of_zero_le x0
      obtain ⟨c, hc, ec⟩ := letter_at (S := PSt G5 m5 (rest ++ [some (.lst (List.map trip ts))])) hL (show xi < L.cps.size by omega)
      rw [hxi, ec]
      simp only [wS_rai, wS_try, scope_bl, scope_int, scope_str, scope_non, wpM_ok, wpM_exc, trunc_same, and_self, if_true, if_false, Bool.false_eq_true, reduceIte, wS_setS, wS_seq, wS_if, wS_asg, wS_exS, wS_retS, wS_nxS, wS_nx, wS_ret, wpM_op2, wpM_op1, wpM_asT, wpM_trt, wpM_notT, wpM_andT, wpM_orT, wpM_andV, wpM_notE, wpM_ifE, wpM_lnil, wpM_lcons, wpM_tupE, wpM_lstF, wpM_frz, wpM_new, wpM_cal, wpM_calB, wpM_calF, wpM_isiE, wpM_vr, wpM_ct, wpM_meth, wpM_chn, wpM_cut, wpM_cutF, wpM_ono, wpM_osm, wpM_revT, wpM_lfE, wS_for, tgN, List.getElem?_cons_zero, List.getElem?_cons_succ, List.set_cons_zero, List.set_cons_succ, List.map_cons, List.map_nil, List.length_cons, List.length_nil, List.replicate_succ, List.replicate_zero, Nat.reduceAdd, Nat.reduceSub, List.cons_append, List.nil_append]
      refine pick_wp hG5 (by decide) (by decide) ?_
      intro b G6 m6 hG6 b0 b1
      have g0 : (PSt G6 m6 (rest ++ [some (.lst (List.map trip ts))]))[rest.length + 2 + 0]? = some (some (.lst (ts.map trip))) := get0
      have valid := hL.2.2
      obtain ⟨bb, e1, e2, e5⟩ := inL_trip (p := (a, c, b)) g0 (valid c hc) (fun q hq => valid q.2.1 (ho q hq).2.2)
      have e1 : o_inL true (PSt G6 m6 (rest ++ [some (.lst (List.map trip ts))])) (.tup [.int a, .str ⟨#[c]⟩, .int b]) (.ref (rest.length + 2 + 0)) = some (.bl bb) := e1
      simp only [wS_rai, wS_try, scope_bl, scope_int, scope_str, scope_non, wpM_ok, wpM_exc, trunc_same, and_self, if_true, if_false, Bool.false_eq_true, reduceIte, wS_setS, wS_seq, wS_if, wS_asg, wS_exS, wS_retS, wS_nxS, wS_nx, wS_ret, wpM_op2, wpM_op1, wpM_asT, wpM_trt, wpM_notT, wpM_andT, wpM_orT, wpM_andV, wpM_notE, wpM_ifE, wpM_lnil, wpM_lcons, wpM_tupE, wpM_lstF, wpM_frz, wpM_new, wpM_cal, wpM_calB, wpM_calF, wpM_isiE, wpM_vr, wpM_ct, wpM_meth, wpM_chn, wpM_cut, wpM_cutF, wpM_ono, wpM_osm, wpM_revT, wpM_lfE, wS_for, tgN, List.getElem?_cons_zero, List.getElem?_cons_succ, List.set_cons_zero, List.set_cons_succ, List.map_cons, List.map_nil, List.length_cons, List.length_nil, List.replicate_succ, List.replicate_zero, Nat.reduceAdd, Nat.reduceSub, List.cons_append, List.nil_append, q3]
      rw [len_at g0]
      simp only [wS_rai, wS_try, scope_bl, scope_int, scope_str, scope_non, wpM_ok, wpM_exc, trunc_same, and_self, if_true, if_false, Bool.false_eq_true, reduceIte, wS_setS, wS_seq, wS_if, wS_asg, wS_exS, wS_retS, wS_nxS, wS_nx, wS_ret, wpM_op2, wpM_op1, wpM_asT, wpM_trt, wpM_notT, wpM_andT, wpM_orT, wpM_andV, wpM_notE, wpM_ifE, wpM_lnil, wpM_lcons, wpM_tupE, wpM_lstF, wpM_frz, wpM_new, wpM_cal, wpM_calB, wpM_calF, wpM_isiE, wpM_vr, wpM_ct, wpM_meth, wpM_chn, wpM_cut, wpM_cutF, wpM_ono, wpM_osm, wpM_revT, wpM_lfE, wS_for, tgN, List.getElem?_cons_zero, List.getElem?_cons_succ, List.set_cons_zero, List.set_cons_succ, List.map_cons, List.map_nil, List.length_cons, List.length_nil, List.replicate_succ, List.replicate_zero, Nat.reduceAdd, Nat.reduceSub, List.cons_append, List.nil_append, o_cmp, List.length_map]
      by_cases hlt : ts.length < 241
      · rw [decide_eq_true (by omega)]
        simp only [wS_rai, wS_try, scope_bl, scope_int, scope_str, scope_non, wpM_ok, wpM_exc, trunc_same, and_self, if_true, if_false, Bool.false_eq_true, reduceIte, wS_setS, wS_seq, wS_if, wS_asg, wS_exS, wS_retS, wS_nxS, wS_nx, wS_ret, wpM_op2, wpM_op1, wpM_asT, wpM_trt, wpM_notT, wpM_andT, wpM_orT, wpM_andV, wpM_notE, wpM_ifE, wpM_lnil, wpM_lcons, wpM_tupE, wpM_lstF, wpM_frz, wpM_new, wpM_cal, wpM_calB, wpM_calF, wpM_isiE, wpM_vr, wpM_ct, wpM_meth, wpM_chn, wpM_cut, wpM_cutF, wpM_ono, wpM_osm, wpM_revT, wpM_lfE, wS_for, tgN, List.getElem?_cons_zero, List.getElem?_cons_succ, List.set_cons_zero, List.set_cons_succ, List.map_cons, List.map_nil, List.length_cons, List.length_nil, List.replicate_succ, List.replicate_zero, Nat.reduceAdd, Nat.reduceSub, List.cons_append, List.nil_append]
        rw [e1]
        cases bb with
        | false =>
          simp only [wS_rai, wS_try, scope_bl, scope_int, scope_str, scope_non, wpM_ok, wpM_exc, trunc_same, and_self, if_true, if_false, Bool.false_eq_true, reduceIte, wS_setS, wS_seq, wS_if, wS_asg, wS_exS, wS_retS, wS_nxS, wS_nx, wS_ret, wpM_op2, wpM_op1, wpM_asT, wpM_trt, wpM_notT, wpM_andT, wpM_orT, wpM_andV, wpM_notE, wpM_ifE, wpM_lnil, wpM_lcons, wpM_tupE, wpM_lstF, wpM_frz, wpM_new, wpM_cal, wpM_calB, wpM_calF, wpM_isiE, wpM_vr, wpM_ct, wpM_meth, wpM_chn, wpM_cut, wpM_cutF, wpM_ono, wpM_osm, wpM_revT, wpM_lfE, wS_for, tgN, List.getElem?_cons_zero, List.getElem?_cons_succ, List.set_cons_zero, List.set_cons_succ, List.map_cons, List.map_nil, List.length_cons, List.length_nil, List.replicate_succ, List.replicate_zero, Nat.reduceAdd, Nat.reduceSub, List.cons_append, List.nil_append]
          refine ⟨G6, m6, ts, _, _, rfl, rfl, hG6, hl, ho, fun _ h => ?_⟩
          have := e5 h
          cases this
        | true =>
          simp only [wS_rai, wS_try, scope_bl, scope_int, scope_str, scope_non, wpM_ok, wpM_exc, trunc_same, and_self, if_true, if_false, Bool.false_eq_true, reduceIte, wS_setS, wS_seq, wS_if, wS_asg, wS_exS, wS_retS, wS_nxS, wS_nx, wS_ret, wpM_op2, wpM_op1, wpM_asT, wpM_trt, wpM_notT, wpM_andT, wpM_orT, wpM_andV, wpM_notE, wpM_ifE, wpM_lnil, wpM_lcons, wpM_tupE, wpM_lstF, wpM_frz, wpM_new, wpM_cal, wpM_calB, wpM_calF, wpM_isiE, wpM_vr, wpM_ct, wpM_meth, wpM_chn, wpM_cut, wpM_cutF, wpM_ono, wpM_osm, wpM_revT, wpM_lfE, wS_for, tgN, List.getElem?_cons_zero, List.getElem?_cons_succ, List.set_cons_zero, List.set_cons_succ, List.map_cons, List.map_nil, List.length_cons, List.length_nil, List.replicate_succ, List.replicate_zero, Nat.reduceAdd, Nat.reduceSub, List.cons_append, List.nil_append]
          rw [if_pos (tyL g0), app_at g0 (by rw [List.length_map]; omega), setX]
          refine ⟨G6, m6, ts ++ [(a, c, b)], _, _, rfl, by rw [List.map_append]; rfl, hG6, by rw [List.length_append, List.length_singleton]; omega, ?_, fun _ => by simp⟩
          intro p hp
          rcases List.mem_append.mp hp with hp | hp
          · exact ho p hp
          · rw [List.mem_singleton.mp hp]
            exact ⟨inSt_of a0 a1, inSt_of b0 b1, hc⟩
      · rw [decide_eq_false (by omega)]
        simp only [wS_rai, wS_try, scope_bl, scope_int, scope_str, scope_non, wpM_ok, wpM_exc, trunc_same, and_self, if_true, if_false, Bool.false_eq_true, reduceIte, wS_setS, wS_seq, wS_if, wS_asg, wS_exS, wS_retS, wS_nxS, wS_nx, wS_ret, wpM_op2, wpM_op1, wpM_asT, wpM_trt, wpM_notT, wpM_andT, wpM_orT, wpM_andV, wpM_notE, wpM_ifE, wpM_lnil, wpM_lcons, wpM_tupE, wpM_lstF, wpM_frz, wpM_new, wpM_cal, wpM_calB, wpM_calF, wpM_isiE, wpM_vr, wpM_ct, wpM_meth, wpM_chn, wpM_cut, wpM_cutF, wpM_ono, wpM_osm, wpM_revT, wpM_lfE, wS_for, tgN, List.getElem?_cons_zero, List.getElem?_cons_succ, List.set_cons_zero, List.set_cons_succ, List.map_cons, List.map_nil, List.length_cons, List.length_nil, List.replicate_succ, List.replicate_zero, Nat.reduceAdd, Nat.reduceSub, List.cons_append, List.nil_append]
        refine ⟨G6, m6, ts, _, _, rfl, rfl, hG6, hl, ho, fun _ h => ?_⟩
        rw [h] at hlt
        exact hlt (by decide)
    · rintro env S' ⟨G3, m3, ts, e3, e4, rfl, rfl, hG3, hl, ho, hne⟩
      rw [rgL_len] at hne
      exact ⟨okSrc_nil, G3, m3, ts, _, _, rfl, rfl, hG3, hl, hne (by omega)⟩
  rintro env S' ⟨G3, m3, ts, e3, e4, rfl, rfl, hG3, hl, hne⟩
  refine wS_seqP (fun e S' => ∃ us a0, e = [some (.ref 1), some (.str L), some (.ref (rest.length + 2 + 1)), e3, e4, none, none, none, none] ∧ S' = PSt G3 m3 (rest ++ [a0, some (.lst (List.map trip us))]) ∧ us.length ≤ 241 ∧ 0 < us.length) ?_ ?_
  · have g0 : (PSt G3 m3 (rest ++ [some (.lst (List.map trip ts))]))[rest.length + 2 + 0]? = some (some (.lst (ts.map trip))) := get0
    simp only [wS_rai, wS_try, scope_bl, scope_int, scope_str, scope_non, wpM_ok, wpM_exc, trunc_same, and_self, if_true, if_false, Bool.false_eq_true, reduceIte, wS_setS, wS_seq, wS_if, wS_asg, wS_exS, wS_retS, wS_nxS, wS_nx, wS_ret, wpM_op2, wpM_op1, wpM_asT, wpM_trt, wpM_notT, wpM_andT, wpM_orT, wpM_andV, wpM_notE, wpM_ifE, wpM_lnil, wpM_lcons, wpM_tupE, wpM_lstF, wpM_frz, wpM_new, wpM_cal, wpM_calB, wpM_calF, wpM_isiE, wpM_vr, wpM_ct, wpM_meth, wpM_chn, wpM_cut, wpM_cutF, wpM_ono, wpM_osm, wpM_revT, wpM_lfE, wS_for, tgN, List.getElem?_cons_zero, List.getElem?_cons_succ, List.set_cons_zero, List.set_cons_succ, List.map_cons, List.map_nil, List.length_cons, List.length_nil, List.replicate_succ, List.replicate_zero, Nat.reduceAdd, Nat.reduceSub, List.cons_append, List.nil_append, sortedR_trip g0]
    rw [sort_trip]
    have hl2 : (ts.mergeSort lexle).length ≤ 241 := by rw [List.length_mergeSort]; exact hl
    have hne2 : 0 < (ts.mergeSort lexle).length := by rw [List.length_mergeSort]; exact List.length_pos_iff.mpr hne
    generalize ts.mergeSort lexle = us at hl2 hne2 ⊢
    exact ⟨us, some (.lst (List.map trip ts)), by simp, by simp, hl2, hne2⟩
  rintro env S' ⟨us, a0, rfl, rfl, hul, hun⟩
  obtain ⟨as, hA, hal, hap⟩ := cut_trips us 240
  obtain ⟨bs, hB, hbl, _⟩ := cut_trips us 241
  have hap := hap hun (by decide)
  have hA : cutL (List.map trip us) none (some 240) = List.map trip as := hA
  have hB : cutL (List.map trip us) none (some 241) = List.map trip bs := hB
  generalize hb' : (some (Ob.lst (List.map trip us))) = b0
  have gu : lstOf (PSt G3 m3 (rest ++ [a0, b0])) (.ref (rest.length + 2 + 1)) = some (List.map trip us) := lst_at (by rw [get1, ← hb'])
  refine wS_seqP (fun e S' => e = [some (.ref 1), some (.str L), some (.ref (rest.length + 2 + 1)), e3, e4, some (.tup [.int 40, .tup (rgL 0 40), .tup (List.map trip as)]), none, none, none] ∧ S' = PSt G3 m3 (rest ++ [a0, b0])) ?_ ?_
  · simp only [wS_rai, wS_try, scope_bl, scope_int, scope_str, scope_non, wpM_ok, wpM_exc, trunc_same, and_self, if_true, if_false, Bool.false_eq_true, reduceIte, wS_setS, wS_seq, wS_if, wS_asg, wS_exS, wS_retS, wS_nxS, wS_nx, wS_ret, wpM_op2, wpM_op1, wpM_asT, wpM_trt, wpM_notT, wpM_andT, wpM_orT, wpM_andV, wpM_notE, wpM_ifE, wpM_lnil, wpM_lcons, wpM_tupE, wpM_lstF, wpM_frz, wpM_new, wpM_cal, wpM_calB, wpM_calF, wpM_isiE, wpM_vr, wpM_ct, wpM_meth, wpM_chn, wpM_cut, wpM_cutF, wpM_ono, wpM_osm, wpM_revT, wpM_lfE, wS_for, tgN, List.getElem?_cons_zero, List.getElem?_cons_succ, List.set_cons_zero, List.set_cons_succ, List.map_cons, List.map_nil, List.length_cons, List.length_nil, List.replicate_succ, List.replicate_zero, Nat.reduceAdd, Nat.reduceSub, List.cons_append, List.nil_append, wpM_tupRg, rg40, gu, Option.map_some, hA, tup_lst, q3]
    try exact ⟨trivial, trivial⟩
  rintro env S' ⟨rfl, rfl⟩
  have f0 := trips_fd (ts := as)
  have f1 := trips_fd (ts := bs)
  refine wS_seqP (fun e S' => ∃ T, e = [some (.ref 1), some (.str L), some (.ref (rest.length + 2 + 1)), e3, e4, some (.tup [.int 40, .tup (rgL 0 40), .tup (List.map trip as)]), some (.ref (rest.length + 2 + 2)), none, none] ∧ S' = PSt G3 m3 (rest ++ [a0, b0, some (.lst T)]) ∧ T.length = 6 ∧ ∀ d ∈ T, Fine d) ?_ ?_
  · simp only [wS_rai, wS_try, scope_bl, scope_int, scope_str, scope_non, wpM_ok, wpM_exc, trunc_same, and_self, if_true, if_false, Bool.false_eq_true, reduceIte, wS_setS, wS_seq, wS_if, wS_asg, wS_exS, wS_retS, wS_nxS, wS_nx, wS_ret, wpM_op2, wpM_op1, wpM_asT, wpM_trt, wpM_notT, wpM_andT, wpM_orT, wpM_andV, wpM_notE, wpM_ifE, wpM_lnil, wpM_lcons, wpM_tupE, wpM_lstF, wpM_frz, wpM_new, wpM_cal, wpM_calB, wpM_calF, wpM_isiE, wpM_vr, wpM_ct, wpM_meth, wpM_chn, wpM_cut, wpM_cutF, wpM_ono, wpM_osm, wpM_revT, wpM_lfE, wS_for, tgN, List.getElem?_cons_zero, List.getElem?_cons_succ, List.set_cons_zero, List.set_cons_succ, List.map_cons, List.map_nil, List.length_cons, List.length_nil, List.replicate_succ, List.replicate_zero, Nat.reduceAdd, Nat.reduceSub, List.cons_append, List.nil_append, wpM_tupRg, rg41, gu, Option.map_some, hB, tup_lst, q3, q1, q0, q6, ixT2]
    refine ⟨[D.tup [D.int 40, D.tup (rgL 0 40), D.tup (List.map trip as)], D.tup [D.int 41, D.tup [], D.tup []], D.tup [D.int 40, D.tup [D.int 40], D.tup []], D.tup [D.int 40, D.tup [], D.tup (List.map trip bs)], D.tup [D.int 40, D.tup (rgL 0 41), D.tup (List.map trip as)], D.tup [D.int 39, D.tup [], D.tup (List.map trip as)]], by simp, by simp, rfl, ?_⟩
    intro d hd
    simp only [List.mem_cons, List.not_mem_nil, or_false] at hd
    have la : (List.map trip as).length ≤ 1000 := by rw [List.length_map]; omega
    have lb : (List.map trip bs).length ≤ 1000 := by rw [List.length_map]; omega
    rcases hd with rfl | rfl | rfl | rfl | rfl | rfl
    · exact fine3 fdL_rg f0 (by rw [rgL_len40]; omega) la
    · exact fine3 rfl rfl (by simp) (by simp)
    · exact fine3 rfl rfl (by simp) (by simp)
    · exact fine3 rfl f1 (by simp) lb
    · exact fine3 fdL_rg f0 (by rw [rgL_len41]; omega) la
    · exact fine3 rfl f0 (by simp) la
  rintro env S' ⟨T, rfl, rfl, hTl, hTf⟩
  refine wS_seqP (fun e S' => ∃ pl G4 m4, 0 ≤ pl ∧ e = [some (.ref 1), some (.str L), some (.ref (rest.length + 2 + 1)), e3, e4, some (.tup [.int 40, .tup (rgL 0 40), .tup (List.map trip as)]), some (.ref (rest.length + 2 + 2)), some (.int pl), none] ∧ S' = PSt G4 m4 (rest ++ [a0, b0, some (.lst T)]) ∧ GoodP G4 m4) ?_ ?_
  · simp only [wS_rai, wS_try, scope_bl, scope_int, scope_str, scope_non, wpM_ok, wpM_exc, trunc_same, and_self, if_true, if_false, Bool.false_eq_true, reduceIte, wS_setS, wS_seq, wS_if, wS_asg, wS_exS, wS_retS, wS_nxS, wS_nx, wS_ret, wpM_op2, wpM_op1, wpM_asT, wpM_trt, wpM_notT, wpM_andT, wpM_orT, wpM_andV, wpM_notE, wpM_ifE, wpM_lnil, wpM_lcons, wpM_tupE, wpM_lstF, wpM_frz, wpM_new, wpM_cal, wpM_calB, wpM_calF, wpM_isiE, wpM_vr, wpM_ct, wpM_meth, wpM_chn, wpM_cut, wpM_cutF, wpM_ono, wpM_osm, wpM_revT, wpM_lfE, wS_for, tgN, List.getElem?_cons_zero, List.getElem?_cons_succ, List.set_cons_zero, List.set_cons_succ, List.map_cons, List.map_nil, List.length_cons, List.length_nil, List.replicate_succ, List.replicate_zero, Nat.reduceAdd, Nat.reduceSub, List.cons_append, List.nil_append]
    refine pick_wp hG3 (by decide) (by decide) ?_
    intro pl G4 m4 hG4 p0 p1
    simp only [add_int]
    exact ⟨_, G4, m4, by omega, rfl, rfl, hG4⟩
  rintro env S' ⟨pl, G4, m4, p0, rfl, rfl, hG4⟩
  refine wS_seqP (fun e S' => ∃ T G5 m5, e = [some (.ref 1), some (.str L), some (.ref (rest.length + 2 + 1)), e3, e4, some (.tup [.int 40, .tup (rgL 0 40), .tup (List.map trip as)]), some (.ref (rest.length + 2 + 2)), some (.int pl), none] ∧ S' = PSt G5 m5 (rest ++ [a0, b0, some (.lst T)]) ∧ GoodP G5 m5 ∧ T.length = 7 ∧ ∀ d ∈ T, Fine d) ?_ ?_
  · have g2 : ∀ G m, (PSt G m (rest ++ [a0, b0, some (.lst T)]))[rest.length + 2 + 2]? = some (some (.lst T)) := fun G m => get2
    obtain ⟨ix, hix, hixl⟩ : ∃ i : Nat, (if (as.length : Int) - 1 < pl then (as.length : Int) - 1 else pl) = (i : Int) ∧ i < as.length := by
      split
      · exact ⟨as.length - 1, by omega, by omega⟩
      · exact ⟨pl.toNat, by omega, by omega⟩
    have hget : (List.map trip as)[ix]? = some (trip as[ix]) := by rw [List.getElem?_map, List.getElem?_eq_getElem hixl]; rfl
    simp only [wS_rai, wS_try, scope_bl, scope_int, scope_str, scope_non, wpM_ok, wpM_exc, trunc_same, and_self, if_true, if_false, Bool.false_eq_true, reduceIte, wS_setS, wS_seq, wS_if, wS_asg, wS_exS, wS_retS, wS_nxS, wS_nx, wS_ret, wpM_op2, wpM_op1, wpM_asT, wpM_trt, wpM_notT, wpM_andT, wpM_orT, wpM_andV, wpM_notE, wpM_ifE, wpM_lnil, wpM_lcons, wpM_tupE, wpM_lstF, wpM_frz, wpM_new, wpM_cal, wpM_calB, wpM_calF, wpM_isiE, wpM_vr, wpM_ct, wpM_meth, wpM_chn, wpM_cut, wpM_cutF, wpM_ono, wpM_osm, wpM_revT, wpM_lfE, wS_for, tgN, List.getElem?_cons_zero, List.getElem?_cons_succ, List.set_cons_zero, List.set_cons_succ, List.map_cons, List.map_nil, List.length_cons, List.length_nil, List.replicate_succ, List.replicate_zero, Nat.reduceAdd, Nat.reduceSub, List.cons_append, List.nil_append, ixT2, cut_tup, len_tup, o_sub, o_min2, List.length_map, hix, ixT hget, q0, q3, q1, add_int]
    rw [if_pos (tyL (g2 _ _))]
    refine bstep_wp hG4 hL (by decide) (by decide) ?_
    intro x G5 m5 hG5 hx
    have b1 := @cutL_len (List.map trip as) none (some pl)
    have b2 := @cutL_len (List.map trip as) (some (pl + 1)) none
    rw [List.length_map] at b1 b2
    rw [add_tup (by rw [List.length_singleton]; omega)]
    simp only []
    rw [add_tup (by rw [List.length_append, List.length_singleton]; omega)]
    simp only []
    rw [app_at (g2 _ _) (by omega), setX]
    refine ⟨T ++ [.tup [.int 40, .tup [], .tup (cutL (List.map trip as) none (some pl) ++ [x] ++ cutL (List.map trip as) (some (pl + 1)) none)]], G5, m5, by first | rfl | trivial, by first | rfl | trivial, hG5, by rw [List.length_append, hTl]; rfl, fun d hd => ?_⟩
    rcases List.mem_append.mp hd with hd | hd
    · exact hTf d hd
    · rw [List.mem_singleton.mp hd]
      exact fine3 rfl (fdL_app (fdL_app (fdL_cut f0) (fdL_one hx)) (fdL_cut f0)) (by simp) (by simp only [List.length_append, List.length_singleton]; omega)
  rintro env S' ⟨T', G5, m5, rfl, rfl, hG5, hTl', hTf'⟩
  have g2 : (PSt G5 m5 (rest ++ [a0, b0, some (.lst T')]))[rest.length + 2 + 2]? = some (some (.lst T')) := get2
  simp only [wS_retS, wpM_op2, wpM_meth]
  refine comp_trueF (all := T') (src := [(rest.length + 2 + 2, T')]) ?_ (by omega) (fun X p hp => ?_) (fun d hd X => ?_) ?_
  · simp only [i_of, vr, List.getElem?_cons_succ, List.getElem?_cons_zero, bd, lf, srcOf, g2]
  · rw [List.mem_singleton.mp hp]
    rw [List.getElem?_append_left (by rw [lenX]; simp)]
    exact g2
  · refine ⟨_, rfl, ?_⟩
    have hf := hTf' d hd
    simp only [wS_rai, wS_try, scope_bl, scope_int, scope_str, scope_non, wpM_ok, wpM_exc, trunc_same, and_self, if_true, if_false, Bool.false_eq_true, reduceIte, wS_setS, wS_seq, wS_if, wS_asg, wS_exS, wS_retS, wS_nxS, wS_nx, wS_ret, wpM_op2, wpM_op1, wpM_asT, wpM_trt, wpM_notT, wpM_andT, wpM_orT, wpM_andV, wpM_notE, wpM_ifE, wpM_lnil, wpM_lcons, wpM_tupE, wpM_lstF, wpM_frz, wpM_new, wpM_cal, wpM_calB, wpM_calF, wpM_isiE, wpM_vr, wpM_ct, wpM_meth, wpM_chn, wpM_cut, wpM_cutF, wpM_ono, wpM_osm, wpM_revT, wpM_lfE, wS_for, tgN, List.getElem?_cons_zero, List.getElem?_cons_succ, List.set_cons_zero, List.set_cons_succ, List.map_cons, List.map_nil, List.length_cons, List.length_nil, List.replicate_succ, List.replicate_zero, Nat.reduceAdd, Nat.reduceSub, List.cons_append, List.nil_append, wipeE]
    refine fine_told hf ?_
    try simp only [wS_rai, wS_try, scope_bl, scope_int, scope_str, scope_non, wpM_ok, wpM_exc, trunc_same, and_self, if_true, if_false, Bool.false_eq_true, reduceIte, wS_setS, wS_seq, wS_if, wS_asg, wS_exS, wS_retS, wS_nxS, wS_nx, wS_ret, wpM_op2, wpM_op1, wpM_asT, wpM_trt, wpM_notT, wpM_andT, wpM_orT, wpM_andV, wpM_notE, wpM_ifE, wpM_lnil, wpM_lcons, wpM_tupE, wpM_lstF, wpM_frz, wpM_new, wpM_cal, wpM_calB, wpM_calF, wpM_isiE, wpM_vr, wpM_ct, wpM_meth, wpM_chn, wpM_cut, wpM_cutF, wpM_ono, wpM_osm, wpM_revT, wpM_lfE, wS_for, tgN, List.getElem?_cons_zero, List.getElem?_cons_succ, List.set_cons_zero, List.set_cons_succ, List.map_cons, List.map_nil, List.length_cons, List.length_nil, List.replicate_succ, List.replicate_zero, Nat.reduceAdd, Nat.reduceSub, List.cons_append, List.nil_append]
    refine fine_due hf ?_
    try simp only [wS_rai, wS_try, scope_bl, scope_int, scope_str, scope_non, wpM_ok, wpM_exc, trunc_same, and_self, if_true, if_false, Bool.false_eq_true, reduceIte, wS_setS, wS_seq, wS_if, wS_asg, wS_exS, wS_retS, wS_nxS, wS_nx, wS_ret, wpM_op2, wpM_op1, wpM_asT, wpM_trt, wpM_notT, wpM_andT, wpM_orT, wpM_andV, wpM_notE, wpM_ifE, wpM_lnil, wpM_lcons, wpM_tupE, wpM_lstF, wpM_frz, wpM_new, wpM_cal, wpM_calB, wpM_calF, wpM_isiE, wpM_vr, wpM_ct, wpM_meth, wpM_chn, wpM_cut, wpM_cutF, wpM_ono, wpM_osm, wpM_revT, wpM_lfE, wS_for, tgN, List.getElem?_cons_zero, List.getElem?_cons_succ, List.set_cons_zero, List.set_cons_succ, List.map_cons, List.map_nil, List.length_cons, List.length_nil, List.replicate_succ, List.replicate_zero, Nat.reduceAdd, Nat.reduceSub, List.cons_append, List.nil_append]
    exact same_wp ⟨rfl, rfl⟩
  · rw [if_pos (show tyD "list" _ (.lst _) = true from rfl)]
    simp only [cnt_true, wS_rai, wS_try, scope_bl, scope_int, scope_str, scope_non, wpM_ok, wpM_exc, trunc_same, and_self, if_true, if_false, Bool.false_eq_true, reduceIte, wS_setS, wS_seq, wS_if, wS_asg, wS_exS, wS_retS, wS_nxS, wS_nx, wS_ret, wpM_op2, wpM_op1, wpM_asT, wpM_trt, wpM_notT, wpM_andT, wpM_orT, wpM_andV, wpM_notE, wpM_ifE, wpM_lnil, wpM_lcons, wpM_tupE, wpM_lstF, wpM_frz, wpM_new, wpM_cal, wpM_calB, wpM_calF, wpM_isiE, wpM_vr, wpM_ct, wpM_meth, wpM_chn, wpM_cut, wpM_cutF, wpM_ono, wpM_osm, wpM_revT, wpM_lfE, wS_for, tgN, List.getElem?_cons_zero, List.getElem?_cons_succ, List.set_cons_zero, List.set_cons_succ, List.map_cons, List.map_nil, List.length_cons, List.length_nil, List.replicate_succ, List.replicate_zero, Nat.reduceAdd, Nat.reduceSub, List.cons_append, List.nil_append, eq_int, beq_self_eq_true, trunc_X]
    exact k G5 m5 hG5
end
end Z

set_option Elab.async false
set_option linter.all false
set_option maxRecDepth 100000
set_option maxHeartbeats 4000000
set_option autoImplicit false
namespace Z
open PySem PySem.Spec L2 Y PySem.W
theorem ok_of_wp {r : Res D} (h : wpM r (fun d S => d = .bl true) (fun _ _ _ => False)) : ∃ S, r = .ok (.bl true) S := by
  cases r with
  | ok a S =>
    have h' : a = .bl true := h
    exact ⟨S, by rw [h']⟩
  | exc c fs S => exact h.elim
  | err => exact h.elim
theorem told_list {S : Sto} {st : Int} {ends steps : List D} {d : D} (e : d = .tup [.int st, .tup ends, .tup steps]) : D.lst [.str (Str.ofString "told"), .int (steps.length : Int)] = toldD d none := by
  subst e; rfl
theorem plain (ns : List Int) (hn : ns.length ≤ 63) : ∃ S, M_law [.lst (ns.map .int)] [] = .ok (.bl true) S := by
  refine ok_of_wp ?_
  have hsl := sizeLine_eq
  have q0 : 0 ≤ sizeLine := by omega
  have q2 : 2 ≤ sizeLine := by omega
  have q3 : 3 ≤ sizeLine := by omega
  unfold M_law
  refine wpM_fn ?_
  unfold m_law
  simp only [List.map_cons, List.map_nil, List.length_cons, List.length_nil, Nat.reduceAdd, Nat.reduceSub, List.replicate_succ, List.replicate_zero, List.cons_append, List.nil_append]
  refine wS_seqP (fun e S' => ∃ G m, e = [some (.lst (ns.map .int)), some (.ref 1), none, none, none, none, none] ∧ S' = PSt G m [] ∧ GoodP G m) ?_ ?_
  · simp only [wS_rai, wS_try, scope_bl, scope_int, scope_str, scope_non, wpM_ok, wpM_exc, trunc_same, and_self, if_true, if_false, Bool.false_eq_true, reduceIte, wS_setS, wS_seq, wS_if, wS_asg, wS_exS, wS_retS, wS_nxS, wS_nx, wS_ret, wpM_op2, wpM_op1, wpM_asT, wpM_trt, wpM_notT, wpM_andT, wpM_orT, wpM_andV, wpM_notE, wpM_ifE, wpM_lnil, wpM_lcons, wpM_tupE, wpM_lstF, wpM_frz, wpM_new, wpM_cal, wpM_calB, wpM_calF, wpM_isiE, wpM_vr, wpM_ct, wpM_meth, wpM_chn, wpM_cut, wpM_cutF, wpM_ono, wpM_osm, wpM_revT, wpM_lfE, wS_for, tgN, List.getElem?_cons_zero, List.getElem?_cons_succ, List.set_cons_zero, List.set_cons_succ, List.map_cons, List.map_nil, List.length_cons, List.length_nil, List.replicate_succ, List.replicate_zero, Nat.reduceAdd, Nat.reduceSub, List.cons_append, List.nil_append]
    exact pool_wp hn fun G m hG => ⟨G, m, rfl, rfl, hG⟩
  rintro env S' ⟨G, m, rfl, rfl, hG⟩
  refine wS_seqP (fun e S' => ∃ G m L, e = [some (.lst (ns.map .int)), some (.ref 1), some (.str L), none, none, none, none] ∧ S' = PSt G m [] ∧ GoodP G m ∧ LOk L) ?_ ?_
  · simp only [wS_rai, wS_try, scope_bl, scope_int, scope_str, scope_non, wpM_ok, wpM_exc, trunc_same, and_self, if_true, if_false, Bool.false_eq_true, reduceIte, wS_setS, wS_seq, wS_if, wS_asg, wS_exS, wS_retS, wS_nxS, wS_nx, wS_ret, wpM_op2, wpM_op1, wpM_asT, wpM_trt, wpM_notT, wpM_andT, wpM_orT, wpM_andV, wpM_notE, wpM_ifE, wpM_lnil, wpM_lcons, wpM_tupE, wpM_lstF, wpM_frz, wpM_new, wpM_cal, wpM_calB, wpM_calF, wpM_isiE, wpM_vr, wpM_ct, wpM_meth, wpM_chn, wpM_cut, wpM_cutF, wpM_ono, wpM_osm, wpM_revT, wpM_lfE, wS_for, tgN, List.getElem?_cons_zero, List.getElem?_cons_succ, List.set_cons_zero, List.set_cons_succ, List.map_cons, List.map_nil, List.length_cons, List.length_nil, List.replicate_succ, List.replicate_zero, Nat.reduceAdd, Nat.reduceSub, List.cons_append, List.nil_append]
    exact letters_wp hG fun L G m hG hL => ⟨G, m, L, rfl, rfl, hG, hL⟩
  rintro env S' ⟨G, m, L, rfl, rfl, hG, hL⟩
  refine wS_seqP (fun e S' => ∃ G m d, e = [some (.lst (ns.map .int)), some (.ref 1), some (.str L), some d, none, none, none] ∧ S' = PSt G m [] ∧ GoodP G m ∧ MOk L 6 d) ?_ ?_
  · simp only [wS_rai, wS_try, scope_bl, scope_int, scope_str, scope_non, wpM_ok, wpM_exc, trunc_same, and_self, if_true, if_false, Bool.false_eq_true, reduceIte, wS_setS, wS_seq, wS_if, wS_asg, wS_exS, wS_retS, wS_nxS, wS_nx, wS_ret, wpM_op2, wpM_op1, wpM_asT, wpM_trt, wpM_notT, wpM_andT, wpM_orT, wpM_andV, wpM_notE, wpM_ifE, wpM_lnil, wpM_lcons, wpM_tupE, wpM_lstF, wpM_frz, wpM_new, wpM_cal, wpM_calB, wpM_calF, wpM_isiE, wpM_vr, wpM_ct, wpM_meth, wpM_chn, wpM_cut, wpM_cutF, wpM_ono, wpM_osm, wpM_revT, wpM_lfE, wS_for, tgN, List.getElem?_cons_zero, List.getElem?_cons_succ, List.set_cons_zero, List.set_cons_succ, List.map_cons, List.map_nil, List.length_cons, List.length_nil, List.replicate_succ, List.replicate_zero, Nat.reduceAdd, Nat.reduceSub, List.cons_append, List.nil_append]
    exact machine_wp hG hL (by decide) (by decide) (by decide) (by decide) fun d G m hG hd => ⟨G, m, d, rfl, rfl, hG, hd⟩
  rintro env S' ⟨G, m, d, rfl, rfl, hG, hd⟩
  obtain ⟨df, dp, dn, st, ends, steps, de⟩ := mok_fault hd (by decide)
  have ixd : ∀ S, o_ix S d (.int 2) = some (.tup steps) := fun S => by rw [de]; exact ixT2
  have same_ok : ∀ {S : Sto} {Q : D → Sto → Prop} {E : Str → List (Str × D) → Sto → Prop}, Q (.bl true) S → wpM (M__law_same [toldD d (faultF L d), .lst [.str (Str.ofString "told"), .int (steps.length : Int)]] S) Q E := fun {S Q E} k => by
    rw [df, told_list (S := S) de]
    exact same_wp k
  refine wS_seqP (fun e S' => e = [some (.lst (ns.map .int)), some (.ref 1), some (.str L), some d, none, none, none] ∧ S' = PSt G m []) ?_ ?_
  · simp only [wS_rai, wS_try, scope_bl, scope_int, scope_str, scope_non, wpM_ok, wpM_exc, trunc_same, and_self, if_true, if_false, Bool.false_eq_true, reduceIte, wS_setS, wS_seq, wS_if, wS_asg, wS_exS, wS_retS, wS_nxS, wS_nx, wS_ret, wpM_op2, wpM_op1, wpM_asT, wpM_trt, wpM_notT, wpM_andT, wpM_orT, wpM_andV, wpM_notE, wpM_ifE, wpM_lnil, wpM_lcons, wpM_tupE, wpM_lstF, wpM_frz, wpM_new, wpM_cal, wpM_calB, wpM_calF, wpM_isiE, wpM_vr, wpM_ct, wpM_meth, wpM_chn, wpM_cut, wpM_cutF, wpM_ono, wpM_osm, wpM_revT, wpM_lfE, wS_for, tgN, List.getElem?_cons_zero, List.getElem?_cons_succ, List.set_cons_zero, List.set_cons_succ, List.map_cons, List.map_nil, List.length_cons, List.length_nil, List.replicate_succ, List.replicate_zero, Nat.reduceAdd, Nat.reduceSub, List.cons_append, List.nil_append]
    refine fine_told dn ?_
    simp only [wS_rai, wS_try, scope_bl, scope_int, scope_str, scope_non, wpM_ok, wpM_exc, trunc_same, and_self, if_true, if_false, Bool.false_eq_true, reduceIte, wS_setS, wS_seq, wS_if, wS_asg, wS_exS, wS_retS, wS_nxS, wS_nx, wS_ret, wpM_op2, wpM_op1, wpM_asT, wpM_trt, wpM_notT, wpM_andT, wpM_orT, wpM_andV, wpM_notE, wpM_ifE, wpM_lnil, wpM_lcons, wpM_tupE, wpM_lstF, wpM_frz, wpM_new, wpM_cal, wpM_calB, wpM_calF, wpM_isiE, wpM_vr, wpM_ct, wpM_meth, wpM_chn, wpM_cut, wpM_cutF, wpM_ono, wpM_osm, wpM_revT, wpM_lfE, wS_for, tgN, List.getElem?_cons_zero, List.getElem?_cons_succ, List.set_cons_zero, List.set_cons_succ, List.map_cons, List.map_nil, List.length_cons, List.length_nil, List.replicate_succ, List.replicate_zero, Nat.reduceAdd, Nat.reduceSub, List.cons_append, List.nil_append, ixd, len_tup, q2]
    refine same_ok ?_
    simp only [wS_rai, wS_try, scope_bl, scope_int, scope_str, scope_non, wpM_ok, wpM_exc, trunc_same, and_self, if_true, if_false, Bool.false_eq_true, reduceIte, wS_setS, wS_seq, wS_if, wS_asg, wS_exS, wS_retS, wS_nxS, wS_nx, wS_ret, wpM_op2, wpM_op1, wpM_asT, wpM_trt, wpM_notT, wpM_andT, wpM_orT, wpM_andV, wpM_notE, wpM_ifE, wpM_lnil, wpM_lcons, wpM_tupE, wpM_lstF, wpM_frz, wpM_new, wpM_cal, wpM_calB, wpM_calF, wpM_isiE, wpM_vr, wpM_ct, wpM_meth, wpM_chn, wpM_cut, wpM_cutF, wpM_ono, wpM_osm, wpM_revT, wpM_lfE, wS_for, tgN, List.getElem?_cons_zero, List.getElem?_cons_succ, List.set_cons_zero, List.set_cons_succ, List.map_cons, List.map_nil, List.length_cons, List.length_nil, List.replicate_succ, List.replicate_zero, Nat.reduceAdd, Nat.reduceSub, List.cons_append, List.nil_append, tru, Bool.not_true]
    try exact ⟨trivial, trivial⟩
  rintro env S' ⟨rfl, rfl⟩
  refine wS_seqP (fun e S' => ∃ G m, e = [some (.lst (ns.map .int)), some (.ref 1), some (.str L), some d, none, none, none] ∧ S' = PSt G m [] ∧ GoodP G m) ?_ ?_
  · simp only [wS_rai, wS_try, scope_bl, scope_int, scope_str, scope_non, wpM_ok, wpM_exc, trunc_same, and_self, if_true, if_false, Bool.false_eq_true, reduceIte, wS_setS, wS_seq, wS_if, wS_asg, wS_exS, wS_retS, wS_nxS, wS_nx, wS_ret, wpM_op2, wpM_op1, wpM_asT, wpM_trt, wpM_notT, wpM_andT, wpM_orT, wpM_andV, wpM_notE, wpM_ifE, wpM_lnil, wpM_lcons, wpM_tupE, wpM_lstF, wpM_frz, wpM_new, wpM_cal, wpM_calB, wpM_calF, wpM_isiE, wpM_vr, wpM_ct, wpM_meth, wpM_chn, wpM_cut, wpM_cutF, wpM_ono, wpM_osm, wpM_revT, wpM_lfE, wS_for, tgN, List.getElem?_cons_zero, List.getElem?_cons_succ, List.set_cons_zero, List.set_cons_succ, List.map_cons, List.map_nil, List.length_cons, List.length_nil, List.replicate_succ, List.replicate_zero, Nat.reduceAdd, Nat.reduceSub, List.cons_append, List.nil_append, q0, q3]
    have hf1 : Fine (.tup [.int 1, .tup [], .tup []]) := fine3 rfl rfl (by decide) (by decide)
    refine fine_told hf1 ?_
    simp only [wS_rai, wS_try, scope_bl, scope_int, scope_str, scope_non, wpM_ok, wpM_exc, trunc_same, and_self, if_true, if_false, Bool.false_eq_true, reduceIte, wS_setS, wS_seq, wS_if, wS_asg, wS_exS, wS_retS, wS_nxS, wS_nx, wS_ret, wpM_op2, wpM_op1, wpM_asT, wpM_trt, wpM_notT, wpM_andT, wpM_orT, wpM_andV, wpM_notE, wpM_ifE, wpM_lnil, wpM_lcons, wpM_tupE, wpM_lstF, wpM_frz, wpM_new, wpM_cal, wpM_calB, wpM_calF, wpM_isiE, wpM_vr, wpM_ct, wpM_meth, wpM_chn, wpM_cut, wpM_cutF, wpM_ono, wpM_osm, wpM_revT, wpM_lfE, wS_for, tgN, List.getElem?_cons_zero, List.getElem?_cons_succ, List.set_cons_zero, List.set_cons_succ, List.map_cons, List.map_nil, List.length_cons, List.length_nil, List.replicate_succ, List.replicate_zero, Nat.reduceAdd, Nat.reduceSub, List.cons_append, List.nil_append, q2]
    rw [show D.lst [.str (Str.ofString "told"), .int 0] = toldD (.tup [.int 1, .tup [], .tup []]) (faultF L (.tup [.int 1, .tup [], .tup []])) from rfl]
    refine same_wp ?_
    simp only [wS_rai, wS_try, scope_bl, scope_int, scope_str, scope_non, wpM_ok, wpM_exc, trunc_same, and_self, if_true, if_false, Bool.false_eq_true, reduceIte, wS_setS, wS_seq, wS_if, wS_asg, wS_exS, wS_retS, wS_nxS, wS_nx, wS_ret, wpM_op2, wpM_op1, wpM_asT, wpM_trt, wpM_notT, wpM_andT, wpM_orT, wpM_andV, wpM_notE, wpM_ifE, wpM_lnil, wpM_lcons, wpM_tupE, wpM_lstF, wpM_frz, wpM_new, wpM_cal, wpM_calB, wpM_calF, wpM_isiE, wpM_vr, wpM_ct, wpM_meth, wpM_chn, wpM_cut, wpM_cutF, wpM_ono, wpM_osm, wpM_revT, wpM_lfE, wS_for, tgN, List.getElem?_cons_zero, List.getElem?_cons_succ, List.set_cons_zero, List.set_cons_succ, List.map_cons, List.map_nil, List.length_cons, List.length_nil, List.replicate_succ, List.replicate_zero, Nat.reduceAdd, Nat.reduceSub, List.cons_append, List.nil_append, tru, Bool.not_true]
    rw [de]
    have h3 := dn.1
    rw [de] at h3
    have h4 := fdL_mem.mp (show fdL [.int st, .tup ends, .tup steps] = true from h3)
    refine bwhole_wp hG rfl (h4 (.tup ends) (by simp)) (h4 (.tup steps) (by simp)) ?_
    intro x G' m' hG' hx hxw
    refine told_wp (fd_pure x hx) (fd_Sm hx) ?_
    simp only [wS_rai, wS_try, scope_bl, scope_int, scope_str, scope_non, wpM_ok, wpM_exc, trunc_same, and_self, if_true, if_false, Bool.false_eq_true, reduceIte, wS_setS, wS_seq, wS_if, wS_asg, wS_exS, wS_retS, wS_nxS, wS_nx, wS_ret, wpM_op2, wpM_op1, wpM_asT, wpM_trt, wpM_notT, wpM_andT, wpM_orT, wpM_andV, wpM_notE, wpM_ifE, wpM_lnil, wpM_lcons, wpM_tupE, wpM_lstF, wpM_frz, wpM_new, wpM_cal, wpM_calB, wpM_calF, wpM_isiE, wpM_vr, wpM_ct, wpM_meth, wpM_chn, wpM_cut, wpM_cutF, wpM_ono, wpM_osm, wpM_revT, wpM_lfE, wS_for, tgN, List.getElem?_cons_zero, List.getElem?_cons_succ, List.set_cons_zero, List.set_cons_succ, List.map_cons, List.map_nil, List.length_cons, List.length_nil, List.replicate_succ, List.replicate_zero, Nat.reduceAdd, Nat.reduceSub, List.cons_append, List.nil_append, o_neg, q3]
    rw [show D.lst [.str (Str.ofString "raised"), .int (-1), .str (Str.ofString "shape")] = toldD x (some (-1, "shape")) from rfl, fault_whole hxw]
    refine same_wp ?_
    simp only [wS_rai, wS_try, scope_bl, scope_int, scope_str, scope_non, wpM_ok, wpM_exc, trunc_same, and_self, if_true, if_false, Bool.false_eq_true, reduceIte, wS_setS, wS_seq, wS_if, wS_asg, wS_exS, wS_retS, wS_nxS, wS_nx, wS_ret, wpM_op2, wpM_op1, wpM_asT, wpM_trt, wpM_notT, wpM_andT, wpM_orT, wpM_andV, wpM_notE, wpM_ifE, wpM_lnil, wpM_lcons, wpM_tupE, wpM_lstF, wpM_frz, wpM_new, wpM_cal, wpM_calB, wpM_calF, wpM_isiE, wpM_vr, wpM_ct, wpM_meth, wpM_chn, wpM_cut, wpM_cutF, wpM_ono, wpM_osm, wpM_revT, wpM_lfE, wS_for, tgN, List.getElem?_cons_zero, List.getElem?_cons_succ, List.set_cons_zero, List.set_cons_succ, List.map_cons, List.map_nil, List.length_cons, List.length_nil, List.replicate_succ, List.replicate_zero, Nat.reduceAdd, Nat.reduceSub, List.cons_append, List.nil_append, tru, Bool.not_true]
    exact ⟨G', m', (by first | rfl | trivial), (by first | rfl | trivial), hG'⟩
  rintro env S' ⟨G1, m1, rfl, rfl, hG1⟩
  refine wS_seqP (fun e S' => ∃ G m e4 e5 e6, e = [some (.lst (ns.map .int)), some (.ref 1), some (.str L), some d, e4, e5, e6] ∧ S' = PSt G m [] ∧ GoodP G m) ?_ ?_
  · simp only [wS_for, i_rg1, wpM_bdE, wpM_lcons, wpM_lnil, wpM_ct]
    rw [if_pos (by decide)]
    simp only [wpM_ok]
    refine wS_loop (fun i e S' => ∃ G m e4 e5 e6, e = [some (.lst (ns.map .int)), some (.ref 1), some (.str L), some d, e4, e5, e6] ∧ S' = PSt G m [] ∧ GoodP G m) _ 0 _ _ ⟨G1, m1, none, none, none, rfl, rfl, hG1⟩ ?_ ?_
    · rintro j x env S' hj ⟨G2, m2, e4, e5, e6, rfl, rfl, hG2⟩
      refine ⟨okSrc_nil, _, rfl, ?_⟩
      simp only [List.set_cons_succ, List.set_cons_zero]
      refine wS_seqP (fun e S' => ∃ G m o, e = [some (.lst (ns.map .int)), some (.ref 1), some (.str L), some d, some x, some o, e6] ∧ S' = PSt G m [] ∧ GoodP G m ∧ MOk L 6 o) ?_ ?_
      · simp only [wS_rai, wS_try, scope_bl, scope_int, scope_str, scope_non, wpM_ok, wpM_exc, trunc_same, and_self, if_true, if_false, Bool.false_eq_true, reduceIte, wS_setS, wS_seq, wS_if, wS_asg, wS_exS, wS_retS, wS_nxS, wS_nx, wS_ret, wpM_op2, wpM_op1, wpM_asT, wpM_trt, wpM_notT, wpM_andT, wpM_orT, wpM_andV, wpM_notE, wpM_ifE, wpM_lnil, wpM_lcons, wpM_tupE, wpM_lstF, wpM_frz, wpM_new, wpM_cal, wpM_calB, wpM_calF, wpM_isiE, wpM_vr, wpM_ct, wpM_meth, wpM_chn, wpM_cut, wpM_cutF, wpM_ono, wpM_osm, wpM_revT, wpM_lfE, wS_for, tgN, List.getElem?_cons_zero, List.getElem?_cons_succ, List.set_cons_zero, List.set_cons_succ, List.map_cons, List.map_nil, List.length_cons, List.length_nil, List.replicate_succ, List.replicate_zero, Nat.reduceAdd, Nat.reduceSub, List.cons_append, List.nil_append]
        exact machine_wp hG2 hL (by decide) (by decide) (by decide) (by decide) fun o G m hG ho => ⟨G, m, o, rfl, rfl, hG, ho⟩
      rintro env S' ⟨G3, m3, o, rfl, rfl, hG3, ho⟩
      obtain ⟨of, op, on, st', ends', steps', oe⟩ := mok_fault ho (by decide)
      refine wS_seqP (fun e S' => ∃ G m b, e = [some (.lst (ns.map .int)), some (.ref 1), some (.str L), some d, some x, some o, some b] ∧ S' = PSt G m [] ∧ GoodP G m ∧ Fine b) ?_ ?_
      · simp only [wS_rai, wS_try, scope_bl, scope_int, scope_str, scope_non, wpM_ok, wpM_exc, trunc_same, and_self, if_true, if_false, Bool.false_eq_true, reduceIte, wS_setS, wS_seq, wS_if, wS_asg, wS_exS, wS_retS, wS_nxS, wS_nx, wS_ret, wpM_op2, wpM_op1, wpM_asT, wpM_trt, wpM_notT, wpM_andT, wpM_orT, wpM_andV, wpM_notE, wpM_ifE, wpM_lnil, wpM_lcons, wpM_tupE, wpM_lstF, wpM_frz, wpM_new, wpM_cal, wpM_calB, wpM_calF, wpM_isiE, wpM_vr, wpM_ct, wpM_meth, wpM_chn, wpM_cut, wpM_cutF, wpM_ono, wpM_osm, wpM_revT, wpM_lfE, wS_for, tgN, List.getElem?_cons_zero, List.getElem?_cons_succ, List.set_cons_zero, List.set_cons_succ, List.map_cons, List.map_nil, List.length_cons, List.length_nil, List.replicate_succ, List.replicate_zero, Nat.reduceAdd, Nat.reduceSub, List.cons_append, List.nil_append]
        exact bent_wp hG3 hL ho (by decide) fun b G m hG hb => ⟨G, m, b, rfl, rfl, hG, hb⟩
      rintro env S' ⟨G4, m4, b, rfl, rfl, hG4, hb⟩
      refine wS_seqP (fun e S' => e = [some (.lst (ns.map .int)), some (.ref 1), some (.str L), some d, some x, some o, some b] ∧ S' = PSt G4 m4 []) ?_ ?_
      · simp only [wS_rai, wS_try, scope_bl, scope_int, scope_str, scope_non, wpM_ok, wpM_exc, trunc_same, and_self, if_true, if_false, Bool.false_eq_true, reduceIte, wS_setS, wS_seq, wS_if, wS_asg, wS_exS, wS_retS, wS_nxS, wS_nx, wS_ret, wpM_op2, wpM_op1, wpM_asT, wpM_trt, wpM_notT, wpM_andT, wpM_orT, wpM_andV, wpM_notE, wpM_ifE, wpM_lnil, wpM_lcons, wpM_tupE, wpM_lstF, wpM_frz, wpM_new, wpM_cal, wpM_calB, wpM_calF, wpM_isiE, wpM_vr, wpM_ct, wpM_meth, wpM_chn, wpM_cut, wpM_cutF, wpM_ono, wpM_osm, wpM_revT, wpM_lfE, wS_for, tgN, List.getElem?_cons_zero, List.getElem?_cons_succ, List.set_cons_zero, List.set_cons_succ, List.map_cons, List.map_nil, List.length_cons, List.length_nil, List.replicate_succ, List.replicate_zero, Nat.reduceAdd, Nat.reduceSub, List.cons_append, List.nil_append]
        refine fine_told hb ?_
        try simp only [wS_rai, wS_try, scope_bl, scope_int, scope_str, scope_non, wpM_ok, wpM_exc, trunc_same, and_self, if_true, if_false, Bool.false_eq_true, reduceIte, wS_setS, wS_seq, wS_if, wS_asg, wS_exS, wS_retS, wS_nxS, wS_nx, wS_ret, wpM_op2, wpM_op1, wpM_asT, wpM_trt, wpM_notT, wpM_andT, wpM_orT, wpM_andV, wpM_notE, wpM_ifE, wpM_lnil, wpM_lcons, wpM_tupE, wpM_lstF, wpM_frz, wpM_new, wpM_cal, wpM_calB, wpM_calF, wpM_isiE, wpM_vr, wpM_ct, wpM_meth, wpM_chn, wpM_cut, wpM_cutF, wpM_ono, wpM_osm, wpM_revT, wpM_lfE, wS_for, tgN, List.getElem?_cons_zero, List.getElem?_cons_succ, List.set_cons_zero, List.set_cons_succ, List.map_cons, List.map_nil, List.length_cons, List.length_nil, List.replicate_succ, List.replicate_zero, Nat.reduceAdd, Nat.reduceSub, List.cons_append, List.nil_append]
        refine fine_due hb ?_
        try simp only [wS_rai, wS_try, scope_bl, scope_int, scope_str, scope_non, wpM_ok, wpM_exc, trunc_same, and_self, if_true, if_false, Bool.false_eq_true, reduceIte, wS_setS, wS_seq, wS_if, wS_asg, wS_exS, wS_retS, wS_nxS, wS_nx, wS_ret, wpM_op2, wpM_op1, wpM_asT, wpM_trt, wpM_notT, wpM_andT, wpM_orT, wpM_andV, wpM_notE, wpM_ifE, wpM_lnil, wpM_lcons, wpM_tupE, wpM_lstF, wpM_frz, wpM_new, wpM_cal, wpM_calB, wpM_calF, wpM_isiE, wpM_vr, wpM_ct, wpM_meth, wpM_chn, wpM_cut, wpM_cutF, wpM_ono, wpM_osm, wpM_revT, wpM_lfE, wS_for, tgN, List.getElem?_cons_zero, List.getElem?_cons_succ, List.set_cons_zero, List.set_cons_succ, List.map_cons, List.map_nil, List.length_cons, List.length_nil, List.replicate_succ, List.replicate_zero, Nat.reduceAdd, Nat.reduceSub, List.cons_append, List.nil_append]
        refine same_wp ?_
        simp only [wS_rai, wS_try, scope_bl, scope_int, scope_str, scope_non, wpM_ok, wpM_exc, trunc_same, and_self, if_true, if_false, Bool.false_eq_true, reduceIte, wS_setS, wS_seq, wS_if, wS_asg, wS_exS, wS_retS, wS_nxS, wS_nx, wS_ret, wpM_op2, wpM_op1, wpM_asT, wpM_trt, wpM_notT, wpM_andT, wpM_orT, wpM_andV, wpM_notE, wpM_ifE, wpM_lnil, wpM_lcons, wpM_tupE, wpM_lstF, wpM_frz, wpM_new, wpM_cal, wpM_calB, wpM_calF, wpM_isiE, wpM_vr, wpM_ct, wpM_meth, wpM_chn, wpM_cut, wpM_cutF, wpM_ono, wpM_osm, wpM_revT, wpM_lfE, wS_for, tgN, List.getElem?_cons_zero, List.getElem?_cons_succ, List.set_cons_zero, List.set_cons_succ, List.map_cons, List.map_nil, List.length_cons, List.length_nil, List.replicate_succ, List.replicate_zero, Nat.reduceAdd, Nat.reduceSub, List.cons_append, List.nil_append, tru, Bool.not_true]
        try exact ⟨trivial, trivial⟩
      rintro env S' ⟨rfl, rfl⟩
      simp only [wS_rai, wS_try, scope_bl, scope_int, scope_str, scope_non, wpM_ok, wpM_exc, trunc_same, and_self, if_true, if_false, Bool.false_eq_true, reduceIte, wS_setS, wS_seq, wS_if, wS_asg, wS_exS, wS_retS, wS_nxS, wS_nx, wS_ret, wpM_op2, wpM_op1, wpM_asT, wpM_trt, wpM_notT, wpM_andT, wpM_orT, wpM_andV, wpM_notE, wpM_ifE, wpM_lnil, wpM_lcons, wpM_tupE, wpM_lstF, wpM_frz, wpM_new, wpM_cal, wpM_calB, wpM_calF, wpM_isiE, wpM_vr, wpM_ct, wpM_meth, wpM_chn, wpM_cut, wpM_cutF, wpM_ono, wpM_osm, wpM_revT, wpM_lfE, wS_for, tgN, List.getElem?_cons_zero, List.getElem?_cons_succ, List.set_cons_zero, List.set_cons_succ, List.map_cons, List.map_nil, List.length_cons, List.length_nil, List.replicate_succ, List.replicate_zero, Nat.reduceAdd, Nat.reduceSub, List.cons_append, List.nil_append]
      refine fine_told on ?_
      simp only [wS_rai, wS_try, scope_bl, scope_int, scope_str, scope_non, wpM_ok, wpM_exc, trunc_same, and_self, if_true, if_false, Bool.false_eq_true, reduceIte, wS_setS, wS_seq, wS_if, wS_asg, wS_exS, wS_retS, wS_nxS, wS_nx, wS_ret, wpM_op2, wpM_op1, wpM_asT, wpM_trt, wpM_notT, wpM_andT, wpM_orT, wpM_andV, wpM_notE, wpM_ifE, wpM_lnil, wpM_lcons, wpM_tupE, wpM_lstF, wpM_frz, wpM_new, wpM_cal, wpM_calB, wpM_calF, wpM_isiE, wpM_vr, wpM_ct, wpM_meth, wpM_chn, wpM_cut, wpM_cutF, wpM_ono, wpM_osm, wpM_revT, wpM_lfE, wS_for, tgN, List.getElem?_cons_zero, List.getElem?_cons_succ, List.set_cons_zero, List.set_cons_succ, List.map_cons, List.map_nil, List.length_cons, List.length_nil, List.replicate_succ, List.replicate_zero, Nat.reduceAdd, Nat.reduceSub, List.cons_append, List.nil_append, show ∀ S, o_ix S o (.int 2) = some (.tup steps') from fun S => by rw [oe]; exact ixT2, len_tup, q2]
      rw [of, told_list (S := []) oe]
      refine same_wp ?_
      simp only [wS_rai, wS_try, scope_bl, scope_int, scope_str, scope_non, wpM_ok, wpM_exc, trunc_same, and_self, if_true, if_false, Bool.false_eq_true, reduceIte, wS_setS, wS_seq, wS_if, wS_asg, wS_exS, wS_retS, wS_nxS, wS_nx, wS_ret, wpM_op2, wpM_op1, wpM_asT, wpM_trt, wpM_notT, wpM_andT, wpM_orT, wpM_andV, wpM_notE, wpM_ifE, wpM_lnil, wpM_lcons, wpM_tupE, wpM_lstF, wpM_frz, wpM_new, wpM_cal, wpM_calB, wpM_calF, wpM_isiE, wpM_vr, wpM_ct, wpM_meth, wpM_chn, wpM_cut, wpM_cutF, wpM_ono, wpM_osm, wpM_revT, wpM_lfE, wS_for, tgN, List.getElem?_cons_zero, List.getElem?_cons_succ, List.set_cons_zero, List.set_cons_succ, List.map_cons, List.map_nil, List.length_cons, List.length_nil, List.replicate_succ, List.replicate_zero, Nat.reduceAdd, Nat.reduceSub, List.cons_append, List.nil_append, tru, Bool.not_true]
      exact ⟨G4, m4, _, _, _, (by first | rfl | trivial), (by first | rfl | trivial), hG4⟩
    · rintro env S' ⟨G2, m2, e4, e5, e6, rfl, rfl, hG2⟩
      exact ⟨okSrc_nil, G2, m2, _, _, _, rfl, rfl, hG2⟩
  rintro env S' ⟨G2, m2, e4, e5, e6, rfl, rfl, hG2⟩
  refine wS_seqP (fun e S' => ∃ G m, e = [some (.lst (ns.map .int)), some (.ref 1), some (.str L), some d, e4, e5, e6] ∧ S' = PSt G m []) ?_ ?_
  · simp only [wS_rai, wS_try, scope_bl, scope_int, scope_str, scope_non, wpM_ok, wpM_exc, trunc_same, and_self, if_true, if_false, Bool.false_eq_true, reduceIte, wS_setS, wS_seq, wS_if, wS_asg, wS_exS, wS_retS, wS_nxS, wS_nx, wS_ret, wpM_op2, wpM_op1, wpM_asT, wpM_trt, wpM_notT, wpM_andT, wpM_orT, wpM_andV, wpM_notE, wpM_ifE, wpM_lnil, wpM_lcons, wpM_tupE, wpM_lstF, wpM_frz, wpM_new, wpM_cal, wpM_calB, wpM_calF, wpM_isiE, wpM_vr, wpM_ct, wpM_meth, wpM_chn, wpM_cut, wpM_cutF, wpM_ono, wpM_osm, wpM_revT, wpM_lfE, wS_for, tgN, List.getElem?_cons_zero, List.getElem?_cons_succ, List.set_cons_zero, List.set_cons_succ, List.map_cons, List.map_nil, List.length_cons, List.length_nil, List.replicate_succ, List.replicate_zero, Nat.reduceAdd, Nat.reduceSub, List.cons_append, List.nil_append]
    refine pick_wp hG2 (by decide) (by decide) ?_
    intro v G3 m3 hG3 v0 v1
    simp only [wS_rai, wS_try, scope_bl, scope_int, scope_str, scope_non, wpM_ok, wpM_exc, trunc_same, and_self, if_true, if_false, Bool.false_eq_true, reduceIte, wS_setS, wS_seq, wS_if, wS_asg, wS_exS, wS_retS, wS_nxS, wS_nx, wS_ret, wpM_op2, wpM_op1, wpM_asT, wpM_trt, wpM_notT, wpM_andT, wpM_orT, wpM_andV, wpM_notE, wpM_ifE, wpM_lnil, wpM_lcons, wpM_tupE, wpM_lstF, wpM_frz, wpM_new, wpM_cal, wpM_calB, wpM_calF, wpM_isiE, wpM_vr, wpM_ct, wpM_meth, wpM_chn, wpM_cut, wpM_cutF, wpM_ono, wpM_osm, wpM_revT, wpM_lfE, wS_for, tgN, List.getElem?_cons_zero, List.getElem?_cons_succ, List.set_cons_zero, List.set_cons_succ, List.map_cons, List.map_nil, List.length_cons, List.length_nil, List.replicate_succ, List.replicate_zero, Nat.reduceAdd, Nat.reduceSub, List.cons_append, List.nil_append, eq_intS]
    rcases Bool.eq_false_or_eq_true (v == 3) with c | c
    · rw [c]
      simp only [wS_rai, wS_try, scope_bl, scope_int, scope_str, scope_non, wpM_ok, wpM_exc, trunc_same, and_self, if_true, if_false, Bool.false_eq_true, reduceIte, wS_setS, wS_seq, wS_if, wS_asg, wS_exS, wS_retS, wS_nxS, wS_nx, wS_ret, wpM_op2, wpM_op1, wpM_asT, wpM_trt, wpM_notT, wpM_andT, wpM_orT, wpM_andV, wpM_notE, wpM_ifE, wpM_lnil, wpM_lcons, wpM_tupE, wpM_lstF, wpM_frz, wpM_new, wpM_cal, wpM_calB, wpM_calF, wpM_isiE, wpM_vr, wpM_ct, wpM_meth, wpM_chn, wpM_cut, wpM_cutF, wpM_ono, wpM_osm, wpM_revT, wpM_lfE, wS_for, tgN, List.getElem?_cons_zero, List.getElem?_cons_succ, List.set_cons_zero, List.set_cons_succ, List.map_cons, List.map_nil, List.length_cons, List.length_nil, List.replicate_succ, List.replicate_zero, Nat.reduceAdd, Nat.reduceSub, List.cons_append, List.nil_append]
      refine wide_wp hG3 hL ?_
      intro G4 m4 hG4
      simp only [wS_rai, wS_try, scope_bl, scope_int, scope_str, scope_non, wpM_ok, wpM_exc, trunc_same, and_self, if_true, if_false, Bool.false_eq_true, reduceIte, wS_setS, wS_seq, wS_if, wS_asg, wS_exS, wS_retS, wS_nxS, wS_nx, wS_ret, wpM_op2, wpM_op1, wpM_asT, wpM_trt, wpM_notT, wpM_andT, wpM_orT, wpM_andV, wpM_notE, wpM_ifE, wpM_lnil, wpM_lcons, wpM_tupE, wpM_lstF, wpM_frz, wpM_new, wpM_cal, wpM_calB, wpM_calF, wpM_isiE, wpM_vr, wpM_ct, wpM_meth, wpM_chn, wpM_cut, wpM_cutF, wpM_ono, wpM_osm, wpM_revT, wpM_lfE, wS_for, tgN, List.getElem?_cons_zero, List.getElem?_cons_succ, List.set_cons_zero, List.set_cons_succ, List.map_cons, List.map_nil, List.length_cons, List.length_nil, List.replicate_succ, List.replicate_zero, Nat.reduceAdd, Nat.reduceSub, List.cons_append, List.nil_append, tru, Bool.not_true]
      exact ⟨G4, m4, (by first | rfl | trivial), (by first | rfl | trivial)⟩
    · rw [c]
      simp only [wS_rai, wS_try, scope_bl, scope_int, scope_str, scope_non, wpM_ok, wpM_exc, trunc_same, and_self, if_true, if_false, Bool.false_eq_true, reduceIte, wS_setS, wS_seq, wS_if, wS_asg, wS_exS, wS_retS, wS_nxS, wS_nx, wS_ret, wpM_op2, wpM_op1, wpM_asT, wpM_trt, wpM_notT, wpM_andT, wpM_orT, wpM_andV, wpM_notE, wpM_ifE, wpM_lnil, wpM_lcons, wpM_tupE, wpM_lstF, wpM_frz, wpM_new, wpM_cal, wpM_calB, wpM_calF, wpM_isiE, wpM_vr, wpM_ct, wpM_meth, wpM_chn, wpM_cut, wpM_cutF, wpM_ono, wpM_osm, wpM_revT, wpM_lfE, wS_for, tgN, List.getElem?_cons_zero, List.getElem?_cons_succ, List.set_cons_zero, List.set_cons_succ, List.map_cons, List.map_nil, List.length_cons, List.length_nil, List.replicate_succ, List.replicate_zero, Nat.reduceAdd, Nat.reduceSub, List.cons_append, List.nil_append]
      exact ⟨G3, m3, (by first | rfl | trivial), (by first | rfl | trivial)⟩
  rintro env S' ⟨G3, m3, rfl, rfl⟩
  simp only [wS_rai, wS_try, scope_bl, scope_int, scope_str, scope_non, wpM_ok, wpM_exc, trunc_same, and_self, if_true, if_false, Bool.false_eq_true, reduceIte, wS_setS, wS_seq, wS_if, wS_asg, wS_exS, wS_retS, wS_nxS, wS_nx, wS_ret, wpM_op2, wpM_op1, wpM_asT, wpM_trt, wpM_notT, wpM_andT, wpM_orT, wpM_andV, wpM_notE, wpM_ifE, wpM_lnil, wpM_lcons, wpM_tupE, wpM_lstF, wpM_frz, wpM_new, wpM_cal, wpM_calB, wpM_calF, wpM_isiE, wpM_vr, wpM_ct, wpM_meth, wpM_chn, wpM_cut, wpM_cutF, wpM_ono, wpM_osm, wpM_revT, wpM_lfE, wS_for, tgN, List.getElem?_cons_zero, List.getElem?_cons_succ, List.set_cons_zero, List.set_cons_succ, List.map_cons, List.map_nil, List.length_cons, List.length_nil, List.replicate_succ, List.replicate_zero, Nat.reduceAdd, Nat.reduceSub, List.cons_append, List.nil_append]
  refine fine_told dn ?_
  simp only [wS_rai, wS_try, scope_bl, scope_int, scope_str, scope_non, wpM_ok, wpM_exc, trunc_same, and_self, if_true, if_false, Bool.false_eq_true, reduceIte, wS_setS, wS_seq, wS_if, wS_asg, wS_exS, wS_retS, wS_nxS, wS_nx, wS_ret, wpM_op2, wpM_op1, wpM_asT, wpM_trt, wpM_notT, wpM_andT, wpM_orT, wpM_andV, wpM_notE, wpM_ifE, wpM_lnil, wpM_lcons, wpM_tupE, wpM_lstF, wpM_frz, wpM_new, wpM_cal, wpM_calB, wpM_calF, wpM_isiE, wpM_vr, wpM_ct, wpM_meth, wpM_chn, wpM_cut, wpM_cutF, wpM_ono, wpM_osm, wpM_revT, wpM_lfE, wS_for, tgN, List.getElem?_cons_zero, List.getElem?_cons_succ, List.set_cons_zero, List.set_cons_succ, List.map_cons, List.map_nil, List.length_cons, List.length_nil, List.replicate_succ, List.replicate_zero, Nat.reduceAdd, Nat.reduceSub, List.cons_append, List.nil_append, ixd, len_tup, q2]
  refine same_ok ?_
  simp only [wS_rai, wS_try, scope_bl, scope_int, scope_str, scope_non, wpM_ok, wpM_exc, trunc_same, and_self, if_true, if_false, Bool.false_eq_true, reduceIte, wS_setS, wS_seq, wS_if, wS_asg, wS_exS, wS_retS, wS_nxS, wS_nx, wS_ret, wpM_op2, wpM_op1, wpM_asT, wpM_trt, wpM_notT, wpM_andT, wpM_orT, wpM_andV, wpM_notE, wpM_ifE, wpM_lnil, wpM_lcons, wpM_tupE, wpM_lstF, wpM_frz, wpM_new, wpM_cal, wpM_calB, wpM_calF, wpM_isiE, wpM_vr, wpM_ct, wpM_meth, wpM_chn, wpM_cut, wpM_cutF, wpM_ono, wpM_osm, wpM_revT, wpM_lfE, wS_for, tgN, List.getElem?_cons_zero, List.getElem?_cons_succ, List.set_cons_zero, List.set_cons_succ, List.map_cons, List.map_nil, List.length_cons, List.length_nil, List.replicate_succ, List.replicate_zero, Nat.reduceAdd, Nat.reduceSub, List.cons_append, List.nil_append]
end Z

namespace Z
open PySem PySem.Spec L2 Y
theorem all_mk {P : Program} {w : World} {K : PySem.W.Frag} {h : Heap} {mg : Str → Option Value} {fa : Addr} (X : K.In h) (G : h.Ns mainGlobals mg) (hfa : mg "law" = some (.ref fa))
    {t_STATES_MOST : Tok}
    {t_STEPS_MOST : Tok}
    {C_BadMachine I_BadMachine : Addr} {nm_BadMachine q_BadMachine : Str} {N_BadMachine : Addr} {bs_BadMachine : List Value} {sn_BadMachine : List Str} {sub_BadMachine : List Value} {ab_BadMachine : Bool} {col_BadMachine : Option Bool} {dd_BadMachine : Option Addr} {m0_BadMachine m1_BadMachine m2_BadMachine m3_BadMachine m5_BadMachine : Option Value} {oc_BadMachine dc_BadMachine pm_BadMachine cd_BadMachine ct_BadMachine kV_BadMachine : Value} {od_BadMachine an_BadMachine : Option Addr} {sl_BadMachine : Array (Option Value)}
    {C_MendError : Addr}
    {f__law_pool : Addr} {oc__law_pool dc__law_pool pm__law_pool cd__law_pool ct__law_pool kV__law_pool : Value} {od__law_pool an__law_pool : Option Addr} {sl__law_pool : Array (Option Value)}
    {f__law_pick : Addr} {oc__law_pick dc__law_pick pm__law_pick cd__law_pick ct__law_pick kV__law_pick : Value} {od__law_pick an__law_pick : Option Addr} {sl__law_pick : Array (Option Value)}
    {f__law_mixed : Addr} {oc__law_mixed dc__law_mixed pm__law_mixed cd__law_mixed ct__law_mixed kV__law_mixed : Value} {od__law_mixed an__law_mixed : Option Addr} {sl__law_mixed : Array (Option Value)}
    {f__law_letters : Addr} {oc__law_letters dc__law_letters pm__law_letters cd__law_letters ct__law_letters kV__law_letters : Value} {od__law_letters an__law_letters : Option Addr} {sl__law_letters : Array (Option Value)}
    {f__law_machine : Addr} {oc__law_machine dc__law_machine pm__law_machine cd__law_machine ct__law_machine kV__law_machine : Value} {od__law_machine an__law_machine : Option Addr} {sl__law_machine : Array (Option Value)}
    {f__law_same : Addr} {oc__law_same dc__law_same pm__law_same cd__law_same ct__law_same kV__law_same : Value} {od__law_same an__law_same : Option Addr} {sl__law_same : Array (Option Value)}
    {f__law_bent_states : Addr} {oc__law_bent_states dc__law_bent_states pm__law_bent_states cd__law_bent_states ct__law_bent_states kV__law_bent_states : Value} {od__law_bent_states an__law_bent_states : Option Addr} {sl__law_bent_states : Array (Option Value)}
    {f__law_bent_ends : Addr} {oc__law_bent_ends dc__law_bent_ends pm__law_bent_ends cd__law_bent_ends ct__law_bent_ends kV__law_bent_ends : Value} {od__law_bent_ends an__law_bent_ends : Option Addr} {sl__law_bent_ends : Array (Option Value)}
    {f__law_bent_step : Addr} {oc__law_bent_step dc__law_bent_step pm__law_bent_step cd__law_bent_step ct__law_bent_step kV__law_bent_step : Value} {od__law_bent_step an__law_bent_step : Option Addr} {sl__law_bent_step : Array (Option Value)}
    {f__law_bent : Addr} {oc__law_bent dc__law_bent pm__law_bent cd__law_bent ct__law_bent kV__law_bent : Value} {od__law_bent an__law_bent : Option Addr} {sl__law_bent : Array (Option Value)}
    {f_is_whole : Addr} {oc_is_whole dc_is_whole pm_is_whole cd_is_whole ct_is_whole kV_is_whole : Value} {od_is_whole an_is_whole : Option Addr} {sl_is_whole : Array (Option Value)}
    {f_whole_within : Addr} {oc_whole_within dc_whole_within pm_whole_within cd_whole_within ct_whole_within kV_whole_within : Value} {od_whole_within an_whole_within : Option Addr} {sl_whole_within : Array (Option Value)}
    {f_are_rising : Addr} {oc_are_rising dc_are_rising pm_are_rising cd_are_rising ct_are_rising kV_are_rising : Value} {od_are_rising an_are_rising : Option Addr} {sl_are_rising : Array (Option Value)}
    {f_whole_word : Addr} {oc_whole_word dc_whole_word pm_whole_word cd_whole_word ct_whole_word kV_whole_word : Value} {od_whole_word an_whole_word : Option Addr} {sl_whole_word : Array (Option Value)}
    {f_step_word : Addr} {oc_step_word dc_step_word pm_step_word cd_step_word ct_step_word kV_step_word : Value} {od_step_word an_step_word : Option Addr} {sl_step_word : Array (Option Value)}
    {f_machine_fault : Addr} {oc_machine_fault dc_machine_fault pm_machine_fault cd_machine_fault ct_machine_fault kV_machine_fault : Value} {od_machine_fault an_machine_fault : Option Addr} {sl_machine_fault : Array (Option Value)}
    {f_check_machine : Addr} {oc_check_machine dc_check_machine pm_check_machine cd_check_machine ct_check_machine kV_check_machine : Value} {od_check_machine an_check_machine : Option Addr} {sl_check_machine : Array (Option Value)}
    {f__law_told : Addr} {oc__law_told dc__law_told pm__law_told cd__law_told ct__law_told kV__law_told : Value} {od__law_told an__law_told : Option Addr} {sl__law_told : Array (Option Value)}
    {f__law_whole : Addr} {oc__law_whole dc__law_whole pm__law_whole cd__law_whole ct__law_whole kV__law_whole : Value} {od__law_whole an__law_whole : Option Addr} {sl__law_whole : Array (Option Value)}
    {f__law_due : Addr} {oc__law_due dc__law_due pm__law_due cd__law_due ct__law_due kV__law_due : Value} {od__law_due an__law_due : Option Addr} {sl__law_due : Array (Option Value)}
    {f__law_wide : Addr} {oc__law_wide dc__law_wide pm__law_wide cd__law_wide ct__law_wide kV__law_wide : Value} {od__law_wide an__law_wide : Option Addr} {sl__law_wide : Array (Option Value)}
    {f__law_bent_whole : Addr} {oc__law_bent_whole dc__law_bent_whole pm__law_bent_whole cd__law_bent_whole ct__law_bent_whole kV__law_bent_whole : Value} {od__law_bent_whole an__law_bent_whole : Option Addr} {sl__law_bent_whole : Array (Option Value)}
    {f_law : Addr} {oc_law dc_law pm_law cd_law ct_law kV_law : Value} {od_law an_law : Option Addr} {sl_law : Array (Option Value)}
    (n_abs : PySem.W.nsIn K mainGlobals "abs" = some none)
    (n_bool : PySem.W.nsIn K mainGlobals "bool" = some none)
    (n_enumerate : PySem.W.nsIn K mainGlobals "enumerate" = some none)
    (n_int : PySem.W.nsIn K mainGlobals "int" = some none)
    (n_isinstance : PySem.W.nsIn K mainGlobals "isinstance" = some none)
    (n_len : PySem.W.nsIn K mainGlobals "len" = some none)
    (n_list : PySem.W.nsIn K mainGlobals "list" = some none)
    (n_min : PySem.W.nsIn K mainGlobals "min" = some none)
    (n_range : PySem.W.nsIn K mainGlobals "range" = some none)
    (n_sorted : PySem.W.nsIn K mainGlobals "sorted" = some none)
    (n_str : PySem.W.nsIn K mainGlobals "str" = some none)
    (n_tuple : PySem.W.nsIn K mainGlobals "tuple" = some none)
    (n_zip : PySem.W.nsIn K mainGlobals "zip" = some none)
    (c_STATES_MOST : PySem.W.nsIn K mainGlobals "STATES_MOST" = some (some (.int 40 t_STATES_MOST)))
    (c_STEPS_MOST : PySem.W.nsIn K mainGlobals "STEPS_MOST" = some (some (.int 240 t_STEPS_MOST)))
    (aC_BadMachine : PySem.W.nsIn K mainGlobals "BadMachine" = some (some (.ref C_BadMachine)))
    (xL_BadMachine : K.lookup C_BadMachine = some (excClassObj nm_BadMachine q_BadMachine C_BadMachine N_BadMachine bs_BadMachine [.ref C_MendError, .type "ValueError", .type "Exception", .type "BaseException", .type "object"] true sn_BadMachine sub_BadMachine ab_BadMachine col_BadMachine dd_BadMachine m0_BadMachine m1_BadMachine m2_BadMachine m3_BadMachine m5_BadMachine "ValueError.__new__"))
    (sa_BadMachine : PySem.W.findIn K (.ref C_BadMachine) "__setattr__" = some (some (.builtin "object.__setattr__")))
    (ga_BadMachine : PySem.W.findIn K (.ref C_BadMachine) "__getattribute__" = some (some (.builtin "BaseException.__getattribute__")))
    (gg_BadMachine : PySem.W.findIn K (.ref C_BadMachine) "__getattr__" = some none)
    (nf_BadMachine_at : PySem.W.findIn K (.ref C_BadMachine) "at" = some none)
    (nf_BadMachine_word : PySem.W.findIn K (.ref C_BadMachine) "word" = some none)
    (a1_BadMachine : PySem.W.findIn K (.ref C_BadMachine) "__init__" = some (some (.ref I_BadMachine)))
    (t1_BadMachine : PySem.W.typeIn K (.ref I_BadMachine) = some (.type "function"))
    (l1_BadMachine : K.lookup I_BadMachine = some ⟨oc_BadMachine, od_BadMachine, .func (PySem.W.fnOf "__init__" "BadMachine.__init__" (defArgs in_BadMachine) (defBody in_BadMachine) (defScope in_BadMachine) .none kV_BadMachine dc_BadMachine pm_BadMachine an_BadMachine cd_BadMachine ct_BadMachine), sl_BadMachine⟩)
    (c1_BadMachine : PySem.W.codeIn K cd_BadMachine "BadMachine.__init__" = true)
    (k1_BadMachine : PySem.W.keepIn K (.ref I_BadMachine) = true)
    (kC_BadMachine : PySem.W.keepIn K (.ref C_BadMachine) = true)
    (eC_BadMachine : PySem.W.subIn K (.ref C_BadMachine) (.type "BaseException") = some true)
    (tC_BadMachine : PySem.W.typeIn K (.ref C_BadMachine) = some (.type "type"))
    (hC_BadMachine : PySem.W.hasDictIn K C_BadMachine = true)
    (iC_BadMachine : PySem.W.isClsIn K C_BadMachine = true)
    (sC_BadMachine : PySem.W.subIn K (.ref C_BadMachine) (.ref C_BadMachine) = some true)
    (a__law_pool : PySem.W.nsIn K mainGlobals "_law_pool" = some (some (.ref f__law_pool)))
    (l__law_pool : K.lookup f__law_pool = some ⟨oc__law_pool, od__law_pool, .func (PySem.W.fnOf "_law_pool" "_law_pool" (defArgs st__law_pool) (defBody st__law_pool) (defScope st__law_pool) .none kV__law_pool dc__law_pool pm__law_pool an__law_pool cd__law_pool ct__law_pool), sl__law_pool⟩)
    (co__law_pool : PySem.W.codeIn K cd__law_pool "_law_pool" = true)
    (ke__law_pool : PySem.W.keepIn K (.ref f__law_pool) = true)
    (a__law_pick : PySem.W.nsIn K mainGlobals "_law_pick" = some (some (.ref f__law_pick)))
    (l__law_pick : K.lookup f__law_pick = some ⟨oc__law_pick, od__law_pick, .func (PySem.W.fnOf "_law_pick" "_law_pick" (defArgs st__law_pick) (defBody st__law_pick) (defScope st__law_pick) .none kV__law_pick dc__law_pick pm__law_pick an__law_pick cd__law_pick ct__law_pick), sl__law_pick⟩)
    (co__law_pick : PySem.W.codeIn K cd__law_pick "_law_pick" = true)
    (ke__law_pick : PySem.W.keepIn K (.ref f__law_pick) = true)
    (a__law_mixed : PySem.W.nsIn K mainGlobals "_law_mixed" = some (some (.ref f__law_mixed)))
    (l__law_mixed : K.lookup f__law_mixed = some ⟨oc__law_mixed, od__law_mixed, .func (PySem.W.fnOf "_law_mixed" "_law_mixed" (defArgs st__law_mixed) (defBody st__law_mixed) (defScope st__law_mixed) .none kV__law_mixed dc__law_mixed pm__law_mixed an__law_mixed cd__law_mixed ct__law_mixed), sl__law_mixed⟩)
    (co__law_mixed : PySem.W.codeIn K cd__law_mixed "_law_mixed" = true)
    (ke__law_mixed : PySem.W.keepIn K (.ref f__law_mixed) = true)
    (a__law_letters : PySem.W.nsIn K mainGlobals "_law_letters" = some (some (.ref f__law_letters)))
    (l__law_letters : K.lookup f__law_letters = some ⟨oc__law_letters, od__law_letters, .func (PySem.W.fnOf "_law_letters" "_law_letters" (defArgs st__law_letters) (defBody st__law_letters) (defScope st__law_letters) .none kV__law_letters dc__law_letters pm__law_letters an__law_letters cd__law_letters ct__law_letters), sl__law_letters⟩)
    (co__law_letters : PySem.W.codeIn K cd__law_letters "_law_letters" = true)
    (ke__law_letters : PySem.W.keepIn K (.ref f__law_letters) = true)
    (a__law_machine : PySem.W.nsIn K mainGlobals "_law_machine" = some (some (.ref f__law_machine)))
    (l__law_machine : K.lookup f__law_machine = some ⟨oc__law_machine, od__law_machine, .func (PySem.W.fnOf "_law_machine" "_law_machine" (defArgs st__law_machine) (defBody st__law_machine) (defScope st__law_machine) .none kV__law_machine dc__law_machine pm__law_machine an__law_machine cd__law_machine ct__law_machine), sl__law_machine⟩)
    (co__law_machine : PySem.W.codeIn K cd__law_machine "_law_machine" = true)
    (ke__law_machine : PySem.W.keepIn K (.ref f__law_machine) = true)
    (a__law_same : PySem.W.nsIn K mainGlobals "_law_same" = some (some (.ref f__law_same)))
    (l__law_same : K.lookup f__law_same = some ⟨oc__law_same, od__law_same, .func (PySem.W.fnOf "_law_same" "_law_same" (defArgs st__law_same) (defBody st__law_same) (defScope st__law_same) .none kV__law_same dc__law_same pm__law_same an__law_same cd__law_same ct__law_same), sl__law_same⟩)
    (co__law_same : PySem.W.codeIn K cd__law_same "_law_same" = true)
    (ke__law_same : PySem.W.keepIn K (.ref f__law_same) = true)
    (a__law_bent_states : PySem.W.nsIn K mainGlobals "_law_bent_states" = some (some (.ref f__law_bent_states)))
    (l__law_bent_states : K.lookup f__law_bent_states = some ⟨oc__law_bent_states, od__law_bent_states, .func (PySem.W.fnOf "_law_bent_states" "_law_bent_states" (defArgs st__law_bent_states) (defBody st__law_bent_states) (defScope st__law_bent_states) .none kV__law_bent_states dc__law_bent_states pm__law_bent_states an__law_bent_states cd__law_bent_states ct__law_bent_states), sl__law_bent_states⟩)
    (co__law_bent_states : PySem.W.codeIn K cd__law_bent_states "_law_bent_states" = true)
    (ke__law_bent_states : PySem.W.keepIn K (.ref f__law_bent_states) = true)
    (a__law_bent_ends : PySem.W.nsIn K mainGlobals "_law_bent_ends" = some (some (.ref f__law_bent_ends)))
    (l__law_bent_ends : K.lookup f__law_bent_ends = some ⟨oc__law_bent_ends, od__law_bent_ends, .func (PySem.W.fnOf "_law_bent_ends" "_law_bent_ends" (defArgs st__law_bent_ends) (defBody st__law_bent_ends) (defScope st__law_bent_ends) .none kV__law_bent_ends dc__law_bent_ends pm__law_bent_ends an__law_bent_ends cd__law_bent_ends ct__law_bent_ends), sl__law_bent_ends⟩)
    (co__law_bent_ends : PySem.W.codeIn K cd__law_bent_ends "_law_bent_ends" = true)
    (ke__law_bent_ends : PySem.W.keepIn K (.ref f__law_bent_ends) = true)
    (a__law_bent_step : PySem.W.nsIn K mainGlobals "_law_bent_step" = some (some (.ref f__law_bent_step)))
    (l__law_bent_step : K.lookup f__law_bent_step = some ⟨oc__law_bent_step, od__law_bent_step, .func (PySem.W.fnOf "_law_bent_step" "_law_bent_step" (defArgs st__law_bent_step) (defBody st__law_bent_step) (defScope st__law_bent_step) .none kV__law_bent_step dc__law_bent_step pm__law_bent_step an__law_bent_step cd__law_bent_step ct__law_bent_step), sl__law_bent_step⟩)
    (co__law_bent_step : PySem.W.codeIn K cd__law_bent_step "_law_bent_step" = true)
    (ke__law_bent_step : PySem.W.keepIn K (.ref f__law_bent_step) = true)
    (a__law_bent : PySem.W.nsIn K mainGlobals "_law_bent" = some (some (.ref f__law_bent)))
    (l__law_bent : K.lookup f__law_bent = some ⟨oc__law_bent, od__law_bent, .func (PySem.W.fnOf "_law_bent" "_law_bent" (defArgs st__law_bent) (defBody st__law_bent) (defScope st__law_bent) .none kV__law_bent dc__law_bent pm__law_bent an__law_bent cd__law_bent ct__law_bent), sl__law_bent⟩)
    (co__law_bent : PySem.W.codeIn K cd__law_bent "_law_bent" = true)
    (ke__law_bent : PySem.W.keepIn K (.ref f__law_bent) = true)
    (a_is_whole : PySem.W.nsIn K mainGlobals "is_whole" = some (some (.ref f_is_whole)))
    (l_is_whole : K.lookup f_is_whole = some ⟨oc_is_whole, od_is_whole, .func (PySem.W.fnOf "is_whole" "is_whole" (defArgs st_is_whole) (defBody st_is_whole) (defScope st_is_whole) .none kV_is_whole dc_is_whole pm_is_whole an_is_whole cd_is_whole ct_is_whole), sl_is_whole⟩)
    (co_is_whole : PySem.W.codeIn K cd_is_whole "is_whole" = true)
    (ke_is_whole : PySem.W.keepIn K (.ref f_is_whole) = true)
    (a_whole_within : PySem.W.nsIn K mainGlobals "whole_within" = some (some (.ref f_whole_within)))
    (l_whole_within : K.lookup f_whole_within = some ⟨oc_whole_within, od_whole_within, .func (PySem.W.fnOf "whole_within" "whole_within" (defArgs st_whole_within) (defBody st_whole_within) (defScope st_whole_within) .none kV_whole_within dc_whole_within pm_whole_within an_whole_within cd_whole_within ct_whole_within), sl_whole_within⟩)
    (co_whole_within : PySem.W.codeIn K cd_whole_within "whole_within" = true)
    (ke_whole_within : PySem.W.keepIn K (.ref f_whole_within) = true)
    (a_are_rising : PySem.W.nsIn K mainGlobals "are_rising" = some (some (.ref f_are_rising)))
    (l_are_rising : K.lookup f_are_rising = some ⟨oc_are_rising, od_are_rising, .func (PySem.W.fnOf "are_rising" "are_rising" (defArgs st_are_rising) (defBody st_are_rising) (defScope st_are_rising) .none kV_are_rising dc_are_rising pm_are_rising an_are_rising cd_are_rising ct_are_rising), sl_are_rising⟩)
    (co_are_rising : PySem.W.codeIn K cd_are_rising "are_rising" = true)
    (ke_are_rising : PySem.W.keepIn K (.ref f_are_rising) = true)
    (a_whole_word : PySem.W.nsIn K mainGlobals "whole_word" = some (some (.ref f_whole_word)))
    (l_whole_word : K.lookup f_whole_word = some ⟨oc_whole_word, od_whole_word, .func (PySem.W.fnOf "whole_word" "whole_word" (defArgs st_whole_word) (defBody st_whole_word) (defScope st_whole_word) .none kV_whole_word dc_whole_word pm_whole_word an_whole_word cd_whole_word ct_whole_word), sl_whole_word⟩)
    (co_whole_word : PySem.W.codeIn K cd_whole_word "whole_word" = true)
    (ke_whole_word : PySem.W.keepIn K (.ref f_whole_word) = true)
    (a_step_word : PySem.W.nsIn K mainGlobals "step_word" = some (some (.ref f_step_word)))
    (l_step_word : K.lookup f_step_word = some ⟨oc_step_word, od_step_word, .func (PySem.W.fnOf "step_word" "step_word" (defArgs st_step_word) (defBody st_step_word) (defScope st_step_word) .none kV_step_word dc_step_word pm_step_word an_step_word cd_step_word ct_step_word), sl_step_word⟩)
    (co_step_word : PySem.W.codeIn K cd_step_word "step_word" = true)
    (ke_step_word : PySem.W.keepIn K (.ref f_step_word) = true)
    (a_machine_fault : PySem.W.nsIn K mainGlobals "machine_fault" = some (some (.ref f_machine_fault)))
    (l_machine_fault : K.lookup f_machine_fault = some ⟨oc_machine_fault, od_machine_fault, .func (PySem.W.fnOf "machine_fault" "machine_fault" (defArgs st_machine_fault) (defBody st_machine_fault) (defScope st_machine_fault) .none kV_machine_fault dc_machine_fault pm_machine_fault an_machine_fault cd_machine_fault ct_machine_fault), sl_machine_fault⟩)
    (co_machine_fault : PySem.W.codeIn K cd_machine_fault "machine_fault" = true)
    (ke_machine_fault : PySem.W.keepIn K (.ref f_machine_fault) = true)
    (a_check_machine : PySem.W.nsIn K mainGlobals "check_machine" = some (some (.ref f_check_machine)))
    (l_check_machine : K.lookup f_check_machine = some ⟨oc_check_machine, od_check_machine, .func (PySem.W.fnOf "check_machine" "check_machine" (defArgs st_check_machine) (defBody st_check_machine) (defScope st_check_machine) .none kV_check_machine dc_check_machine pm_check_machine an_check_machine cd_check_machine ct_check_machine), sl_check_machine⟩)
    (co_check_machine : PySem.W.codeIn K cd_check_machine "check_machine" = true)
    (ke_check_machine : PySem.W.keepIn K (.ref f_check_machine) = true)
    (a__law_told : PySem.W.nsIn K mainGlobals "_law_told" = some (some (.ref f__law_told)))
    (l__law_told : K.lookup f__law_told = some ⟨oc__law_told, od__law_told, .func (PySem.W.fnOf "_law_told" "_law_told" (defArgs st__law_told) (defBody st__law_told) (defScope st__law_told) .none kV__law_told dc__law_told pm__law_told an__law_told cd__law_told ct__law_told), sl__law_told⟩)
    (co__law_told : PySem.W.codeIn K cd__law_told "_law_told" = true)
    (ke__law_told : PySem.W.keepIn K (.ref f__law_told) = true)
    (a__law_whole : PySem.W.nsIn K mainGlobals "_law_whole" = some (some (.ref f__law_whole)))
    (l__law_whole : K.lookup f__law_whole = some ⟨oc__law_whole, od__law_whole, .func (PySem.W.fnOf "_law_whole" "_law_whole" (defArgs st__law_whole) (defBody st__law_whole) (defScope st__law_whole) .none kV__law_whole dc__law_whole pm__law_whole an__law_whole cd__law_whole ct__law_whole), sl__law_whole⟩)
    (co__law_whole : PySem.W.codeIn K cd__law_whole "_law_whole" = true)
    (ke__law_whole : PySem.W.keepIn K (.ref f__law_whole) = true)
    (a__law_due : PySem.W.nsIn K mainGlobals "_law_due" = some (some (.ref f__law_due)))
    (l__law_due : K.lookup f__law_due = some ⟨oc__law_due, od__law_due, .func (PySem.W.fnOf "_law_due" "_law_due" (defArgs st__law_due) (defBody st__law_due) (defScope st__law_due) .none kV__law_due dc__law_due pm__law_due an__law_due cd__law_due ct__law_due), sl__law_due⟩)
    (co__law_due : PySem.W.codeIn K cd__law_due "_law_due" = true)
    (ke__law_due : PySem.W.keepIn K (.ref f__law_due) = true)
    (a__law_wide : PySem.W.nsIn K mainGlobals "_law_wide" = some (some (.ref f__law_wide)))
    (l__law_wide : K.lookup f__law_wide = some ⟨oc__law_wide, od__law_wide, .func (PySem.W.fnOf "_law_wide" "_law_wide" (defArgs st__law_wide) (defBody st__law_wide) (defScope st__law_wide) .none kV__law_wide dc__law_wide pm__law_wide an__law_wide cd__law_wide ct__law_wide), sl__law_wide⟩)
    (co__law_wide : PySem.W.codeIn K cd__law_wide "_law_wide" = true)
    (ke__law_wide : PySem.W.keepIn K (.ref f__law_wide) = true)
    (a__law_bent_whole : PySem.W.nsIn K mainGlobals "_law_bent_whole" = some (some (.ref f__law_bent_whole)))
    (l__law_bent_whole : K.lookup f__law_bent_whole = some ⟨oc__law_bent_whole, od__law_bent_whole, .func (PySem.W.fnOf "_law_bent_whole" "_law_bent_whole" (defArgs st__law_bent_whole) (defBody st__law_bent_whole) (defScope st__law_bent_whole) .none kV__law_bent_whole dc__law_bent_whole pm__law_bent_whole an__law_bent_whole cd__law_bent_whole ct__law_bent_whole), sl__law_bent_whole⟩)
    (co__law_bent_whole : PySem.W.codeIn K cd__law_bent_whole "_law_bent_whole" = true)
    (ke__law_bent_whole : PySem.W.keepIn K (.ref f__law_bent_whole) = true)
    (a_law : PySem.W.nsIn K mainGlobals "law" = some (some (.ref f_law)))
    (l_law : K.lookup f_law = some ⟨oc_law, od_law, .func (PySem.W.fnOf "law" "law" (defArgs st_law) (defBody st_law) (defScope st_law) .none kV_law dc_law pm_law an_law cd_law ct_law), sl_law⟩)
    (co_law : PySem.W.codeIn K cd_law "law" = true)
    (ke_law : PySem.W.keepIn K (.ref f_law) = true)
    (plain : ∀ ns : List Int, ns.length ≤ 63 → ∃ S, M_law [.lst (ns.map .int)] [] = .ok (.bl true) S) :
    ∃ fd : FuncData, (∀ (s : Shared) (v : Value), BindsTo s fd ⟨[v], []⟩ [("script", v)]) ∧ ∀ base : Heap, K.In base → base.Ns mainGlobals mg → FnOk P w K mg base (L2.CX P w) 11 fa fd ["script"] (spLaw K) := by
  have e := hfa.symm.trans (PySem.W.mg_of X G a_law)
  cases e
  have F__law_pool := fun_mk (st := st__law_pool) l__law_pool co__law_pool ke__law_pool
  have b__law_pool := F__law_pool.binds (ps := ["script"]) fun _ _ _ _ _ _ us hl => match us, hl with | [_], _ => rfl
  have U__law_pool : Fu K mg "_law_pool" st__law_pool ["script"] := ⟨_, _, F__law_pool, PySem.W.mg_of X G a__law_pool, b__law_pool⟩
  have F__law_pick := fun_mk (st := st__law_pick) l__law_pick co__law_pick ke__law_pick
  have b__law_pick := F__law_pick.binds (ps := ["pool", "many"]) fun _ _ _ _ _ _ us hl => match us, hl with | [_, _], _ => rfl
  have U__law_pick : Fu K mg "_law_pick" st__law_pick ["pool", "many"] := ⟨_, _, F__law_pick, PySem.W.mg_of X G a__law_pick, b__law_pick⟩
  have F__law_mixed := fun_mk (st := st__law_mixed) l__law_mixed co__law_mixed ke__law_mixed
  have b__law_mixed := F__law_mixed.binds (ps := ["pool", "things"]) fun _ _ _ _ _ _ us hl => match us, hl with | [_, _], _ => rfl
  have U__law_mixed : Fu K mg "_law_mixed" st__law_mixed ["pool", "things"] := ⟨_, _, F__law_mixed, PySem.W.mg_of X G a__law_mixed, b__law_mixed⟩
  have F__law_letters := fun_mk (st := st__law_letters) l__law_letters co__law_letters ke__law_letters
  have b__law_letters := F__law_letters.binds (ps := ["pool", "most"]) fun _ _ _ _ _ _ us hl => match us, hl with | [_, _], _ => rfl
  have U__law_letters : Fu K mg "_law_letters" st__law_letters ["pool", "most"] := ⟨_, _, F__law_letters, PySem.W.mg_of X G a__law_letters, b__law_letters⟩
  have F__law_machine := fun_mk (st := st__law_machine) l__law_machine co__law_machine ke__law_machine
  have b__law_machine := F__law_machine.binds (ps := ["pool", "letters", "most", "many"]) fun _ _ _ _ _ _ us hl => match us, hl with | [_, _, _, _], _ => rfl
  have U__law_machine : Fu K mg "_law_machine" st__law_machine ["pool", "letters", "most", "many"] := ⟨_, _, F__law_machine, PySem.W.mg_of X G a__law_machine, b__law_machine⟩
  have F__law_same := fun_mk (st := st__law_same) l__law_same co__law_same ke__law_same
  have b__law_same := F__law_same.binds (ps := ["told", "due"]) fun _ _ _ _ _ _ us hl => match us, hl with | [_, _], _ => rfl
  have U__law_same : Fu K mg "_law_same" st__law_same ["told", "due"] := ⟨_, _, F__law_same, PySem.W.mg_of X G a__law_same, b__law_same⟩
  have F__law_bent_states := fun_mk (st := st__law_bent_states) l__law_bent_states co__law_bent_states ke__law_bent_states
  have b__law_bent_states := F__law_bent_states.binds (ps := ["pool", "states"]) fun _ _ _ _ _ _ us hl => match us, hl with | [_, _], _ => rfl
  have U__law_bent_states : Fu K mg "_law_bent_states" st__law_bent_states ["pool", "states"] := ⟨_, _, F__law_bent_states, PySem.W.mg_of X G a__law_bent_states, b__law_bent_states⟩
  have F__law_bent_ends := fun_mk (st := st__law_bent_ends) l__law_bent_ends co__law_bent_ends ke__law_bent_ends
  have b__law_bent_ends := F__law_bent_ends.binds (ps := ["pool", "states", "ends"]) fun _ _ _ _ _ _ us hl => match us, hl with | [_, _, _], _ => rfl
  have U__law_bent_ends : Fu K mg "_law_bent_ends" st__law_bent_ends ["pool", "states", "ends"] := ⟨_, _, F__law_bent_ends, PySem.W.mg_of X G a__law_bent_ends, b__law_bent_ends⟩
  have F__law_bent_step := fun_mk (st := st__law_bent_step) l__law_bent_step co__law_bent_step ke__law_bent_step
  have b__law_bent_step := F__law_bent_step.binds (ps := ["pool", "letters", "states", "step"]) fun _ _ _ _ _ _ us hl => match us, hl with | [_, _, _, _], _ => rfl
  have U__law_bent_step : Fu K mg "_law_bent_step" st__law_bent_step ["pool", "letters", "states", "step"] := ⟨_, _, F__law_bent_step, PySem.W.mg_of X G a__law_bent_step, b__law_bent_step⟩
  have F__law_bent := fun_mk (st := st__law_bent) l__law_bent co__law_bent ke__law_bent
  have b__law_bent := F__law_bent.binds (ps := ["pool", "letters", "thing"]) fun _ _ _ _ _ _ us hl => match us, hl with | [_, _, _], _ => rfl
  have U__law_bent : Fu K mg "_law_bent" st__law_bent ["pool", "letters", "thing"] := ⟨_, _, F__law_bent, PySem.W.mg_of X G a__law_bent, b__law_bent⟩
  have F_is_whole := fun_mk (st := st_is_whole) l_is_whole co_is_whole ke_is_whole
  have b_is_whole := F_is_whole.binds (ps := ["thing"]) fun _ _ _ _ _ _ us hl => match us, hl with | [_], _ => rfl
  have U_is_whole : Fu K mg "is_whole" st_is_whole ["thing"] := ⟨_, _, F_is_whole, PySem.W.mg_of X G a_is_whole, b_is_whole⟩
  have F_whole_within := fun_mk (st := st_whole_within) l_whole_within co_whole_within ke_whole_within
  have b_whole_within := F_whole_within.binds (ps := ["thing", "low", "high"]) fun _ _ _ _ _ _ us hl => match us, hl with | [_, _, _], _ => rfl
  have U_whole_within : Fu K mg "whole_within" st_whole_within ["thing", "low", "high"] := ⟨_, _, F_whole_within, PySem.W.mg_of X G a_whole_within, b_whole_within⟩
  have F_are_rising := fun_mk (st := st_are_rising) l_are_rising co_are_rising ke_are_rising
  have b_are_rising := F_are_rising.binds (ps := ["thing", "most"]) fun _ _ _ _ _ _ us hl => match us, hl with | [_, _], _ => rfl
  have U_are_rising : Fu K mg "are_rising" st_are_rising ["thing", "most"] := ⟨_, _, F_are_rising, PySem.W.mg_of X G a_are_rising, b_are_rising⟩
  have F_whole_word := fun_mk (st := st_whole_word) l_whole_word co_whole_word ke_whole_word
  have b_whole_word := F_whole_word.binds (ps := ["thing"]) fun _ _ _ _ _ _ us hl => match us, hl with | [_], _ => rfl
  have U_whole_word : Fu K mg "whole_word" st_whole_word ["thing"] := ⟨_, _, F_whole_word, PySem.W.mg_of X G a_whole_word, b_whole_word⟩
  have F_step_word := fun_mk (st := st_step_word) l_step_word co_step_word ke_step_word
  have b_step_word := F_step_word.binds (ps := ["letters", "states", "thing", "ahead"]) fun _ _ _ _ _ _ us hl => match us, hl with | [_, _, _, _], _ => rfl
  have U_step_word : Fu K mg "step_word" st_step_word ["letters", "states", "thing", "ahead"] := ⟨_, _, F_step_word, PySem.W.mg_of X G a_step_word, b_step_word⟩
  have F_machine_fault := fun_mk (st := st_machine_fault) l_machine_fault co_machine_fault ke_machine_fault
  have b_machine_fault := F_machine_fault.binds (ps := ["letters", "thing"]) fun _ _ _ _ _ _ us hl => match us, hl with | [_, _], _ => rfl
  have U_machine_fault : Fu K mg "machine_fault" st_machine_fault ["letters", "thing"] := ⟨_, _, F_machine_fault, PySem.W.mg_of X G a_machine_fault, b_machine_fault⟩
  have F_check_machine := fun_mk (st := st_check_machine) l_check_machine co_check_machine ke_check_machine
  have b_check_machine := F_check_machine.binds (ps := ["letters", "thing"]) fun _ _ _ _ _ _ us hl => match us, hl with | [_, _], _ => rfl
  have U_check_machine : Fu K mg "check_machine" st_check_machine ["letters", "thing"] := ⟨_, _, F_check_machine, PySem.W.mg_of X G a_check_machine, b_check_machine⟩
  have F__law_told := fun_mk (st := st__law_told) l__law_told co__law_told ke__law_told
  have b__law_told := F__law_told.binds (ps := ["letters", "thing"]) fun _ _ _ _ _ _ us hl => match us, hl with | [_, _], _ => rfl
  have U__law_told : Fu K mg "_law_told" st__law_told ["letters", "thing"] := ⟨_, _, F__law_told, PySem.W.mg_of X G a__law_told, b__law_told⟩
  have F__law_whole := fun_mk (st := st__law_whole) l__law_whole co__law_whole ke__law_whole
  have b__law_whole := F__law_whole.binds (ps := ["number"]) fun _ _ _ _ _ _ us hl => match us, hl with | [_], _ => rfl
  have U__law_whole : Fu K mg "_law_whole" st__law_whole ["number"] := ⟨_, _, F__law_whole, PySem.W.mg_of X G a__law_whole, b__law_whole⟩
  have F__law_due := fun_mk (st := st__law_due) l__law_due co__law_due ke__law_due
  have b__law_due := F__law_due.binds (ps := ["letters", "thing"]) fun _ _ _ _ _ _ us hl => match us, hl with | [_, _], _ => rfl
  have U__law_due : Fu K mg "_law_due" st__law_due ["letters", "thing"] := ⟨_, _, F__law_due, PySem.W.mg_of X G a__law_due, b__law_due⟩
  have F__law_wide := fun_mk (st := st__law_wide) l__law_wide co__law_wide ke__law_wide
  have b__law_wide := F__law_wide.binds (ps := ["pool", "letters"]) fun _ _ _ _ _ _ us hl => match us, hl with | [_, _], _ => rfl
  have U__law_wide : Fu K mg "_law_wide" st__law_wide ["pool", "letters"] := ⟨_, _, F__law_wide, PySem.W.mg_of X G a__law_wide, b__law_wide⟩
  have F__law_bent_whole := fun_mk (st := st__law_bent_whole) l__law_bent_whole co__law_bent_whole ke__law_bent_whole
  have b__law_bent_whole := F__law_bent_whole.binds (ps := ["pool", "thing"]) fun _ _ _ _ _ _ us hl => match us, hl with | [_, _], _ => rfl
  have U__law_bent_whole : Fu K mg "_law_bent_whole" st__law_bent_whole ["pool", "thing"] := ⟨_, _, F__law_bent_whole, PySem.W.mg_of X G a__law_bent_whole, b__law_bent_whole⟩
  have F_law := fun_mk (st := st_law) l_law co_law ke_law
  have b_law := F_law.binds (ps := ["script"]) fun _ _ _ _ _ _ us hl => match us, hl with | [_], _ => rfl
  have U_law : Fu K mg "law" st_law ["script"] := ⟨_, _, F_law, PySem.W.mg_of X G a_law, b_law⟩
  have G_BadMachine := fun_mk (st := in_BadMachine) l1_BadMachine c1_BadMachine k1_BadMachine
  have bI_BadMachine := G_BadMachine.binds (ps := ["self", "at", "word"]) fun _ _ _ _ _ _ us hl => match us, hl with | [_, _, _], _ => rfl
  have oe_BadMachine : OexC K C_BadMachine := ⟨⟨_, _, _, _, _, _, _, _, _, _, _, _, _, _, _, xL_BadMachine, by rfl⟩, sa_BadMachine, eC_BadMachine, tC_BadMachine, kC_BadMachine⟩
  have xf_BadMachine : XfC K C_BadMachine := ⟨ga_BadMachine, gg_BadMachine, eC_BadMachine, hC_BadMachine⟩
  refine ⟨PySem.W.fnOf "law" "law" (defArgs st_law) (defBody st_law) (defScope st_law) .none kV_law dc_law pm_law an_law cd_law ct_law, fun s v => .of_eq rfl, fun base _ _ => ?_⟩
  have z : Zs P w K mg base := {
    n_abs := PySem.W.mg_none_of X G n_abs,
    n_bool := PySem.W.mg_none_of X G n_bool,
    n_enumerate := PySem.W.mg_none_of X G n_enumerate,
    n_int := PySem.W.mg_none_of X G n_int,
    n_isinstance := PySem.W.mg_none_of X G n_isinstance,
    n_len := PySem.W.mg_none_of X G n_len,
    n_list := PySem.W.mg_none_of X G n_list,
    n_min := PySem.W.mg_none_of X G n_min,
    n_range := PySem.W.mg_none_of X G n_range,
    n_sorted := PySem.W.mg_none_of X G n_sorted,
    n_str := PySem.W.mg_none_of X G n_str,
    n_tuple := PySem.W.mg_none_of X G n_tuple,
    n_zip := PySem.W.mg_none_of X G n_zip,
    c_STATES_MOST := ⟨_, PySem.W.mg_of X G c_STATES_MOST⟩,
    c_STEPS_MOST := ⟨_, PySem.W.mg_of X G c_STEPS_MOST⟩,
    x_BadMachine := ⟨C_BadMachine, I_BadMachine, _, _, oe_BadMachine, a1_BadMachine, t1_BadMachine, ok_init2 (k := 0) G_BadMachine scI_BadMachine rfl (fun cdv A outer s H E => ss_init2 oe_BadMachine nf_BadMachine_at nf_BadMachine_word (pe_var (i := 0) rfl (Or.inl rfl)) (pe_var (i := 1) rfl (Or.inl rfl)) (pe_var (i := 0) rfl (Or.inl rfl)) (pe_var (i := 2) rfl (Or.inl rfl))), bI_BadMachine, PySem.W.mg_of X G aC_BadMachine⟩,
    h_BadMachine := hd_self (PySem.W.mg_of X G aC_BadMachine) (exm_self eC_BadMachine iC_BadMachine tC_BadMachine sC_BadMachine),
    f_BadMachine_at := fun c hc C hm => by
      have e1 := List.mem_singleton.mp hc
      subst e1
      have e2 := hm.symm.trans (PySem.W.mg_of X G aC_BadMachine)
      cases e2
      exact ⟨xf_BadMachine, nf_BadMachine_at⟩,
    f_BadMachine_word := fun c hc C hm => by
      have e1 := List.mem_singleton.mp hc
      subst e1
      have e2 := hm.symm.trans (PySem.W.mg_of X G aC_BadMachine)
      cases e2
      exact ⟨xf_BadMachine, nf_BadMachine_word⟩ }
  have C__law_pool := ok__law_pool z U__law_pool 
  have C__law_pick := ok__law_pick z U__law_pick 
  have C__law_mixed := ok__law_mixed z U__law_mixed C__law_pick
  have C__law_letters := ok__law_letters z U__law_letters C__law_pick C__law_mixed
  have C__law_machine := ok__law_machine z U__law_machine C__law_pick
  have C__law_same := ok__law_same z U__law_same 
  have C__law_bent_states := ok__law_bent_states z U__law_bent_states C__law_pick
  have C__law_bent_ends := ok__law_bent_ends z U__law_bent_ends C__law_pick
  have C__law_bent_step := ok__law_bent_step z U__law_bent_step C__law_pick
  have C__law_bent := ok__law_bent z U__law_bent C__law_pick C__law_bent_states C__law_bent_ends C__law_bent_step
  have C_is_whole := ok_is_whole z U_is_whole 
  have C_whole_within := ok_whole_within z U_whole_within C_is_whole
  have C_are_rising := ok_are_rising z U_are_rising C_whole_within
  have C_whole_word := ok_whole_word z U_whole_word C_is_whole C_whole_within C_are_rising
  have C_step_word := ok_step_word z U_step_word C_is_whole
  have C_machine_fault := ok_machine_fault z U_machine_fault C_whole_word C_step_word
  have C_check_machine := ok_check_machine z U_check_machine C_machine_fault
  have C__law_told := ok__law_told z U__law_told C_check_machine
  have C__law_whole := ok__law_whole z U__law_whole 
  have C__law_due := ok__law_due z U__law_due C__law_whole
  have C__law_wide := ok__law_wide z U__law_wide C__law_pick C__law_same C__law_bent_step C__law_told C__law_due
  have C__law_bent_whole := ok__law_bent_whole z U__law_bent_whole C__law_pick
  exact law_end (ok_law z F_law C__law_pool C__law_pick C__law_letters C__law_machine C__law_same C__law_bent C__law_told C__law_due C__law_wide C__law_bent_whole) rfl plain
end Z

open PySem PySem.W PyProof.Rows
set_option maxHeartbeats 0 in
theorem PySem.Challenge.cw_fewmends_k06_check_machine_holds : PySem.Challenge.rw_fewmends_k06_check_machine.Holds := by
  w_on; o_law; k_head; (case hw => w_witness2)
  k_fill
  refine L2.walk_of (l := PySem.Challenge.rw_fewmends_k06_check_machine) (n := 63) (k := 11) (x := "script") (CX := fun w => L2.CX PySem.Challenge.rw_fewmends_k06_check_machine.prog w) (sp := fun w => Y.spLaw _) rfl (by decide) rfl ⟨rfl, by decide, by decide⟩ (fun w h Y => PySem.W.kIn_of Y) ?F (fun _ _ a ns hl _ hS => ⟨a, ns, rfl, hS, hl, fun _ => rfl⟩) (fun w H s e s' h => Y.noCX h)
  case F =>
    intro w mg fa h KX G hmg
    refine' Z.all_mk KX G hmg ?n_abs ?n_bool ?n_enumerate ?n_int ?n_isinstance ?n_len ?n_list ?n_min ?n_range ?n_sorted ?n_str ?n_tuple ?n_zip ?c_STATES_MOST ?c_STEPS_MOST ?aC_BadMachine ?xL_BadMachine ?sa_BadMachine ?ga_BadMachine ?gg_BadMachine ?nf_BadMachine_at ?nf_BadMachine_word ?a1_BadMachine ?t1_BadMachine ?l1_BadMachine ?c1_BadMachine ?k1_BadMachine ?kC_BadMachine ?eC_BadMachine ?tC_BadMachine ?hC_BadMachine ?iC_BadMachine ?sC_BadMachine ?a__law_pool ?l__law_pool ?co__law_pool ?ke__law_pool ?a__law_pick ?l__law_pick ?co__law_pick ?ke__law_pick ?a__law_mixed ?l__law_mixed ?co__law_mixed ?ke__law_mixed ?a__law_letters ?l__law_letters ?co__law_letters ?ke__law_letters ?a__law_machine ?l__law_machine ?co__law_machine ?ke__law_machine ?a__law_same ?l__law_same ?co__law_same ?ke__law_same ?a__law_bent_states ?l__law_bent_states ?co__law_bent_states ?ke__law_bent_states ?a__law_bent_ends ?l__law_bent_ends ?co__law_bent_ends ?ke__law_bent_ends ?a__law_bent_step ?l__law_bent_step ?co__law_bent_step ?ke__law_bent_step ?a__law_bent ?l__law_bent ?co__law_bent ?ke__law_bent ?a_is_whole ?l_is_whole ?co_is_whole ?ke_is_whole ?a_whole_within ?l_whole_within ?co_whole_within ?ke_whole_within ?a_are_rising ?l_are_rising ?co_are_rising ?ke_are_rising ?a_whole_word ?l_whole_word ?co_whole_word ?ke_whole_word ?a_step_word ?l_step_word ?co_step_word ?ke_step_word ?a_machine_fault ?l_machine_fault ?co_machine_fault ?ke_machine_fault ?a_check_machine ?l_check_machine ?co_check_machine ?ke_check_machine ?a__law_told ?l__law_told ?co__law_told ?ke__law_told ?a__law_whole ?l__law_whole ?co__law_whole ?ke__law_whole ?a__law_due ?l__law_due ?co__law_due ?ke__law_due ?a__law_wide ?l__law_wide ?co__law_wide ?ke__law_wide ?a__law_bent_whole ?l__law_bent_whole ?co__law_bent_whole ?ke__law_bent_whole ?a_law ?l_law ?co_law ?ke_law Z.plain
    (case n_abs => first | k_is | rfl); (case n_bool => first | k_is | rfl); (case n_enumerate => first | k_is | rfl); (case n_int => first | k_is | rfl); (case n_isinstance => first | k_is | rfl); (case n_len => first | k_is | rfl); (case n_list => first | k_is | rfl); (case n_min => first | k_is | rfl)
    (case n_range => first | k_is | rfl); (case n_sorted => first | k_is | rfl); (case n_str => first | k_is | rfl); (case n_tuple => first | k_is | rfl); (case n_zip => first | k_is | rfl); (case c_STATES_MOST => first | k_is | rfl); (case c_STEPS_MOST => first | k_is | rfl); (case aC_BadMachine => first | k_is | rfl)
    (case xL_BadMachine => first | k_is | rfl); (case sa_BadMachine => first | k_is | rfl); (case ga_BadMachine => first | k_is | rfl); (case gg_BadMachine => first | k_is | rfl); (case nf_BadMachine_at => first | k_is | rfl); (case nf_BadMachine_word => first | k_is | rfl); (case a1_BadMachine => first | k_is | rfl); (case t1_BadMachine => first | k_is | rfl)
    (case l1_BadMachine => first | k_is | rfl); (case c1_BadMachine => first | k_is | rfl); (case k1_BadMachine => first | k_is | rfl); (case kC_BadMachine => first | k_is | rfl); (case eC_BadMachine => first | k_is | rfl); (case tC_BadMachine => first | k_is | rfl); (case hC_BadMachine => first | k_is | rfl); (case iC_BadMachine => first | k_is | rfl)
    (case sC_BadMachine => first | k_is | rfl); (case a__law_pool => first | k_is | rfl); (case l__law_pool => first | k_is | rfl); (case co__law_pool => first | k_is | rfl); (case ke__law_pool => first | k_is | rfl); (case a__law_pick => first | k_is | rfl); (case l__law_pick => first | k_is | rfl); (case co__law_pick => first | k_is | rfl)
    (case ke__law_pick => first | k_is | rfl); (case a__law_mixed => first | k_is | rfl); (case l__law_mixed => first | k_is | rfl); (case co__law_mixed => first | k_is | rfl); (case ke__law_mixed => first | k_is | rfl); (case a__law_letters => first | k_is | rfl); (case l__law_letters => first | k_is | rfl); (case co__law_letters => first | k_is | rfl)
    (case ke__law_letters => first | k_is | rfl); (case a__law_machine => first | k_is | rfl); (case l__law_machine => first | k_is | rfl); (case co__law_machine => first | k_is | rfl); (case ke__law_machine => first | k_is | rfl); (case a__law_same => first | k_is | rfl); (case l__law_same => first | k_is | rfl); (case co__law_same => first | k_is | rfl)
    (case ke__law_same => first | k_is | rfl); (case a__law_bent_states => first | k_is | rfl); (case l__law_bent_states => first | k_is | rfl); (case co__law_bent_states => first | k_is | rfl); (case ke__law_bent_states => first | k_is | rfl); (case a__law_bent_ends => first | k_is | rfl); (case l__law_bent_ends => first | k_is | rfl); (case co__law_bent_ends => first | k_is | rfl)
    (case ke__law_bent_ends => first | k_is | rfl); (case a__law_bent_step => first | k_is | rfl); (case l__law_bent_step => first | k_is | rfl); (case co__law_bent_step => first | k_is | rfl); (case ke__law_bent_step => first | k_is | rfl); (case a__law_bent => first | k_is | rfl); (case l__law_bent => first | k_is | rfl); (case co__law_bent => first | k_is | rfl)
    (case ke__law_bent => first | k_is | rfl); (case a_is_whole => first | k_is | rfl); (case l_is_whole => first | k_is | rfl); (case co_is_whole => first | k_is | rfl); (case ke_is_whole => first | k_is | rfl); (case a_whole_within => first | k_is | rfl); (case l_whole_within => first | k_is | rfl); (case co_whole_within => first | k_is | rfl)
    (case ke_whole_within => first | k_is | rfl); (case a_are_rising => first | k_is | rfl); (case l_are_rising => first | k_is | rfl); (case co_are_rising => first | k_is | rfl); (case ke_are_rising => first | k_is | rfl); (case a_whole_word => first | k_is | rfl); (case l_whole_word => first | k_is | rfl); (case co_whole_word => first | k_is | rfl)
    (case ke_whole_word => first | k_is | rfl); (case a_step_word => first | k_is | rfl); (case l_step_word => first | k_is | rfl); (case co_step_word => first | k_is | rfl); (case ke_step_word => first | k_is | rfl); (case a_machine_fault => first | k_is | rfl); (case l_machine_fault => first | k_is | rfl); (case co_machine_fault => first | k_is | rfl)
    (case ke_machine_fault => first | k_is | rfl); (case a_check_machine => first | k_is | rfl); (case l_check_machine => first | k_is | rfl); (case co_check_machine => first | k_is | rfl); (case ke_check_machine => first | k_is | rfl); (case a__law_told => first | k_is | rfl); (case l__law_told => first | k_is | rfl); (case co__law_told => first | k_is | rfl)
    (case ke__law_told => first | k_is | rfl); (case a__law_whole => first | k_is | rfl); (case l__law_whole => first | k_is | rfl); (case co__law_whole => first | k_is | rfl); (case ke__law_whole => first | k_is | rfl); (case a__law_due => first | k_is | rfl); (case l__law_due => first | k_is | rfl); (case co__law_due => first | k_is | rfl)
    (case ke__law_due => first | k_is | rfl); (case a__law_wide => first | k_is | rfl); (case l__law_wide => first | k_is | rfl); (case co__law_wide => first | k_is | rfl); (case ke__law_wide => first | k_is | rfl); (case a__law_bent_whole => first | k_is | rfl); (case l__law_bent_whole => first | k_is | rfl); (case co__law_bent_whole => first | k_is | rfl)
    (case ke__law_bent_whole => first | k_is | rfl); (case a_law => first | k_is | rfl); (case l_law => first | k_is | rfl); (case co_law => first | k_is | rfl); (case ke_law => first | k_is | rfl)

