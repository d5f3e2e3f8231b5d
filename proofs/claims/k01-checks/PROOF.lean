import PyProof.Rows.All
import Wide.All
import OpenK.AllK
import Wide.FinOn
import HandS.ForMost
import HandS.ForExc
import HandS.CallSlots
import HandS.Flow
import HandS.TupAny
import HandS.IsInst
import HandS.Wide
import HandS.Deep
import HandS.Conv
import HandS.SetFor
import HandS.TupLe
import HandS.Text
import HandS.Iter
import HandS.Zip
import KE.GoesEnum
import KE.SortData
import PyProof.ListStr
import HandS.Style
import HandS.More
import HandS.ExcInit
import HandS.ExcField
import HandS.WordsExc
import HandS.Dict
import HandS.ExcIs
import HandS.List
import HandS.Codes
import PyProof.Rows.StrStep
import PyProof.Rows.SeqMore
import PyProof.Rows.StrSub
import PyProof.TupleOfStr
import PyProof.StrBlock2
import PyProof.Rows.RegStrFacts
import PySem.Challenge.RW_fewmends_k01_checks
section
set_option Elab.async false
set_option linter.all false
set_option maxRecDepth 100000
set_option maxHeartbeats 4000000
namespace Y
open PySem PySem.Spec L2

/-! ### data, stores, answers -/
/-- values of the mirror: lst is a list that nobody changes any more, ref a list (dict) that may change -/
inductive D where
  | non | bl (b : Bool) | int (i : Int) | str (s : Str) | tup (ds : List D) | lst (ds : List D) | ref (n : Nat)
inductive Ob where
  | lst (ds : List D) | dK (kvs : List (Key × D)) | dT (kvs : List (List Key × D))
/-- the values that an object holds -/
def Ob.pay : Ob → List D
  | .lst ds => ds
  | .dK kvs => kvs.map (·.2)
  | .dT kvs => kvs.map (·.2)
/-- what stands at its address, by the values' readings -/
def Ob.ho (xs : List V) : Ob → HO
  | .lst _ => .lst xs
  | .dK kvs => .dK ((kvs.map (·.1)).zip xs)
  | .dT kvs => .dT ((kvs.map (·.1)).zip xs)
theorem Ob.ho_tup {o : Ob} {xs ys : List V} (h : o.ho xs = .tup ys) : False := by cases o <;> cases h
theorem Ob.ho_frz {o : Ob} {xs : List V} {w : Obj} {u : HO} (h : o.ho xs = .frz w u) : False := by cases o <;> cases h
abbrev Sto := List (Option Ob)
abbrev En := List (Option D)
inductive Res (α : Type) where
  | ok (a : α) (S : Sto) | exc (c : Str) (fs : List (Str × D)) (S : Sto) | err
/-- what a statement comes to -/
inductive SR where
  | nx (e : En) (S : Sto) | ret (d : D) (S : Sto) | brk (e : En) (S : Sto) | ct (e : En) (S : Sto) | exc (c : Str) (fs : List (Str × D)) (e : En) (S : Sto) | err

def bd {α β : Type} (r : Res α) (k : α → Sto → Res β) : Res β := match r with
  | .ok a S => k a S
  | .exc c fs S => .exc c fs S
  | .err => .err
def wpM {α : Type} (r : Res α) (Q : α → Sto → Prop) (E : Str → List (Str × D) → Sto → Prop) : Prop := match r with
  | .ok a S => Q a S
  | .exc c fs S => E c fs S
  | .err => False
theorem wpM_bd {α β : Type} {r : Res α} {k : α → Sto → Res β} {Q : β → Sto → Prop} {E : Str → List (Str × D) → Sto → Prop} (h : wpM (bd r k) Q E) : wpM r (fun a S => wpM (k a S) Q E) E := by
  cases r <;> exact h
theorem wpM_mono {α : Type} {r : Res α} {Q Q' : α → Sto → Prop} {E E' : Str → List (Str × D) → Sto → Prop} (h : wpM r Q E) (hq : ∀ a S, Q a S → Q' a S) (he : ∀ c f S, E c f S → E' c f S) : wpM r Q' E' := by
  cases r
  · exact hq _ _ h
  · exact he _ _ _ h
  · exact h

/-! ### what stands for what -/
def KLst (K : PySem.W.Frag) (a : Addr) (xs : List V) : Prop := ∃ (o : Obj) (its : Array Value) (n : Nat), K.lookup a = some o ∧ o.cls = .type "list" ∧ o.dict = none ∧ o.data = .seq its n ∧ its.size ≤ sizeLine ∧ Vals xs its.toList
/-- a list that nobody changes -/
def FzL (K : PySem.W.Frag) (H : Hp) (A : Addr → Prop) (a : Addr) (xs : List V) : Prop := (Rd H a (.lst xs) ∧ ¬ A a) ∨ KLst K a xs
theorem FzL.sq {K : PySem.W.Frag} {H : Hp} {A : Addr → Prop} {a : Addr} {xs : List V} (h : FzL K H A a xs) : SqL K H a xs := h.elim (fun h => .inl h.1) .inr
mutual
def RelD (K : PySem.W.Frag) (H : Hp) (A : Addr → Prop) (ρ : List Addr) (v : V) : D → Prop
  | .non => v = .non
  | .bl b => v = .bl b
  | .int i => v = .int i
  | .str s => v = .str s
  | .tup ds => ∃ a xs, v = .ref a ∧ SqT K H a xs ∧ RelL K H A ρ xs ds
  | .lst ds => ∃ a xs, v = .ref a ∧ FzL K H A a xs ∧ RelL K H A ρ xs ds
  | .ref n => ∃ a, v = .ref a ∧ ρ[n]? = some a
def RelL (K : PySem.W.Frag) (H : Hp) (A : Addr → Prop) (ρ : List Addr) (vs : List V) : List D → Prop
  | [] => vs = []
  | d :: ds => ∃ x xs, vs = x :: xs ∧ RelD K H A ρ x d ∧ RelL K H A ρ xs ds
end
section
variable {K : PySem.W.Frag} {H H' : Hp} {A A' : Addr → Prop} {ρ ρ' : List Addr}
mutual
theorem RelD.mono (hl : ∀ a xs, Rd H a (.lst xs) → ¬ A a → Rd H' a (.lst xs) ∧ ¬ A' a) (ht : ∀ a xs, SqT K H a xs → SqT K H' a xs) (hr : ∀ (n : Nat) a, ρ[n]? = some a → ρ'[n]? = some a) : ∀ (d : D) (v : V), RelD K H A ρ v d → RelD K H' A' ρ' v d
  | .non, _, h => h
  | .bl _, _, h => h
  | .int _, _, h => h
  | .str _, _, h => h
  | .tup ds, _, ⟨a, xs, e, h1, h2⟩ => ⟨a, xs, e, ht a xs h1, RelL.mono hl ht hr ds xs h2⟩
  | .lst ds, _, ⟨a, xs, e, h1, h3⟩ => ⟨a, xs, e, h1.imp (fun h => hl a xs h.1 h.2) id, RelL.mono hl ht hr ds xs h3⟩
  | .ref n, _, ⟨a, e, h⟩ => ⟨a, e, hr n a h⟩
theorem RelL.mono (hl : ∀ a xs, Rd H a (.lst xs) → ¬ A a → Rd H' a (.lst xs) ∧ ¬ A' a) (ht : ∀ a xs, SqT K H a xs → SqT K H' a xs) (hr : ∀ (n : Nat) a, ρ[n]? = some a → ρ'[n]? = some a) : ∀ (ds : List D) (vs : List V), RelL K H A ρ vs ds → RelL K H' A' ρ' vs ds
  | [], _, h => h
  | d :: ds, _, ⟨x, xs, e, h1, h2⟩ => ⟨x, xs, e, RelD.mono hl ht hr d x h1, RelL.mono hl ht hr ds xs h2⟩
end
theorem RelL.length : ∀ {ds : List D} {vs : List V}, RelL K H A ρ vs ds → vs.length = ds.length
  | [], _, h => by
    have h' : _ = [] := h
    rw [h']; rfl
  | d :: ds, _, ⟨x, xs, e, h1, h2⟩ => by rw [e, List.length_cons, List.length_cons, RelL.length h2]
theorem RelL.nil : RelL K H A ρ [] [] := rfl
theorem RelL.cons {x : V} {xs : List V} {d : D} {ds : List D} (h : RelD K H A ρ x d) (t : RelL K H A ρ xs ds) : RelL K H A ρ (x :: xs) (d :: ds) := ⟨x, xs, rfl, h, t⟩
theorem RelL.append : ∀ {ds es : List D} {vs us : List V}, RelL K H A ρ vs ds → RelL K H A ρ us es → RelL K H A ρ (vs ++ us) (ds ++ es)
  | [], _, _, _, h, k => by
    have h' : _ = [] := h
    rw [h']; exact k
  | d :: ds, es, _, us, ⟨x, xs, e, h1, h2⟩, k => by
    rw [e]
    exact RelL.cons h1 (RelL.append h2 k)
theorem RelL.get : ∀ {ds : List D} {vs : List V} {i : Nat} {d : D}, RelL K H A ρ vs ds → ds[i]? = some d → ∃ v, vs[i]? = some v ∧ RelD K H A ρ v d
  | [], _, _, _, _, h => by simp at h
  | d :: ds, _, 0, d', ⟨x, xs, e, h1, h2⟩, h => by
    have q : d = d' := Option.some.inj h
    rw [e, ← q]; exact ⟨x, rfl, h1⟩
  | d :: ds, _, i + 1, d', ⟨x, xs, e, h1, h2⟩, h => by
    rw [e]; exact RelL.get (i := i) h2 h
theorem RelL.take : ∀ {ds : List D} {vs : List V} (n : Nat), RelL K H A ρ vs ds → RelL K H A ρ (vs.take n) (ds.take n)
  | [], _, n, h => by
    have h' : _ = [] := h
    rw [h']; simp only [List.take_nil]; rfl
  | d :: ds, _, 0, _ => rfl
  | d :: ds, _, n + 1, ⟨x, xs, e, h1, h2⟩ => by rw [e]; exact RelL.cons h1 (RelL.take n h2)
theorem RelL.drop : ∀ {ds : List D} {vs : List V} (n : Nat), RelL K H A ρ vs ds → RelL K H A ρ (vs.drop n) (ds.drop n)
  | [], _, n, h => by
    have h' : _ = [] := h
    rw [h']; simp only [List.drop_nil]; rfl
  | d :: ds, _, 0, h => h
  | d :: ds, _, n + 1, ⟨x, xs, e, h1, h2⟩ => by rw [e]; exact RelL.drop n h2
theorem RelL.set {v : V} {d : D} (r : RelD K H A ρ v d) : ∀ {ds : List D} {vs : List V} (n : Nat), RelL K H A ρ vs ds → RelL K H A ρ (vs.set n v) (ds.set n d)
  | [], _, n, h => by
    have h' : _ = [] := h
    rw [h']; rfl
  | d :: ds, _, 0, ⟨x, xs, e, h1, h2⟩ => by rw [e]; exact RelL.cons r h2
  | d :: ds, _, n + 1, ⟨x, xs, e, h1, h2⟩ => by rw [e]; exact RelL.cons h1 (RelL.set r n h2)
theorem RelL.erase : ∀ {ds : List D} {vs : List V} (n : Nat), RelL K H A ρ vs ds → RelL K H A ρ (vs.eraseIdx n) (ds.eraseIdx n)
  | [], _, n, h => by
    have h' : _ = [] := h
    rw [h']; rfl
  | d :: ds, _, 0, ⟨x, xs, e, h1, h2⟩ => by rw [e]; exact h2
  | d :: ds, _, n + 1, ⟨x, xs, e, h1, h2⟩ => by rw [e]; exact RelL.cons h1 (RelL.erase n h2)
theorem RelL.dropLast {ds : List D} {vs : List V} (h : RelL K H A ρ vs ds) : RelL K H A ρ vs.dropLast ds.dropLast := by
  rw [List.dropLast_eq_take, List.dropLast_eq_take, h.length]
  exact h.take _
theorem RelL.reverse : ∀ {ds : List D} {vs : List V}, RelL K H A ρ vs ds → RelL K H A ρ vs.reverse ds.reverse
  | [], _, h => by
    have h' : _ = [] := h
    rw [h']; rfl
  | d :: ds, _, ⟨x, xs, e, h1, h2⟩ => by
    rw [e, List.reverse_cons, List.reverse_cons]
    exact (RelL.reverse h2).append (RelL.cons h1 RelL.nil)
theorem RelL.getLast {ds : List D} {vs : List V} {d : D} (h : RelL K H A ρ vs ds) (e : ds[ds.length - 1]? = some d) : ∃ v, vs[vs.length - 1]? = some v ∧ RelD K H A ρ v d := by
  rw [h.length]
  exact h.get e
theorem RelL.ints : ∀ (ns : List Int), RelL K H A ρ (ns.map V.int) (ns.map D.int)
  | [] => rfl
  | n :: ns => RelL.cons rfl (RelL.ints ns)
theorem RelL.of_ints : ∀ {ns : List Int} {vs : List V}, RelL K H A ρ vs (ns.map D.int) → vs = ns.map V.int
  | [], _, h => h
  | n :: ns, _, ⟨x, xs, e, h1, h2⟩ => by
    have h1' : x = .int n := h1
    rw [e, h1', RelL.of_ints h2]; rfl
theorem RelL.strs : ∀ (ns : List Str), RelL K H A ρ (ns.map V.str) (ns.map D.str)
  | [] => rfl
  | n :: ns => RelL.cons rfl (RelL.strs ns)
theorem RelL.of_strs : ∀ {ns : List Str} {vs : List V}, RelL K H A ρ vs (ns.map D.str) → vs = ns.map V.str
  | [], _, h => h
  | n :: ns, _, ⟨x, xs, e, h1, h2⟩ => by
    have h1' : x = .str n := h1
    rw [e, h1', RelL.of_strs h2]; rfl
end

/-- the addresses whose objects may change -/
def Al (ρ : List Addr) (S : Sto) (a : Addr) : Prop := ∃ (n : Nat) (o : Ob), S[n]? = some (some o) ∧ ρ[n]? = some a
def ObR (K : PySem.W.Frag) (H : Hp) (A : Addr → Prop) (ρ : List Addr) (a : Addr) (o : Ob) : Prop := ∃ xs, H a = some (o.ho xs) ∧ RelL K H A ρ xs o.pay
structure RS (K : PySem.W.Frag) (ρ : List Addr) (H : Hp) (S : Sto) : Prop where
  len : ρ.length = S.length
  obj : ∀ (n : Nat) (o : Ob) (a : Addr), S[n]? = some (some o) → ρ[n]? = some a → ObR K H (Al ρ S) ρ a o
  inj : ∀ (n m : Nat) (o o' : Ob) (a : Addr), S[n]? = some (some o) → S[m]? = some (some o') → ρ[n]? = some a → ρ[m]? = some a → n = m
def RV (K : PySem.W.Frag) (ρ : List Addr) (σ : St) (H : Hp) (S : Sto) (env : En) : Prop :=
  env.length = σ.length ∧ ∀ (i : Nat) (d : D), env[i]? = some (some d) → ∃ v, σ[i]? = some (some v) ∧ RelD K H (Al ρ S) ρ v d
/-- what stays from a state to a later one -/
structure Up (K : PySem.W.Frag) (ρ : List Addr) (H : Hp) (S : Sto) (ρ' : List Addr) (H' : Hp) (S' : Sto) : Prop where
  pre : ∀ (n : Nat) a, ρ[n]? = some a → ρ'[n]? = some a
  ext : ∀ a o, H a = some o → ¬ Al ρ S a → H' a = some o ∧ ¬ Al ρ' S' a
  tup : ∀ a xs, SqT K H a xs → SqT K H' a xs
section
variable {K : PySem.W.Frag} {H H' H1 H2 : Hp} {ρ ρ' ρ1 ρ2 : List Addr} {S S' S1 S2 : Sto} {σ : St} {env : En} {v : V} {d : D} {vs : List V} {ds : List D}
theorem Up.refl : Up K ρ H S ρ H S := ⟨fun _ _ h => h, fun _ _ h n => ⟨h, n⟩, fun _ _ h => h⟩
theorem Up.trans (a : Up K ρ H S ρ1 H1 S1) (b : Up K ρ1 H1 S1 ρ2 H2 S2) : Up K ρ H S ρ2 H2 S2 :=
  ⟨fun n x h => b.pre n x (a.pre n x h), fun x o h n => b.ext x o (a.ext x o h n).1 (a.ext x o h n).2, fun x xs h => b.tup x xs (a.tup x xs h)⟩
theorem Up.rd (u : Up K ρ H S ρ' H' S') (a : Addr) (xs : List V) (h : Rd H a (.lst xs)) (n : ¬ Al ρ S a) : Rd H' a (.lst xs) ∧ ¬ Al ρ' S' a := by
  rcases h with h | ⟨o, h⟩
  · exact ⟨.inl (u.ext a _ h n).1, (u.ext a _ h n).2⟩
  · exact ⟨.inr ⟨o, (u.ext a _ h n).1⟩, (u.ext a _ h n).2⟩
theorem Up.relD (u : Up K ρ H S ρ' H' S') (h : RelD K H (Al ρ S) ρ v d) : RelD K H' (Al ρ' S') ρ' v d := RelD.mono u.rd u.tup u.pre d v h
theorem Up.relL (u : Up K ρ H S ρ' H' S') (h : RelL K H (Al ρ S) ρ vs ds) : RelL K H' (Al ρ' S') ρ' vs ds := RelL.mono u.rd u.tup u.pre ds vs h
theorem Up.rv (u : Up K ρ H S ρ' H' S') (h : RV K ρ σ H S env) : RV K ρ' σ H' S' env := ⟨h.1, fun i d e => let ⟨v, e1, r⟩ := h.2 i d e; ⟨v, e1, u.relD r⟩⟩
theorem Up.fz (u : Up K ρ H S ρ' H' S') {a : Addr} {xs : List V} (h : FzL K H (Al ρ S) a xs) : FzL K H' (Al ρ' S') a xs := h.imp (fun h => u.rd a xs h.1 h.2) id
theorem RS.alive (R : RS K ρ H S) {a : Addr} (h : Al ρ S a) : ∃ (o : Ob) (xs : List V), H a = some (o.ho xs) := by
  obtain ⟨n, o, h1, h2⟩ := h
  obtain ⟨xs, e, _⟩ := R.obj n o a h1 h2
  exact ⟨o, xs, e⟩
theorem RS.noal (R : RS K ρ H S) {a : Addr} (h : H a = none) : ¬ Al ρ S a := fun q => by
  obtain ⟨o, xs, e⟩ := R.alive q
  rw [h] at e; cases e
/-- a heap that only grew: the same store -/
theorem sqT_same (s : Same H H') {a : Addr} {xs : List V} (h : SqT K H a xs) : SqT K H' a xs := by
  rcases h with (h | ⟨o, h⟩) | h
  · exact .inl (.inl (s _ _ h))
  · exact .inl (.inr ⟨o, s _ _ h⟩)
  · exact .inr h
theorem Up.same (s : Same H H') : Up K ρ H S ρ H' S := ⟨fun _ _ h => h, fun a o h n => ⟨s a o h, n⟩, fun a xs h => sqT_same s h⟩
theorem RS.same (R : RS K ρ H S) (s : Same H H') : RS K ρ H' S := ⟨R.len, fun n o a h1 h2 => by
  obtain ⟨xs, e, r⟩ := R.obj n o a h1 h2
  exact ⟨xs, s _ _ e, (Up.same s).relL r⟩, R.inj⟩
theorem same_new {p : Addr} {o : HO} (h : H p = none) : Same H (upd H p o) := fun b x e => by
  rw [upd_ne (ne_of_none e h)]
  exact e
/-! #### a list that is to change comes in -/
theorem al_snoc {p : Addr} {o : Ob} (hl : ρ.length = S.length) {a : Addr} : Al (ρ ++ [p]) (S ++ [some o]) a ↔ Al ρ S a ∨ a = p := by
  constructor
  · rintro ⟨n, o', h1, h2⟩
    by_cases hn : n < S.length
    · rw [List.getElem?_append_left hn] at h1
      rw [List.getElem?_append_left (by omega)] at h2
      exact .inl ⟨n, o', h1, h2⟩
    · rw [List.getElem?_append_right (by omega)] at h2
      have : n - ρ.length = 0 := by
        by_cases z : n - ρ.length = 0
        · exact z
        · rw [List.getElem?_eq_none (by simp; omega)] at h2; cases h2
      rw [this] at h2
      exact .inr (Option.some.inj h2).symm
  · rintro (⟨n, o', h1, h2⟩ | rfl)
    · have hn : n < S.length := (List.getElem?_eq_some_iff.mp h1).1
      exact ⟨n, o', by rw [List.getElem?_append_left hn]; exact h1, by rw [List.getElem?_append_left (by omega)]; exact h2⟩
    · exact ⟨S.length, o, by simp, by rw [← hl]; simp⟩
theorem Up.new {p : Addr} {o : Ob} (hl : ρ.length = S.length) (hp : H p = none) (s : Same H H') : Up K ρ H S (ρ ++ [p]) H' (S ++ [some o]) :=
  ⟨fun n a h => by rw [List.getElem?_append_left (List.getElem?_eq_some_iff.mp h).1]; exact h,
   fun a u h n => ⟨s a u h, fun q => ((al_snoc hl).mp q).elim n fun e => by rw [e, hp] at h; cases h⟩, fun a xs h => sqT_same s h⟩
theorem RS.newO {p : Addr} {xs : List V} {o0 : Ob} (R : RS K ρ H S) (hp : H p = none) (s : Same H H') (hp' : H' p = some (o0.ho xs)) (r : RelL K H (Al ρ S) ρ xs o0.pay) : RS K (ρ ++ [p]) H' (S ++ [some o0]) := by
  have u : Up K ρ H S (ρ ++ [p]) H' (S ++ [some o0]) := Up.new R.len hp s
  have len := R.len
  refine ⟨by simp [len], fun n o a h1 h2 => ?_, fun n m o o' a h1 h2 h3 h4 => ?_⟩
  · by_cases hn : n < S.length
    · rw [List.getElem?_append_left hn] at h1
      rw [List.getElem?_append_left (by omega)] at h2
      obtain ⟨ys, e, q⟩ := R.obj n o a h1 h2
      exact ⟨ys, s _ _ e, u.relL q⟩
    · have hn' : n < (ρ ++ [p]).length := (List.getElem?_eq_some_iff.mp h2).1
      have e : n = S.length := by simp at hn'; omega
      subst e
      rw [List.getElem?_append_right (Nat.le_refl _), Nat.sub_self] at h1
      rw [List.getElem?_append_right (by omega), len, Nat.sub_self] at h2
      have e1 : some o0 = some o := Option.some.inj h1
      have e2 : p = a := Option.some.inj h2
      cases e1
      subst e2
      exact ⟨xs, hp', u.relL r⟩
  · have old : ∀ {k : Nat} {q : Ob} {b : Addr}, k < S.length → (S ++ [some o0])[k]? = some (some q) → (ρ ++ [p])[k]? = some b → b ≠ p := fun {k q b} hk e1 e2 z => by
      rw [List.getElem?_append_left hk] at e1
      rw [List.getElem?_append_left (by omega)] at e2
      obtain ⟨_, ys, e3⟩ := R.alive ⟨k, q, e1, e2⟩
      rw [z, hp] at e3; cases e3
    have last : ∀ {k : Nat} {b : Addr}, ¬ k < S.length → (ρ ++ [p])[k]? = some b → k = S.length ∧ b = p := fun {k b} hk e => by
      have hn' : k < (ρ ++ [p]).length := (List.getElem?_eq_some_iff.mp e).1
      have e' : k = S.length := by simp at hn'; omega
      refine ⟨e', ?_⟩
      rw [e', List.getElem?_append_right (by omega), len, Nat.sub_self] at e
      exact (Option.some.inj e).symm
    by_cases hn : n < S.length
    · by_cases hm : m < S.length
      · rw [List.getElem?_append_left hn] at h1
        rw [List.getElem?_append_left hm] at h2
        rw [List.getElem?_append_left (by omega)] at h3 h4
        exact R.inj n m o o' a h1 h2 h3 h4
      · exact absurd (last hm h4).2 (old hn h1 h3)
    · by_cases hm : m < S.length
      · exact absurd (last hn h3).2 (old hm h2 h4)
      · rw [(last hn h3).1, (last hm h4).1]
theorem RS.new {p : Addr} {xs : List V} (R : RS K ρ H S) (hp : H p = none) (s : Same H H') (hp' : H' p = some (.lst xs)) (r : RelL K H (Al ρ S) ρ xs ds) : RS K (ρ ++ [p]) H' (S ++ [some (.lst ds)]) := RS.newO (o0 := .lst ds) R hp s hp' r
/-! #### a list changes -/
theorem al_set {n : Nat} {o o' : Ob} (h : S[n]? = some (some o)) {a : Addr} : Al ρ (S.set n (some o')) a ↔ Al ρ S a := by
  have hn : n < S.length := (List.getElem?_eq_some_iff.mp h).1
  constructor
  · rintro ⟨m, q, h1, h2⟩
    by_cases e : n = m
    · subst e; exact ⟨n, o, h, h2⟩
    · rw [List.getElem?_set_ne e] at h1; exact ⟨m, q, h1, h2⟩
  · rintro ⟨m, q, h1, h2⟩
    by_cases e : n = m
    · subst e; exact ⟨n, o', by rw [List.getElem?_set_self hn], h2⟩
    · exact ⟨m, q, by rw [List.getElem?_set_ne e]; exact h1, h2⟩
theorem sqT_upd {a b : Addr} {xs ys : List V} {o : Ob} {u : HO} (h : H a = some (o.ho ys)) (q : SqT K H b xs) : SqT K (upd H a u) b xs := by
  rcases q with (q | ⟨w, q⟩) | q
  · exact .inl (.inl (by rw [upd_ne (ne_of q h (fun z => Ob.ho_tup z.symm))]; exact q))
  · exact .inl (.inr ⟨w, by rw [upd_ne (ne_of q h (fun z => Ob.ho_frz z.symm))]; exact q⟩)
  · exact .inr q
theorem Up.setO {n : Nat} {a : Addr} {ys : List V} {o o' : Ob} {w : HO} (h : S[n]? = some (some o)) (ha : ρ[n]? = some a) (hH : H a = some (o.ho ys)) : Up K ρ H S ρ (upd H a w) (S.set n (some o')) :=
  ⟨fun _ _ e => e, fun b u e nb => ⟨by rw [upd_ne (fun z => nb (by rw [z]; exact ⟨n, o, h, ha⟩))]; exact e, fun q => nb ((al_set h).mp q)⟩, fun b xs q => sqT_upd hH q⟩
theorem Up.set {n : Nat} {a : Addr} {ys zs : List V} {es : List D} {o' : Ob} (h : S[n]? = some (some (.lst es))) (ha : ρ[n]? = some a) (hH : H a = some (.lst ys)) : Up K ρ H S ρ (upd H a (.lst zs)) (S.set n (some o')) := Up.setO (o := .lst es) (ys := ys) h ha hH
theorem RS.setO {n : Nat} {a : Addr} {ys zs : List V} {o1 o2 : Ob} (R : RS K ρ H S) (h : S[n]? = some (some o1)) (ha : ρ[n]? = some a) (hH : H a = some (o1.ho ys)) (r : RelL K H (Al ρ S) ρ zs o2.pay) : RS K ρ (upd H a (o2.ho zs)) (S.set n (some o2)) := by
  have u : Up K ρ H S ρ (upd H a (o2.ho zs)) (S.set n (some o2)) := Up.setO h ha hH
  have hn : n < S.length := (List.getElem?_eq_some_iff.mp h).1
  refine ⟨by simp [R.len], fun m o b h1 h2 => ?_, fun m k o o' b h1 h2 h3 h4 => ?_⟩
  · by_cases e : n = m
    · subst e
      rw [List.getElem?_set_self hn] at h1
      cases h1
      rw [ha] at h2; cases h2
      exact ⟨zs, upd_same, u.relL r⟩
    · rw [List.getElem?_set_ne e] at h1
      have nb : b ≠ a := fun z => e (R.inj n m _ _ a h h1 ha (z ▸ h2))
      obtain ⟨ws, e1, q⟩ := R.obj m o b h1 h2
      exact ⟨ws, by rw [upd_ne nb]; exact e1, u.relL q⟩
  · have back : ∀ {j : Nat} {q : Ob}, (S.set n (some o2))[j]? = some (some q) → ∃ q', S[j]? = some (some q') := fun {j q} e => by
      by_cases z : n = j
      · subst z; exact ⟨_, h⟩
      · rw [List.getElem?_set_ne z] at e; exact ⟨_, e⟩
    obtain ⟨q1, e1⟩ := back h1
    obtain ⟨q2, e2⟩ := back h2
    exact R.inj m k q1 q2 b e1 e2 h3 h4
theorem RS.set {n : Nat} {a : Addr} {ys zs : List V} {es : List D} (R : RS K ρ H S) (h : S[n]? = some (some (.lst es))) (ha : ρ[n]? = some a) (hH : H a = some (.lst ys)) (r : RelL K H (Al ρ S) ρ zs ds) : RS K ρ (upd H a (.lst zs)) (S.set n (some (.lst ds))) := RS.setO (o1 := .lst es) (o2 := .lst ds) R h ha hH r
/-! #### a list will not change any more -/
theorem al_kill {n : Nat} {a : Addr} (h : Al ρ (S.set n none) a) : Al ρ S a := by
  obtain ⟨m, q, h1, h2⟩ := h
  by_cases e : n = m
  · subst e
    by_cases hn : n < S.length
    · rw [List.getElem?_set_self hn] at h1; cases h1
    · rw [List.getElem?_eq_none (by simp; omega)] at h1; cases h1
  · rw [List.getElem?_set_ne e] at h1; exact ⟨m, q, h1, h2⟩
theorem Up.kill {n : Nat} : Up K ρ H S ρ H (S.set n none) := ⟨fun _ _ e => e, fun _ _ e nb => ⟨e, fun q => nb (al_kill q)⟩, fun _ _ q => q⟩
theorem RS.kill {n : Nat} (R : RS K ρ H S) : RS K ρ H (S.set n none) := by
  have back : ∀ {j : Nat} {q : Ob}, (S.set n none)[j]? = some (some q) → S[j]? = some (some q) := fun {j q} e => by
    by_cases z : n = j
    · subst z
      by_cases hn : n < S.length
      · rw [List.getElem?_set_self hn] at e; cases e
      · rw [List.getElem?_eq_none (by simp; omega)] at e; cases e
    · rw [List.getElem?_set_ne z] at e; exact e
  refine ⟨by simp [R.len], fun m o b h1 h2 => ?_, fun m k o o' b h1 h2 h3 h4 => R.inj m k o o' b (back h1) (back h2) h3 h4⟩
  obtain ⟨ws, e1, q⟩ := R.obj m o b (back h1) h2
  exact ⟨ws, e1, Up.kill.relL q⟩
theorem RS.frozen {n : Nat} {a : Addr} {es : List D} (R : RS K ρ H S) (h : S[n]? = some (some (.lst es))) (ha : ρ[n]? = some a) : RelD K H (Al ρ (S.set n none)) ρ (.ref a) (.lst es) := by
  obtain ⟨xs, e, r⟩ := R.obj n _ a h ha
  refine ⟨a, xs, rfl, .inl ⟨.inl e, ?_⟩, Up.kill.relL r⟩
  rintro ⟨m, q, h1, h2⟩
  by_cases z : n = m
  · subst z
    rw [List.getElem?_set_self (List.getElem?_eq_some_iff.mp h).1] at h1; cases h1
  · rw [List.getElem?_set_ne z] at h1
    exact z (R.inj n m _ _ a h h1 ha h2)
end

/-! ### the readings that a mirror gives -/
/-- an exception: its class, its fields -/
def ExcR (K : PySem.W.Frag) (mg : Str → Option Value) (H : Hp) (A : Addr → Prop) (ρ : List Addr) (c : Str) (fs : List (Str × D)) (cls : Value) (dx : Option Addr) : Prop :=
  ∃ (C dd : Addr) (ys : List (Str × V)), mg c = some (.ref C) ∧ cls = .ref C ∧ dx = some dd ∧ H dd = some (.xd ys) ∧ ∀ p ∈ fs, ∃ v, ys.lookup p.1 = some v ∧ RelD K H A ρ v p.2
abbrev EM := En → Sto → Res D
abbrev TM := En → Sto → Res Bool
abbrev LM := En → Sto → Res (List D)
abbrev SM := En → Sto → SR
/-- what is wanted behind an expression: of a value, of an exception -/
def PostX (K : PySem.W.Frag) (mg : Str → Option Value) (W : WX) (ρ : List Addr) (σ : St) (H : Hp) (S : Sto) : Str → List (Str × D) → Sto → Prop := fun c fs S' =>
  ∀ ρ' H' cls dx, RS K ρ' H' S' → Up K ρ H S ρ' H' S' → ExcR K mg H' (Al ρ' S') ρ' c fs cls dx → W cls dx σ H'
def PostV (K : PySem.W.Frag) (ρ : List Addr) (H : Hp) (S : Sto) (Q : VK) : D → Sto → Prop := fun d S' => ∀ ρ' v H', RS K ρ' H' S' → Up K ρ H S ρ' H' S' → RelD K H' (Al ρ' S') ρ' v d → Q v H'
def PostL (K : PySem.W.Frag) (ρ : List Addr) (H : Hp) (S : Sto) (Q : List V → Hp → Prop) : List D → Sto → Prop := fun ds S' => ∀ ρ' vs H', RS K ρ' H' S' → Up K ρ H S ρ' H' S' → RelL K H' (Al ρ' S') ρ' vs ds → Q vs H'
def PostB (K : PySem.W.Frag) (ρ : List Addr) (H : Hp) (S : Sto) (Q : Bool → Hp → Prop) : Bool → Sto → Prop := fun b S' => ∀ ρ' H', RS K ρ' H' S' → Up K ρ H S ρ' H' S' → Q b H'
/-- .. behind one that gives a new list -/
def PostF (K : PySem.W.Frag) (ρ : List Addr) (H : Hp) (S : Sto) (Q : VK) : List D → Sto → Prop := fun ds S' => ∀ ρ' p xs H' H2, RS K ρ' H' S' → Up K ρ H S ρ' H' S' → RelL K H' (Al ρ' S') ρ' xs ds → H' p = none → Same H' H2 → H2 p = some (.lst xs) → Q (.ref p) H2
section
variable (K : PySem.W.Frag) (mg : Str → Option Value) (W : WX)
def tE (m : EM) : TE := fun σ H Q => ∃ ρ env S, RS K ρ H S ∧ RV K ρ σ H S env ∧ wpM (m env S) (PostV K ρ H S Q) (PostX K mg W ρ σ H S)
def tT (m : TM) : TT := fun σ H Q => ∃ ρ env S, RS K ρ H S ∧ RV K ρ σ H S env ∧ wpM (m env S) (PostB K ρ H S Q) (PostX K mg W ρ σ H S)
def tA (m : LM) : TA := fun σ H Q => ∃ ρ env S, RS K ρ H S ∧ RV K ρ σ H S env ∧ wpM (m env S) (PostL K ρ H S Q) (PostX K mg W ρ σ H S)
def tF (m : LM) : TE := fun σ H Q => ∃ ρ env S, RS K ρ H S ∧ RV K ρ σ H S env ∧ wpM (m env S) (PostF K ρ H S Q) (PostX K mg W ρ σ H S)
/-- what is wanted behind a statement -/
def wpS (ρ : List Addr) (H : Hp) (S : Sto) (Dn : Ends) : SR → Prop
  | .nx env S' => ∀ ρ' σ' H', RS K ρ' H' S' → RV K ρ' σ' H' S' env → Up K ρ H S ρ' H' S' → Dn.nx σ' H'
  | .brk env S' => ∀ ρ' σ' H', RS K ρ' H' S' → RV K ρ' σ' H' S' env → Up K ρ H S ρ' H' S' → Dn.bk σ' H'
  | .ct env S' => ∀ ρ' σ' H', RS K ρ' H' S' → RV K ρ' σ' H' S' env → Up K ρ H S ρ' H' S' → Dn.ct σ' H'
  | .ret d S' => ∀ ρ' v H', RS K ρ' H' S' → Up K ρ H S ρ' H' S' → RelD K H' (Al ρ' S') ρ' v d → Dn.rt v H'
  | .exc c fs env S' => ∀ ρ' σ' H' cls dx, RS K ρ' H' S' → RV K ρ' σ' H' S' env → Up K ρ H S ρ' H' S' → ExcR K mg H' (Al ρ' S') ρ' c fs cls dx → W cls dx σ' H'
  | .err => False
def tS (m : SM) : TS := fun Dn σ H => ∃ ρ env S, RS K ρ H S ∧ RV K ρ σ H S env ∧ wpS K mg W ρ H S Dn (m env S)
end
end Y
open PySem PySem.Spec L2 in
theorem L2.PE.imp {X : Cx} {e : Expr} {t t' : TE} (h : PE X e t) (i : ∀ σ H Q, t' σ H Q → t σ H Q) : PE X e t' := ⟨fun pins s σ H Q I q => h.run pins s σ H Q I (i σ H Q q)⟩
open PySem PySem.Spec L2 in
theorem L2.PT.imp {X : Cx} {e : Expr} {t t' : TT} (h : PT X e t) (i : ∀ σ H Q, t' σ H Q → t σ H Q) : PT X e t' := ⟨fun pins s σ H Q I q => h.run pins s σ H Q I (i σ H Q q)⟩
open PySem PySem.Spec L2 in
theorem L2.PW.imp {X : Cx} {e : Expr} {t t' : TT} (h : PW X e t) (i : ∀ σ H Q, t' σ H Q → t σ H Q) : PW X e t' := ⟨fun wh pins s σ H Q I q => h.run wh pins s σ H Q I (i σ H Q q)⟩
open PySem PySem.Spec L2 in
theorem L2.PA.imp {X : Cx} {es : List Expr} {t t' : TA} (h : PA X es t) (i : ∀ σ H Q, t' σ H Q → t σ H Q) : PA X es t' := ⟨fun pos pins s σ H Q I q => h.run pos pins s σ H Q I (i σ H Q q)⟩
open PySem PySem.Spec L2 in
theorem L2.PS.imp {X : Cx} {st : Stmt} {t t' : TS} (h : PS X st t) (i : ∀ Dn σ H, t' Dn σ H → t Dn σ H) : PS X st t' := ⟨fun pins s σ H Dn I q => h.run pins s σ H Dn I (i Dn σ H q)⟩
open PySem PySem.Spec L2 in
theorem L2.PSs.imp {X : Cx} {st : List Stmt} {t t' : TS} (h : PSs X st t) (i : ∀ Dn σ H, t' Dn σ H → t Dn σ H) : PSs X st t' := ⟨fun pins s σ H Dn I q => h.run pins s σ H Dn I (i Dn σ H q)⟩

end
section
set_option Elab.async false
set_option linter.all false
set_option maxRecDepth 100000
set_option maxHeartbeats 4000000
namespace Y
open PySem PySem.Spec L2

section
variable {K : PySem.W.Frag} {mg : Str → Option Value} {W : WX} {H H1 : Hp} {ρ ρ1 : List Addr} {S S1 S' : Sto} {σ : L2.St} {d : D} {ds : List D} {b : Bool} {Q : VK} {c : Str} {fs : List (Str × D)}
theorem PostV.up (u : Up K ρ H S ρ1 H1 S1) (h : PostV K ρ H S Q d S') : PostV K ρ1 H1 S1 Q d S' := fun ρ' v H' r u' q => h ρ' v H' r (u.trans u') q
theorem PostL.up {Q : List V → Hp → Prop} (u : Up K ρ H S ρ1 H1 S1) (h : PostL K ρ H S Q ds S') : PostL K ρ1 H1 S1 Q ds S' := fun ρ' v H' r u' q => h ρ' v H' r (u.trans u') q
theorem PostB.up {Q : Bool → Hp → Prop} (u : Up K ρ H S ρ1 H1 S1) (h : PostB K ρ H S Q b S') : PostB K ρ1 H1 S1 Q b S' := fun ρ' H' r u' => h ρ' H' r (u.trans u')
theorem PostF.up (u : Up K ρ H S ρ1 H1 S1) (h : PostF K ρ H S Q ds S') : PostF K ρ1 H1 S1 Q ds S' := fun ρ' p xs H' H2 r u' => h ρ' p xs H' H2 r (u.trans u')
theorem PostX.up (u : Up K ρ H S ρ1 H1 S1) (h : PostX K mg W ρ σ H S c fs S') : PostX K mg W ρ1 σ H1 S1 c fs S' := fun ρ' H' cls dx r u' q => h ρ' H' cls dx r (u.trans u') q
/-- a value that comes by itself -/
theorem PostV.same {H' : Hp} {v : V} (h : PostV K ρ H S Q d S) (R : RS K ρ H S) (s : Same H H') (r : RelD K H' (Al ρ S) ρ v d) : Q v H' := h ρ v H' (R.same s) (Up.same s) r
/-- an expression, then what follows -/
theorem tE_seq {m : EM} {env : En} {R : VK} (h1 : RS K ρ H S) (h2 : RV K ρ σ H S env) (h : wpM (m env S) (fun d S1 => ∀ ρ1 v H1, RS K ρ1 H1 S1 → RV K ρ1 σ H1 S1 env → Up K ρ H S ρ1 H1 S1 → RelD K H1 (Al ρ1 S1) ρ1 v d → R v H1) (PostX K mg W ρ σ H S)) : tE K mg W m σ H R :=
  ⟨ρ, env, S, h1, h2, wpM_mono h (fun d S1 q ρ1 v H1 r u k => q ρ1 v H1 r (u.rv h2) u k) fun _ _ _ q => q⟩
theorem tA_seq {m : LM} {env : En} {R : List V → Hp → Prop} (h1 : RS K ρ H S) (h2 : RV K ρ σ H S env) (h : wpM (m env S) (fun ds S1 => ∀ ρ1 vs H1, RS K ρ1 H1 S1 → RV K ρ1 σ H1 S1 env → Up K ρ H S ρ1 H1 S1 → RelL K H1 (Al ρ1 S1) ρ1 vs ds → R vs H1) (PostX K mg W ρ σ H S)) : tA K mg W m σ H R :=
  ⟨ρ, env, S, h1, h2, wpM_mono h (fun d S1 q ρ1 v H1 r u k => q ρ1 v H1 r (u.rv h2) u k) fun _ _ _ q => q⟩
theorem tT_seq {m : TM} {env : En} {R : Bool → Hp → Prop} (h1 : RS K ρ H S) (h2 : RV K ρ σ H S env) (h : wpM (m env S) (fun b S1 => ∀ ρ1 H1, RS K ρ1 H1 S1 → RV K ρ1 σ H1 S1 env → Up K ρ H S ρ1 H1 S1 → R b H1) (PostX K mg W ρ σ H S)) : tT K mg W m σ H R :=
  ⟨ρ, env, S, h1, h2, wpM_mono h (fun d S1 q ρ1 H1 r u => q ρ1 H1 r (u.rv h2) u) fun _ _ _ q => q⟩
end
def lf {α : Type} (o : Option α) (S : Sto) : Res α := match o with
  | some a => .ok a S
  | none => .err
theorem wpM_lf {α : Type} {o : Option α} {S : Sto} {Q : α → Sto → Prop} {E : Str → List (Str × D) → Sto → Prop} (h : wpM (lf o S) Q E) : ∃ a, o = some a ∧ Q a S := by
  cases o with
  | none => exact h.elim
  | some a => exact ⟨a, rfl, h⟩

/-! ### names, constants -/
def vr (i : Nat) : EM := fun env S => match env[i]? with
  | some (some d) => .ok d S
  | _ => .err
def ct (d : D) : EM := fun _ S => .ok d S
section
variable {X : Cx} {W : WX} {pos : Pos}
theorem y_vr (i : Nat) {x : Str} (hN : X.N[i]? = some x := by rfl) (hv : Vis X.env.scope x := by first | exact Or.inl rfl | exact Or.inr (Or.inl rfl) | exact Or.inr (Or.inr rfl)) (hd : (x == ("__debug__" : Str)) = false := by decide)
    (hcd : (x == ("__classdict__" : Str)) = false := by decide) : PE X (.Name x pos) (tE X.K X.mg W (vr i)) := by
  refine (pe_var hN hv hd hcd).imp fun σ H Q h => ?_
  obtain ⟨ρ, env, S, R, V, w⟩ := h
  unfold vr at w
  cases e : env[i]? with
  | none => rw [e] at w; exact w.elim
  | some o =>
    cases o with
    | none => rw [e] at w; exact w.elim
    | some d =>
      rw [e] at w
      obtain ⟨v, e1, r⟩ := V.2 i d e
      exact ⟨v, e1, w.same R (Same.refl H) r⟩
theorem ct_imp {v : V} {d : D} (h : ∀ K H A ρ, RelD K H A ρ v d) : ∀ σ H Q, tE X.K X.mg W (ct d) σ H Q → tC v σ H Q := fun σ H Q ⟨ρ, env, S, R, V, w⟩ => PostV.same (show PostV X.K ρ H S Q d S from w) R (Same.refl H) (h _ _ _ _)
theorem y_int {i j} : PE X (.Constant (.int i) j pos) (tE X.K X.mg W (ct (.int i))) := pe_int.imp (ct_imp fun _ _ _ _ => rfl)
theorem y_bl {b j} : PE X (.Constant (.bool b) j pos) (tE X.K X.mg W (ct (.bl b))) := pe_bl.imp (ct_imp fun _ _ _ _ => rfl)
theorem y_non {j} : PE X (.Constant .none j pos) (tE X.K X.mg W (ct .non)) := pe_non.imp (ct_imp fun _ _ _ _ => rfl)
theorem y_str {x j} : PE X (.Constant (.str x) j pos) (tE X.K X.mg W (ct (.str x))) := pe_str.imp (ct_imp fun _ _ _ _ => rfl)
theorem y_globI {x : Str} {i : Int} (hm : ∃ t, X.mg x = some (.int i t)) (hg : Gl X x := by rfl) (hd : (x == ("__debug__" : Str)) = false := by decide) : PE X (.Name x pos) (tE X.K X.mg W (ct (.int i))) := by
  obtain ⟨t, h⟩ := hm
  exact (pe_glob (v := .int i) hg h ⟨t, rfl⟩ hd).imp (ct_imp fun _ _ _ _ => rfl)
theorem y_globS {x : Str} {s : Str} (hm : ∃ t, X.mg x = some (.str s t)) (hg : Gl X x := by rfl) (hd : (x == ("__debug__" : Str)) = false := by decide) : PE X (.Name x pos) (tE X.K X.mg W (ct (.str s))) := by
  obtain ⟨t, h⟩ := hm
  exact (pe_glob (v := .str s) hg h ⟨t, rfl⟩ hd).imp (ct_imp fun _ _ _ _ => rfl)
end

/-! ### operators on values -/
def op2 (f : Sto → D → D → Option D) (a b : EM) : EM := fun env S => bd (a env S) fun x S1 => bd (b env S1) fun y S2 => lf (f S2 x y) S2
def op1 (f : Sto → D → Option D) (a : EM) : EM := fun env S => bd (a env S) fun x S1 => lf (f S1 x) S1
/-- f tells what the rule r needs -/
def OpS (K : PySem.W.Frag) (r : R2) (f : Sto → D → D → Option D) : Prop := ∀ (ρ : List Addr) (H : Hp) (S : Sto) (x y d : D) (v u : V) (Q : VK), RS K ρ H S → RelD K H (Al ρ S) ρ v x → RelD K H (Al ρ S) ρ u y → f S x y = some d →
  (∀ w H', Same H H' → RelD K H' (Al ρ S) ρ w d → Q w H') → r v u H Q
def UnS (K : PySem.W.Frag) (r : V → Hp → VK → Prop) (f : Sto → D → Option D) : Prop := ∀ (ρ : List Addr) (H : Hp) (S : Sto) (x d : D) (v : V) (Q : VK), RS K ρ H S → RelD K H (Al ρ S) ρ v x → f S x = some d →
  (∀ w H', Same H H' → RelD K H' (Al ρ S) ρ w d → Q w H') → r v H Q
section
variable {X : Cx} {W : WX} {pos : Pos} {a b c : Expr} {ma mb mc : EM}
theorem op2_imp {r : R2} {f : Sto → D → D → Option D} (hf : OpS X.K r f) : ∀ σ H Q, tE X.K X.mg W (op2 f ma mb) σ H Q → tOp r (tE X.K X.mg W ma) (tE X.K X.mg W mb) σ H Q := fun σ H Q ⟨ρ, env, S, R, V, w⟩ => by
  refine tE_seq R V (wpM_mono (wpM_bd w) (fun x S1 w1 ρ1 v H1 R1 V1 U1 r1 => ?_) fun _ _ _ q => q)
  refine tE_seq R1 V1 (wpM_mono (wpM_bd w1) (fun y S2 w2 ρ2 u H2 R2 V2 U2 r2 => ?_) fun _ _ _ q => q.up U1)
  obtain ⟨d, e, q⟩ := wpM_lf w2
  exact hf ρ2 H2 S2 x y d v u Q R2 (U2.relD r1) r2 e fun w' H' s k => q ρ2 w' H' (R2.same s) ((U1.trans U2).trans (Up.same s)) k
theorem op1_imp {r : V → Hp → VK → Prop} {f : Sto → D → Option D} (hf : UnS X.K r f) : ∀ σ H Q, tE X.K X.mg W (op1 f ma) σ H Q → tUn r (tE X.K X.mg W ma) σ H Q := fun σ H Q ⟨ρ, env, S, R, V, w⟩ => by
  refine tE_seq R V (wpM_mono (wpM_bd w) (fun x S1 w1 ρ1 v H1 R1 V1 U1 r1 => ?_) fun _ _ _ q => q)
  obtain ⟨d, e, q⟩ := wpM_lf w1
  exact hf ρ1 H1 S1 x d v Q R1 r1 e fun w' H' s k => q ρ1 w' H' (R1.same s) (U1.trans (Up.same s)) k
theorem y_op {op : Operator} {r : R2} {f : Sto → D → D → Option D} (ho : OpR X (binaryOp op) r) (hf : OpS X.K r f) (ha : PE X a (tE X.K X.mg W ma)) (hb : PE X b (tE X.K X.mg W mb)) : PE X (.BinOp a op b pos) (tE X.K X.mg W (op2 f ma mb)) :=
  (pe_op ho ha hb).imp (op2_imp hf)
theorem y_un {op : UnaryOp} {r : V → Hp → VK → Prop} {f : Sto → D → Option D} (ho : UnR X (unaryOp op) r) (hf : UnS X.K r f) (ha : PE X a (tE X.K X.mg W ma)) : PE X (.UnaryOp op a pos) (tE X.K X.mg W (op1 f ma)) :=
  (pe_un ho ha).imp (op1_imp hf)
theorem y_ix {r : R2} {f : Sto → D → D → Option D} (ho : IxR X r) (hf : OpS X.K r f) (ha : PE X a (tE X.K X.mg W ma)) (hb : PE X b (tE X.K X.mg W mb)) (hs : PlainIx b := by exact fun _ _ => rfl) : PE X (.Subscript a b pos) (tE X.K X.mg W (op2 f ma mb)) :=
  (pe_ix ho ha hb hs).imp (op2_imp hf)
theorem y_cmp {op : CmpOp} {r : R2} {f : Sto → D → D → Option D} (ho : OpR X (compareOp op) r) (hf : OpS X.K r f) (ha : PE X a (tE X.K X.mg W ma)) (hb : PE X b (tE X.K X.mg W mb)) (hm : behindInMarks op b = false := by first | exact nomark _ | with_unfolding_all rfl) :
    PE X (.Compare a [op] [b] pos) (tE X.K X.mg W (op2 f ma mb)) := (pe_cmpR ho ha hb hm).imp (op2_imp hf)
/-! tests -/
/-- a mirror whose value is a bool, as a test -/
def asT (m : EM) : TM := fun env S => bd (m env S) fun x S1 => match x with
  | .bl b => .ok b S1
  | _ => .err
theorem asT_imp {m : EM} {t : TE} (h : ∀ σ H Q, tE X.K X.mg W m σ H Q → t σ H Q) : ∀ σ H Q, tT X.K X.mg W (asT m) σ H Q → tTest t σ H Q := fun σ H Q ⟨ρ, env, S, R, V, w⟩ => by
  refine h σ H _ (tE_seq R V (wpM_mono (wpM_bd w) (fun x S1 w1 ρ1 v H1 R1 V1 U1 r1 => ?_) fun _ _ _ q => q))
  cases x with
  | bl k => exact ⟨k, r1, w1 ρ1 H1 R1 U1⟩
  | _ => exact w1.elim
theorem y_tcmp {op : CmpOp} {r : R2} {f : Sto → D → D → Option D} (ho : OpR X (compareOp op) r) (hf : OpS X.K r f) (ha : PE X a (tE X.K X.mg W ma)) (hb : PE X b (tE X.K X.mg W mb)) (hm : behindInMarks op b = false := by first | exact nomark _ | with_unfolding_all rfl) :
    PT X (.Compare a [op] [b] pos) (tT X.K X.mg W (asT (op2 f ma mb))) := (pt_cmpR ho ha hb hm).imp (asT_imp (op2_imp hf))
/-- a op1 b op2 c -/
def chn (f g : Sto → D → D → Option D) (a b c : EM) : EM := fun env S => bd (a env S) fun x S1 => bd (b env S1) fun y S2 => bd (lf (f S2 x y) S2) fun k S3 => match k with
  | .bl true => bd (c env S3) fun z S4 => lf (g S4 y z) S4
  | .bl false => .ok (.bl false) S3
  | _ => .err
theorem chn_imp {r r' : R2} {f g : Sto → D → D → Option D} (hf : OpS X.K r f) (hg : OpS X.K r' g) : ∀ σ H Q, tE X.K X.mg W (chn f g ma mb mc) σ H Q → tChain r r' (tE X.K X.mg W ma) (tE X.K X.mg W mb) (tE X.K X.mg W mc) σ H Q := fun σ H Q ⟨ρ, env, S, R, V, w⟩ => by
  refine tE_seq R V (wpM_mono (wpM_bd w) (fun x S1 w1 ρ1 v H1 R1 V1 U1 r1 => ?_) fun _ _ _ q => q)
  refine tE_seq R1 V1 (wpM_mono (wpM_bd w1) (fun y S2 w2 ρ2 u H2 R2 V2 U2 r2 => ?_) fun _ _ _ q => q.up U1)
  obtain ⟨k, e, w3⟩ := wpM_lf (wpM_bd w2)
  have U := U1.trans U2
  refine hf ρ2 H2 S2 x y k v u _ R2 (U2.relD r1) r2 e fun z H3 s rk => ?_
  have U3 : Up X.K ρ2 H2 S2 ρ2 H3 S2 := Up.same s
  cases k with
  | bl k =>
    refine ⟨k, rk, ?_⟩
    cases k with
    | false =>
      rw [if_neg Bool.false_ne_true]
      exact w3 ρ2 (.bl false) H3 (R2.same s) (U.trans U3) rfl
    | true =>
      rw [if_pos rfl]
      refine tE_seq (R2.same s) (U3.rv V2) (wpM_mono (wpM_bd w3) (fun z' S4 w4 ρ4 t H4 R4 V4 U4 r4 => ?_) fun _ _ _ q => q.up (U.trans U3))
      obtain ⟨d, e2, q⟩ := wpM_lf w4
      exact hg ρ4 H4 S4 y z' d u t Q R4 ((U3.trans U4).relD r2) r4 e2 fun w' H' s' k' => q ρ4 w' H' (R4.same s') (((U.trans U3).trans U4).trans (Up.same s')) k'
  | _ => exact w3.elim
theorem y_chn {op op' : CmpOp} {r r' : R2} {f g : Sto → D → D → Option D} (ho : OpR X (compareOp op) r) (hf : OpS X.K r f) (ho' : OpR X (compareOp op') r') (hg : OpS X.K r' g) (ha : PE X a (tE X.K X.mg W ma)) (hb : PE X b (tE X.K X.mg W mb)) (hc : PE X c (tE X.K X.mg W mc))
    (hm : lastMarks [op, op'] [b, c] = false := by with_unfolding_all rfl) : PE X (.Compare a [op, op'] [b, c] pos) (tE X.K X.mg W (chn f g ma mb mc)) := (pe_chain ho ho' ha hb hc hm).imp (chn_imp hf hg)
theorem y_tchn {op op' : CmpOp} {r r' : R2} {f g : Sto → D → D → Option D} (ho : OpR X (compareOp op) r) (hf : OpS X.K r f) (ho' : OpR X (compareOp op') r') (hg : OpS X.K r' g) (ha : PE X a (tE X.K X.mg W ma)) (hb : PE X b (tE X.K X.mg W mb)) (hc : PE X c (tE X.K X.mg W mc))
    (hm : lastMarks [op, op'] [b, c] = false := by with_unfolding_all rfl) : PT X (.Compare a [op, op'] [b, c] pos) (tT X.K X.mg W (asT (chn f g ma mb mc))) := (pt_chain ho ho' ha hb hc hm).imp (asT_imp (chn_imp hf hg))
/-- truth of a value -/
def tru (S : Sto) : D → Option Bool
  | .non => some false
  | .bl b => some b
  | .int i => some (i != 0)
  | .str s => if s.length ≤ sizeLine then some (s.length != 0) else none
  | .tup ds => some (!ds.isEmpty)
  | .lst ds => some (!ds.isEmpty)
  | .ref n => match S[n]? with
    | some (some (.lst ds)) => some (!ds.isEmpty)
    | _ => none
theorem relL_empty {K : PySem.W.Frag} {H : Hp} {A : Addr → Prop} {ρ : List Addr} {xs : List V} {ds : List D} (h : RelL K H A ρ xs ds) : (!ds.isEmpty) = !xs.isEmpty := by
  have e := h.length
  cases xs <;> cases ds <;> first | rfl | simp at e
theorem tru_ok' {K : PySem.W.Frag} {ρ : List Addr} {H : Hp} {S : Sto} {d : D} {v : V} {k : Bool} (R : RS K ρ H S) (r : RelD K H (Al ρ S) ρ v d) (h : tru S d = some k) : TruV K v H k := by
  cases d with
  | non =>
    have r' : v = .non := r
    have h' : some false = some k := h
    cases h'; subst r'; rfl
  | bl b =>
    have r' : v = .bl b := r
    have h' : some b = some k := h
    cases h'; subst r'; rfl
  | int i =>
    have r' : v = .int i := r
    have h' : some (i != 0) = some k := h
    cases h'; subst r'; rfl
  | str s =>
    have r' : v = .str s := r
    subst r'
    simp only [tru] at h
    split at h
    · rename_i hl
      cases h
      refine ⟨hl, ?_⟩
      rw [Bool.eq_iff_iff]; simp
    · cases h
  | tup ds =>
    obtain ⟨a, xs, e, h1, h2⟩ := r
    have h' : some (!ds.isEmpty) = some k := h
    cases h'; subst e
    exact .inr (.inl ⟨xs, h1, relL_empty h2⟩)
  | lst ds =>
    obtain ⟨a, xs, e, h1, h2⟩ := r
    have h' : some (!ds.isEmpty) = some k := h
    cases h'; subst e
    exact .inl ⟨xs, h1.sq, relL_empty h2⟩
  | ref n =>
    obtain ⟨a, e, h1⟩ := r
    subst e
    simp only [tru] at h
    split at h
    · rename_i ds hS
      cases h
      obtain ⟨xs, e1, r1⟩ := R.obj n _ a hS h1
      exact .inl ⟨xs, .inl (.inl e1), relL_empty r1⟩
    · cases h
def trt (m : EM) : TM := fun env S => bd (m env S) fun x S1 => lf (tru S1 x) S1
theorem y_truth (ha : PE X a (tE X.K X.mg W ma)) (he : ∀ whole, isTrue a X.env whole = (do let v ← whole; standAt a.pos; holding [v] (truthy v)) := by intro _; rfl) : PT X a (tT X.K X.mg W (trt ma)) :=
  (pt_truth ha he).imp fun σ H Q ⟨ρ, env, S, R, V, w⟩ => tE_seq R V (wpM_mono (wpM_bd w) (fun x S1 w1 ρ1 v H1 R1 V1 U1 r1 => by
    obtain ⟨k, e, q⟩ := wpM_lf w1
    exact ⟨k, tru_ok' R1 r1 e, q ρ1 H1 R1 U1⟩) fun _ _ _ q => q)
def notT (m : TM) : TM := fun env S => bd (m env S) fun b S1 => .ok (!b) S1
def andT (m n : TM) : TM := fun env S => bd (m env S) fun b S1 => match b with
  | true => n env S1
  | false => .ok false S1
def orT (m n : TM) : TM := fun env S => bd (m env S) fun b S1 => match b with
  | true => .ok true S1
  | false => n env S1
variable {ta tb : TM} {rest : List Expr}
theorem y_tnot (ha : PT X a (tT X.K X.mg W ta)) : PT X (.UnaryOp .Not a pos) (tT X.K X.mg W (notT ta)) :=
  (pt_not ha).imp fun σ H Q ⟨ρ, env, S, R, V, w⟩ => tT_seq R V (wpM_mono (wpM_bd w) (fun x S1 w1 ρ1 H1 R1 V1 U1 => w1 ρ1 H1 R1 U1) fun _ _ _ q => q)
theorem y_tand1 (ha : PT X a (tT X.K X.mg W ta)) : PW X (.BoolOp .And [a] pos) (tT X.K X.mg W ta) := pw_and1 ha
theorem y_tor1 (ha : PT X a (tT X.K X.mg W ta)) : PW X (.BoolOp .Or [a] pos) (tT X.K X.mg W ta) := pw_or1 ha
theorem y_tand (ha : PT X a (tT X.K X.mg W ta)) (hb : PW X (.BoolOp .And (b :: rest) pos) (tT X.K X.mg W tb)) : PW X (.BoolOp .And (a :: b :: rest) pos) (tT X.K X.mg W (andT ta tb)) :=
  (pw_and ha hb).imp fun σ H Q ⟨ρ, env, S, R, V, w⟩ => tT_seq R V (wpM_mono (wpM_bd w) (fun x S1 w1 ρ1 H1 R1 V1 U1 => by
    cases x with
    | true => exact iteT (tT_seq R1 V1 (wpM_mono w1 (fun y S2 w2 ρ2 H2 R2 V2 U2 => w2 ρ2 H2 R2 (U1.trans U2)) fun _ _ _ q => q.up U1))
    | false => exact iteF (w1 ρ1 H1 R1 U1)) fun _ _ _ q => q)
theorem y_tor (ha : PT X a (tT X.K X.mg W ta)) (hb : PW X (.BoolOp .Or (b :: rest) pos) (tT X.K X.mg W tb)) : PW X (.BoolOp .Or (a :: b :: rest) pos) (tT X.K X.mg W (orT ta tb)) :=
  (pw_or ha hb).imp fun σ H Q ⟨ρ, env, S, R, V, w⟩ => tT_seq R V (wpM_mono (wpM_bd w) (fun x S1 w1 ρ1 H1 R1 V1 U1 => by
    cases x with
    | false => exact iteF (tT_seq R1 V1 (wpM_mono w1 (fun y S2 w2 ρ2 H2 R2 V2 U2 => w2 ρ2 H2 R2 (U1.trans U2)) fun _ _ _ q => q.up U1))
    | true => exact iteT (w1 ρ1 H1 R1 U1)) fun _ _ _ q => q)
/-! values -/
def notV (m : TM) : EM := fun env S => bd (m env S) fun b S1 => .ok (.bl (!b)) S1
def andV (m n : EM) : EM := fun env S => bd (m env S) fun x S1 => bd (lf (tru S1 x) S1) fun k S2 => match k with
  | true => n env S2
  | false => .ok x S2
def orV (m n : EM) : EM := fun env S => bd (m env S) fun x S1 => bd (lf (tru S1 x) S1) fun k S2 => match k with
  | true => .ok x S2
  | false => n env S2
theorem y_one {op} (h : PE X a (tE X.K X.mg W ma)) : PE X (.BoolOp op [a] pos) (tE X.K X.mg W ma) := pe_one h
theorem y_and (ha : PE X a (tE X.K X.mg W ma)) (hb : PE X (.BoolOp .And (b :: rest) pos) (tE X.K X.mg W mb)) : PE X (.BoolOp .And (a :: b :: rest) pos) (tE X.K X.mg W (andV ma mb)) :=
  (pe_andT ha hb).imp fun σ H Q ⟨ρ, env, S, R, V, w⟩ => tE_seq R V (wpM_mono (wpM_bd w) (fun x S1 w1 ρ1 v H1 R1 V1 U1 r1 => by
    obtain ⟨k, e, w2⟩ := wpM_lf (wpM_bd w1)
    refine ⟨k, tru_ok' R1 r1 e, ?_⟩
    cases k with
    | true => exact iteT (tE_seq R1 V1 (wpM_mono w2 (fun y S2 w2 ρ2 u H2 R2 V2 U2 r2 => w2 ρ2 u H2 R2 (U1.trans U2) r2) fun _ _ _ q => q.up U1))
    | false => exact iteF (w2 ρ1 v H1 R1 U1 r1)) fun _ _ _ q => q)
theorem y_or (ha : PE X a (tE X.K X.mg W ma)) (hb : PE X (.BoolOp .Or (b :: rest) pos) (tE X.K X.mg W mb)) : PE X (.BoolOp .Or (a :: b :: rest) pos) (tE X.K X.mg W (orV ma mb)) :=
  (pe_orT ha hb).imp fun σ H Q ⟨ρ, env, S, R, V, w⟩ => tE_seq R V (wpM_mono (wpM_bd w) (fun x S1 w1 ρ1 v H1 R1 V1 U1 r1 => by
    obtain ⟨k, e, w2⟩ := wpM_lf (wpM_bd w1)
    refine ⟨k, tru_ok' R1 r1 e, ?_⟩
    cases k with
    | false => exact iteF (tE_seq R1 V1 (wpM_mono w2 (fun y S2 w2 ρ2 u H2 R2 V2 U2 r2 => w2 ρ2 u H2 R2 (U1.trans U2) r2) fun _ _ _ q => q.up U1))
    | true => exact iteT (w2 ρ1 v H1 R1 U1 r1)) fun _ _ _ q => q)
def notE (m : EM) : EM := fun env S => bd (m env S) fun x S1 => bd (lf (tru S1 x) S1) fun k S2 => .ok (.bl (!k)) S2
theorem y_not (ha : PE X a (tE X.K X.mg W ma)) : PE X (.UnaryOp .Not a pos) (tE X.K X.mg W (notE ma)) :=
  (pe_notT ha).imp fun σ H Q ⟨ρ, env, S, R, V, w⟩ => tE_seq R V (wpM_mono (wpM_bd w) (fun x S1 w1 ρ1 v H1 R1 V1 U1 r1 => by
    obtain ⟨k, e, w2⟩ := wpM_lf (wpM_bd w1)
    exact ⟨k, tru_ok' R1 r1 e, w2 ρ1 (.bl (!k)) H1 R1 U1 rfl⟩) fun _ _ _ q => q)
def ifE (c : TM) (a b : EM) : EM := fun env S => bd (c env S) fun k S1 => match k with
  | true => a env S1
  | false => b env S1
theorem y_if {mt : TM} (hc : PT X c (tT X.K X.mg W mt)) (ha : PE X a (tE X.K X.mg W ma)) (hb : PE X b (tE X.K X.mg W mb)) : PE X (.IfExp c a b pos) (tE X.K X.mg W (ifE mt ma mb)) :=
  (pe_ifExp hc ha hb).imp fun σ H Q ⟨ρ, env, S, R, V, w⟩ => tT_seq R V (wpM_mono (wpM_bd w) (fun x S1 w1 ρ1 H1 R1 V1 U1 => by
    cases x with
    | true => exact iteT (tE_seq R1 V1 (wpM_mono w1 (fun y S2 w2 ρ2 u H2 R2 V2 U2 r2 => w2 ρ2 u H2 R2 (U1.trans U2) r2) fun _ _ _ q => q.up U1))
    | false => exact iteF (tE_seq R1 V1 (wpM_mono w1 (fun y S2 w2 ρ2 u H2 R2 V2 U2 r2 => w2 ρ2 u H2 R2 (U1.trans U2) r2) fun _ _ _ q => q.up U1))) fun _ _ _ q => q)
end

/-! ### arguments, displays -/
def lnil : LM := fun _ S => .ok [] S
def lcons (a : EM) (r : LM) : LM := fun env S => bd (a env S) fun x S1 => bd (r env S1) fun xs S2 => .ok (x :: xs) S2
/-- a tuple -/
def tupE (l : LM) : EM := fun env S => bd (l env S) fun xs S1 => if xs.length ≤ sizeLine then .ok (.tup xs) S1 else .err
def lstF (l : LM) : LM := fun env S => bd (l env S) fun xs S1 => if xs.length ≤ sizeLine then .ok xs S1 else .err
/-- a new list that nobody will change, one that is to change -/
def frz (l : LM) : EM := fun env S => bd (l env S) fun xs S1 => .ok (.lst xs) S1
def new (l : LM) : EM := fun env S => bd (l env S) fun xs S1 => .ok (.ref S1.length) (S1 ++ [some (.lst xs)])
section
variable {X : Cx} {W : WX} {pos : Pos} {e : Expr} {es : List Expr} {m : EM} {l : LM}
theorem y_nil : PA X [] (tA X.K X.mg W lnil) := pa_nil.imp fun σ H Q ⟨ρ, env, S, R, V, w⟩ => (show PostL X.K ρ H S Q [] S from w) ρ [] H R Up.refl rfl
theorem y_cons (ha : PE X e (tE X.K X.mg W m)) (hr : PA X es (tA X.K X.mg W l)) (hs : starEach (e :: es) X.env = (false, eval e X.env) :: starEach es X.env := by rfl) : PA X (e :: es) (tA X.K X.mg W (lcons m l)) :=
  (pa_cons ha hr hs).imp fun σ H Q ⟨ρ, env, S, R, V, w⟩ => tE_seq R V (wpM_mono (wpM_bd w) (fun x S1 w1 ρ1 v H1 R1 V1 U1 r1 =>
    tA_seq R1 V1 (wpM_mono (wpM_bd w1) (fun xs S2 w2 ρ2 vs H2 R2 V2 U2 r2 => w2 ρ2 (v :: vs) H2 R2 (U1.trans U2) (RelL.cons (U2.relD r1) r2)) fun _ _ _ q => q.up U1)) fun _ _ _ q => q)
theorem y_tup {k} (h : PA X es (tA X.K X.mg W l)) : PE X (.Tuple es k pos) (tE X.K X.mg W (tupE l)) :=
  (pe_tup h).imp fun σ H Q ⟨ρ, env, S, R, V, w⟩ => tA_seq R V (wpM_mono (wpM_bd w) (fun xs S1 w1 ρ1 vs H1 R1 V1 U1 r1 => by
    split at w1
    · rename_i hl
      refine ⟨by rw [r1.length]; exact hl, fun p np => ?_⟩
      have s : Same H1 (upd H1 p (.tup vs)) := same_new np
      exact w1 ρ1 (.ref p) _ (R1.same s) (U1.trans (Up.same s)) ⟨p, vs, rfl, SqT.of upd_same, (Up.same (K := X.K) (ρ := ρ1) (S := S1) s).relL r1⟩
    · exact w1.elim) fun _ _ _ q => q)
theorem y_lst (h : PA X es (tA X.K X.mg W l)) : PE X (.List es pos) (tF X.K X.mg W (lstF l)) :=
  (pe_lst h).imp fun σ H Q ⟨ρ, env, S, R, V, w⟩ => tA_seq R V (wpM_mono (wpM_bd w) (fun xs S1 w1 ρ1 vs H1 R1 V1 U1 r1 => by
    split at w1
    · rename_i hl
      exact ⟨by rw [r1.length]; exact hl, fun p np => w1 ρ1 p vs H1 _ R1 U1 r1 np (same_new np) upd_same⟩
    · exact w1.elim) fun _ _ _ q => q)
theorem y_frz (h : PE X e (tF X.K X.mg W l)) : PE X e (tE X.K X.mg W (frz l)) :=
  h.imp fun σ H Q ⟨ρ, env, S, R, V, w⟩ => ⟨ρ, env, S, R, V, wpM_mono (wpM_bd w) (fun xs S1 w1 ρ1 p ys H1 H2 R1 U1 r1 np s hp => by
    have U2 : Up X.K ρ1 H1 S1 ρ1 H2 S1 := Up.same s
    exact w1 ρ1 (.ref p) H2 (R1.same s) (U1.trans U2) ⟨p, ys, rfl, .inl ⟨.inl hp, R1.noal np⟩, U2.relL r1⟩) fun _ _ _ q => q⟩
theorem y_new (h : PE X e (tF X.K X.mg W l)) : PE X e (tE X.K X.mg W (new l)) :=
  h.imp fun σ H Q ⟨ρ, env, S, R, V, w⟩ => ⟨ρ, env, S, R, V, wpM_mono (wpM_bd w) (fun xs S1 w1 ρ1 p ys H1 H2 R1 U1 r1 np s hp =>
    w1 (ρ1 ++ [p]) (.ref p) H2 (R1.new np s hp r1) (U1.trans (Up.new R1.len np s)) ⟨p, rfl, by rw [← R1.len]; simp⟩) fun _ _ _ q => q⟩
end

/-! ### calls -/
/-- a def's promise: what its mirror tells -/
def spM (K : PySem.W.Frag) (mg : Str → Option Value) (n : Nat) (f : List D → Sto → Res D) : Sp := fun vs H Q E => vs.length = n ∧ ∃ ρ S ds, RS K ρ H S ∧ RelL K H (Al ρ S) ρ vs ds ∧ wpM (f ds S) (PostV K ρ H S Q)
  (fun c fs S' => ∀ ρ' H' cls dx, RS K ρ' H' S' → Up K ρ H S ρ' H' S' → ExcR K mg H' (Al ρ' S') ρ' c fs cls dx → E cls dx H')
def cal (f : List D → Sto → Res D) (l : LM) : EM := fun env S => bd (l env S) fun ds S1 => f ds S1
theorem bd_len {α : Type} {X : Cx} {W : WX} : True := trivial
section
variable {X : Cx} {W : WX} {k n : Nat} {f : Addr} {fd : FuncData} {ps : List Str} {x : Str} {p pos : Pos} {e : Expr} {es : List Expr} {l : LM} {mf : List D → Sto → Res D}
/-- l gives as many values as there are expressions -/
def Len (l : LM) (n : Nat) : Prop := ∀ env S ds S', l env S = .ok ds S' → ds.length = n
theorem len_nil : Len lnil 0 := fun _ _ ds _ h => by cases h; rfl
theorem len_cons {m : EM} {n : Nat} (h : Len l n) : Len (lcons m l) (n + 1) := fun env S ds S' e => by
  unfold lcons at e
  cases e1 : m env S with
  | ok x S1 =>
    rw [e1] at e
    simp only [bd] at e
    cases e2 : l env S1 with
    | ok xs S2 =>
      rw [e2] at e
      cases e
      simp [h env S1 xs _ e2]
    | exc c fs S2 => rw [e2] at e; cases e
    | err => rw [e2] at e; cases e
  | exc c fs S1 => rw [e1] at e; cases e
  | err => rw [e1] at e; cases e
theorem y_call (F : FnOk X.prog X.w X.K X.mg X.base (L2.CX X.prog X.w) k f fd ps (spM X.K X.mg n mf)) (hr : Room k X.A) (tk : Takes X W) (hm : X.mg x = some (.ref f)) (hk : PySem.W.keepIn X.K (.ref f) = true) (hb : Binds X.K fd ps []) (ha : PA X (e :: es) (tA X.K X.mg W l)) (hn : Len l n)
    (hg : Gl X x := by rfl) (hdb : (x == ("__debug__" : Str)) = false := by decide) (he : starEach (e :: es) X.env = (false, eval e X.env) :: starEach es X.env := by rfl) (hpl : (backTo pos (starEach es X.env)).any (·.1) = false := by rfl) :
    PE X (.Call (.Name x p) (e :: es) [] pos) (tE X.K X.mg W (cal mf l)) :=
  (pe_callSD (E := fun σ cls dx H => W cls dx σ H) F hr hg hm hk hb .nil (fun σ => passAt tk σ) ha hdb he hpl).imp fun σ H Q ⟨ρ, env, S, R, V, w⟩ => by
    unfold tCallSD
    have w0 := wpM_bd w
    refine ⟨ρ, env, S, R, V, ?_⟩
    cases e1 : l env S with
    | ok ds S1 =>
      rw [e1] at w0
      have w1 : wpM (mf ds S1) (PostV X.K ρ H S Q) (PostX X.K X.mg W ρ σ H S) := w0
      intro ρ1 vs H1 R1 U1 r1
      rw [List.append_nil]
      exact ⟨by rw [r1.length]; exact hn env S ds S1 e1, ρ1, S1, ds, R1, r1, wpM_mono w1 (fun d S2 q => q.up U1) fun c fs S2 q ρ' H' cls dx r u k => q ρ' H' cls dx r (U1.trans u) k⟩
    | exc c fs S1 => rw [e1] at w0; exact w0
    | err => rw [e1] at w0; exact w0
end
end Y

end
section
set_option Elab.async false
set_option linter.all false
set_option maxRecDepth 100000
set_option maxHeartbeats 4000000
namespace Y
open PySem PySem.Spec L2

/-! ### statements -/
def bS {α : Type} (r : Res α) (env : En) (k : α → Sto → SR) : SR := match r with
  | .ok a S => k a S
  | .exc c fs S => .exc c fs env S
  | .err => .err
def seqS (a b : SM) : SM := fun env S => match a env S with
  | .nx e S1 => b e S1
  | r => r
def nxS : SM := fun env S => .nx env S
def brkS : SM := fun env S => .brk env S
def ctS : SM := fun env S => .ct env S
def exS (e : EM) : SM := fun env S => bS (e env S) env fun _ S1 => .nx env S1
def retS (e : EM) : SM := fun env S => bS (e env S) env fun d S1 => .ret d S1
def retN : SM := fun _ S => .ret .non S
def ifS (c : TM) (a b : SM) : SM := fun env S => bS (c env S) env fun k S1 => match k with
  | true => a env S1
  | false => b env S1
/-- a target -/
abbrev TgM := D → En → Option En
def asg (g : TgM) (e : EM) : SM := fun env S => bS (e env S) env fun d S1 => match g d env with
  | some env1 => .nx env1 S1
  | none => .err
def tgN (i : Nat) : TgM := fun d env => some (env.set i (some d))
def tgs : List TgM → List D → En → Option En
  | [], [], env => some env
  | g :: gs, d :: ds, env => (g d env).bind fun env1 => tgs gs ds env1
  | _, _, _ => none
def tgT (gs : List TgM) : TgM := fun d env => match d with
  | .tup ds => tgs gs ds env
  | _ => none
def setAt (S : Sto) : D → D → D → Option Sto
  | .ref n, .int k, d => match S[n]? with
    | some (some (.lst ds)) => (ixN ds.length k).map fun j => S.set n (some (.lst (ds.set j d)))
    | _ => none
  | _, _, _ => none
def setS (e o i : EM) : SM := fun env S => bS (e env S) env fun d S1 => bS (o env S1) env fun x S2 => bS (i env S2) env fun k S3 => match setAt S3 x k d with
  | some S4 => .nx env S4
  | none => .err

section
variable {K : PySem.W.Frag} {mg : Str → Option Value} {W : WX} {H H1 : Hp} {ρ ρ1 : List Addr} {S S1 : Sto} {σ σ1 : L2.St} {env env1 : En} {Dn : Ends}
theorem wpS_up {r : SR} (u : Up K ρ H S ρ1 H1 S1) (h : wpS K mg W ρ H S Dn r) : wpS K mg W ρ1 H1 S1 Dn r := by
  cases r with
  | nx e S' => exact fun ρ' σ' H' r v k => h ρ' σ' H' r v (u.trans k)
  | brk e S' => exact fun ρ' σ' H' r v k => h ρ' σ' H' r v (u.trans k)
  | ct e S' => exact fun ρ' σ' H' r v k => h ρ' σ' H' r v (u.trans k)
  | ret d S' => exact fun ρ' v H' r k => h ρ' v H' r (u.trans k)
  | exc c fs e S' => exact fun ρ' σ' H' cls dx r v k => h ρ' σ' H' cls dx r v (u.trans k)
  | err => exact h
theorem wpS_bS {α : Type} {r : Res α} {k : α → Sto → SR} (V : RV K ρ σ H S env) (h : wpS K mg W ρ H S Dn (bS r env k)) : wpM r (fun a S1 => wpS K mg W ρ H S Dn (k a S1)) (PostX K mg W ρ σ H S) := by
  cases r with
  | ok a S1 => exact h
  | exc c fs S1 => exact fun ρ' H' cls dx r u e => h ρ' σ H' cls dx r (u.rv V) u e
  | err => exact h
theorem RV.set {i : Nat} {v : V} {d : D} (V : RV K ρ σ H S env) (r : RelD K H (Al ρ S) ρ v d) : RV K ρ (σ.set i (some v)) H S (env.set i (some d)) := by
  refine ⟨by simp [V.1], fun j e h => ?_⟩
  by_cases hj : i = j
  · subst hj
    by_cases hi : i < env.length
    · rw [List.getElem?_set_self hi] at h
      cases h
      exact ⟨v, by rw [List.getElem?_set_self (by rw [← V.1]; exact hi)], r⟩
    · rw [List.getElem?_eq_none (by simp; omega)] at h; cases h
  · rw [List.getElem?_set_ne hj] at h ⊢
    exact V.2 j e h
end
section
variable {X : Cx} {W : WX} {pos : Pos} {st : Stmt} {rest : List Stmt} {a b : SM} {e : Expr} {m : EM}
theorem s_nil : PSs X [] (tS X.K X.mg W nxS) := pss_nil.imp fun Dn σ H ⟨ρ, env, S, R, V, w⟩ => w ρ σ H R V Up.refl
theorem s_cons (h1 : PS X st (tS X.K X.mg W a)) (h2 : PSs X rest (tS X.K X.mg W b)) : PSs X (st :: rest) (tS X.K X.mg W (seqS a b)) :=
  (pss_cons h1 h2).imp fun Dn σ H ⟨ρ, env, S, R, V, w⟩ => by
    refine ⟨ρ, env, S, R, V, ?_⟩
    unfold seqS at w
    cases e1 : a env S with
    | nx env1 S1 =>
      rw [e1] at w
      exact fun ρ' σ' H' r v u => ⟨ρ', env1, S1, r, v, wpS_up u w⟩
    | brk env1 S1 => rw [e1] at w; exact w
    | ct env1 S1 => rw [e1] at w; exact w
    | ret d S1 => rw [e1] at w; exact w
    | exc c fs env1 S1 => rw [e1] at w; exact w
    | err => rw [e1] at w; exact w
theorem s_one (h1 : PS X st (tS X.K X.mg W a)) : PSs X [st] (tS X.K X.mg W a) := pss_one h1
theorem s_pass : PS X (.Pass pos) (tS X.K X.mg W nxS) := ps_pass.imp fun Dn σ H ⟨ρ, env, S, R, V, w⟩ => w ρ σ H R V Up.refl
theorem s_break : PS X (.Break pos) (tS X.K X.mg W brkS) := ps_break.imp fun Dn σ H ⟨ρ, env, S, R, V, w⟩ => w ρ σ H R V Up.refl
theorem s_continue : PS X (.Continue pos) (tS X.K X.mg W ctS) := ps_continue.imp fun Dn σ H ⟨ρ, env, S, R, V, w⟩ => w ρ σ H R V Up.refl
theorem s_expr (he : PE X e (tE X.K X.mg W m)) (hs : swapsWith e none pos.line X.env = pure false := by rfl) : PS X (.Expr e pos) (tS X.K X.mg W (exS m)) :=
  (ps_expr he hs).imp fun Dn σ H ⟨ρ, env, S, R, V, w⟩ => tE_seq R V (wpM_mono (wpS_bS V w) (fun d S1 w1 ρ1 v H1 R1 V1 U1 r1 => w1 ρ1 σ H1 R1 V1 U1) fun _ _ _ q => q)
theorem s_ret (he : PE X e (tE X.K X.mg W m)) : PS X (.Return (some e) pos) (tS X.K X.mg W (retS m)) :=
  (ps_ret he).imp fun Dn σ H ⟨ρ, env, S, R, V, w⟩ => tE_seq R V (wpM_mono (wpS_bS V w) (fun d S1 w1 ρ1 v H1 R1 V1 U1 r1 => w1 ρ1 v H1 R1 U1 r1) fun _ _ _ q => q)
theorem s_retN : PS X (.Return none pos) (tS X.K X.mg W retN) := ps_retN.imp fun Dn σ H ⟨ρ, env, S, R, V, w⟩ => w ρ .non H R Up.refl rfl
theorem s_if {c : Expr} {mc : TM} {p q : List Stmt} (hc : PT X c (tT X.K X.mg W mc)) (ha : PSs X p (tS X.K X.mg W a)) (hb : PSs X q (tS X.K X.mg W b)) : PS X (.If c p q pos) (tS X.K X.mg W (ifS mc a b)) :=
  (ps_if hc ha hb).imp fun Dn σ H ⟨ρ, env, S, R, V, w⟩ => tT_seq R V (wpM_mono (wpS_bS V w) (fun k S1 w1 ρ1 H1 R1 V1 U1 => by
    cases k with
    | true => exact iteT ⟨ρ1, env, S1, R1, V1, wpS_up U1 w1⟩
    | false => exact iteF ⟨ρ1, env, S1, R1, V1, wpS_up U1 w1⟩) fun _ _ _ q => q)
/-! targets -/
def tG (K : PySem.W.Frag) (ix : List Nat) (g : TgM) : TG := fun v σ H Q => ∃ ρ env S d env', RS K ρ H S ∧ RV K ρ σ H S env ∧ RelD K H (Al ρ S) ρ v d ∧ g d env = some env' ∧ ∀ σ', RV K ρ σ' H S env' → wipe σ' ix = wipe σ ix → Q σ' H
def tGs (K : PySem.W.Frag) (ix : List Nat) (gs : List TgM) : TGs := fun vs σ H Q => ∃ ρ env S ds env', RS K ρ H S ∧ RV K ρ σ H S env ∧ RelL K H (Al ρ S) ρ vs ds ∧ tgs gs ds env = some env' ∧ ∀ σ', RV K ρ σ' H S env' → wipe σ' ix = wipe σ ix → Q σ' H
theorem wipe_get {σ : L2.St} : ∀ {ix : List Nat} {j : Nat}, (wipe σ ix)[j]? = if j ∈ ix then σ[j]?.map (fun _ => none) else σ[j]?
  | [], j => by simp [wipe]
  | i :: ix, j => by
    unfold wipe
    by_cases h : i = j
    · subst h
      rw [if_pos (List.mem_cons_self), List.getElem?_set]
      simp only [if_true]
      by_cases hl : i < σ.length
      · rw [if_pos (by rw [wipe_length]; exact hl), List.getElem?_eq_getElem hl]; rfl
      · rw [if_neg (by rw [wipe_length]; exact hl), List.getElem?_eq_none (by omega)]; rfl
    · rw [List.getElem?_set_ne h, wipe_get]
      have e : (j ∈ i :: ix) ↔ j ∈ ix := by simp [Ne.symm h]
      by_cases hj : j ∈ ix
      · rw [if_pos hj, if_pos (e.mpr hj)]
      · rw [if_neg hj, if_neg (fun q => hj (e.mp q))]
theorem wipe_set {σ : L2.St} {ix : List Nat} {i : Nat} {x : Option V} (h : i ∈ ix) : wipe (σ.set i x) ix = wipe σ ix := by
  apply List.ext_getElem?
  intro j
  rw [wipe_get, wipe_get]
  by_cases hj : j ∈ ix
  · rw [if_pos hj, if_pos hj, List.getElem?_set]
    split
    · rename_i e; subst e
      split
      · rename_i hl; rw [List.getElem?_eq_getElem hl]; rfl
      · rename_i hl; rw [List.getElem?_eq_none (by omega)]
    · rfl
  · rw [if_neg hj, if_neg hj, List.getElem?_set_ne (fun e => hj (by rw [← e]; exact h))]
theorem PG_imp {tg : Expr} {t t' : TG} (h : PG X tg t) (i : ∀ v σ H Q, t' v σ H Q → t v σ H Q) : PG X tg t' := ⟨fun pins s σ H v u Q I r q => h.run pins s σ H v u Q I r (i v σ H Q q)⟩
theorem PGs_imp {tg : List Expr} {t t' : TGs} (h : PGs X tg t) (i : ∀ v σ H Q, t' v σ H Q → t v σ H Q) : PGs X tg t' := ⟨fun pins s σ H v u Q I r q => h.run pins s σ H v u Q I r (i v σ H Q q)⟩
theorem g_name (i : Nat) {x : Str} (hN : X.N.Nodup) (hi : X.N[i]? = some x := by rfl) (hx : Loc X.env.scope x := by first | exact Or.inl rfl | exact Or.inr rfl) (hf : X.fn x = true ∨ X.env.scope.names.lookup x = some .local := by first | exact .inl rfl | exact .inr rfl | assumption)
    {ix : List Nat} (hix : i ∈ ix := by decide) : PG X (.Name x pos) (tG X.K ix (tgN i)) := PG_imp (pg_name hN hi hx hf) fun v σ H Q ⟨ρ, env, S, d, env', R, V, r, e, q⟩ => by
  cases e
  exact q _ (V.set r) (wipe_set hix)
theorem g_nil {ix : List Nat} : PGs X [] (tGs X.K ix []) := PGs_imp pgs_nil fun v σ H Q ⟨ρ, env, S, ds, env', R, V, r, e, q⟩ => by
  cases ds with
  | nil => cases e; exact ⟨r, q σ V rfl⟩
  | cons d ds => cases e
theorem g_cons {t : Expr} {ts : List Expr} {g : TgM} {gs : List TgM} {ix : List Nat} (h1 : PG X t (tG X.K ix g)) (h2 : PGs X ts (tGs X.K ix gs)) (hs : (assignEach (t :: ts) X.env).map (·.2) = assign t X.env :: (assignEach ts X.env).map (·.2) := by rfl) : PGs X (t :: ts) (tGs X.K ix (g :: gs)) :=
  PGs_imp (pgs_cons h1 h2 hs) fun vs σ H Q ⟨ρ, env, S, ds, env', R, V, r, e, q⟩ => by
    cases ds with
    | nil => cases e
    | cons d ds =>
      obtain ⟨x, xs, rfl, r1, r2⟩ := r
      have e' : (g d env).bind (fun env1 => tgs gs ds env1) = some env' := e
      cases e1 : g d env with
      | none => rw [e1] at e'; cases e'
      | some env1 =>
        rw [e1] at e'
        exact ⟨x, xs, rfl, ρ, env, S, d, env1, R, V, r1, e1, fun σ' V' hw => ⟨ρ, env1, S, ds, env', R, V', r2, e', fun σ'' V'' hw' => q σ'' V'' (hw'.trans hw)⟩⟩
theorem tgs_len {gs : List TgM} : ∀ {ds : List D} {env env' : En}, tgs gs ds env = some env' → ds.length = gs.length := by
  induction gs with
  | nil => intro ds env env' h; cases ds with
    | nil => rfl
    | cons d ds => cases h
  | cons g gs ih => intro ds env env' h; cases ds with
    | nil => cases h
    | cons d ds =>
      have e' : (g d env).bind (fun env1 => tgs gs ds env1) = some env' := h
      cases e1 : g d env with
      | none => rw [e1] at e'; cases e'
      | some env1 => rw [e1] at e'; simp [ih e']
theorem g_tup {es : List Expr} {k : Nat} {gs : List TgM} {ix : List Nat} (hc : X.calm = true) (h : PGs X es (tGs X.K ix gs)) (hn : (assignEach es X.env).length = gs.length := by rfl) (hst : (assignEach es X.env).findIdx? (·.1) = none := by rfl) : PG X (.Tuple es k pos) (tG X.K ix (tgT gs)) :=
  PG_imp (pg_tup hc h hn hst) fun v σ H Q ⟨ρ, env, S, d, env', R, V, r, e, q⟩ => by
    cases d with
    | tup ds =>
      obtain ⟨a, xs, rfl, h1, h2⟩ := r
      have e' : tgs gs ds env = some env' := e
      exact ⟨a, xs, rfl, h1, by rw [h2.length, tgs_len e'], ρ, env, S, ds, env', R, V, h2, e', q⟩
    | _ => cases e
theorem asg_imp {g : TgM} {ix : List Nat} : ∀ Dn σ H, tS X.K X.mg W (asg g m) Dn σ H → tAsg (tE X.K X.mg W m) (tG X.K ix g) Dn σ H := fun Dn σ H ⟨ρ, env, S, R, V, w⟩ => tE_seq R V (wpM_mono (wpS_bS V w) (fun d S1 w1 ρ1 v H1 R1 V1 U1 r1 => by
  cases e1 : g d env with
  | none => rw [e1] at w1; exact w1.elim
  | some env1 => rw [e1] at w1; exact ⟨ρ1, env, S1, d, env1, R1, V1, r1, e1, fun σ' V' _ => w1 ρ1 σ' H1 R1 V' U1⟩) fun _ _ _ q => q)
theorem s_asg {tg : Expr} {g : TgM} {ix : List Nat} (he : PE X e (tE X.K X.mg W m)) (hg : PG X tg (tG X.K ix g)) (hs : swapsWithSole [tg] e pos.line X.env = pure false := by rfl) (hw : swappedStores [tg] e X.env = pure none := by rfl)
    (h1 : (assignEach [tg] X.env).map (·.2) = [assign tg X.env] := by rfl) : PS X (.Assign [tg] e pos) (tS X.K X.mg W (asg g m)) := (ps_asg he hg hs hw h1).imp asg_imp
/-- name = value -/
theorem s_set (i : Nat) {x : Str} {pos' : Pos} (hN : X.N.Nodup) (he : PE X e (tE X.K X.mg W m)) (hi : X.N[i]? = some x := by rfl) (hx : Loc X.env.scope x := by first | exact Or.inl rfl | exact Or.inr rfl) (hs : swapsWith e (some (.Name x pos')) pos.line X.env = pure false := by rfl)
    (hf : X.fn x = true ∨ X.env.scope.names.lookup x = some .local := by first | exact .inl rfl | exact .inr rfl | assumption) : PS X (.Assign [.Name x pos'] e pos) (tS X.K X.mg W (asg (tgN i) m)) :=
  (ps_set hN hi hx he hs hf).imp fun Dn σ H ⟨ρ, env, S, R, V, w⟩ => tE_seq R V (wpM_mono (wpS_bS V w) (fun d S1 w1 ρ1 v H1 R1 V1 U1 r1 => w1 ρ1 _ H1 R1 (V1.set r1) U1) fun _ _ _ q => q)
theorem setAt_ok {K : PySem.W.Frag} {ρ : List Addr} {H : Hp} {S S' : Sto} {o i d : D} {ov iv v : V} {Q : Hp → Prop} (R : RS K ρ H S) (ro : RelD K H (Al ρ S) ρ ov o) (ri : RelD K H (Al ρ S) ρ iv i) (r : RelD K H (Al ρ S) ρ v d) (h : setAt S o i d = some S')
    (q : ∀ H', RS K ρ H' S' → Up K ρ H S ρ H' S' → Q H') : rSetL ov iv v H Q := by
  cases o with
  | ref n =>
    cases i with
    | int k =>
      obtain ⟨a, rfl, ha⟩ := ro
      have ri' : iv = .int k := ri
      subst ri'
      simp only [setAt] at h
      split at h
      · rename_i ds hS
        obtain ⟨xs, e1, r1⟩ := R.obj n _ a hS ha
        cases e2 : ixN ds.length k with
        | none => rw [e2] at h; cases h
        | some j =>
          rw [e2] at h
          cases h
          exact ⟨a, xs, k, j, rfl, rfl, e1, by rw [r1.length]; exact e2, q _ (R.set hS ha e1 (RelL.set r j r1)) (Up.set hS ha e1)⟩
      · cases h
    | _ => cases h
  | _ => cases h
theorem s_sub {o i : Expr} {mo mi : EM} {p2 : Pos} (he : PE X e (tE X.K X.mg W m)) (ho : PE X o (tE X.K X.mg W mo)) (hi : PE X i (tE X.K X.mg W mi))
    (ha : ∀ v, assign (.Subscript o i p2) X.env v = (do
      let ov ← holding [v] (eval o X.env)
      let iv ← holding [v, ov] (eval i X.env)
      standAt p2
      holding [v, ov, iv] (setItem ov iv v)
      release [v, ov, iv] []) := by intro _; rfl)
    (hs : swapsWithSole [.Subscript o i p2] e pos.line X.env = pure false := by rfl) (hw : swappedStores [.Subscript o i p2] e X.env = pure none := by rfl)
    (h1 : (assignEach [.Subscript o i p2] X.env).map (·.2) = [assign (.Subscript o i p2) X.env] := by rfl) : PS X (.Assign [.Subscript o i p2] e pos) (tS X.K X.mg W (setS m mo mi)) :=
  (ps_asg he (pg_sub ho hi set_list ha) hs hw h1).imp fun Dn σ H ⟨ρ, env, S, R, V, w⟩ => tE_seq R V (wpM_mono (wpS_bS V w) (fun d S1 w1 ρ1 v H1 R1 V1 U1 r1 =>
    tE_seq R1 V1 (wpM_mono (wpS_bS V1 (wpS_up U1 w1)) (fun x S2 w2 ρ2 u H2 R2 V2 U2 r2 => tE_seq R2 V2 (wpM_mono (wpS_bS V2 (wpS_up U2 w2)) (fun k S3 w3 ρ3 t H3 R3 V3 U3 r3 => by
      cases e1 : setAt S3 x k d with
      | none => rw [e1] at w3; exact w3.elim
      | some S4 =>
        rw [e1] at w3
        exact setAt_ok R3 (U3.relD r2) r3 ((U2.trans U3).relD r1) e1 fun H' R4 U4 => w3 ρ3 σ H' R4 (U4.rv V3) (U3.trans U4)) fun _ _ _ q => q)) fun _ _ _ q => q)) fun _ _ _ q => q)
end

/-! ### a def -/
mutual
def D.pure : D → Bool
  | .non => true
  | .bl _ => true
  | .int _ => true
  | .str _ => true
  | .tup ds => pureL ds
  | .lst ds => pureL ds
  | .ref _ => false
def pureL : List D → Bool
  | [] => true
  | d :: ds => d.pure && pureL ds
end
mutual
def D.bel (n : Nat) : D → Bool
  | .non => true
  | .bl _ => true
  | .int _ => true
  | .str _ => true
  | .tup ds => belL n ds
  | .lst ds => belL n ds
  | .ref m => decide (m < n)
def belL (n : Nat) : List D → Bool
  | [] => true
  | d :: ds => d.bel n && belL n ds
end
def Ob.bel (n : Nat) (o : Ob) : Bool := belL n o.pay
mutual
theorem bel_of_pure {n : Nat} : ∀ d : D, d.pure = true → d.bel n = true
  | .non, _ => rfl
  | .bl _, _ => rfl
  | .int _, _ => rfl
  | .str _, _ => rfl
  | .tup ds, h => belL_of_pure ds h
  | .lst ds, h => belL_of_pure ds h
  | .ref _, h => by cases h
theorem belL_of_pure {n : Nat} : ∀ ds : List D, pureL ds = true → belL n ds = true
  | [], _ => rfl
  | d :: ds, h => by
    have h' : (d.pure && pureL ds) = true := h
    obtain ⟨h1, h2⟩ := Bool.and_eq_true_iff.mp h'
    show (d.bel n && belL n ds) = true
    rw [bel_of_pure d h1, belL_of_pure ds h2]; rfl
end
def mapS (f : D → Sto → Option (D × Sto)) : List D → Sto → Option (List D × Sto)
  | [], S => some ([], S)
  | d :: ds, S => (f d S).bind fun p => (mapS f ds p.2).map fun q => (p.1 :: q.1, q.2)
/-- from n0 on no list of it will change any more -/
def frzD (n0 : Nat) : Nat → D → Sto → Option (D × Sto)
  | 0, d, S => if d.pure then some (d, S) else none
  | k + 1, d, S => if d.pure then some (d, S) else match d with
    | .ref n => if n < n0 then some (d, S) else match S[n]? with
      | some (some (.lst ds)) => (mapS (frzD n0 k) ds (S.set n none)).map fun p => (.lst p.1, p.2)
      | _ => none
    | .tup ds => (mapS (frzD n0 k) ds S).map fun p => (.tup p.1, p.2)
    | .lst ds => (mapS (frzD n0 k) ds S).map fun p => (.lst p.1, p.2)
    | _ => none
section
variable {K : PySem.W.Frag} {H : Hp} {ρ : List Addr}
theorem mapS_ok {f : D → Sto → Option (D × Sto)} (hf : ∀ d S d' S' v, f d S = some (d', S') → RS K ρ H S → RelD K H (Al ρ S) ρ v d → RS K ρ H S' ∧ Up K ρ H S ρ H S' ∧ RelD K H (Al ρ S') ρ v d') :
    ∀ (ds : List D) (S : Sto) (es : List D) (S' : Sto) (vs : List V), mapS f ds S = some (es, S') → RS K ρ H S → RelL K H (Al ρ S) ρ vs ds → RS K ρ H S' ∧ Up K ρ H S ρ H S' ∧ RelL K H (Al ρ S') ρ vs es
  | [], S, es, S', vs, h, R, r => by
    cases h
    exact ⟨R, Up.refl, r⟩
  | d :: ds, S, es, S', vs, h, R, r => by
    obtain ⟨x, xs, rfl, r1, r2⟩ := r
    have h' : (f d S).bind (fun p => (mapS f ds p.2).map fun q => (p.1 :: q.1, q.2)) = some (es, S') := h
    cases e1 : f d S with
    | none => rw [e1] at h'; cases h'
    | some p =>
      obtain ⟨d', S1⟩ := p
      rw [e1] at h'
      obtain ⟨R1, U1, q1⟩ := hf d S d' S1 x e1 R r1
      cases e2 : mapS f ds S1 with
      | none => rw [Option.bind_some, e2] at h'; cases h'
      | some q =>
        obtain ⟨es', S2⟩ := q
        rw [Option.bind_some, e2] at h'
        cases h'
        obtain ⟨R2, U2, q2⟩ := mapS_ok hf ds S1 es' S2 xs e2 R1 (U1.relL r2)
        exact ⟨R2, U1.trans U2, RelL.cons (U2.relD q1) q2⟩
theorem frzD_ok {n0 : Nat} : ∀ (k : Nat) (d : D) (S : Sto) (d' : D) (S' : Sto) (v : V), frzD n0 k d S = some (d', S') → RS K ρ H S → RelD K H (Al ρ S) ρ v d → RS K ρ H S' ∧ Up K ρ H S ρ H S' ∧ RelD K H (Al ρ S') ρ v d'
  | 0, d, S, d', S', v, h, R, r => by
    simp only [frzD] at h
    split at h
    · cases h; exact ⟨R, Up.refl, r⟩
    · cases h
  | k + 1, d, S, d', S', v, h, R, r => by
    simp only [frzD] at h
    split at h
    · cases h; exact ⟨R, Up.refl, r⟩
    · cases d with
      | ref n =>
        simp only at h
        split at h
        · cases h; exact ⟨R, Up.refl, r⟩
        · split at h
          · rename_i ds hS
            cases e1 : mapS (frzD n0 k) ds (S.set n none) with
            | none => rw [e1] at h; cases h
            | some p =>
              obtain ⟨es, S1⟩ := p
              rw [e1] at h
              cases h
              obtain ⟨a, rfl, ha⟩ := r
              have fz := R.frozen hS ha
              obtain ⟨b, xs, e2, h1, h3⟩ := fz
              cases e2
              obtain ⟨R1, U1, q1⟩ := mapS_ok (fun d S d' S' v => frzD_ok k d S d' S' v) ds (S.set n none) es S1 xs e1 R.kill h3
              exact ⟨R1, Up.kill.trans U1, a, xs, rfl, U1.fz h1, q1⟩
          · cases h
      | tup ds =>
        simp only at h
        cases e1 : mapS (frzD n0 k) ds S with
        | none => rw [e1] at h; cases h
        | some p =>
          obtain ⟨es, S1⟩ := p
          rw [e1] at h
          cases h
          obtain ⟨a, xs, rfl, h1, h2⟩ := r
          obtain ⟨R1, U1, q1⟩ := mapS_ok (fun d S d' S' v => frzD_ok k d S d' S' v) ds S es S1 xs e1 R h2
          exact ⟨R1, U1, a, xs, rfl, U1.tup a xs h1, q1⟩
      | lst ds =>
        simp only at h
        cases e1 : mapS (frzD n0 k) ds S with
        | none => rw [e1] at h; cases h
        | some p =>
          obtain ⟨es, S1⟩ := p
          rw [e1] at h
          cases h
          obtain ⟨a, xs, rfl, h1, h3⟩ := r
          obtain ⟨R1, U1, q1⟩ := mapS_ok (fun d S d' S' v => frzD_ok k d S d' S' v) ds S es S1 xs e1 R h3
          exact ⟨R1, U1, a, xs, rfl, U1.fz h1, q1⟩
      | _ => cases h
/-! #### what a def has made goes -/
mutual
theorem bel_of {A : Addr → Prop} : ∀ (d : D) (v : V), RelD K H A ρ v d → d.bel ρ.length = true
  | .non, _, _ => rfl
  | .bl _, _, _ => rfl
  | .int _, _, _ => rfl
  | .str _, _, _ => rfl
  | .tup ds, _, ⟨_, xs, _, _, h⟩ => belL_of ds xs h
  | .lst ds, _, ⟨_, xs, _, _, h⟩ => belL_of ds xs h
  | .ref n, _, ⟨a, _, h⟩ => decide_eq_true (List.getElem?_eq_some_iff.mp h).1
theorem belL_of {A : Addr → Prop} : ∀ (ds : List D) (vs : List V), RelL K H A ρ vs ds → belL ρ.length ds = true
  | [], _, _ => rfl
  | d :: ds, _, ⟨x, xs, _, h1, h2⟩ => by
    show (d.bel ρ.length && belL ρ.length ds) = true
    rw [bel_of d x h1, belL_of ds xs h2]; rfl
end
mutual
theorem RelD.cut {A A' : Addr → Prop} {n : Nat} (hA : ∀ a, A' a → A a) : ∀ (d : D) (v : V), d.bel n = true → RelD K H A ρ v d → RelD K H A' (ρ.take n) v d
  | .non, _, _, h => h
  | .bl _, _, _, h => h
  | .int _, _, _, h => h
  | .str _, _, _, h => h
  | .tup ds, _, b, ⟨a, xs, e, h1, h2⟩ => ⟨a, xs, e, h1, RelL.cut hA ds xs b h2⟩
  | .lst ds, _, b, ⟨a, xs, e, h1, h3⟩ => ⟨a, xs, e, h1.imp (fun h => ⟨h.1, fun q => h.2 (hA a q)⟩) id, RelL.cut hA ds xs b h3⟩
  | .ref m, _, b, ⟨a, e, h⟩ => ⟨a, e, by rw [List.getElem?_take_of_lt (of_decide_eq_true b)]; exact h⟩
theorem RelL.cut {A A' : Addr → Prop} {n : Nat} (hA : ∀ a, A' a → A a) : ∀ (ds : List D) (vs : List V), belL n ds = true → RelL K H A ρ vs ds → RelL K H A' (ρ.take n) vs ds
  | [], _, _, h => h
  | d :: ds, _, b, ⟨x, xs, e, h1, h2⟩ => by
    have b' : (d.bel n && belL n ds) = true := b
    obtain ⟨b1, b2⟩ := Bool.and_eq_true_iff.mp b'
    exact ⟨x, xs, e, RelD.cut hA d x b1 h1, RelL.cut hA ds xs b2 h2⟩
end
theorem al_take {S : Sto} {n : Nat} {a : Addr} (h : Al (ρ.take n) (S.take n) a) : Al ρ S a := by
  obtain ⟨m, o, h1, h2⟩ := h
  rw [List.getElem?_take] at h1 h2
  split at h1
  · rename_i hm
    rw [if_pos hm] at h2
    exact ⟨m, o, h1, h2⟩
  · cases h1
theorem RS.take {S : Sto} {n : Nat} (R : RS K ρ H S) (h : ∀ (i : Nat) (o : Ob), i < n → S[i]? = some (some o) → o.bel n = true) : RS K (ρ.take n) H (S.take n) := by
  have sub : ∀ {m : Nat} {β : Type} {l : List β} {x : β}, (l.take n)[m]? = some x → m < n ∧ l[m]? = some x := fun {m β l x} e => by
    rw [List.getElem?_take] at e
    split at e
    · rename_i hm; exact ⟨hm, e⟩
    · cases e
  refine ⟨by rw [List.length_take, List.length_take, R.len], fun m o a h1 h2 => ?_, fun m k o o' a h1 h2 h3 h4 => R.inj m k o o' a (sub h1).2 (sub h2).2 (sub h3).2 (sub h4).2⟩
  obtain ⟨hm, h1'⟩ := sub h1
  have b := h m o hm h1'
  have q := R.obj m o a h1' (sub h2).2
  obtain ⟨xs, e, r⟩ := q
  exact ⟨xs, e, RelL.cut (fun a q => al_take q) o.pay xs b r⟩
end
open Classical in
/-- what was made from n = S0.length on goes, where nothing that stays speaks of it -/
noncomputable def trunc (S0 : Sto) (S : Sto) : Sto := if S.take S0.length = S0 ∨ ∀ (i : Nat) (o : Ob), i < S0.length → S[i]? = some (some o) → S0[i]? = some (some o) ∨ o.bel S0.length = true then S.take S0.length else S
noncomputable def scope (S0 : Sto) (r : Res D) : Res D := match r with
  | .ok d S => match frzD S0.length 9 d S with
    | some (d', S') => if d'.bel S0.length then .ok d' (trunc S0 S') else .ok d' S'
    | none => .ok d S
  | .exc c fs S => if fs.all (fun p => p.2.pure) then .exc c fs (trunc S0 S) else .exc c fs S
  | .err => .err
/-- the body at the arguments' values -/
def run (n : Nat) (body : SM) (ds : List D) (S : Sto) : Res D := match body (ds.map some ++ List.replicate (n - ds.length) none) S with
  | .nx _ S' => .ok .non S'
  | .ret d S' => .ok d S'
  | .exc c fs _ S' => .exc c fs S'
  | _ => .err
noncomputable def fn (n : Nat) (body : SM) (ds : List D) (S : Sto) : Res D := scope S (run n body ds S)
section
variable {K : PySem.W.Frag} {mg : Str → Option Value} {H H0 : Hp} {ρ ρ0 : List Addr} {S S0 : Sto}
theorem take_old (R0 : RS K ρ0 H0 S0) (h : S.take S0.length = S0) (i : Nat) (o : Ob) (hi : i < S0.length) (e : S[i]? = some (some o)) : S0[i]? = some (some o) := by
  rw [← h, List.getElem?_take_of_lt hi]; exact e
theorem trunc_ok (R0 : RS K ρ0 H0 S0) (U : Up K ρ0 H0 S0 ρ H S) (R : RS K ρ H S) : ∃ ρ', RS K ρ' H (trunc S0 S) ∧ Up K ρ0 H0 S0 ρ' H (trunc S0 S) ∧ (∀ (d : D) v, d.bel S0.length = true → RelD K H (Al ρ S) ρ v d → RelD K H (Al ρ' (trunc S0 S)) ρ' v d) := by
  unfold trunc
  split
  · rename_i hc
    have old : ∀ (i : Nat) (o : Ob), i < S0.length → S[i]? = some (some o) → S0[i]? = some (some o) ∨ o.bel S0.length = true := by
      rcases hc with hc | hc
      · exact fun i o hi e => .inl (take_old R0 hc i o hi e)
      · exact hc
    refine ⟨ρ.take S0.length, R.take fun i o hi e => ?_, ⟨fun m a h => ?_, fun a u h nb => ⟨(U.ext a u h nb).1, fun q => (U.ext a u h nb).2 (al_take q)⟩, U.tup⟩, fun d v b r => RelD.cut (fun a q => al_take q) d v b r⟩
    · rcases old i o hi e with h | h
      · have hi' : i < ρ0.length := by rw [R0.len]; exact hi
        have q := R0.obj i o ρ0[i] h (List.getElem?_eq_getElem hi')
        obtain ⟨xs, _, r⟩ := q
        have := belL_of o.pay xs r
        rw [R0.len] at this
        exact this
      · exact h
    · rw [List.getElem?_take_of_lt (by rw [← R0.len]; exact (List.getElem?_eq_some_iff.mp h).1)]
      exact U.pre m a h
  · exact ⟨ρ, R, U, fun d v _ r => r⟩
theorem scope_ok {r : Res D} {Q : VK} {E : XK} (R0 : RS K ρ0 H0 S0) (h : wpM (scope S0 r) (PostV K ρ0 H0 S0 Q) (fun c fs S' => ∀ ρ' H' cls dx, RS K ρ' H' S' → Up K ρ0 H0 S0 ρ' H' S' → ExcR K mg H' (Al ρ' S') ρ' c fs cls dx → E cls dx H')) :
    wpM r (PostV K ρ0 H0 S0 Q) (fun c fs S' => ∀ ρ' H' cls dx, RS K ρ' H' S' → Up K ρ0 H0 S0 ρ' H' S' → ExcR K mg H' (Al ρ' S') ρ' c fs cls dx → E cls dx H') := by
  cases r with
  | err => exact h
  | exc c fs S =>
    simp only [scope] at h
    split at h
    · rename_i hp
      intro ρ' H' cls dx R U x
      obtain ⟨ρ'', R2, U2, k⟩ := trunc_ok R0 U R
      obtain ⟨C, dd, ys, h1, h2, h3, h4, h5⟩ := x
      refine h ρ'' H' cls dx R2 U2 ⟨C, dd, ys, h1, h2, h3, h4, fun p hp' => ?_⟩
      obtain ⟨v, e, r⟩ := h5 p hp'
      exact ⟨v, e, k _ _ (bel_of_pure _ (List.all_eq_true.mp hp p hp')) r⟩
    · exact h
  | ok d S =>
    simp only [scope] at h
    intro ρ' v H' R U r
    split at h
    · rename_i d' S' e
      obtain ⟨R1, U1, r1⟩ := frzD_ok _ d S d' S' v e R r
      split at h
      · rename_i hb
        obtain ⟨ρ'', R2, U2, k⟩ := trunc_ok R0 (U.trans U1) R1
        exact h ρ'' v H' R2 U2 (k _ _ hb r1)
      · exact h ρ' v H' R1 (U.trans U1) r1
    · exact h ρ' v H' R U r
end
section
variable {P : Program} {w : World} {K : PySem.W.Frag} {mg : Str → Option Value} {base : Heap}
theorem rv_start {ρ : List Addr} {H : Hp} {S : Sto} {N : List Str} {vs : List V} {ds : List D} (r : RelL K H (Al ρ S) ρ vs ds) : RV K ρ (L2.start N vs) H S (ds.map some ++ List.replicate (N.length - ds.length) none) := by
  have hl := r.length
  refine ⟨by simp [L2.start, hl], fun i d e => ?_⟩
  have hi : i < ds.length := by
    by_cases hi : i < ds.length
    · exact hi
    · rw [List.getElem?_append_right (by simpa using hi), List.getElem?_replicate] at e
      split at e <;> cases e
  rw [List.getElem?_append_left (by simpa using hi), List.getElem?_map] at e
  have e' : ds[i]? = some d := by
    cases q : ds[i]? with
    | none => rw [q] at e; cases e
    | some z => rw [q] at e; cases e; rfl
  obtain ⟨v, h1, h2⟩ := r.get e'
  refine ⟨v, ?_, h2⟩
  unfold L2.start
  rw [List.getElem?_append_left (by simp; omega), List.getElem?_map, h1]; rfl
/-- THE RULE for a def whose body has the mirror m -/
theorem okM {x qual : Str} {st : Stmt} {f : Addr} {fd : FuncData} {N ps : List Str} {k : Nat} {m : SM} {g : List D → Sto → Res D} (F : Fun K x qual st f fd) (Sc : FnScope N ps (defScope st))
    (hg : ∀ (ρ : List Addr) (H : Hp) (S : Sto) (ds : List D) (Q : VK) (E : XK), RS K ρ H S → wpM (g ds S) (PostV K ρ H S Q) (fun c fs S' => ∀ ρ' H' cls dx, RS K ρ' H' S' → Up K ρ H S ρ' H' S' → ExcR K mg H' (Al ρ' S') ρ' c fs cls dx → E cls dx H') →
      wpM (run N.length m ds S) (PostV K ρ H S Q) (fun c fs S' => ∀ ρ' H' cls dx, RS K ρ' H' S' → Up K ρ H S ρ' H' S' → ExcR K mg H' (Al ρ' S') ρ' c fs cls dx → E cls dx H'))
    (hb : ∀ (cdv : Value) (A : Around) (outer : List Env) (s : Shared) (H : Hp) (E : XK), Room k (A.deeper (PyProof.Rows.envOfC qual (defScope st) s.heap.objs.size f cdv)) →
      PSs (cxOf (L2.CX P w) P w K mg base N qual (defScope st) f cdv A outer s H E) (defBody st) (tS K mg (fun cls d _ H => E cls d H) m)) : FnOk P w K mg base (L2.CX P w) (k + 1) f fd ps (spM K mg ps.length g) := by
  refine F.okX Sc (fun vs H Q E h => h.1) fun cdv A outer s H vs Q E hr h => ?_
  refine ⟨_, hb cdv A outer s H E hr, ?_⟩
  obtain ⟨hl, ρ, S, ds, R, r, w0⟩ := h
  have w1 := hg ρ H S ds Q E R w0
  refine ⟨ρ, _, S, R, rv_start r, ?_⟩
  unfold run at w1
  split at w1
  · rename_i e1; rw [e1]; exact fun ρ' σ' H' r v u => w1 ρ' .non H' r u rfl
  · rename_i e1; rw [e1]; exact w1
  · rename_i e1; rw [e1]; exact fun ρ' σ' H' cls dx r v u x => w1 ρ' H' cls dx r u x
  · exact w1.elim
theorem ok_fn {x qual : Str} {st : Stmt} {f : Addr} {fd : FuncData} {N ps : List Str} {k n : Nat} {m : SM} (F : Fun K x qual st f fd) (Sc : FnScope N ps (defScope st)) (hn : N.length = n)
    (hb : ∀ (cdv : Value) (A : Around) (outer : List Env) (s : Shared) (H : Hp) (E : XK), Room k (A.deeper (PyProof.Rows.envOfC qual (defScope st) s.heap.objs.size f cdv)) →
      PSs (cxOf (L2.CX P w) P w K mg base N qual (defScope st) f cdv A outer s H E) (defBody st) (tS K mg (fun cls d _ H => E cls d H) m)) : FnOk P w K mg base (L2.CX P w) (k + 1) f fd ps (spM K mg ps.length (fn n m)) := by
  subst hn
  exact okM F Sc (fun ρ H S ds Q E R h => scope_ok R h) hb
/-- .. that hands back what may change -/
theorem ok_run {x qual : Str} {st : Stmt} {f : Addr} {fd : FuncData} {N ps : List Str} {k n : Nat} {m : SM} (F : Fun K x qual st f fd) (Sc : FnScope N ps (defScope st)) (hn : N.length = n)
    (hb : ∀ (cdv : Value) (A : Around) (outer : List Env) (s : Shared) (H : Hp) (E : XK), Room k (A.deeper (PyProof.Rows.envOfC qual (defScope st) s.heap.objs.size f cdv)) →
      PSs (cxOf (L2.CX P w) P w K mg base N qual (defScope st) f cdv A outer s H E) (defBody st) (tS K mg (fun cls d _ H => E cls d H) m)) : FnOk P w K mg base (L2.CX P w) (k + 1) f fd ps (spM K mg ps.length (run n m)) := by
  subst hn
  exact okM F Sc (fun ρ H S ds Q E R h => h) hb
end
end Y

end
section
set_option Elab.async false
set_option linter.all false
set_option maxRecDepth 100000
set_option maxHeartbeats 4000000
set_option autoImplicit false
namespace Y
open PySem PySem.Spec L2

/-! ### arithmetic -/
def o_add (_ : Sto) : D → D → Option D
  | .int i, .int j => some (.int (i + j))
  | .str a, .str b => if a.length + b.length ≤ sizeLine then some (.str (a ++ b)) else none
  | .tup a, .tup b => if a.length + b.length ≤ sizeLine then some (.tup (a ++ b)) else none
  | _, _ => none
def o_sub (_ : Sto) : D → D → Option D
  | .int i, .int j => some (.int (i - j))
  | _, _ => none
open Classical in
noncomputable def o_mul (_ : Sto) : D → D → Option D
  | .int i, .int j => if IntMulOk i j then some (.int (i * j)) else none
  | _, _ => none
def o_fdiv (_ : Sto) : D → D → Option D
  | .int i, .int j => if 0 < j ∧ j < 1073741824 then some (.int (i / j)) else none
  | _, _ => none
def o_mod (_ : Sto) : D → D → Option D
  | .int i, .int j => if 0 < j then some (.int (i % j)) else none
  | _, _ => none
def o_pow (_ : Sto) : D → D → Option D
  | .int i, .int j => if 0 ≤ j ∧ j ≤ 1000000 ∧ i.natAbs < 2 ^ 64 then some (.int (i ^ j.toNat)) else none
  | _, _ => none
def o_shl (_ : Sto) : D → D → Option D
  | .int i, .int j => if 0 ≤ j ∧ j ≤ 1000000 ∧ i.natAbs < 2 ^ 64 then some (.int (i * 2 ^ j.toNat)) else none
  | _, _ => none
def o_neg (_ : Sto) : D → Option D
  | .int i => some (.int (-i))
  | _ => none
def o_cmp (f : Int → Int → Bool) (_ : Sto) : D → D → Option D
  | .int i, .int j => some (.bl (f i j))
  | _, _ => none
section
variable {K : PySem.W.Frag}
theorem os_int {r : R2} {f : Sto → D → D → Option D} {C : Int → Int → Prop} {g : Int → Int → V} {h : Int → Int → D}
    (hf : ∀ S x y d, f S x y = some d → ∃ i j, x = .int i ∧ y = .int j ∧ C i j ∧ d = h i j) (hr : ∀ i j H Q, C i j → Q (g i j) H → r (.int i) (.int j) H Q) (hd : ∀ i j H A ρ, RelD K H A ρ (g i j) (h i j)) : OpS K r f := by
  intro ρ H S x y d v u Q R r1 r2 e q
  obtain ⟨i, j, rfl, rfl, c, rfl⟩ := hf S x y d e
  have r1' : v = .int i := r1
  have r2' : u = .int j := r2
  subst r1' r2'
  exact hr i j H Q c (q _ H (Same.refl H) (hd _ _ _ _ _))
theorem os_sub : OpS K (rI0 fun i j => .int (i - j)) o_sub := os_int (C := fun _ _ => True) (h := fun i j => .int (i - j)) (fun S x y d e => by
  cases x <;> cases y <;> first | (cases e; exact ⟨_, _, rfl, rfl, trivial, rfl⟩) | cases e) (fun i j H Q _ q => ⟨i, j, rfl, rfl, q⟩) fun _ _ _ _ _ => rfl
theorem os_mul : OpS K (rI IntMulOk fun i j => .int (i * j)) o_mul := os_int (C := IntMulOk) (h := fun i j => .int (i * j)) (fun S x y d e => by
  cases x <;> cases y <;> first | (simp only [o_mul] at e; split at e <;> first | (cases e; exact ⟨_, _, rfl, rfl, by assumption, rfl⟩) | cases e) | cases e) (fun i j H Q c q => ⟨i, j, rfl, rfl, c, q⟩) fun _ _ _ _ _ => rfl
theorem op_mulG {X : Cx} : OpR X (binaryOp .Mult) (rI IntMulOk fun i j => .int (i * j)) := opI fun _ _ _ _ _ _ _ hc q => PyProof.Rows.mul_int q hc
theorem os_fdiv : OpS K (rI CDiv fun i j => .int (i / j)) o_fdiv := os_int (C := CDiv) (h := fun i j => .int (i / j)) (fun S x y d e => by
  cases x <;> cases y <;> first | (simp only [o_fdiv] at e; split at e <;> first | (cases e; exact ⟨_, _, rfl, rfl, by assumption, rfl⟩) | cases e) | cases e) (fun i j H Q c q => ⟨i, j, rfl, rfl, c, q⟩) fun _ _ _ _ _ => rfl
theorem os_mod : OpS K (rI (fun _ j => 0 < j) fun i j => .int (i % j)) o_mod := os_int (C := fun _ j => 0 < j) (h := fun i j => .int (i % j)) (fun S x y d e => by
  cases x <;> cases y <;> first | (simp only [o_mod] at e; split at e <;> first | (cases e; exact ⟨_, _, rfl, rfl, by assumption, rfl⟩) | cases e) | cases e) (fun i j H Q c q => ⟨i, j, rfl, rfl, c, q⟩) fun _ _ _ _ _ => rfl
theorem os_pow : OpS K (rI CPow fun i j => .int (i ^ j.toNat)) o_pow := os_int (C := CPow) (h := fun i j => .int (i ^ j.toNat)) (fun S x y d e => by
  cases x <;> cases y <;> first | (simp only [o_pow] at e; split at e <;> first | (cases e; exact ⟨_, _, rfl, rfl, by assumption, rfl⟩) | cases e) | cases e) (fun i j H Q c q => ⟨i, j, rfl, rfl, c, q⟩) fun _ _ _ _ _ => rfl
theorem os_shl : OpS K (rI CPow fun i j => .int (i * 2 ^ j.toNat)) o_shl := os_int (C := CPow) (h := fun i j => .int (i * 2 ^ j.toNat)) (fun S x y d e => by
  cases x <;> cases y <;> first | (simp only [o_shl] at e; split at e <;> first | (cases e; exact ⟨_, _, rfl, rfl, by assumption, rfl⟩) | cases e) | cases e) (fun i j H Q c q => ⟨i, j, rfl, rfl, c, q⟩) fun _ _ _ _ _ => rfl
theorem os_cmp {f : Int → Int → Bool} : OpS K (rI0 fun i j => .bl (f i j)) (o_cmp f) := os_int (C := fun _ _ => True) (h := fun i j => .bl (f i j)) (fun S x y d e => by
  cases x <;> cases y <;> first | (cases e; exact ⟨_, _, rfl, rfl, trivial, rfl⟩) | cases e) (fun i j H Q _ q => ⟨i, j, rfl, rfl, q⟩) fun _ _ _ _ _ => rfl
abbrev o_lt := o_cmp fun i j => decide (i < j)
abbrev o_gt := o_cmp fun i j => decide (j < i)
abbrev o_ge := o_cmp fun i j => decide (j ≤ i)
abbrev o_leI := o_cmp fun i j => decide (i ≤ j)
theorem us_neg : UnS K (rU fun i => .int (-i)) o_neg := by
  intro ρ H S x d v Q R r1 e q
  cases x with
  | int i =>
    cases e
    have r1' : v = .int i := r1
    subst r1'
    exact ⟨i, rfl, q _ H (Same.refl H) rfl⟩
  | _ => cases e
/-! + -/
def rAddS : R2 := fun x y H Q => ∃ i j, x = .str i ∧ y = .str j ∧ i.length + j.length ≤ sizeLine ∧ Q (.str (i ++ j)) H
def rAddA (K : PySem.W.Frag) : R2 := fun x y H Q => (rI0 (fun i j => .int (i + j)) x y H Q ∨ rAddS x y H Q) ∨ rCatA K x y H Q
theorem op_addA {X : Cx} : OpR X (binaryOp .Add) (rAddA X.K) := (op_add.or op_add_str).or op_catA
theorem os_add : OpS K (rAddA K) o_add := by
  intro ρ H S x y d v u Q R r1 r2 e q
  cases x with
  | int i =>
    cases y with
    | int j =>
      cases e
      have r1' : v = .int i := r1
      have r2' : u = .int j := r2
      subst r1' r2'
      exact .inl (.inl ⟨i, j, rfl, rfl, q _ H (Same.refl H) rfl⟩)
    | _ => cases e
  | str a =>
    cases y with
    | str b =>
      simp only [o_add] at e
      split at e
      · rename_i hl
        cases e
        have r1' : v = .str a := r1
        have r2' : u = .str b := r2
        subst r1' r2'
        exact .inl (.inr ⟨a, b, rfl, rfl, hl, q _ H (Same.refl H) rfl⟩)
      · cases e
    | _ => cases e
  | tup a =>
    cases y with
    | tup b =>
      simp only [o_add] at e
      split at e
      · rename_i hl
        cases e
        obtain ⟨p, xs, rfl, h1, k1⟩ := r1
        obtain ⟨p2, ys, rfl, h2, k2⟩ := r2
        have l1 := k1.length
        have l2 := k2.length
        refine .inr ⟨p, p2, xs, ys, rfl, rfl, h1, h2, by rw [l1, l2]; exact hl, fun z => ?_, fun z1 z2 => ?_, fun z1 z2 n np => ?_⟩
        · have za : a = [] := by cases a with
            | nil => rfl
            | cons => rw [z] at l1; cases l1
          subst za
          exact q _ H (Same.refl H) ⟨p2, ys, rfl, h2, k2⟩
        · have zb : b = [] := by cases b with
            | nil => rfl
            | cons => rw [z2] at l2; cases l2
          subst zb
          rw [List.append_nil] at q
          exact q _ H (Same.refl H) ⟨p, xs, rfl, h1, k1⟩
        · have s : Same H (upd H n (.tup (xs ++ ys))) := same_new np
          exact q _ _ s ⟨n, xs ++ ys, rfl, SqT.of upd_same, (Up.same (K := K) (ρ := ρ) (S := S) s).relL (k1.append k2)⟩
      · cases e
    | _ => cases e
  | _ => cases e

/-! ### comparisons -/
mutual
def toP : D → Option PyData
  | .non => some .none
  | .bl b => some (.bool b)
  | .int i => some (.int i)
  | .str s => some (.str s)
  | .tup ds => (toPL ds).map .tuple
  | .lst ds => (toPL ds).map .list
  | .ref _ => none
def toPL : List D → Option (List PyData)
  | [] => some []
  | d :: ds => (toP d).bind fun p => (toPL ds).map fun ps => p :: ps
end
/-- a list that may change, of data -/
def toPS (S : Sto) : D → Option PyData
  | .ref n => match S[n]? with
    | some (some (.lst ds)) => (toPL ds).map .list
    | _ => none
  | d => toP d
section
variable {H : Hp} {A : Addr → Prop} {ρ : List Addr}
mutual
theorem dp_of : ∀ (d : D) (p : PyData) (v : V), toP d = some p → RelD K H A ρ v d → Dp K H v p
  | .non, p, v, h, r => by
    have h' : some PyData.none = some p := h
    have r' : v = .non := r
    cases h'; subst r'; exact .non
  | .bl b, p, v, h, r => by
    have h' : some (PyData.bool b) = some p := h
    have r' : v = .bl b := r
    cases h'; subst r'; exact .bl b
  | .int i, p, v, h, r => by
    have h' : some (PyData.int i) = some p := h
    have r' : v = .int i := r
    cases h'; subst r'; exact .int i
  | .str s, p, v, h, r => by
    have h' : some (PyData.str s) = some p := h
    have r' : v = .str s := r
    cases h'; subst r'; exact .str s
  | .tup ds, p, v, h, r => by
    have h' : (toPL ds).map PyData.tuple = some p := h
    obtain ⟨ps, e, rfl⟩ := Option.map_eq_some_iff.mp h'
    obtain ⟨a, xs, rfl, h1, h2⟩ := r
    exact .tup h1 (dpAll_of ds ps xs e h2)
  | .lst ds, p, v, h, r => by
    have h' : (toPL ds).map PyData.list = some p := h
    obtain ⟨ps, e, rfl⟩ := Option.map_eq_some_iff.mp h'
    obtain ⟨a, xs, rfl, h1, h2⟩ := r
    exact .lst h1.sq (dpAll_of ds ps xs e h2)
  | .ref n, p, v, h, r => by
    have h' : none = some p := h
    cases h'
theorem dpAll_of : ∀ (ds : List D) (ps : List PyData) (vs : List V), toPL ds = some ps → RelL K H A ρ vs ds → DpAll K H vs ps
  | [], ps, vs, h, r => by
    have h' : some [] = some ps := h
    have r' : vs = [] := r
    cases h'; subst r'; exact .nil
  | d :: ds, ps, vs, h, r => by
    have h' : (toP d).bind (fun p => (toPL ds).map fun ps => p :: ps) = some ps := h
    obtain ⟨p, e1, h2⟩ := Option.bind_eq_some_iff.mp h'
    obtain ⟨qs, e2, rfl⟩ := Option.map_eq_some_iff.mp h2
    obtain ⟨x, xs, rfl, k1, k2⟩ := r
    exact .cons (dp_of d p x e1 k1) (dpAll_of ds qs xs e2 k2)
end
end
theorem dpS_of {ρ : List Addr} {H : Hp} {S : Sto} {d : D} {p : PyData} {v : V} (R : RS K ρ H S) (h : toPS S d = some p) (r : RelD K H (Al ρ S) ρ v d) : Dp K H v p := by
  cases d with
  | ref n =>
    simp only [toPS] at h
    split at h
    · rename_i ds hS
      obtain ⟨ps, e, rfl⟩ := Option.map_eq_some_iff.mp h
      obtain ⟨a, rfl, ha⟩ := r
      obtain ⟨xs, e1, r1⟩ := R.obj n _ a hS ha
      exact .lst (.inl (.inl e1)) (dpAll_of ds ps xs e r1)
    · cases h
  | _ => exact dp_of _ p v h r
def o_eq (S : Sto) (x y : D) : Option D := (toPS S x).bind fun p => (toPS S y).bind fun q => if (SeqAt.shaped p && SeqAt.shaped q) = true then some (.bl (PyData.eqv p q)) else none
def o_ne (S : Sto) (x y : D) : Option D := (toPS S x).bind fun p => (toPS S y).bind fun q => if (SeqAt.shaped p && SeqAt.shaped q) = true then some (.bl (!PyData.eqv p q)) else none
theorem os_eq : OpS K (rEqD K) o_eq := by
  intro ρ H S x y d v u Q R r1 r2 e q
  obtain ⟨p, e1, e2⟩ := Option.bind_eq_some_iff.mp e
  obtain ⟨p2, e3, e4⟩ := Option.bind_eq_some_iff.mp e2
  split at e4
  · rename_i h
    cases e4
    obtain ⟨h1, h2⟩ := Bool.and_eq_true_iff.mp h
    exact ⟨p, p2, dpS_of R e1 r1, dpS_of R e3 r2, h1, h2, q _ H (Same.refl H) rfl⟩
  · cases e4
theorem os_ne : OpS K (rNeD K) o_ne := by
  intro ρ H S x y d v u Q R r1 r2 e q
  obtain ⟨p, e1, e2⟩ := Option.bind_eq_some_iff.mp e
  obtain ⟨p2, e3, e4⟩ := Option.bind_eq_some_iff.mp e2
  split at e4
  · rename_i h
    cases e4
    obtain ⟨h1, h2⟩ := Bool.and_eq_true_iff.mp h
    exact ⟨p, p2, dpS_of R e1 r1, dpS_of R e3 r2, h1, h2, q _ H (Same.refl H) rfl⟩
  · cases e4
/-! is None -/
def D.isN : D → Bool
  | .non => true
  | _ => false
def o_is (_ : Sto) (x y : D) : Option D := if y.isN then some (.bl x.isN) else none
def o_isnot (_ : Sto) (x y : D) : Option D := if y.isN then some (.bl (!x.isN)) else none
theorem isN_rel {H : Hp} {A : Addr → Prop} {ρ : List Addr} {v : V} {d : D} (r : RelD K H A ρ v d) : decide (v = .non) = d.isN := by
  cases d with
  | non => have r' : v = .non := r; subst r'; rfl
  | bl b => have r' : v = .bl b := r; subst r'; rfl
  | int b => have r' : v = .int b := r; subst r'; rfl
  | str b => have r' : v = .str b := r; subst r'; rfl
  | tup ds => obtain ⟨a, xs, rfl, _⟩ := r; rfl
  | lst ds => obtain ⟨a, xs, rfl, _⟩ := r; rfl
  | ref n => obtain ⟨a, rfl, _⟩ := r; rfl
theorem non_of {H : Hp} {A : Addr → Prop} {ρ : List Addr} {v : V} {d : D} (r : RelD K H A ρ v d) (h : d.isN = true) : v = .non := of_decide_eq_true ((isN_rel r).trans h)
theorem os_is : OpS K (fun x y H Q => y = .non ∧ Q (.bl (decide (x = .non))) H) o_is := by
  intro ρ H S x y d v u Q R r1 r2 e q
  simp only [o_is] at e
  split at e
  · rename_i h
    cases e
    exact ⟨non_of r2 h, q _ H (Same.refl H) (by rw [isN_rel r1]; rfl)⟩
  · cases e
theorem os_isnot : OpS K (fun x y H Q => y = .non ∧ Q (.bl (!decide (x = .non))) H) o_isnot := by
  intro ρ H S x y d v u Q R r1 r2 e q
  simp only [o_isnot] at e
  split at e
  · rename_i h
    cases e
    exact ⟨non_of r2 h, q _ H (Same.refl H) (by rw [isN_rel r1]; rfl)⟩
  · cases e
/-! in -/
def inStr (x y : Str) : Bool := !(Builtin.Str.occurrences y x 0 y.length 1).isEmpty
def o_inS (neg : Bool) (_ : Sto) : D → D → Option D
  | .str x, .str y => some (.bl (if neg then !inStr x y else inStr x y))
  | _, _ => none
theorem os_inS : OpS K (fun x y H Q => ∃ i j, x = .str i ∧ y = .str j ∧ Q (.bl (!(Builtin.Str.occurrences j i 0 j.length 1).isEmpty)) H) (o_inS false) := by
  intro ρ H S x y d v u Q R r1 r2 e q
  cases x <;> cases y <;> first | (cases e; rename_i a b; exact ⟨a, b, r1, r2, q _ H (Same.refl H) rfl⟩) | cases e
theorem os_ninS : OpS K (fun x y H Q => ∃ i j, x = .str i ∧ y = .str j ∧ Q (.bl (!(!(Builtin.Str.occurrences j i 0 j.length 1).isEmpty))) H) (o_inS true) := by
  intro ρ H S x y d v u Q R r1 r2 e q
  cases x <;> cases y <;> first | (cases e; rename_i a b; exact ⟨a, b, r1, r2, q _ H (Same.refl H) rfl⟩) | cases e
/-- in a list -/
def o_inL (neg : Bool) (S : Sto) (x y : D) : Option D := (toP x).bind fun p => (toPS S y).bind fun q => match q with
  | .list ps => if (SeqAt.shaped p && SeqAt.shaped (.list ps)) = true then some (.bl (if neg then !(ps.any fun z => PyData.eqv z p) else ps.any fun z => PyData.eqv z p)) else none
  | _ => none
theorem os_inL : OpS K (rInD K) (o_inL false) := by
  intro ρ H S x y d v u Q R r1 r2 e q
  obtain ⟨p, e1, e2⟩ := Option.bind_eq_some_iff.mp e
  obtain ⟨p2, e3, e4⟩ := Option.bind_eq_some_iff.mp e2
  cases p2 with
  | list ps =>
    simp only at e4
    split at e4
    · rename_i h
      cases e4
      obtain ⟨h1, h2⟩ := Bool.and_eq_true_iff.mp h
      exact ⟨p, ps, dp_of _ _ _ e1 r1, dpS_of R e3 r2, h1, h2, q _ H (Same.refl H) rfl⟩
    · cases e4
  | _ => cases e4
theorem os_ninL : OpS K (rNotInD K) (o_inL true) := by
  intro ρ H S x y d v u Q R r1 r2 e q
  obtain ⟨p, e1, e2⟩ := Option.bind_eq_some_iff.mp e
  obtain ⟨p2, e3, e4⟩ := Option.bind_eq_some_iff.mp e2
  cases p2 with
  | list ps =>
    simp only at e4
    split at e4
    · rename_i h
      cases e4
      obtain ⟨h1, h2⟩ := Bool.and_eq_true_iff.mp h
      exact ⟨p, ps, dp_of _ _ _ e1 r1, dpS_of R e3 r2, h1, h2, q _ H (Same.refl H) rfl⟩
    · cases e4
  | _ => cases e4
/-! <= of ints, texts, tuples of these -/
def sameK : D → D → Bool
  | .int _, .int _ => true
  | .str _, .str _ => true
  | _, _ => false
def strLe (a b : Str) : Bool := !(decide (b.cps.toList < a.cps.toList))
def eq1 : D → D → Bool
  | .int i, .int j => i == j
  | .str a, .str b => a == b
  | _, _ => false
def le1 : D → D → Bool
  | .int i, .int j => decide (i ≤ j)
  | .str a, .str b => strLe a b
  | _, _ => false
def leT : List D → List D → Bool
  | [], _ => true
  | _ :: _, [] => false
  | x :: xs, y :: ys => if eq1 x y = true then leT xs ys else le1 x y
def o_le (_ : Sto) : D → D → Option D
  | .int i, .int j => some (.bl (decide (i ≤ j)))
  | .str a, .str b => some (.bl (strLe a b))
  | .tup xs, .tup ys => if ((xs.zip ys).all fun p => sameK p.1 p.2) = true then some (.bl (leT xs ys)) else none
  | _, _ => none
def rLeA (K : PySem.W.Frag) : R2 := fun x y H Q => rI0 (fun i j => .bl (decide (i ≤ j))) x y H Q ∨ (∃ i j, x = .str i ∧ y = .str j ∧ Q (.bl (strLe i j)) H) ∨
  ∃ (a b : Addr) (xs ys : List V) (e r : Nat → Bool), x = .ref a ∧ y = .ref b ∧ SqT K H a xs ∧ SqT K H b ys ∧
    (∀ (j : Nat) (u w : V), xs[j]? = some u → ys[j]? = some w → (∃ m n, u = .int m ∧ w = .int n ∧ e j = (m == n) ∧ r j = decide (m ≤ n)) ∨ ∃ m n, u = .str m ∧ w = .str n ∧ e j = (m == n) ∧ r j = strLe m n) ∧
    Q (.bl (Ob.lexAt e r (decide (xs.length ≤ ys.length)) 0 (min xs.length ys.length))) H
theorem op_leA {X : Cx} (hu : X.A.units < cLine) : OpR X (compareOp .LtE) (rLeA X.K) := by
  intro pins s σ H x y v u Q I rx ry h
  rcases h with h | h | h
  · exact op_le pins s σ H x y v u Q I rx ry h
  · obtain ⟨i, j, rfl, rfl, q⟩ := h
    obtain ⟨t, rfl⟩ := rx
    obtain ⟨t', rfl⟩ := ry
    exact PySem.P.le_str ⟨.bl _, H, I, rfl, q⟩
  · obtain ⟨a, b, xs, ys, e, r, rfl, rfl, ha, hb, hk, q⟩ := h
    cases rx
    cases ry
    obtain ⟨its, r1, p1, _⟩ := I.tuple ha
    obtain ⟨its2, r2, p2, _⟩ := I.tuple hb
    have e1 : its.toArray.size = xs.length := by rw [List.size_toArray]; exact r1.length.symm
    have e2 : its2.toArray.size = ys.length := by rw [List.size_toArray]; exact r2.length.symm
    have at1 : ∀ j (h1 : j < its.toArray.size), ∃ z, xs[j]? = some z ∧ RelV z its.toArray[j] := fun j h1 => by
      have hx : xs[j]? = some (xs[j]'(by omega)) := List.getElem?_eq_getElem (by omega)
      obtain ⟨w, hw, rw'⟩ := r1.get hx
      refine ⟨_, hx, ?_⟩
      have : its.toArray[j] = w := by
        have h1' : j < its.length := by simpa using h1
        rw [List.getElem?_eq_getElem h1'] at hw
        simpa using Option.some.inj hw
      rw [this]; exact rw'
    have at2 : ∀ j (h1 : j < its2.toArray.size), ∃ z, ys[j]? = some z ∧ RelV z its2.toArray[j] := fun j h1 => by
      have hx : ys[j]? = some (ys[j]'(by omega)) := List.getElem?_eq_getElem (by omega)
      obtain ⟨w, hw, rw'⟩ := r2.get hx
      refine ⟨_, hx, ?_⟩
      have : its2.toArray[j] = w := by
        have h1' : j < its2.length := by simpa using h1
        rw [List.getElem?_eq_getElem h1'] at hw
        simpa using Option.some.inj hw
      rw [this]; exact rw'
    have R := Ob.RcOp.tuples_le (A := X.A) (s := s) (e := e) (r := r) p1 p2 hu (fun j h1 h2 => by
      obtain ⟨z1, g1, k1⟩ := at1 j h1
      obtain ⟨z2, g2, k2⟩ := at2 j h2
      rcases hk j z1 z2 g1 g2 with ⟨m, n, rfl, rfl, c1, c2⟩ | ⟨m, n, rfl, rfl, c1, c2⟩
      · obtain ⟨t, et⟩ := k1
        obtain ⟨t', et'⟩ := k2
        rw [et, et', c1]
        exact SeqAt.EqAt.int_int _ _ _ _
      · obtain ⟨t, et⟩ := k1
        obtain ⟨t', et'⟩ := k2
        rw [et, et', c1]
        exact SeqAt.EqAt.str_str _ _ _ _) (fun j h1 h2 _ => by
      obtain ⟨z1, g1, k1⟩ := at1 j h1
      obtain ⟨z2, g2, k2⟩ := at2 j h2
      rcases hk j z1 z2 g1 g2 with ⟨m, n, rfl, rfl, c1, c2⟩ | ⟨m, n, rfl, rfl, c1, c2⟩
      · obtain ⟨t, et⟩ := k1
        obtain ⟨t', et'⟩ := k2
        rw [et, et', c2]
        exact Ob.RcOp.le_int _ _ _ _
      · obtain ⟨t, et⟩ := k1
        obtain ⟨t', et'⟩ := k2
        rw [et, et', c2]
        exact fun _ _ _ _ h => PySem.P.le_str h)
    rw [e1, e2] at R
    have z : wpAny (model X.prog X.w) X.A (compareOp .LtE (.ref a) (.ref b)) (EP X pins σ Q) X.xe s := R X.prog X.w X.xe (EP X pins σ Q) ⟨.bl _, H, I, rfl, q⟩
    exact z
theorem lex_leT : ∀ (k : Nat) (xs ys : List D) (i : Nat), k = min xs.length ys.length → ∀ (e r : Nat → Bool), (∀ j x y, xs[j]? = some x → ys[j]? = some y → e (i + j) = eq1 x y ∧ r (i + j) = le1 x y) →
    Ob.lexAt e r (decide (i + xs.length ≤ i + ys.length)) i k = leT xs ys
  | k, [], ys, i, hk, e, r, h => by
    have : k = 0 := by simp at hk; exact hk
    subst this
    rw [Ob.lexAt_zero]
    simp [leT]
  | k, x :: xs, [], i, hk, e, r, h => by
    have : k = 0 := by simp at hk; exact hk
    subst this
    rw [Ob.lexAt_zero]
    simp [leT]
  | k, x :: xs, y :: ys, i, hk, e, r, h => by
    obtain ⟨k', rfl⟩ : ∃ k', k = k' + 1 := ⟨min xs.length ys.length, by simp at hk; omega⟩
    rw [Ob.lexAt_succ]
    obtain ⟨h1, h2⟩ := h 0 x y rfl rfl
    rw [Nat.add_zero] at h1 h2
    rw [h1, h2]
    show (if eq1 x y = true then _ else _) = if eq1 x y = true then leT xs ys else le1 x y
    have ih := lex_leT k' xs ys (i + 1) (by simp at hk; omega) e r fun j x' y' a b => by
      have := h (j + 1) x' y' a b
      rw [show i + 1 + j = i + (j + 1) by omega]
      exact this
    have ez : decide (i + 1 + xs.length ≤ i + 1 + ys.length) = decide (i + (x :: xs).length ≤ i + (y :: ys).length) := by
      congr 1
      simp only [List.length_cons]
      rw [eq_iff_iff]; omega
    rw [ez] at ih
    rw [ih]
theorem os_le : OpS K (rLeA K) o_le := by
  intro ρ H S x y d v u Q R r1 r2 e q
  cases x with
  | int i =>
    cases y with
    | int j => cases e; exact .inl ⟨i, j, r1, r2, q _ H (Same.refl H) rfl⟩
    | _ => cases e
  | str i =>
    cases y with
    | str j => cases e; exact .inr (.inl ⟨i, j, r1, r2, q _ H (Same.refl H) rfl⟩)
    | _ => cases e
  | tup xs =>
    cases y with
    | tup ys =>
      simp only [o_le] at e
      split at e
      · rename_i hs
        cases e
        obtain ⟨a, vs, rfl, h1, k1⟩ := r1
        obtain ⟨b, us, rfl, h2, k2⟩ := r2
        refine .inr (.inr ⟨a, b, vs, us, fun j => eq1 (xs.getD j .non) (ys.getD j .non), fun j => le1 (xs.getD j .non) (ys.getD j .non), rfl, rfl, h1, h2, fun j w z e1 e2 => ?_, ?_⟩)
        · have hj1 : j < xs.length := by rw [← k1.length]; exact (List.getElem?_eq_some_iff.mp e1).1
          have hj2 : j < ys.length := by rw [← k2.length]; exact (List.getElem?_eq_some_iff.mp e2).1
          obtain ⟨w', f1, g1⟩ := k1.get (List.getElem?_eq_getElem hj1)
          obtain ⟨z', f2, g2⟩ := k2.get (List.getElem?_eq_getElem hj2)
          rw [e1] at f1; cases f1
          rw [e2] at f2; cases f2
          have hsk : sameK xs[j] ys[j] = true := by
            have := List.all_eq_true.mp hs (xs[j], ys[j]) (by
              have hz : j < (xs.zip ys).length := by simp; omega
              have : (xs.zip ys)[j] = (xs[j], ys[j]) := by simp
              rw [← this]; exact List.getElem_mem hz)
            exact this
          dsimp only
          rw [List.getD_eq_getElem?_getD, List.getElem?_eq_getElem hj1, List.getD_eq_getElem?_getD, List.getElem?_eq_getElem hj2]
          show (∃ m n, w = .int m ∧ z = .int n ∧ eq1 xs[j] ys[j] = (m == n) ∧ le1 xs[j] ys[j] = decide (m ≤ n)) ∨ ∃ m n, w = .str m ∧ z = .str n ∧ eq1 xs[j] ys[j] = (m == n) ∧ le1 xs[j] ys[j] = strLe m n
          generalize xs[j] = p at hsk g1 ⊢
          generalize ys[j] = p2 at hsk g2 ⊢
          cases p <;> cases p2 <;> first | exact .inl ⟨_, _, g1, g2, rfl, rfl⟩ | exact .inr ⟨_, _, g1, g2, rfl, rfl⟩ | cases hsk
        · have l1 := k1.length
          have l2 := k2.length
          have ez := lex_leT (min xs.length ys.length) xs ys 0 rfl (fun j => eq1 (xs.getD j .non) (ys.getD j .non)) (fun j => le1 (xs.getD j .non) (ys.getD j .non)) fun j x y a b => by
            simp only [Nat.zero_add, List.getD_eq_getElem?_getD, a, b, Option.getD_some, and_self]
          simp only [Nat.zero_add] at ez
          rw [l1, l2, ez]
          exact q _ H (Same.refl H) rfl
      · cases e
    | _ => cases e
  | _ => cases e
/-! ### items, parts -/
def o_ix (S : Sto) : D → D → Option D
  | .tup ds, .int i => atI ds i
  | .lst ds, .int i => atI ds i
  | .ref n, .int i => match S[n]? with
    | some (some (.lst ds)) => atI ds i
    | _ => none
  | .str z, .int i => if z.length ≤ sizeLine then (atI z.cps.toList i).map fun c => .str ⟨#[c]⟩ else none
  | _, _ => none
theorem relL_atI {H : Hp} {A : Addr → Prop} {ρ : List Addr} {xs : List V} {ds : List D} {i : Int} {d : D} (r : RelL K H A ρ xs ds) (h : atI ds i = some d) : ∃ v, atI xs i = some v ∧ RelD K H A ρ v d := by
  unfold atI at h ⊢
  rw [r.length]
  cases e : ixN ds.length i with
  | none => rw [e] at h; cases h
  | some j =>
    rw [e] at h
    exact r.get h
theorem os_ix : OpS K (rIx K) o_ix := by
  intro ρ H S x y d v u Q R r1 r2 e q
  cases y with
  | int i =>
    have r2' : u = .int i := r2
    subst r2'
    cases x with
    | tup ds =>
      obtain ⟨a, xs, rfl, h1, k1⟩ := r1
      obtain ⟨w, e1, k2⟩ := relL_atI k1 (show atI ds i = some d from e)
      exact .inr (.inl ⟨a, xs, i, w, rfl, rfl, h1, e1, q _ H (Same.refl H) k2⟩)
    | lst ds =>
      obtain ⟨a, xs, rfl, h1, k1⟩ := r1
      obtain ⟨w, e1, k2⟩ := relL_atI k1 (show atI ds i = some d from e)
      exact .inl ⟨a, xs, i, w, rfl, rfl, h1.sq, e1, q _ H (Same.refl H) k2⟩
    | ref n =>
      obtain ⟨a, rfl, ha⟩ := r1
      simp only [o_ix] at e
      split at e
      · rename_i ds hS
        obtain ⟨xs, h1, k1⟩ := R.obj n _ a hS ha
        obtain ⟨w, e1, k2⟩ := relL_atI k1 e
        exact .inl ⟨a, xs, i, w, rfl, rfl, .inl (.inl h1), e1, q _ H (Same.refl H) k2⟩
      · cases e
    | str z =>
      have r1' : v = .str z := r1
      subst r1'
      simp only [o_ix] at e
      split at e
      · rename_i hl
        obtain ⟨c, e1, rfl⟩ := Option.map_eq_some_iff.mp e
        exact .inr (.inr ⟨z, i, c, rfl, rfl, hl, e1, q _ H (Same.refl H) rfl⟩)
      · cases e
    | _ => cases e
  | _ => cases x <;> cases e
end
end Y

end
section
set_option Elab.async false
set_option linter.all false
set_option maxRecDepth 100000
set_option maxHeartbeats 4000000
set_option autoImplicit false
namespace Y
open PySem PySem.Spec L2

/-! ### what a loop walks -/
/-- from here on the iterator gives ds, as long as G holds of the store -/
def GoodIt (K : PySem.W.Frag) (ρ0 : List Addr) (H0 : Hp) (S0 : Sto) (G : Sto → Prop) (J : It) (ds : List D) : Prop := ∀ ρ H S, RS K ρ H S → Up K ρ0 H0 S0 ρ H S → G S →
  (∀ i, i < ds.length → J.go i H) ∧ J.stop ds.length H ∧ ∀ (i : Nat) (d : D) x H', ds[i]? = some d → J.yld i H x H' → Same H H' ∧ RelD K H' (Al ρ S) ρ x d
/-- the list that is walked (where it may change) stands as it stood -/
def okSrc (src : List (Nat × List D)) (S : Sto) : Prop := ∀ p ∈ src, S[p.1]? = some (some (.lst p.2))
abbrev IM := En → Sto → Res (List D × List (Nat × List D))
def tI (K : PySem.W.Frag) (mg : Str → Option Value) (W : WX) (m : IM) : TI := fun σ H R => ∃ ρ env S, RS K ρ H S ∧ RV K ρ σ H S env ∧
  wpM (m env S) (fun p S' => ∀ ρ' H' J, RS K ρ' H' S' → Up K ρ H S ρ' H' S' → GoodIt K ρ' H' S' (okSrc p.2) J p.1 → R J H') (PostX K mg W ρ σ H S)
theorem PI_imp {X : Cx} {tg e : Expr} {t t' : TI} (h : PI X tg e t) (i : ∀ σ H R, t' σ H R → t σ H R) : PI X tg e t' := ⟨fun pins s σ H R I q => h.run pins s σ H R I (i σ H R q)⟩
open Classical in
noncomputable def loop (src : List (Nat × List D)) (tg : TgM) (body : SM) : List D → En → Sto → SR
  | [], env, S => if okSrc src S then .nx env S else .err
  | d :: ds, env, S => if okSrc src S then match tg d env with
    | some env1 => match body env1 S with
      | .nx e S1 => loop src tg body ds e S1
      | .ct e S1 => loop src tg body ds e S1
      | .brk e S1 => .nx e S1
      | r => r
    | none => .err else .err
noncomputable def forS (it : IM) (tg : TgM) (body : SM) : SM := fun env S => bS (it env S) env fun p S1 => loop p.2 tg body p.1 env S1
section
variable {X : Cx} {W : WX} {pos : Pos} {a e : Expr} {m : EM} {mi : IM} {tg : Expr} {g : TgM} {body : List Stmt} {mb : SM}
theorem s_for {ix : List Nat} (hp : PassesOwn (model X.prog X.w) X.A X.env X.xe) (hc : X.calm = true) (hi : PI X tg e (tI X.K X.mg W mi)) (hg : PG X tg (tG X.K ix g)) (hb : PSs X body (tS X.K X.mg W mb)) (hs : ∀ x, foldedSetIterable e X.env x = pure x := by intro _; rfl) :
    PS X (.For tg e body [] pos) (tS X.K X.mg W (forS mi g mb)) :=
  (ps_for hp hc hi hg hb hs).imp fun Dn σ H ⟨ρ, env, S, R, V, w⟩ => ⟨ρ, env, S, R, V, wpM_mono (wpS_bS V w) (fun p S1 w1 ρ1 H1 J R1 U1 GI => by
    obtain ⟨all, src⟩ := p
    refine ⟨fun i n σ' H' => n = all.length - i ∧ i ≤ all.length ∧ ∃ ρ' env' S', RS X.K ρ' H' S' ∧ RV X.K ρ' σ' H' S' env' ∧ Up X.K ρ1 H1 S1 ρ' H' S' ∧ wpS X.K X.mg W ρ' H' S' Dn (loop src g mb (all.drop i) env' S'),
      ⟨all.length, by simp, Nat.zero_le _, ρ1, env, S1, R1, U1.rv V, Up.refl, wpS_up U1 (by simpa using w1)⟩, ?_⟩
    rintro i n σ' H' ⟨rfl, hi', ρ', env', S', R', V', U', w'⟩
    by_cases hlt : i < all.length
    · rw [List.drop_eq_getElem_cons hlt] at w'
      unfold loop at w'
      split at w'
      · rename_i hsrc
        obtain ⟨g1, g2, g3⟩ := GI ρ' H' S' R' U' hsrc
        refine .inr ⟨g1 i hlt, fun σ2 H2 => ∃ ρ2 env2 S2, RS X.K ρ2 H2 S2 ∧ RV X.K ρ2 σ2 H2 S2 env2 ∧ Up X.K ρ1 H1 S1 ρ2 H2 S2 ∧ wpS X.K X.mg W ρ2 H2 S2 Dn (loop src g mb (all.drop (i + 1)) env2 S2),
          fun σ2 H2 q => ⟨all.length - (i + 1), by omega, rfl, hlt, q⟩, fun x H2 y => ?_⟩
        obtain ⟨sm, rd⟩ := g3 i all[i] x H2 (List.getElem?_eq_getElem hlt) y
        have U2 : Up X.K ρ' H' S' ρ' H2 S' := Up.same sm
        split at w'
        · rename_i env1 e1
          refine ⟨ρ', env', S', all[i], env1, R'.same sm, U2.rv V', rd, e1, fun σ3 V3 _ => ⟨ρ', env1, S', R'.same sm, V3, ?_⟩⟩
          have w2 := wpS_up (mg := X.mg) (W := W) (Dn := Dn) U2 w'
          split at w2
          · rename_i e2 S2 eb
            rw [eb]
            exact fun ρ4 σ4 H4 R4 V4 U4 => ⟨ρ4, e2, S2, R4, V4, (U'.trans U2).trans U4, wpS_up U4 w2⟩
          · rename_i e2 S2 eb
            rw [eb]
            exact fun ρ4 σ4 H4 R4 V4 U4 => ⟨ρ4, e2, S2, R4, V4, (U'.trans U2).trans U4, wpS_up U4 w2⟩
          · rename_i e2 S2 eb
            rw [eb]
            exact w2
          · rename_i n1 n2 n3
            cases eb : mb env1 S' with
            | nx e2 S2 => exact absurd eb (n1 e2 S2)
            | ct e2 S2 => exact absurd eb (n2 e2 S2)
            | brk e2 S2 => exact absurd eb (n3 e2 S2)
            | ret d S2 => rw [eb] at w2; exact w2
            | exc c fs e2 S2 => rw [eb] at w2; exact w2
            | err => rw [eb] at w2; exact w2.elim
        · exact w'.elim
      · exact w'.elim
    · have ei : i = all.length := by omega
      subst ei
      rw [List.drop_length] at w'
      unfold loop at w'
      split at w'
      · rename_i hsrc
        obtain ⟨g1, g2, g3⟩ := GI ρ' H' S' R' U' hsrc
        exact .inl ⟨g2, w' ρ' σ' H' R' V' Up.refl⟩
      · exact w'.elim) fun _ _ _ q => q⟩
/-! while -/
/-- n turns at most -/
def wloop (c : TM) (body : SM) : Nat → En → Sto → SR
  | 0, _, _ => .err
  | n + 1, env, S => bS (c env S) env fun k S1 => match k with
    | false => .nx env S1
    | true => match body env S1 with
      | .nx e S2 => wloop c body n e S2
      | .ct e S2 => wloop c body n e S2
      | .brk e S2 => .nx e S2
      | r => r
open Classical in
noncomputable def whS (c : TM) (body : SM) : SM := fun env S => if h : ∃ n, wloop c body n env S ≠ .err then wloop c body (Classical.choose h) env S else .err
theorem wloop_mono {c : TM} {body : SM} : ∀ (n : Nat) (env : En) (S : Sto), wloop c body n env S ≠ .err → ∀ m, n ≤ m → wloop c body m env S = wloop c body n env S
  | 0, env, S, h, m, hm => absurd rfl h
  | n + 1, env, S, h, m, hm => by
    obtain ⟨m', rfl⟩ : ∃ m', m = m' + 1 := ⟨m - 1, by omega⟩
    unfold wloop at h ⊢
    cases e : c env S with
    | err => rfl
    | exc cc fs S1 => rfl
    | ok k S1 =>
      rw [e] at h
      cases k with
      | false => rfl
      | true =>
        simp only [bS] at h ⊢
        cases e2 : body env S1 with
        | nx e3 S2 => rw [e2] at h; exact wloop_mono n e3 S2 h m' (by omega)
        | ct e3 S2 => rw [e2] at h; exact wloop_mono n e3 S2 h m' (by omega)
        | _ => rfl
/-- a while by any number of turns that is enough -/
theorem whS_eq {c : TM} {body : SM} {n : Nat} {env : En} {S : Sto} {r : SR} (h : wloop c body n env S = r) (hr : r ≠ .err) : whS c body env S = r := by
  unfold whS
  have hx : ∃ n, wloop c body n env S ≠ .err := ⟨n, by rw [h]; exact hr⟩
  rw [dif_pos hx]
  have h1 := Classical.choose_spec hx
  generalize Classical.choose hx = k at h1 ⊢
  rcases Nat.le_total k n with q | q
  · rw [← wloop_mono k env S h1 n q, h]
  · rw [wloop_mono n env S (by rw [h]; exact hr) k q, h]
theorem s_while {c : Expr} {mc : TM} (hp : PassesOwn (model X.prog X.w) X.A X.env X.xe) (hc : PT X c (tT X.K X.mg W mc)) (hb : PSs X body (tS X.K X.mg W mb)) : PS X (.While c body [] pos) (tS X.K X.mg W (whS mc mb)) :=
  (ps_while hp hc hb).imp fun Dn σ H ⟨ρ, env, S, R, V, w⟩ => by
    unfold whS at w
    split at w
    · rename_i hx
      generalize Classical.choose hx = n at w
      refine ⟨fun n σ H => ∃ ρ env S, RS X.K ρ H S ∧ RV X.K ρ σ H S env ∧ wpS X.K X.mg W ρ H S Dn (wloop mc mb n env S), ⟨n, ρ, env, S, R, V, w⟩, ?_⟩
      rintro n σ H ⟨ρ, env, S, R, V, w⟩
      cases n with
      | zero => exact w.elim
      | succ n =>
        unfold wloop at w
        refine tT_seq R V (wpM_mono (wpS_bS V w) (fun k S1 w1 ρ1 H1 R1 V1 U1 => ?_) fun _ _ _ q => q)
        cases k with
        | false => exact iteF (w1 ρ1 σ H1 R1 V1 U1)
        | true =>
          refine iteT ⟨fun σ' H' => ∃ ρ env S, RS X.K ρ H' S ∧ RV X.K ρ σ' H' S env ∧ wpS X.K X.mg W ρ H' S Dn (wloop mc mb n env S), fun σ' H' q => ⟨n, Nat.lt_succ_self n, q⟩, ρ1, env, S1, R1, V1, ?_⟩
          have w2 := wpS_up (mg := X.mg) (W := W) (Dn := Dn) U1 w1
          simp only at w2
          split at w2
          · rename_i e2 S2 eb
            rw [eb]
            exact fun ρ4 σ4 H4 R4 V4 U4 => ⟨ρ4, e2, S2, R4, V4, wpS_up U4 w2⟩
          · rename_i e2 S2 eb
            rw [eb]
            exact fun ρ4 σ4 H4 R4 V4 U4 => ⟨ρ4, e2, S2, R4, V4, wpS_up U4 w2⟩
          · rename_i e2 S2 eb
            rw [eb]
            exact w2
          · rename_i n1 n2 n3
            cases eb : mb env S1 with
            | nx e2 S2 => exact absurd eb (n1 e2 S2)
            | ct e2 S2 => exact absurd eb (n2 e2 S2)
            | brk e2 S2 => exact absurd eb (n3 e2 S2)
            | ret d S2 => rw [eb] at w2; exact w2
            | exc c fs e2 S2 => rw [eb] at w2; exact w2
            | err => rw [eb] at w2; exact w2.elim
    · exact w.elim
/-! #### sources -/
/-- a range -/
def rgL (a b : Int) : List D := (List.range (b - a).toNat).map fun (i : Nat) => .int (a + i)
theorem good_range {K : PySem.W.Frag} {ρ0 : List Addr} {H0 : Hp} {S0 : Sto} {lo hi : Int} : GoodIt K ρ0 H0 S0 (okSrc []) (Itr lo (hi - lo).toNat) (rgL lo hi) := fun ρ H S R U _ => by
  have hl : (rgL lo hi).length = (hi - lo).toNat := by simp [rgL]
  rw [hl]
  refine ⟨fun i hi => hi, Nat.le_refl _, fun i d x H' e y => ?_⟩
  obtain ⟨rfl, rfl⟩ := y
  have hi' : i < (hi - lo).toNat := by rw [← hl]; exact (List.getElem?_eq_some_iff.mp e).1
  simp only [rgL, List.getElem?_map, List.getElem?_range hi', Option.map_some] at e
  cases e
  exact ⟨Same.refl _, rfl⟩
def i_rg1 (l : LM) : IM := fun env S => bd (l env S) fun ds S1 => match ds with
  | [.int j] => if -(2 ^ 62) ≤ j ∧ j < 2 ^ 62 then .ok (rgL 0 j, []) S1 else .err
  | _ => .err
def i_rg2 (l : LM) : IM := fun env S => bd (l env S) fun ds S1 => match ds with
  | [.int i, .int j] => if -(2 ^ 62) ≤ i ∧ i < 2 ^ 62 ∧ -(2 ^ 62) ≤ j ∧ j < 2 ^ 62 then .ok (rgL i j, []) S1 else .err
  | _ => .err
variable {l : LM} {p : Pos}
theorem y_rg1 (hm : X.mg "range" = none) (ha : PA X [a] (tA X.K X.mg W l)) (hg : Gl X "range" := by rfl) (hs : starEach [a] X.env = [(false, eval a X.env)] := by rfl) : PI X tg (.Call (.Name "range" p) [a] [] pos) (tI X.K X.mg W (i_rg1 l)) :=
  PI_imp (pi_range1 hg hm ha hs) fun σ H Q ⟨ρ, env, S, R, V, w⟩ => tA_seq R V (wpM_mono (wpM_bd w) (fun ds S1 w1 ρ1 vs H1 R1 V1 U1 r1 => by
    split at w1
    · rename_i j
      split at w1
      · rename_i hj
        obtain ⟨x, xs, rfl, h1, h2⟩ := r1
        have h1' : x = .int j := h1
        have h2' : xs = [] := h2
        subst h1' h2'
        refine ⟨j, rfl, hj.1, hj.2, w1 ρ1 H1 _ R1 U1 ?_⟩
        have := good_range (K := X.K) (ρ0 := ρ1) (H0 := H1) (S0 := S1) (lo := 0) (hi := j)
        rw [Int.sub_zero] at this
        exact this
      · exact w1.elim
    · exact w1.elim) fun _ _ _ q => q)
theorem y_rg2 {b : Expr} (hm : X.mg "range" = none) (ha : PA X [a, b] (tA X.K X.mg W l)) (hg : Gl X "range" := by rfl) (hs : starEach [a, b] X.env = [(false, eval a X.env), (false, eval b X.env)] := by rfl) (hs2 : starEach [b] X.env = [(false, eval b X.env)] := by rfl) :
    PI X tg (.Call (.Name "range" p) [a, b] [] pos) (tI X.K X.mg W (i_rg2 l)) :=
  PI_imp (pi_range2 hg hm ha hs hs2) fun σ H Q ⟨ρ, env, S, R, V, w⟩ => tA_seq R V (wpM_mono (wpM_bd w) (fun ds S1 w1 ρ1 vs H1 R1 V1 U1 r1 => by
    split at w1
    · rename_i i j
      split at w1
      · rename_i hj
        obtain ⟨x, xs, rfl, h1, y, ys, rfl, h2, h3⟩ := r1
        have h1' : x = .int i := h1
        have h2' : y = .int j := h2
        have h3' : ys = [] := h3
        subst h1' h2' h3'
        exact ⟨i, j, rfl, hj, w1 ρ1 H1 _ R1 U1 good_range⟩
      · exact w1.elim
    · exact w1.elim) fun _ _ _ q => q)
/-- what a for walks of a value: a tuple, a list, a text -/
def sgns (z : Str) : List D := z.cps.toList.map fun c => .str ⟨#[c]⟩
def srcOf (S : Sto) : D → Option (List D × List (Nat × List D))
  | .tup ds => some (ds, [])
  | .lst ds => some (ds, [])
  | .str z => some (sgns z, [])
  | .ref n => match S[n]? with
    | some (some (.lst ds)) => some (ds, [(n, ds)])
    | _ => none
  | _ => none
def i_of (m : EM) : IM := fun env S => bd (m env S) fun d S1 => lf (srcOf S1 d) S1
def iAny (K : PySem.W.Frag) (tl : TE) : TI := fun σ H R => tl σ H fun x H1 => (∃ a, x = .ref a ∧ (∃ xs, SqL K H1 a xs) ∧ R (Itl K a) H1) ∨ (∃ a, x = .ref a ∧ (∃ xs, SqT K H1 a xs) ∧ R (Itt K a) H1) ∨ ∃ z, x = .str z ∧ R (Its z) H1
theorem pi_any {tl : TE} (hl : PE X e tl) : PI X tg e (iAny X.K tl) := by
  refine ⟨fun pins s σ H R I h => ?_⟩
  refine thn (hl.run pins s σ H _ I h) fun v s1 ⟨x, H1, I1, r1, q1⟩ => ?_
  rcases q1 with ⟨a, rfl, ⟨xs, hq⟩, q⟩ | ⟨a, rfl, ⟨xs, hq⟩, q⟩ | ⟨z, rfl, q⟩
  · cases r1
    obtain ⟨its, rv, p, hz⟩ := I1.list hq
    refine wpAny_pyIter_list p.isList ?_
    refine ⟨s1.heap.objs.size, [s1.heap.objs.size], _, _, H1, rfl, I1.kept (t' := s1.toks) fun b o e => Heap.get?_push_of_some _ e, turn_list a _, ⟨_, Heap.get?_push_size _ rfl, rfl, rfl⟩, fun b hb => ?_, q⟩
    have e : b = s1.heap.objs.size := by simpa using hb
    subst e
    exact I1.fpOk (Nat.le_refl _) (I1.hok.fresh (Nat.le_refl _))
  · cases r1
    obtain ⟨its, rv, p, hz⟩ := I1.tuple hq
    refine wpAny_pyIter_tuple (show s1.heap.IsTuple a its.toArray from p) ?_
    refine ⟨s1.heap.objs.size, [s1.heap.objs.size], _, _, H1, rfl, I1.kept (t' := s1.toks) fun b o e => Heap.get?_push_of_some _ e, turn_tuple a _, ⟨_, Heap.get?_push_size _ rfl, rfl, rfl⟩, fun b hb => ?_, q⟩
    have e : b = s1.heap.objs.size := by simpa using hb
    subst e
    exact I1.fpOk (Nat.le_refl _) (I1.hok.fresh (Nat.le_refl _))
  · obtain ⟨t, rfl⟩ := r1
    cases ha : z.cps.all (· < 128)
    · exact wpAny_pyIter_wide ha (pi_one (tk := s1.toks) I1 _ (turn_str _ z t "str_iterator" (.inr rfl)) ⟨_, Heap.get?_push_size _ rfl, rfl, rfl⟩ q)
    · exact wpAny_pyIter_ascii ha (pi_one (tk := s1.toks) I1 _ (turn_str _ z t "str_ascii_iterator" (.inl rfl)) ⟨_, Heap.get?_push_size _ rfl, rfl, rfl⟩ q)
theorem y_iter (ha : PE X e (tE X.K X.mg W m)) : PI X tg e (tI X.K X.mg W (i_of m)) :=
  PI_imp (pi_any ha) fun σ H Q ⟨ρ, env, S, R, V, w⟩ => tE_seq R V (wpM_mono (wpM_bd w) (fun d S1 w1 ρ1 v H1 R1 V1 U1 r1 => by
    obtain ⟨p, e1, q⟩ := wpM_lf w1
    cases d with
    | tup ds =>
      cases e1
      obtain ⟨a, xs, rfl, h1, h2⟩ := r1
      refine .inr (.inl ⟨a, rfl, ⟨xs, h1⟩, q ρ1 H1 _ R1 U1 fun ρ2 H2 S2 R2 U2 _ => ?_⟩)
      have h1' := U2.tup a xs h1
      have h2' := U2.relL h2
      refine ⟨fun i hi => ⟨xs, xs[i]'(by rw [h2.length]; exact hi), h1', by simp [h2.length, hi]⟩, ⟨xs, h1', by rw [h2.length]; exact Nat.le_refl _⟩, fun i d x H' e2 y => ?_⟩
      obtain ⟨rfl, y⟩ := y
      obtain ⟨v, f1, f2⟩ := h2'.get e2
      rw [y xs h1'] at f1
      cases f1
      exact ⟨Same.refl _, f2⟩
    | lst ds =>
      cases e1
      obtain ⟨a, xs, rfl, h1, h2⟩ := r1
      refine .inl ⟨a, rfl, ⟨xs, h1.sq⟩, q ρ1 H1 _ R1 U1 fun ρ2 H2 S2 R2 U2 _ => ?_⟩
      have h1' : SqL X.K H2 a xs := (U2.fz h1).sq
      have h2' := U2.relL h2
      refine ⟨fun i hi => ⟨xs, xs[i]'(by rw [h2.length]; exact hi), h1', by simp [h2.length, hi]⟩, ⟨xs, h1', by rw [h2.length]; exact Nat.le_refl _⟩, fun i d x H' e2 y => ?_⟩
      obtain ⟨rfl, y⟩ := y
      obtain ⟨v, f1, f2⟩ := h2'.get e2
      rw [y xs h1'] at f1
      cases f1
      exact ⟨Same.refl _, f2⟩
    | ref n =>
      simp only [srcOf] at e1
      split at e1
      · rename_i ds hS
        cases e1
        obtain ⟨a, rfl, ha⟩ := r1
        obtain ⟨xs, h1, h2⟩ := R1.obj n _ a hS ha
        refine .inl ⟨a, rfl, ⟨xs, .inl (.inl h1)⟩, q ρ1 H1 _ R1 U1 fun ρ2 H2 S2 R2 U2 hG => ?_⟩
        obtain ⟨ys, k1, k2⟩ := R2.obj n _ a (hG (n, ds) List.mem_cons_self) (U2.pre n a ha)
        have h1' : SqL X.K H2 a ys := .inl (.inl k1)
        refine ⟨fun i hi => ⟨ys, ys[i]'(by rw [k2.length]; exact hi), h1', by simp [k2.length, hi]⟩, ⟨ys, h1', by rw [k2.length]; exact Nat.le_refl _⟩, fun i d x H' e2 y => ?_⟩
        obtain ⟨rfl, y⟩ := y
        obtain ⟨v, f1, f2⟩ := k2.get e2
        rw [y ys h1'] at f1
        cases f1
        exact ⟨Same.refl _, f2⟩
      · cases e1
    | str z =>
      cases e1
      have r1' : v = .str z := r1
      subst r1'
      refine .inr (.inr ⟨z, rfl, q ρ1 H1 _ R1 U1 fun ρ2 H2 S2 R2 U2 _ => ?_⟩)
      have hl : (sgns z).length = z.cps.size := by simp [sgns]
      rw [hl]
      refine ⟨fun i hi => hi, Nat.le_refl _, fun i d x H' e2 y => ?_⟩
      obtain ⟨rfl, c, e3, rfl⟩ := y
      have e4 : z.cps.toList[i]? = some c := by rw [Array.getElem?_toList]; exact e3
      simp only [sgns, List.getElem?_map, e4, Option.map_some] at e2
      cases e2
      exact ⟨Same.refl _, rfl⟩
    | _ => cases e1) fun _ _ _ q => q)

/-! ### comprehensions -/
theorem wipe_wipe {σ : L2.St} {ix : List Nat} : wipe (wipe σ ix) ix = wipe σ ix := by
  apply List.ext_getElem?
  intro j
  rw [wipe_get, wipe_get]
  by_cases hj : j ∈ ix
  · rw [if_pos hj, if_pos hj]; cases σ[j]? <;> rfl
  · rw [if_neg hj, if_neg hj]
def wipeE (env : En) : List Nat → En
  | [] => env
  | v :: vs => (wipeE env vs).set v none
theorem RV.wipe {K : PySem.W.Frag} {ρ : List Addr} {σ : L2.St} {H : Hp} {S : Sto} {env : En} (h : RV K ρ σ H S env) : ∀ vs : List Nat, RV K ρ (L2.wipe σ vs) H S (wipeE env vs)
  | [] => h
  | v :: vs => by
    have ih := RV.wipe h vs
    unfold L2.wipe wipeE
    refine ⟨by simp [ih.1], fun i d e => ?_⟩
    by_cases hi : v = i
    · subst hi
      rw [List.getElem?_set] at e
      simp only [if_true] at e
      split at e <;> cases e
    · rw [List.getElem?_set_ne hi] at e ⊢
      exact ih.2 i d e
abbrev W0 : WX := fun _ _ _ _ => False
/-- the turns: the new list at n0 -/
def clp (tg : TgM) (ts : TM) (el : EM) (env0 : En) (n0 : Nat) (G : Sto → Bool) : List D → Sto → Res Unit
  | [], S => if G S then .ok () S else .err
  | d :: ds, S => if G S then match tg d env0 with
    | none => .err
    | some env1 => match ts env1 S with
      | .ok true S1 => match el env1 S1 with
        | .ok x S2 => match S2[n0]? with
          | some (some (.lst acc)) => if acc.length < sizeLine then clp tg ts el env0 n0 G ds (S2.set n0 (some (.lst (acc ++ [x])))) else .err
          | _ => .err
        | _ => .err
      | .ok false S1 => clp tg ts el env0 n0 G ds S1
      | _ => .err else .err
theorem clp_ne {tg : TgM} {ts : TM} {el : EM} {env0 : En} {n0 : Nat} {G : Sto → Bool} {c : Str} {fs : List (Str × D)} {S' : Sto} : ∀ (ds : List D) (S : Sto), clp tg ts el env0 n0 G ds S ≠ .exc c fs S'
  | [], S => by
    unfold clp
    split <;> (intro h; cases h)
  | d :: ds, S => by
    unfold clp
    split
    · split
      · intro h; cases h
      · split
        · split
          · split
            · split
              · exact clp_ne ds _
              · intro h; cases h
            · intro h; cases h
          · intro h; cases h
        · exact clp_ne ds _
        · intro h; cases h
    · intro h; cases h
open Classical in
noncomputable def okB (src : List (Nat × List D)) (S : Sto) : Bool := decide (okSrc src S)
open Classical in
theorem okB_iff {src : List (Nat × List D)} {S : Sto} : okB src S = true ↔ okSrc src S := by unfold okB; exact decide_eq_true_iff
noncomputable def compN (it : IM) (tg : TgM) (ts : TM) (el : EM) (vs : List Nat) : EM := fun env S => bd (it env S) fun p S1 =>
  bd (clp tg ts el (wipeE env vs) S1.length (okB p.2) p.1 (S1 ++ [some (.lst [])])) fun _ S2 => .ok (.ref S1.length) S2
/-- .. that nobody will change any more -/
noncomputable def compF (it : IM) (tg : TgM) (ts : TM) (el : EM) (vs : List Nat) : EM := fun env S => bd (it env S) fun p S1 =>
  bd (clp tg ts el (wipeE env vs) S1.length (okB p.2) p.1 (S1 ++ [some (.lst [])])) fun _ S2 => match S2[S1.length]? with
    | some (some (.lst ds)) => if belL S1.length ds then .ok (.lst ds) (trunc S1 (S2.set S1.length none)) else .ok (.lst ds) (S2.set S1.length none)
    | _ => .err
def yesT : TM := fun _ S => .ok true S
theorem y_yes : PTs X [] (tT X.K X.mg W yesT) := ⟨fun pins s σ H Q I h => pts_nil.run pins s σ H Q I (by
  obtain ⟨ρ, env, S, R, V, w⟩ := h
  exact (show PostB X.K ρ H S Q true S from w) ρ H R Up.refl)⟩
theorem y_tst {c : Expr} {mt : TM} (h : PT X c (tT X.K X.mg W mt)) : PTs X [c] (tT X.K X.mg W mt) := pts_one h
section
variable {elt iter : Expr} {ifs : List Expr} {scope : Scope} {own : List (Str × Nat)} {ts : TM} {el : EM}
theorem comp_imp {k : Sto → Res Unit → Res D}
    (hk : ∀ (ρ1 : List Addr) (H1 : Hp) (S1 : Sto) (ρ2 : List Addr) (H2 : Hp) (S2 : Sto) (D0 : Addr) (Q : VK) (E : Str → List (Str × D) → Sto → Prop), RS X.K ρ1 H1 S1 → RS X.K ρ2 H2 S2 → Up X.K ρ1 H1 S1 ρ2 H2 S2 → ρ2[S1.length]? = some D0 → wpM (k S1 (.ok () S2)) (PostV X.K ρ1 H1 S1 Q) E → Q (.ref D0) H2)
    (hk2 : ∀ S1 (Q : D → Sto → Prop) (E : Str → List (Str × D) → Sto → Prop), ¬ wpM (k S1 .err) Q E) :
    ∀ σ H Q, tE X.K X.mg W (fun env S => bd (mi env S) fun p S1 => k S1 (clp g ts el (wipeE env (own.map (·.2))) S1.length (okB p.2) p.1 (S1 ++ [some (.lst [])]))) σ H Q →
      tLc (tI X.K X.mg W mi) (tG X.K (own.map (·.2)) g) (tT X.K X.mg W0 ts) (tE X.K X.mg W0 el) (own.map (·.2)) σ H Q := fun σ H Q ⟨ρ, env, S, R, V, w⟩ => ⟨ρ, env, S, R, V, wpM_mono (wpM_bd w) (fun p S1 w1 ρ1 H1 J R1 U1 GI D0 hD => by
    obtain ⟨all, src⟩ := p
    simp only at w1 GI
    generalize hvs : own.map (·.2) = vs at w1 ⊢
    obtain ⟨S2, hS2⟩ : ∃ S2, clp g ts el (wipeE env vs) S1.length (okB src) all (S1 ++ [some (.lst [])]) = .ok () S2 := by
      cases e : clp g ts el (wipeE env vs) S1.length (okB src) all (S1 ++ [some (.lst [])]) with
      | ok a S2 => exact ⟨S2, rfl⟩
      | exc c fs S2 => exact absurd e (clp_ne _ _)
      | err => rw [e] at w1; exact (hk2 _ _ _ w1).elim
    rw [hS2] at w1
    have sm0 : Same H1 (upd H1 D0 (.lst [])) := same_new hD
    have Ru : RS X.K (ρ1 ++ [D0]) (upd H1 D0 (.lst [])) (S1 ++ [some (.lst [])]) := R1.new hD sm0 upd_same RelL.nil
    have Uu : Up X.K ρ1 H1 S1 (ρ1 ++ [D0]) (upd H1 D0 (.lst [])) (S1 ++ [some (.lst [])]) := Up.new R1.len hD sm0
    have hix : (ρ1 ++ [D0])[S1.length]? = some D0 := by rw [← R1.len]; simp
    refine ⟨fun i n H' => n = all.length - i ∧ i ≤ all.length ∧ ∃ ρ' S', RS X.K ρ' H' S' ∧ Up X.K (ρ1 ++ [D0]) (upd H1 D0 (.lst [])) (S1 ++ [some (.lst [])]) ρ' H' S' ∧ clp g ts el (wipeE env vs) S1.length (okB src) (all.drop i) S' = .ok () S2,
      ⟨all.length, by simp, Nat.zero_le _, _, _, Ru, Up.refl, by simpa using hS2⟩, ?_⟩
    rintro i n H' ⟨rfl, hi, ρ', S', R', U', w'⟩
    have VV : RV X.K ρ' (L2.wipe σ vs) H' S' (wipeE env vs) := ((U1.trans (Uu.trans U')).rv V).wipe vs
    by_cases hlt : i < all.length
    · rw [List.drop_eq_getElem_cons hlt] at w'
      unfold clp at w'
      split at w'
      · rename_i hsrc
        obtain ⟨g1, g2, g3⟩ := GI ρ' H' S' R' (Uu.trans U') (okB_iff.mp hsrc)
        refine .inr ⟨g1 i hlt, fun H2 => ∃ ρ2 S2', RS X.K ρ2 H2 S2' ∧ Up X.K (ρ1 ++ [D0]) (upd H1 D0 (.lst [])) (S1 ++ [some (.lst [])]) ρ2 H2 S2' ∧ clp g ts el (wipeE env vs) S1.length (okB src) (all.drop (i + 1)) S2' = .ok () S2,
          fun H2 q => ⟨all.length - (i + 1), by omega, rfl, hlt, q⟩, fun x H2 y => ?_⟩
        obtain ⟨sm, rd⟩ := g3 i all[i] x H2 (List.getElem?_eq_getElem hlt) y
        have U2 : Up X.K ρ' H' S' ρ' H2 S' := Up.same sm
        split at w'
        · cases w'
        · rename_i env1 e1
          refine ⟨ρ', wipeE env vs, S', all[i], env1, R'.same sm, U2.rv VV, rd, e1, fun σ3 V3 hw3 => ⟨by rw [hw3]; exact wipe_wipe, ?_⟩⟩
          split at w'
          · rename_i S3 e3
            refine tT_seq (R'.same sm) V3 ?_
            rw [e3]
            intro ρ4 H4 R4 V4 U4
            refine iteT ?_
            split at w'
            · rename_i x5 S5 e5
              refine tE_seq R4 V4 ?_
              rw [e5]
              intro ρ6 y6 H6 R6 V6 U6 r6
              have Uall := ((U'.trans U2).trans U4).trans U6
              split at w'
              · rename_i acc e7
                split at w'
                · rename_i hlen
                  have hD6 : ρ6[S1.length]? = some D0 := Uall.pre _ _ hix
                  obtain ⟨xs, h8, h9⟩ := R6.obj _ _ D0 e7 hD6
                  exact ⟨xs, h8, by rw [h9.length]; exact hlen, ρ6, _, R6.set e7 hD6 h8 (h9.append (RelL.cons r6 RelL.nil)), Uall.trans (Up.set e7 hD6 h8), w'⟩
                · cases w'
              · cases w'
            · cases w'
          · rename_i S3 e3
            refine tT_seq (R'.same sm) V3 ?_
            rw [e3]
            intro ρ4 H4 R4 V4 U4
            exact iteF ⟨ρ4, S3, R4, (U'.trans U2).trans U4, w'⟩
          · cases w'
      · cases w'
    · have ei : i = all.length := by omega
      subst ei
      rw [List.drop_length] at w'
      unfold clp at w'
      split at w'
      · rename_i hsrc
        cases w'
        obtain ⟨g1, g2, g3⟩ := GI ρ' H' S2 R' (Uu.trans U') (okB_iff.mp hsrc)
        exact .inl ⟨g2, hk ρ1 H1 S1 ρ' H' S2 D0 Q _ R1 R' (Uu.trans U') (U'.pre _ _ hix) (wpM_mono w1 (fun d S3 q => q.up U1) fun _ _ _ q => q)⟩
      · cases w') fun _ _ _ q => q⟩
theorem compN_imp : ∀ σ H Q, tE X.K X.mg W (compN mi g ts el (own.map (·.2))) σ H Q → tLc (tI X.K X.mg W mi) (tG X.K (own.map (·.2)) g) (tT X.K X.mg W0 ts) (tE X.K X.mg W0 el) (own.map (·.2)) σ H Q :=
  comp_imp (k := fun S1 r => bd r fun _ S2 => .ok (.ref S1.length) S2) (fun ρ1 H1 S1 ρ2 H2 S2 D0 Q E R1 R2 U hD w => (show PostV X.K ρ1 H1 S1 Q (.ref S1.length) S2 from w) ρ2 (.ref D0) H2 R2 U ⟨D0, rfl, hD⟩)
    fun _ _ _ w => w
theorem compF_imp : ∀ σ H Q, tE X.K X.mg W (compF mi g ts el (own.map (·.2))) σ H Q → tLc (tI X.K X.mg W mi) (tG X.K (own.map (·.2)) g) (tT X.K X.mg W0 ts) (tE X.K X.mg W0 el) (own.map (·.2)) σ H Q :=
  comp_imp (k := fun S1 r => bd r fun _ S2 => match S2[S1.length]? with
    | some (some (.lst ds)) => if belL S1.length ds then .ok (.lst ds) (trunc S1 (S2.set S1.length none)) else .ok (.lst ds) (S2.set S1.length none)
    | _ => .err) (fun ρ1 H1 S1 ρ2 H2 S2 D0 Q E R1 R2 U hD w => by
      simp only [bd] at w
      split at w
      · rename_i ds hS
        have fz := R2.frozen hS hD
        have U2 : Up X.K ρ1 H1 S1 ρ2 H2 (S2.set S1.length none) := U.trans Up.kill
        split at w
        · rename_i hb
          obtain ⟨ρ3, R3, U3, k⟩ := trunc_ok R1 U2 R2.kill
          exact (show PostV X.K ρ1 H1 S1 Q (.lst ds) (trunc S1 (S2.set S1.length none)) from w) ρ3 (.ref D0) H2 R3 U3 (k (.lst ds) _ hb fz)
        · exact (show PostV X.K ρ1 H1 S1 Q (.lst ds) (S2.set S1.length none) from w) ρ2 (.ref D0) H2 R2.kill U2 fz
      · exact w.elim)
    fun _ _ _ w => w
theorem y_comp {m : EM} (hm : ∀ σ H Q, tE X.K X.mg W m σ H Q → tLc (tI X.K X.mg W mi) (tG X.K (own.map (·.2)) g) (tT X.K X.mg W0 ts) (tE X.K X.mg W0 el) (own.map (·.2)) σ H Q) (hc : X.calm = true) (hN : X.N.Nodup) (hi : PI X tg iter (tI X.K X.mg W mi)) (ok : blkC X.N X.env.scope scope own = true)
    (hg : ∀ (s : Shared) (H : Hp) (C : Addr) (cl : List (Str × Addr)) (fp : List Addr), PG (X.blk s H scope (compEnvC scope cl C X.env) fp) tg (tG X.K (own.map (·.2)) g)) (ht : ∀ (s : Shared) (H : Hp) (C : Addr) (cl : List (Str × Addr)) (fp : List Addr), PTs (X.blk s H scope (compEnvC scope cl C X.env) fp) ifs (tT X.K X.mg W0 ts))
    (he : ∀ (s : Shared) (H : Hp) (C : Addr) (cl : List (Str × Addr)) (fp : List Addr), PE (X.blk s H scope (compEnvC scope cl C X.env) fp) elt (tE X.K X.mg W0 el)) (hs : ∀ x, foldedSetIterable iter X.env x = pure x := by intro _; rfl) :
    PE X (.ListComp elt [⟨tg, iter, ifs, 0⟩] scope pos) (tE X.K X.mg W m) := (pe_lc hc hN hi (blkOk_by ok) hg ht he hs).imp hm
/-- name = [..] -/
theorem s_setComp {m : EM} (i : Nat) {y : Str} {py spos : Pos} (hm : ∀ σ H Q, tE X.K X.mg W m σ H Q → tLc (tI X.K X.mg W mi) (tG X.K (own.map (·.2)) g) (tT X.K X.mg W0 ts) (tE X.K X.mg W0 el) (own.map (·.2)) σ H Q) (hc : X.calm = true) (hN : X.N.Nodup) (hyl : X.env.scope.names.lookup y = some .local)
    (hsw : swapsWith (.ListComp elt [⟨tg, iter, ifs, 0⟩] scope pos) (some (.Name y py)) spos.line X.env = pure true) (hi : PI X tg iter (tI X.K X.mg W mi)) (ok : blkC X.N X.env.scope scope own = true)
    (hg : ∀ (s : Shared) (H : Hp) (C : Addr) (cl : List (Str × Addr)) (fp : List Addr), PG (X.blk s H scope (compEnvC scope cl C X.env) fp) tg (tG X.K (own.map (·.2)) g)) (ht : ∀ (s : Shared) (H : Hp) (C : Addr) (cl : List (Str × Addr)) (fp : List Addr), PTs (X.blk s H scope (compEnvC scope cl C X.env) fp) ifs (tT X.K X.mg W0 ts))
    (he : ∀ (s : Shared) (H : Hp) (C : Addr) (cl : List (Str × Addr)) (fp : List Addr), PE (X.blk s H scope (compEnvC scope cl C X.env) fp) elt (tE X.K X.mg W0 el)) (hy : X.N[i]? = some y := by rfl) (hs : ∀ x, foldedSetIterable iter X.env x = pure x := by intro _; rfl) :
    PS X (.Assign [.Name y py] (.ListComp elt [⟨tg, iter, ifs, 0⟩] scope pos) spos) (tS X.K X.mg W (asg (tgN i) m)) :=
  (ps_setLc hc hN hy hyl hsw hi (blkOk_by ok) hg ht he hs).imp fun Dn σ H ⟨ρ, env, S, R, V, w⟩ => hm σ H _ (tE_seq R V (wpM_mono (wpS_bS V w) (fun d S1 w1 ρ1 v H1 R1 V1 U1 r1 => w1 ρ1 _ H1 R1 (V1.set r1) U1) fun _ _ _ q => q))
end
end
end Y

end
section
set_option Elab.async false
set_option linter.all false
set_option maxRecDepth 100000
set_option maxHeartbeats 4000000
set_option autoImplicit false
namespace Y
open PySem PySem.Spec L2

/-! ### built-in functions -/
def calB (f : Sto → List D → Option D) (l : LM) : EM := fun env S => bd (l env S) fun ds S1 => lf (f S1 ds) S1
def calF (f : Sto → List D → Option (List D)) (l : LM) : LM := fun env S => bd (l env S) fun ds S1 => lf (f S1 ds) S1
def CallS (K : PySem.W.Frag) (r : List V → Hp → VK → Prop) (f : Sto → List D → Option D) : Prop := ∀ (ρ : List Addr) (H : Hp) (S : Sto) (ds : List D) (d : D) (vs : List V) (Q : VK), RS K ρ H S → RelL K H (Al ρ S) ρ vs ds → f S ds = some d →
  (∀ w H', Same H H' → RelD K H' (Al ρ S) ρ w d → Q w H') → r vs H Q
def CallF (K : PySem.W.Frag) (r : List V → Hp → VK → Prop) (f : Sto → List D → Option (List D)) : Prop := ∀ (ρ : List Addr) (H : Hp) (S : Sto) (ds es : List D) (vs : List V) (Q : VK), RS K ρ H S → RelL K H (Al ρ S) ρ vs ds → f S ds = some es →
  (∀ p xs H', RelL K H (Al ρ S) ρ xs es → H p = none → Same H H' → H' p = some (.lst xs) → Q (.ref p) H') → r vs H Q
section
variable {X : Cx} {W : WX} {x : Str} {p pos : Pos} {e : Expr} {es : List Expr} {l : LM} {id T : String} {r : List V → Hp → VK → Prop} {f : Sto → List D → Option D} {g : Sto → List D → Option (List D)}
theorem calB_imp (hf : CallS X.K r f) : ∀ σ H Q, tE X.K X.mg W (calB f l) σ H Q → tCB r (tA X.K X.mg W l) σ H Q := fun σ H Q ⟨ρ, env, S, R, V, w⟩ => tA_seq R V (wpM_mono (wpM_bd w) (fun ds S1 w1 ρ1 vs H1 R1 V1 U1 r1 => by
  obtain ⟨d, e, q⟩ := wpM_lf w1
  exact hf ρ1 H1 S1 ds d vs Q R1 r1 e fun w' H' s k => q ρ1 w' H' (R1.same s) (U1.trans (Up.same s)) k) fun _ _ _ q => q)
theorem calF_imp (hf : CallF X.K r g) : ∀ σ H Q, tF X.K X.mg W (calF g l) σ H Q → tCB r (tA X.K X.mg W l) σ H Q := fun σ H Q ⟨ρ, env, S, R, V, w⟩ => tA_seq R V (wpM_mono (wpM_bd w) (fun ds S1 w1 ρ1 vs H1 R1 V1 U1 r1 => by
  obtain ⟨es, e, q⟩ := wpM_lf w1
  exact hf ρ1 H1 S1 ds es vs Q R1 r1 e fun p xs H' k np s hp => q ρ1 p xs H1 H' R1 U1 k np s hp) fun _ _ _ q => q)
theorem y_callB (hc : CallR X (.builtin id) r) (hf : CallS X.K r f) (hm : X.mg x = none) (hv : bootBuiltins x = some (.builtin id)) (ha : PA X (e :: es) (tA X.K X.mg W l)) (hg : Gl X x := by rfl) (hn : x ≠ "__name__" := by decide) (hdb : (x == ("__debug__" : Str)) = false := by decide)
    (he : starEach (e :: es) X.env = (false, eval e X.env) :: starEach es X.env := by rfl) (hpl : (backTo pos (starEach es X.env)).any (·.1) = false := by rfl) : PE X (.Call (.Name x p) (e :: es) [] pos) (tE X.K X.mg W (calB f l)) := (pe_callB hc hg hm hv ha hn hdb he hpl).imp (calB_imp hf)
theorem y_callTy (hc : CallR X (.type T) r) (hf : CallS X.K r f) (hm : X.mg x = none) (hv : bootBuiltins x = some (.type T)) (ha : PA X (e :: es) (tA X.K X.mg W l)) (hg : Gl X x := by rfl) (hn : x ≠ "__name__" := by decide) (hdb : (x == ("__debug__" : Str)) = false := by decide)
    (he : starEach (e :: es) X.env = (false, eval e X.env) :: starEach es X.env := by rfl) (hpl : (backTo pos (starEach es X.env)).any (·.1) = false := by rfl) : PE X (.Call (.Name x p) (e :: es) [] pos) (tE X.K X.mg W (calB f l)) := (pe_callTy hc hg hm hv ha hn hdb he hpl).imp (calB_imp hf)
theorem y_callBF (hc : CallR X (.builtin id) r) (hf : CallF X.K r g) (hm : X.mg x = none) (hv : bootBuiltins x = some (.builtin id)) (ha : PA X (e :: es) (tA X.K X.mg W l)) (hg : Gl X x := by rfl) (hn : x ≠ "__name__" := by decide) (hdb : (x == ("__debug__" : Str)) = false := by decide)
    (he : starEach (e :: es) X.env = (false, eval e X.env) :: starEach es X.env := by rfl) (hpl : (backTo pos (starEach es X.env)).any (·.1) = false := by rfl) : PE X (.Call (.Name x p) (e :: es) [] pos) (tF X.K X.mg W (calF g l)) := (pe_callB hc hg hm hv ha hn hdb he hpl).imp (calF_imp hf)
theorem y_callTyF (hc : CallR X (.type T) r) (hf : CallF X.K r g) (hm : X.mg x = none) (hv : bootBuiltins x = some (.type T)) (ha : PA X (e :: es) (tA X.K X.mg W l)) (hg : Gl X x := by rfl) (hn : x ≠ "__name__" := by decide) (hdb : (x == ("__debug__" : Str)) = false := by decide)
    (he : starEach (e :: es) X.env = (false, eval e X.env) :: starEach es X.env := by rfl) (hpl : (backTo pos (starEach es X.env)).any (·.1) = false := by rfl) : PE X (.Call (.Name x p) (e :: es) [] pos) (tF X.K X.mg W (calF g l)) := (pe_callTy hc hg hm hv ha hn hdb he hpl).imp (calF_imp hf)
end
/-- the items of a list, a tuple -/
def seqOf (S : Sto) : D → Option (List D)
  | .tup ds => some ds
  | .lst ds => some ds
  | .ref n => match S[n]? with
    | some (some (.lst ds)) => some ds
    | _ => none
  | _ => none
section
variable {K : PySem.W.Frag} {ρ : List Addr} {H : Hp} {S : Sto} {d : D} {ds es : List D} {v : V} {vs : List V}
theorem one_of (r : RelL K H (Al ρ S) ρ vs [d]) : ∃ v, vs = [v] ∧ RelD K H (Al ρ S) ρ v d := by
  obtain ⟨x, xs, rfl, h1, h2⟩ := r
  have h2' : xs = [] := h2
  subst h2'
  exact ⟨x, rfl, h1⟩
theorem two_of {e : D} (r : RelL K H (Al ρ S) ρ vs [d, e]) : ∃ v u, vs = [v, u] ∧ RelD K H (Al ρ S) ρ v d ∧ RelD K H (Al ρ S) ρ u e := by
  obtain ⟨x, xs, rfl, h1, h2⟩ := r
  obtain ⟨u, rfl, h3⟩ := one_of h2
  exact ⟨x, u, rfl, h1, h3⟩
theorem seq_rel (R : RS K ρ H S) (h : seqOf S d = some ds) (r : RelD K H (Al ρ S) ρ v d) : ∃ a xs, v = .ref a ∧ (SqL K H a xs ∨ SqT K H a xs) ∧ RelL K H (Al ρ S) ρ xs ds := by
  cases d with
  | tup es =>
    cases h
    obtain ⟨a, xs, e, h1, h2⟩ := r
    exact ⟨a, xs, e, .inr h1, h2⟩
  | lst es =>
    cases h
    obtain ⟨a, xs, e, h1, h2⟩ := r
    exact ⟨a, xs, e, .inl h1.sq, h2⟩
  | ref n =>
    simp only [seqOf] at h
    split at h
    · rename_i fs hS
      cases h
      obtain ⟨a, e, ha⟩ := r
      obtain ⟨xs, h1, h2⟩ := R.obj n _ a hS ha
      exact ⟨a, xs, e, .inl (.inl (.inl h1)), h2⟩
    · cases h
  | _ => cases h
/-- .. of a list alone -/
def lstOf (S : Sto) : D → Option (List D)
  | .lst ds => some ds
  | .ref n => match S[n]? with
    | some (some (.lst ds)) => some ds
    | _ => none
  | _ => none
theorem lst_rel (R : RS K ρ H S) (h : lstOf S d = some ds) (r : RelD K H (Al ρ S) ρ v d) : ∃ a xs, v = .ref a ∧ SqL K H a xs ∧ RelL K H (Al ρ S) ρ xs ds := by
  cases d with
  | lst es =>
    cases h
    obtain ⟨a, xs, e, h1, h2⟩ := r
    exact ⟨a, xs, e, h1.sq, h2⟩
  | ref n =>
    simp only [lstOf] at h
    split at h
    · rename_i fs hS
      cases h
      obtain ⟨a, e, ha⟩ := r
      obtain ⟨xs, h1, h2⟩ := R.obj n _ a hS ha
      exact ⟨a, xs, e, .inl (.inl h1), h2⟩
    · cases h
  | _ => cases h
def o_len (S : Sto) : List D → Option D
  | [.str z] => if z.length ≤ sizeLine then some (.int z.length) else none
  | [d] => (seqOf S d).map fun ds => .int ds.length
  | _ => none
theorem cs_len : CallS K (fun xs H Q => ∃ x n, xs = [x] ∧ LenV K x H n ∧ Q (.int n) H) o_len := by
  intro ρ H S ds d vs Q R r e q
  cases ds with
  | nil => cases e
  | cons a t =>
    cases t with
    | cons b t => cases a <;> cases e
    | nil =>
      obtain ⟨v, rfl, rv⟩ := one_of r
      have gen : (seqOf S a).map (fun ds => D.int ds.length) = some d → ∃ x n, [v] = [x] ∧ LenV K x H n ∧ Q (.int n) H := fun e => by
        obtain ⟨ds, e1, rfl⟩ := Option.map_eq_some_iff.mp e
        obtain ⟨a', xs, rfl, h1, h2⟩ := seq_rel R e1 rv
        refine ⟨.ref a', xs.length, rfl, ?_, by rw [h2.length]; exact q _ H (Same.refl H) rfl⟩
        rcases h1 with h1 | h1
        · exact .inl ⟨xs, h1, rfl⟩
        · exact .inr ⟨xs, h1, rfl⟩
      cases a with
      | str z =>
        simp only [o_len] at e
        split at e
        · rename_i hl
          cases e
          have rv' : v = .str z := rv
          subst rv'
          exact ⟨.str z, z.length, rfl, ⟨hl, rfl⟩, q _ H (Same.refl H) rfl⟩
        · cases e
      | _ => exact gen e
def o_abs (_ : Sto) : List D → Option D
  | [.int i] => some (.int (if i < 0 then -i else i))
  | _ => none
theorem cs_abs : CallS K (fun xs H Q => ∃ i, xs = [.int i] ∧ Q (.int (if i < 0 then -i else i)) H) o_abs := by
  intro ρ H S ds d vs Q R r e q
  unfold o_abs at e
  split at e
  · rename_i i
    cases e
    obtain ⟨v, rfl, rv⟩ := one_of r
    have rv' : v = .int i := rv
    subst rv'
    exact ⟨i, rfl, q _ H (Same.refl H) rfl⟩
  · cases e
def o_int (_ : Sto) : List D → Option D
  | [.int i] => some (.int i)
  | [.bl k] => some (.int (if k then 1 else 0))
  | _ => none
theorem cs_int : CallS K (fun xs H Q => (∃ i, xs = [.int i] ∧ Q (.int i) H) ∨ ∃ k, xs = [.bl k] ∧ Q (.int (if k then 1 else 0)) H) o_int := by
  intro ρ H S ds d vs Q R r e q
  unfold o_int at e
  split at e
  · rename_i i
    cases e
    obtain ⟨v, rfl, rv⟩ := one_of r
    have rv' : v = .int i := rv
    subst rv'
    exact .inl ⟨i, rfl, q _ H (Same.refl H) rfl⟩
  · rename_i i
    cases e
    obtain ⟨v, rfl, rv⟩ := one_of r
    have rv' : v = .bl i := rv
    subst rv'
    exact .inr ⟨i, rfl, q _ H (Same.refl H) rfl⟩
  · cases e
def o_str (_ : Sto) : List D → Option D
  | [.int i] => if i.natAbs.log2 < 1920 then some (.str (toString i)) else none
  | _ => none
theorem cs_str : CallS K (fun xs H Q => ∃ i, xs = [.int i] ∧ i.natAbs.log2 < 1920 ∧ Q (.str (toString i)) H) o_str := by
  intro ρ H S ds d vs Q R r e q
  unfold o_str at e
  split at e
  · rename_i i
    split at e
    · rename_i hl
      cases e
      obtain ⟨v, rfl, rv⟩ := one_of r
      have rv' : v = .int i := rv
      subst rv'
      exact ⟨i, rfl, hl, q _ H (Same.refl H) rfl⟩
    · cases e
  · cases e
def o_max2 (_ : Sto) : List D → Option D
  | [.int i, .int j] => some (.int (if j > i then j else i))
  | _ => none
def o_min2 (_ : Sto) : List D → Option D
  | [.int i, .int j] => some (.int (if j < i then j else i))
  | _ => none
theorem cs_max2 : CallS K (fun xs H Q => ∃ i j, xs = [.int i, .int j] ∧ Q (.int (if j > i then j else i)) H) o_max2 := by
  intro ρ H S ds d vs Q R r e q
  unfold o_max2 at e
  split at e
  · rename_i i j
    cases e
    obtain ⟨v, u, rfl, rv, ru⟩ := two_of r
    have rv' : v = .int i := rv
    have ru' : u = .int j := ru
    subst rv' ru'
    exact ⟨i, j, rfl, q _ H (Same.refl H) rfl⟩
  · cases e
theorem cs_min2 : CallS K (fun xs H Q => ∃ i j, xs = [.int i, .int j] ∧ Q (.int (if j < i then j else i)) H) o_min2 := by
  intro ρ H S ds d vs Q R r e q
  unfold o_min2 at e
  split at e
  · rename_i i j
    cases e
    obtain ⟨v, u, rfl, rv, ru⟩ := two_of r
    have rv' : v = .int i := rv
    have ru' : u = .int j := ru
    subst rv' ru'
    exact ⟨i, j, rfl, q _ H (Same.refl H) rfl⟩
  · cases e
/-- tuple(x) -/
def o_tuple (S : Sto) : List D → Option D
  | [d] => (seqOf S d).map .tup
  | _ => none
theorem cs_tuple : CallS K (fun xs H Q => ∃ p ys, xs = [.ref p] ∧ ((SqL K H p ys ∧ ∀ l, H l = none → Q (.ref l) (upd H l (.tup ys))) ∨ (SqT K H p ys ∧ Q (.ref p) H))) o_tuple := by
  intro ρ H S ds d vs Q R r e q
  unfold o_tuple at e
  split at e
  · rename_i a
    obtain ⟨es, e1, rfl⟩ := Option.map_eq_some_iff.mp e
    obtain ⟨v, rfl, rv⟩ := one_of r
    obtain ⟨p, xs, rfl, h1, h2⟩ := seq_rel R e1 rv
    rcases h1 with h1 | h1
    · refine ⟨p, xs, rfl, .inl ⟨h1, fun l hl => ?_⟩⟩
      have s : Same H (upd H l (.tup xs)) := same_new hl
      exact q _ _ s ⟨l, xs, rfl, SqT.of upd_same, (Up.same (K := K) (ρ := ρ) (S := S) s).relL h2⟩
    · exact ⟨p, xs, rfl, .inr ⟨h1, q _ H (Same.refl H) ⟨p, xs, rfl, h1, h2⟩⟩⟩
  · cases e
/-- list(x) -/
def o_list (S : Sto) : List D → Option (List D)
  | [d] => seqOf S d
  | _ => none
theorem cf_list : CallF K (fun xs H Q => ∃ p ys, xs = [.ref p] ∧ (SqL K H p ys ∨ SqT K H p ys) ∧ ∀ l, H l = none → Q (.ref l) (upd H l (.lst ys))) o_list := by
  intro ρ H S ds es vs Q R r e q
  unfold o_list at e
  split at e
  · rename_i a
    obtain ⟨v, rfl, rv⟩ := one_of r
    obtain ⟨p, xs, rfl, h1, h2⟩ := seq_rel R e rv
    exact ⟨p, xs, rfl, h1, fun l hl => q l xs _ h2 hl (same_new hl) upd_same⟩
  · cases e
end

/-! ### isinstance -/
def tyN (S : Sto) : D → Option String
  | .non => some "NoneType"
  | .bl _ => some "bool"
  | .int _ => some "int"
  | .str _ => some "str"
  | .tup _ => some "tuple"
  | .lst _ => some "list"
  | .ref n => match S[n]? with
    | some (some (.lst _)) => some "list"
    | _ => none
def subT (a T : String) : Bool := a == T || (a == "bool" && T == "int")
def kindTs : List String := ["NoneType", "bool", "int", "str", "tuple", "list"]
def askTs : List String := ["bool", "int", "str", "tuple", "list", "dict"]
theorem kit_all : ∀ a ∈ kindTs, ∀ T ∈ askTs, kitB a T = some (subT a T) := by decide +kernel
def isiE (T : String) (m : EM) : EM := fun env S => bd (m env S) fun d S1 => lf ((tyN S1 d).map fun a => .bl (subT a T)) S1
def isiTE (Ts : List String) (m : EM) : EM := fun env S => bd (m env S) fun d S1 => if Ts.length ≤ 1000 then lf ((tyN S1 d).map fun a => .bl (Ts.any (subT a))) S1 else .err
section
variable {K : PySem.W.Frag} {ρ : List Addr} {H : Hp} {S : Sto} {d : D} {v : V} {a : String}
theorem tyN_mem (h : tyN S d = some a) : a ∈ kindTs := by
  cases d <;> first
    | (cases h; decide)
    | (simp only [tyN] at h; split at h <;> first | (cases h; decide) | cases h)
theorem tyN_ok (R : RS K ρ H S) (h : tyN S d = some a) (r : RelD K H (Al ρ S) ρ v d) : TyX K H v (.type a) := by
  have lst : ∀ {p : Addr} {xs : List V}, Rd H p (.lst xs) → TyX K H (.ref p) (.type "list") := fun {p xs} z => by
    rcases z with z | ⟨o, z⟩
    · exact .base (.lst z)
    · exact .base (.frz z)
  cases d with
  | non => cases h; have r' : v = .non := r; subst r'; exact .base .non
  | bl b => cases h; have r' : v = .bl b := r; subst r'; exact .base (.bl b)
  | int b => cases h; have r' : v = .int b := r; subst r'; exact .base (.int b)
  | str b => cases h; have r' : v = .str b := r; subst r'; exact .base (.str b)
  | tup ds =>
    cases h
    obtain ⟨p, xs, rfl, h1, _⟩ := r
    rcases h1 with (h1 | ⟨o, h1⟩) | ⟨o, its, n, h1, h2, _⟩
    · exact .base (.tup h1)
    · exact .fTuple h1
    · exact .kTuple h1 h2
  | lst ds =>
    cases h
    obtain ⟨p, xs, rfl, h1, _⟩ := r
    rcases h1 with h1 | ⟨o, its, n, k1, k2, _⟩
    · exact lst h1.1
    · exact .kList k1 k2
  | ref n =>
    simp only [tyN] at h
    split at h
    · rename_i ds hS
      cases h
      obtain ⟨p, rfl, hp⟩ := r
      obtain ⟨xs, h1, _⟩ := R.obj n _ p hS hp
      exact lst (.inl h1)
    · cases h
end
section
variable {X : Cx} {W : WX} {pos p q : Pos} {e : Expr} {m : EM} {T x : String}
theorem y_isi (hT : T ∈ askTs) (he : PE X e (tE X.K X.mg W m)) (hm : X.mg "isinstance" = none) (hmT : X.mg (Str.ofString T) = none) (hvT : bootBuiltins (Str.ofString T) = some (.type T)) (hg : Gl X "isinstance" := by rfl) (hgT : Gl X (Str.ofString T) := by rfl) (hn : Str.ofString T ≠ "__name__" := by decide) (hdb : (Str.ofString T == ("__debug__" : Str)) = false := by decide)
    (h1 : starEach (e :: [.Name (Str.ofString T) q]) X.env = (false, eval e X.env) :: starEach [.Name (Str.ofString T) q] X.env := by rfl) : PE X (.Call (.Name "isinstance" p) [e, .Name (Str.ofString T) q] [] pos) (tE X.K X.mg W (isiE T m)) :=
  (pe_callB (he := h1) call_isi hg hm PyProof.Rows.boot_isinstance (pa_cons he (pa_cons (pe_bltn (v := .ty T) hgT hmT hvT rfl hn hdb) pa_nil) h1)).imp fun σ H Q ⟨ρ, env, S, R, V, w⟩ => tE_seq R V (wpM_mono (wpM_bd w) (fun d S1 w1 ρ1 v H1 R1 V1 U1 r1 => by
    obtain ⟨b, e1, k⟩ := wpM_lf w1
    obtain ⟨a, e2, rfl⟩ := Option.map_eq_some_iff.mp e1
    exact ⟨v, .ty T, .type a, .type T, subT a T, rfl, .ty T, tyN_ok R1 e2 r1, kit_ty (kit_all a (tyN_mem e2) T hT), k ρ1 _ H1 R1 U1 rfl⟩) fun _ _ _ q => q)
theorem kitAny_ts {K : PySem.W.Frag} {a : String} (ha : a ∈ kindTs) : ∀ Ts : List String, (∀ T ∈ Ts, T ∈ askTs) → PySem.W.kitAny K (.type a) (Ts.map Value.type) = some (Ts.any (subT a))
  | [], _ => kitAny_nil
  | T :: Ts, h => by
    have ih := kitAny_ts (K := K) ha Ts fun T' h' => h T' (List.mem_cons_of_mem _ h')
    have h1 := kit_ty (K := K) (kit_all a ha T (h T List.mem_cons_self))
    rw [List.any_cons]
    cases hb : subT a T with
    | true => exact kitAny_cons (b := true) (by rw [← hb]; exact h1) (fun z => by cases z) fun _ => by simp
    | false => exact kitAny_cons (b := false) (by rw [← hb]; exact h1) (fun _ => by simpa using ih) fun z => by cases z
/-- isinstance(e, (T, x)) -/
theorem y_isi2 {p2 q2 : Pos} {k : Nat} (hT : T ∈ askTs) (hx : x ∈ askTs) (he : PE X e (tE X.K X.mg W m)) (hm : X.mg "isinstance" = none) (hmT : X.mg (Str.ofString T) = none) (hmx : X.mg (Str.ofString x) = none) (hvT : bootBuiltins (Str.ofString T) = some (.type T)) (hvx : bootBuiltins (Str.ofString x) = some (.type x))
    (hg : Gl X "isinstance" := by rfl) (hgT : Gl X (Str.ofString T) := by rfl) (hgx : Gl X (Str.ofString x) := by rfl) (hn : Str.ofString T ≠ "__name__" := by decide) (hdb : (Str.ofString T == ("__debug__" : Str)) = false := by decide) (hn2 : Str.ofString x ≠ "__name__" := by decide) (hdb2 : (Str.ofString x == ("__debug__" : Str)) = false := by decide)
    (h1 : starEach (e :: [.Tuple [.Name (Str.ofString T) q, .Name (Str.ofString x) q2] k p2]) X.env = (false, eval e X.env) :: starEach [.Tuple [.Name (Str.ofString T) q, .Name (Str.ofString x) q2] k p2] X.env := by rfl) :
    PE X (.Call (.Name "isinstance" p) [e, .Tuple [.Name (Str.ofString T) q, .Name (Str.ofString x) q2] k p2] [] pos) (tE X.K X.mg W (isiTE [T, x] m)) :=
  (pe_callB (he := h1) call_isiT hg hm PyProof.Rows.boot_isinstance (pa_cons he (pa_cons (pe_tup (pa_cons (pe_bltn (v := .ty T) hgT hmT hvT rfl hn hdb) (pa_cons (pe_bltn (v := .ty x) hgx hmx hvx rfl hn2 hdb2) pa_nil))) pa_nil) h1)).imp fun σ H Q ⟨ρ, env, S, R, V, w⟩ => tE_seq R V (wpM_mono (wpM_bd w) (fun d S1 w1 ρ1 v H1 R1 V1 U1 r1 => by
    split at w1
    · obtain ⟨b, e1, k⟩ := wpM_lf w1
      obtain ⟨a, e2, rfl⟩ := Option.map_eq_some_iff.mp e1
      refine ⟨by show 2 ≤ sizeLine; decide, fun l hl => ?_⟩
      have s : Same H1 (upd H1 l (.tup [.ty T, .ty x])) := same_new hl
      exact ⟨v, l, [.ty T, .ty x], .type a, [.type T, .type x], _, rfl, upd_same, .cons (.ty T) (.cons (.ty x) .nil), tyN_ok (R1.same s) e2 ((Up.same (K := X.K) (ρ := ρ1) (S := S1) s).relD r1),
        kitAny_ts (tyN_mem e2) [T, x] (fun T' h => by rcases List.mem_cons.mp h with h | h; · rw [h]; exact hT
                                                      · rw [List.mem_singleton.mp h]; exact hx), k ρ1 _ _ (R1.same s) (U1.trans (Up.same s)) rfl⟩
    · exact w1.elim) fun _ _ _ q => q)
end

/-! ### methods -/
def tyD (T : String) (S : Sto) : D → Bool
  | .str _ => T == "str"
  | .int _ => T == "int"
  | .lst _ => T == "list"
  | .ref n => match S[n]? with
    | some (some (.lst _)) => T == "list"
    | _ => false
  | _ => false
theorem tyD_ok {K : PySem.W.Frag} {ρ : List Addr} {H : Hp} {S : Sto} {d : D} {v : V} {T : String} (R : RS K ρ H S) (h : tyD T S d = true) (r : RelD K H (Al ρ S) ρ v d) : tyV K T v H := by
  cases d with
  | str z => have r' : v = .str z := r; subst r'; exact eq_of_beq h
  | int z => have r' : v = .int z := r; subst r'; exact eq_of_beq h
  | lst ds =>
    obtain ⟨a, xs, rfl, h1, _⟩ := r
    exact .inl ⟨eq_of_beq h, xs, h1.sq⟩
  | ref n =>
    simp only [tyD] at h
    split at h
    · rename_i ds hS
      obtain ⟨a, rfl, ha⟩ := r
      obtain ⟨xs, h1, _⟩ := R.obj n _ a hS ha
      exact .inl ⟨eq_of_beq h, xs, .inl (.inl h1)⟩
    · cases h
  | _ => cases h
abbrev MF := Sto → D → List D → Option (D × Sto)
def meth (T : String) (f : MF) (o : EM) (l : LM) : EM := fun env S => bd (o env S) fun x S1 => if tyD T S1 x then bd (l env S1) fun ds S2 => match f S2 x ds with
  | some (d, S3) => .ok d S3
  | none => .err else .err
/-- f tells what a method's rule r needs -/
def MtS (K : PySem.W.Frag) (r : V → List V → Hp → VK → Prop) (f : MF) : Prop := ∀ (ρ : List Addr) (H : Hp) (S S' : Sto) (x d : D) (ds : List D) (v : V) (vs : List V) (Q : VK), RS K ρ H S → RelD K H (Al ρ S) ρ v x → RelL K H (Al ρ S) ρ vs ds → f S x ds = some (d, S') →
    (∀ ρ' w H', RS K ρ' H' S' → Up K ρ H S ρ' H' S' → RelD K H' (Al ρ' S') ρ' w d → Q w H') → r v vs H Q
section
variable {X : Cx} {W : WX} {apos cpos : Pos} {o e : Expr} {es : List Expr} {mo : EM} {l : LM} {T id : String} {name : Str} {r : V → List V → Hp → VK → Prop} {f : MF}
theorem y_bm (hm : MtR X id r) (h : MtS X.K r f) (pa : PlainAttrs T) (slot : Slot T name id) (hty : typeOf (.builtin id) = pure (.type "method_descriptor")) (ho : PE X o (tE X.K X.mg W mo)) (ha : PA X (e :: es) (tA X.K X.mg W l))
    (hbase : attributeBase o name X.env (eval o X.env) = eval o X.env := by rfl)
    (hfew : ((backTo cpos (starEach (e :: es) X.env)).all (fun x => !x.1) && (backToKw cpos (keywordEach [] X.env)).all (fun x => x.1.isSome)
      && decide ((e :: es).length + ([] : List Keyword).length + (if ([] : List Keyword).isEmpty then 0 else 1) < 30)) = true := by rfl)
    (hline : (apos.endLine == cpos.line) = true := by rfl) (hs : starEach (e :: es) X.env = (false, eval e X.env) :: starEach es X.env := by rfl) (hplain : (backTo cpos (starEach es X.env)).any (·.1) = false := by rfl) :
    PE X (.Call (.Attribute o name apos) (e :: es) [] cpos) (tE X.K X.mg W (meth T f mo l)) :=
  (pe_bm pa slot hty hm ho ha hbase hfew hline hs hplain).imp fun σ H Q ⟨ρ, env, S, R, V, w⟩ => tE_seq R V (wpM_mono (wpM_bd w) (fun x S1 w1 ρ1 v H1 R1 V1 U1 r1 => by
    split at w1
    · rename_i hty
      refine ⟨tyD_ok R1 hty r1, tA_seq R1 V1 (wpM_mono (wpM_bd w1) (fun ds S2 w2 ρ2 vs H2 R2 V2 U2 r2 => ?_) fun _ _ _ q => q.up U1)⟩
      split at w2
      · rename_i d S3 e3
        exact h ρ2 H2 S2 S3 x d ds v vs Q R2 (U2.relD r1) r2 e3 fun ρ' w' H' R' U' k => w2 ρ' w' H' R' ((U1.trans U2).trans U') k
      · exact w2.elim
    · exact w1.elim) fun _ _ _ q => q)
theorem y_bm0 (hm : MtR X id r) (h : MtS X.K r f) (pa : PlainAttrs T) (slot : Slot T name id) (hty : typeOf (.builtin id) = pure (.type "method_descriptor")) (ho : PE X o (tE X.K X.mg W mo))
    (hbase : attributeBase o name X.env (eval o X.env) = eval o X.env := by rfl) (hline : (apos.endLine == cpos.line) = true := by rfl) :
    PE X (.Call (.Attribute o name apos) [] [] cpos) (tE X.K X.mg W (meth T f mo lnil)) :=
  (pe_bm0 pa slot hty hm ho hbase hline).imp fun σ H Q ⟨ρ, env, S, R, V, w⟩ => tE_seq R V (wpM_mono (wpM_bd w) (fun x S1 w1 ρ1 v H1 R1 V1 U1 r1 => by
    split at w1
    · rename_i hty
      refine ⟨tyD_ok R1 hty r1, ?_⟩
      simp only [lnil, bd] at w1
      split at w1
      · rename_i d S3 e3
        exact h ρ1 H1 S1 S3 x d [] v [] Q R1 r1 rfl e3 fun ρ' w' H' R' U' k => w1 ρ' w' H' R' (U1.trans U') k
      · exact w1.elim
    · exact w1.elim) fun _ _ _ q => q)
end
section
variable {K : PySem.W.Frag}
/-- a method that changes the list at n -/
def chg (S : Sto) (x : D) (k : List D → Option (D × List D)) : Option (D × Sto) := match x with
  | .ref n => match S[n]? with
    | some (some (.lst ds)) => (k ds).map fun p => (p.1, S.set n (some (.lst p.2)))
    | _ => none
  | _ => none
theorem chg_ok {ρ : List Addr} {H : Hp} {S S' : Sto} {x d : D} {v : V} {k : List D → Option (D × List D)} (R : RS K ρ H S) (r : RelD K H (Al ρ S) ρ v x) (e : chg S x k = some (d, S')) :
    ∃ n a xs ds es, x = .ref n ∧ v = .ref a ∧ H a = some (.lst xs) ∧ RelL K H (Al ρ S) ρ xs ds ∧ k ds = some (d, es) ∧ S' = S.set n (some (.lst es)) ∧
      ∀ ys, RelL K H (Al ρ S) ρ ys es → RS K ρ (upd H a (.lst ys)) S' ∧ Up K ρ H S ρ (upd H a (.lst ys)) S' := by
  cases x with
  | ref n =>
    simp only [chg] at e
    split at e
    · rename_i ds hS
      obtain ⟨⟨d', es⟩, e1, e2⟩ := Option.map_eq_some_iff.mp e
      cases e2
      obtain ⟨a, rfl, ha⟩ := r
      obtain ⟨xs, h1, h2⟩ := R.obj n _ a hS ha
      exact ⟨n, a, xs, ds, es, rfl, rfl, h1, h2, e1, rfl, fun ys ry => ⟨R.set hS ha h1 ry, Up.set hS ha h1⟩⟩
    · cases e
  | _ => cases e
def m_append : MF := fun S x vs => match vs with
  | [y] => chg S x fun ds => if ds.length < sizeLine then some (.non, ds ++ [y]) else none
  | _ => none
theorem ms_append : MtS K rAppend m_append := by
  intro ρ H S S' x d ds v vs Q R rx rl e q
  unfold m_append at e
  split at e
  · rename_i y
    obtain ⟨n, a, xs, es, fs, rfl, rfl, h1, h2, e1, rfl, k⟩ := chg_ok R rx e
    obtain ⟨u, rfl, ru⟩ := one_of rl
    split at e1
    · rename_i hl
      cases e1
      obtain ⟨R', U'⟩ := k (xs ++ [u]) (h2.append (RelL.cons ru RelL.nil))
      exact ⟨a, xs, u, rfl, rfl, h1, by rw [h2.length]; exact hl, q ρ .non _ R' U' rfl⟩
    · cases e1
  · cases e
def m_pop : MF := fun S x vs => match vs with
  | [] => chg S x fun ds => (ds[ds.length - 1]?).map fun y => (y, ds.dropLast)
  | _ => none
theorem ms_pop : MtS K rPop m_pop := by
  intro ρ H S S' x d ds v vs Q R rx rl e q
  unfold m_pop at e
  split at e
  · obtain ⟨n, a, xs, es, fs, rfl, rfl, h1, h2, e1, rfl, k⟩ := chg_ok R rx e
    have rl' : vs = [] := rl
    obtain ⟨y, e2, e3⟩ := Option.map_eq_some_iff.mp e1
    cases e3
    obtain ⟨u, f1, f2⟩ := h2.getLast e2
    obtain ⟨R', U'⟩ := k xs.dropLast h2.dropLast
    exact ⟨a, xs, u, rfl, rl', h1, f1, q ρ u _ R' U' (U'.relD f2)⟩
  · cases e
def m_popAt : MF := fun S x vs => match vs with
  | [.int i] => if -(2 ^ 63) ≤ i ∧ i < 2 ^ 63 then chg S x fun ds => (seqIndex? i ds.length).bind fun k => (ds[k]?).map fun y => (y, ds.eraseIdx k) else none
  | _ => none
theorem ms_popAt : MtS K rPopAt m_popAt := by
  intro ρ H S S' x d ds v vs Q R rx rl e q
  unfold m_popAt at e
  split at e
  · rename_i i
    split at e
    · rename_i hi
      obtain ⟨n, a, xs, es, fs, rfl, rfl, h1, h2, e1, rfl, k⟩ := chg_ok R rx e
      obtain ⟨u, rfl, ru⟩ := one_of rl
      have ru' : u = .int i := ru
      subst ru'
      obtain ⟨j, e2, e3⟩ := Option.bind_eq_some_iff.mp e1
      obtain ⟨y, e4, e5⟩ := Option.map_eq_some_iff.mp e3
      cases e5
      obtain ⟨w, f1, f2⟩ := h2.get e4
      obtain ⟨R', U'⟩ := k (xs.eraseIdx j) (h2.erase j)
      exact ⟨a, xs, i, j, w, rfl, rfl, h1, hi.1, hi.2, by rw [h2.length]; exact e2, f1, q ρ w _ R' U' (U'.relD f2)⟩
    · cases e
  · cases e
def strsOf : List D → Option (List Str)
  | [] => some []
  | .str s :: ds => (strsOf ds).map fun l => s :: l
  | _ => none
theorem strsOf_map : ∀ {ds : List D} {ys : List Str}, strsOf ds = some ys → ds = ys.map D.str
  | [], ys, h => by cases h; rfl
  | .str s :: ds, ys, h => by
    have h' : (strsOf ds).map (fun l => s :: l) = some ys := h
    obtain ⟨l, e, rfl⟩ := Option.map_eq_some_iff.mp h'
    rw [strsOf_map e]; rfl
  | .non :: _, _, h => by cases h
  | .bl _ :: _, _, h => by cases h
  | .int _ :: _, _, h => by cases h
  | .tup _ :: _, _, h => by cases h
  | .lst _ :: _, _, h => by cases h
  | .ref _ :: _, _, h => by cases h
def m_join : MF := fun S x vs => match x, vs with
  | .str a, [d] => (seqOf S d).bind fun ds => (strsOf ds).bind fun ys => if (ys.map (·.length)).sum + ys.length * a.length ≤ 16777216 then some (.str (Txt.join a ys), S) else none
  | _, _ => none
theorem ms_join : MtS K (fun x xs H Q => ∃ a p, ∃ ys : List Str, x = .str a ∧ xs = [.ref p] ∧ (SqL K H p (ys.map V.str) ∨ SqT K H p (ys.map V.str)) ∧ (ys.map (·.length)).sum + ys.length * a.length ≤ 16777216 ∧ Q (.str (Txt.join a ys)) H) m_join := by
  intro ρ H S S' x d ds v vs Q R rx rl e q
  unfold m_join at e
  split at e
  · rename_i a d'
    obtain ⟨es, e1, e2⟩ := Option.bind_eq_some_iff.mp e
    obtain ⟨ys, e3, e4⟩ := Option.bind_eq_some_iff.mp e2
    split at e4
    · rename_i hz
      cases e4
      have rx' : v = .str a := rx
      obtain ⟨u, rfl, ru⟩ := one_of rl
      obtain ⟨p, xs, rfl, h1, h2⟩ := seq_rel R e1 ru
      rw [strsOf_map e3] at h2
      have h3 := RelL.of_strs h2
      subst h3
      exact ⟨a, p, ys, rx', rfl, h1, hz, q ρ _ H R Up.refl rfl⟩
    · cases e4
  · cases e
end

/-! ### parts -/
abbrev OM := En → Sto → Res (Option Int)
def tOi (K : PySem.W.Frag) (mg : Str → Option Value) (W : WX) (m : OM) : TO := fun σ H Q => ∃ ρ env S, RS K ρ H S ∧ RV K ρ σ H S env ∧ wpM (m env S) (fun o S' => ∀ ρ' H', RS K ρ' H' S' → Up K ρ H S ρ' H' S' → Q o H') (PostX K mg W ρ σ H S)
def onoM : OM := fun _ S => .ok none S
def osmM (m : EM) : OM := fun env S => bd (m env S) fun d S1 => match d with
  | .int i => .ok (some i) S1
  | _ => .err
/-- the items from lo to hi -/
def cutL (xs : List D) (lo hi : Option Int) : List D := (xs.drop (HT.sIx xs.length 0 lo)).take (HT.sIx xs.length xs.length hi - HT.sIx xs.length 0 lo)
def o_cut (S : Sto) (d : D) (lo hi : Option Int) : Option D := match d with
  | .tup ds => some (.tup (cutL ds lo hi))
  | .str z => if z.length ≤ sizeLine then some (.str (cutS z lo hi)) else none
  | _ => none
def cut (f : Sto → D → Option Int → Option Int → Option D) (m : EM) (a b : OM) : EM := fun env S => bd (m env S) fun d S1 => bd (a env S1) fun lo S2 => bd (b env S2) fun hi S3 => lf (f S3 d lo hi) S3
def cutF (m : EM) (a b : OM) : LM := fun env S => bd (m env S) fun d S1 => bd (a env S1) fun lo S2 => bd (b env S2) fun hi S3 => lf ((lstOf S3 d).map fun ds => cutL ds lo hi) S3
section
variable {X : Cx} {W : WX} {pos p2 : Pos} {e : Expr} {m : EM} {lo hi : Option Expr} {a b : OM}
theorem PO_imp {e : Option Expr} {t t' : TO} (h : PO X e t) (i : ∀ σ H Q, t' σ H Q → t σ H Q) : PO X e t' := ⟨fun pins s σ H Q I q => h.run pins s σ H Q I (i σ H Q q)⟩
theorem y_ono : PO X none (tOi X.K X.mg W onoM) := PO_imp po_none fun σ H Q ⟨ρ, env, S, R, V, w⟩ => w ρ H R Up.refl
theorem y_osm (h : PE X e (tE X.K X.mg W m)) : PO X (some e) (tOi X.K X.mg W (osmM m)) := PO_imp (po_some h) fun σ H Q ⟨ρ, env, S, R, V, w⟩ => tE_seq R V (wpM_mono (wpM_bd w) (fun d S1 w1 ρ1 v H1 R1 V1 U1 r1 => by
  cases d with
  | int i => exact ⟨i, r1, w1 ρ1 H1 R1 U1⟩
  | _ => exact w1.elim) fun _ _ _ q => q)
theorem relL_cut {K : PySem.W.Frag} {H : Hp} {A : Addr → Prop} {ρ : List Addr} {xs : List V} {ds : List D} (r : RelL K H A ρ xs ds) (lo hi : Option Int) : RelL K H A ρ (cutV xs lo hi) (cutL ds lo hi) := by
  unfold cutV cutL
  rw [r.length]
  exact (r.drop _).take _
theorem cutL_all {ds : List D} {lo hi : Option Int} (h : HT.sIx ds.length 0 lo = 0 ∧ HT.sIx ds.length ds.length hi = ds.length) : cutL ds lo hi = ds := by
  unfold cutL
  rw [h.1, h.2]; simp
def rCutA (K : PySem.W.Frag) : V → Option Int → Option Int → Hp → VK → Prop := fun x lo hi H Q => rSlA K x lo hi H Q ∨ rSlS x lo hi H Q
theorem y_cut (h : PE X e (tE X.K X.mg W m)) (ha : PO X lo (tOi X.K X.mg W a)) (hb : PO X hi (tOi X.K X.mg W b)) : PE X (.Subscript e (.Slice lo hi none p2) pos) (tE X.K X.mg W (cut o_cut m a b)) :=
  (pe_slice (sl_tupA.or sl_str) h ha hb).imp fun σ H Q ⟨ρ, env, S, R, V, w⟩ => tE_seq R V (wpM_mono (wpM_bd w) (fun d S1 w1 ρ1 v H1 R1 V1 U1 r1 => ⟨ρ1, env, S1, R1, V1, wpM_mono (wpM_bd w1) (fun lo S2 w2 ρ2 H2 R2 U2 =>
    ⟨ρ2, env, S2, R2, U2.rv V1, wpM_mono (wpM_bd w2) (fun hi S3 w3 ρ3 H3 R3 U3 => by
      obtain ⟨c, e1, k⟩ := wpM_lf w3
      have U := (U1.trans U2).trans U3
      have r3 := (U2.trans U3).relD r1
      cases d with
      | tup ds =>
        cases e1
        obtain ⟨p, xs, rfl, h1, h2⟩ := r3
        refine .inl ⟨p, xs, rfl, h1, fun z => ?_, fun z n np => ?_⟩
        · rw [h2.length] at z
          exact k ρ3 _ H3 R3 U ⟨p, xs, rfl, h1, by rw [cutL_all z]; exact h2⟩
        · have s : Same H3 (upd H3 n (.tup (cutV xs lo hi))) := same_new np
          exact k ρ3 _ _ (R3.same s) (U.trans (Up.same s)) ⟨n, _, rfl, SqT.of upd_same, (Up.same (K := X.K) (ρ := ρ3) (S := S3) s).relL (relL_cut h2 lo hi)⟩
      | str z =>
        simp only [o_cut] at e1
        split at e1
        · rename_i hl
          cases e1
          exact .inr ⟨z, r3, hl, k ρ3 _ H3 R3 U rfl⟩
        · cases e1
      | _ => cases e1) fun _ _ _ q => q.up (U1.trans U2)⟩) fun _ _ _ q => q.up U1⟩) fun _ _ _ q => q)
theorem y_cutF (h : PE X e (tE X.K X.mg W m)) (ha : PO X lo (tOi X.K X.mg W a)) (hb : PO X hi (tOi X.K X.mg W b)) : PE X (.Subscript e (.Slice lo hi none p2) pos) (tF X.K X.mg W (cutF m a b)) :=
  (pe_slice sl_list h ha hb).imp fun σ H Q ⟨ρ, env, S, R, V, w⟩ => tE_seq R V (wpM_mono (wpM_bd w) (fun d S1 w1 ρ1 v H1 R1 V1 U1 r1 => ⟨ρ1, env, S1, R1, V1, wpM_mono (wpM_bd w1) (fun lo S2 w2 ρ2 H2 R2 U2 =>
    ⟨ρ2, env, S2, R2, U2.rv V1, wpM_mono (wpM_bd w2) (fun hi S3 w3 ρ3 H3 R3 U3 => by
      obtain ⟨c, e1, k⟩ := wpM_lf w3
      obtain ⟨ds, e2, rfl⟩ := Option.map_eq_some_iff.mp e1
      have U := (U1.trans U2).trans U3
      obtain ⟨p, xs, rfl, h1, h2⟩ := lst_rel R3 e2 ((U2.trans U3).relD r1)
      exact ⟨p, xs, rfl, h1, fun n np => k ρ3 n _ H3 _ R3 U (relL_cut h2 lo hi) np (same_new np) upd_same⟩) fun _ _ _ q => q.up (U1.trans U2)⟩) fun _ _ _ q => q.up U1⟩) fun _ _ _ q => q)
end
end Y

end
section
set_option Elab.async false
set_option linter.all false
set_option maxRecDepth 100000
set_option maxHeartbeats 4000000
set_option autoImplicit false
/-! enumerate of a tuple -/
namespace PySem
theorem y_meets_enum {v : Value} {o : Obj} {H : Heap → Prop} (B : Begins v o H) :
    Meets (Builtin.«enumerate.__new__» ⟨[.type "enumerate", v], []⟩) (fun _ R s => H s.heap ∧
      R (.ok (.ret (.ref (s.heap.push o).objs.size))) { s with heap := (s.heap.push o).push { cls := .type "enumerate", data := .fields #[.none, .bool false, .ref s.heap.objs.size, rawInt 0, .none, .none] } }) :=
  .of_wp fun prog w A R s h => by
    obtain ⟨hp, g, d, tk, os⟩ := s
    obtain ⟨h1, h⟩ := h
    have hsub := sub_enumerate
    have q1 : ∀ {A' : Around} {E : Value → Shared → Prop} {Q : Value → Shared → Prop}, Q (.ref hp.objs.size) ⟨(hp.push o), g, d, tk, os⟩ → wpAny (model prog w) A' (pyIter v) Q E ⟨hp, g, d, tk, os⟩ :=
      fun q => B.iter prog w _ _ ⟨hp, g, d, tk, os⟩ _ h1 q
    wp_walk
    refine wpAny_stack_any fun st => wpAny_pure ?_
    split
    · rename_i c _ _ _ _ _
      cases (c == Value.type "enumerate")
      · wp_walk using q1
        exact ⟨_, rfl, h⟩
      · wp_walk using q1
        exact ⟨_, rfl, h⟩
    · wp_walk using q1
      exact ⟨_, rfl, h⟩
theorem y_call_enum {prog : Program} {w : World} {A : Around} {E : Value → Shared → Prop} {s : Shared} {v : Value} {o : Obj} {H : Heap → Prop} {Q : Value → Shared → Prop} (B : Begins v o H) (hs : H s.heap)
    (h : ∀ h', IsEnum h' (s.heap.objs.size + 1) s.heap.objs.size 0 .none → h'.get? s.heap.objs.size = some o → h'.objs.size = s.heap.objs.size + 2 →
      (∀ b o, s.heap.get? b = some o → h'.get? b = some o) → Q (.ref (s.heap.objs.size + 1)) { s with heap := h' }) :
    wpAny (model prog w) A (call (.type "enumerate") [v]) Q E s := by
  refine callType_new F.called_enumerate (by decide) (F.typeCall_enumerate_1 _) (F.newCall_enumerate_1 _) (fun obj => F.args_object_init_2 obj _) F.entry_enumerate_new
    (y_meets_enum B) ⟨hs, ?_⟩
  have hz : (s.heap.push o).objs.size = s.heap.objs.size + 1 := Heap.size_push ..
  show _ ∧ _
  rw [hz]
  have he : IsEnum ((s.heap.push o).push { cls := .type "enumerate", data := .fields #[.none, .bool false, .ref s.heap.objs.size, rawInt 0, .none, .none] }) (s.heap.objs.size + 1) s.heap.objs.size 0 .none := by
    have := Heap.get?_push_size (s.heap.push o)
      (o := { cls := .type "enumerate", data := .fields #[.none, .bool false, .ref s.heap.objs.size, rawInt 0, .none, .none] }) rfl
    rw [hz] at this; exact this
  exact ⟨⟨_, he, rfl⟩, h _ he (Heap.get?_push_of_some _ (Heap.get?_push_size _ B.free)) (by rw [Heap.size_push, hz]) fun b o x => Heap.get?_push_of_some _ (Heap.get?_push_of_some _ x)⟩
end PySem
namespace L2
open PySem PySem.Spec PyProof.Rows
/-- the tuple at a, each item in a new pair -/
def IteT (K : PySem.W.Frag) (a : Addr) : It :=
  ⟨fun i H => ∃ (xs : List V) (x : V), SqT K H a xs ∧ xs[i]? = some x, fun i H v H' => ∃ T x, v = .ref T ∧ H T = none ∧ H' = upd H T (.tup [.int (i : Nat), x]) ∧ ∀ xs, SqT K H a xs → xs[i]? = some x, fun i H => ∃ xs : List V, SqT K H a xs ∧ xs.length = i⟩
theorem turn_enumT {P : Program} {w : World} {K : PySem.W.Frag} {elts : List Expr} {kk : Nat} {tpos : Pos} (a e it : Addr) :
    Turn P w K (.Tuple elts kk tpos) (IteT K a) [e, it] e (fun i h => (∃ old, IsEnum h e it ((i : Nat) : Int) old) ∧ h.IsTupleIter it a i ∧ e ≠ it ∧ a ≠ it ∧ e ≠ a) where
  mem := by simp
  obj := fun i h st b hb => by
    obtain ⟨⟨old, he⟩, ⟨o, ho, hc, hd⟩, _⟩ := st
    have e' : b = e ∨ b = it := by simpa using hb
    rcases e' with z | z
    · rw [z]; exact ⟨_, he, fun v q => nomatch q⟩
    · rw [z]; exact ⟨o, ho, fun v q => by rw [hd] at q; cases q⟩
  keep := fun i h h' st k => let ⟨⟨old, he⟩, hi, hne⟩ := st; ⟨⟨old, k e (by simp) _ he⟩, hi.at fun o q => k it (by simp) o q, hne⟩
  item := by
    intro X hP hw hK hc i pins s σ H E I hf st hg
    subst hP hw hK
    obtain ⟨⟨old, he⟩, hit, hne, hai, hea⟩ := st
    obtain ⟨xs, x, hq, hx⟩ := hg
    obtain ⟨its, rv, p, hz⟩ := I.tuple hq
    obtain ⟨u, hu, ru⟩ := rv.get hx
    have hel : e < s.heap.objs.size := Heap.lt_size he
    have hil : it < s.heap.objs.size := by obtain ⟨_, q, _⟩ := hit; exact Heap.lt_size q
    have hlt : i < its.toArray.size := by
      rw [List.size_toArray]; exact (List.getElem?_eq_some_iff.mp hu).1
    have p' : s.heap.IsTuple a its.toArray := p
    refine wpAny_pyNext_enum_itemD (Draws.tuple (A := X.A.in1) (I.ok.hd hc) it a hai its.toArray) he ⟨hit, p'⟩ hlt hne (by simp [hne, hea]) fun u' h' tk hx' ho st' hT hsz hk => ?_
    obtain ⟨hit', _⟩ := st'
    have eu : u' = u := by
      have e1 : its[i]? = some u' := by simpa using hx'
      rw [hu] at e1; exact (Option.some.inj e1).symm
    subst eu
    refine ⟨_, rfl, wpAny_letOwnedTupleGo_enum (s := { s with heap := h', toks := tk + 1 }) ho fun h'' he' sb => ?_⟩
    have hT2 : h''.get? s.heap.objs.size = some { cls := .type "tuple", data := .seq #[.int i tk, u'] } := (sb.2 _ (Nat.ne_of_gt hel)).trans hT
    have new : ObjOk X.prog X.w (upd H s.heap.objs.size (.tup [.int (i : Nat), x])) h'' s.heap.objs.size (.tup [.int (i : Nat), x]) :=
      ⟨by show 2 ≤ sizeLine; decide, [.int i tk, u'], .cons ⟨_, rfl⟩ (.cons ru .nil), ⟨_, hT2, rfl, _, rfl⟩⟩
    have I1 : Inv X pins σ (upd H s.heap.objs.size (.tup [.int (i : Nat), x])) { s with heap := h'', toks := tk + 1 } :=
      I.turnedNew (ch := [e, it]) (fun b ob hb q => (sb.2 b (fun z => hb (by simp [z]))).trans (hk b ob (fun z => hb (by simp [z])) (fun z => hb (by simp [z])) q)) hf (Nat.le_refl _) new
    refine ⟨.ref s.heap.objs.size, _, I1, rfl, ⟨_, x, rfl, I.hok.fresh (Nat.le_refl _), rfl, fun ys hy => by rw [I.tuple_inj hy hq]; exact hx⟩, ⟨⟨u', ?_⟩, hit'.at fun o q => (sb.2 it (Ne.symm hne)).trans q, hne, hai, hea⟩, fun b hb => ?_⟩
    · have e1 : ((i + 1 : Nat) : Int) = (i : Int) + 1 := by omega
      rw [e1]; exact he'
    · have hb' : b < s.heap.objs.size := by
        have e' : b = e ∨ b = it := by simpa using hb
        rcases e' with z | z
        · rw [z]; exact hel
        · rw [z]; exact hil
      rw [upd_ne (Nat.ne_of_lt hb')]
      exact (hf b hb).1
  done := by
    intro X hP hw hK hc i pins s σ H E I hf st hg
    subst hP hw hK
    obtain ⟨⟨old, he⟩, hit, hne, hai, hea⟩ := st
    obtain ⟨xs, hq, hx⟩ := hg
    obtain ⟨its, rv, p, hz⟩ := I.tuple hq
    obtain ⟨f0, f1, f2, f3, f4, f5⟩ := hf it (by simp)
    have hl := rv.length
    have p' : s.heap.IsTuple a its.toArray := p
    have hi : its.toArray.size = i := by rw [List.size_toArray]; omega
    subst hi
    exact wpAny_pyNext_enum_endD (Draws.tuple (A := X.A.in1) (I.ok.hd hc) it a hai its.toArray) he ⟨hit, p'⟩ fun h' eb => ⟨rfl, I.turned (t' := s.toks) (fun b o hb q => eb b o hb q) f0 f1 f3 f4 f5⟩
  self := fun A i s Q E st h => let ⟨⟨_, he⟩, _⟩ := st; wpAny_pyIter_enum he h
def iEnumA (K : PySem.W.Frag) (ta : TA) : TI := fun σ H R => ta σ H fun vs H1 => ∃ a xs, vs = [.ref a] ∧ ((SqL K H1 a xs ∧ R (Ite K a) H1) ∨ (SqT K H1 a xs ∧ R (IteT K a) H1))
theorem pi_enumA {X : Cx} {e : Expr} {ta : TA} {p pos tpos : Pos} {elts : List Expr} {kk : Nat} (hg : Gl X "enumerate") (hm : X.mg "enumerate" = none) (ha : PA X [e] ta) (hs : starEach [e] X.env = [(false, eval e X.env)] := by rfl) :
    PI X (.Tuple elts kk tpos) (.Call (.Name "enumerate" p) [e] [] pos) (iEnumA X.K ta) := by
  refine ⟨fun pins s σ H R I h => ?_⟩
  refine Call_ (ld_blt I hg hm boot_enumerate (PyProof.Rows.callWith_type1 (thn (ha.run pos pins s σ H _ I h) fun us s1 ⟨vs, H1, I1, r1, q1⟩ => ?_) hs rfl))
  obtain ⟨a, xs, ex, q1⟩ := q1
  subst ex
  cases r1 with
  | cons r rr =>
    cases rr
    cases r
    have fresh2 : ∀ b ∈ [s1.heap.objs.size + 1, s1.heap.objs.size], FpOk X pins H1 b := fun b hb => by
      have e' : b = s1.heap.objs.size + 1 ∨ b = s1.heap.objs.size := by simpa using hb
      have hle : s1.heap.objs.size ≤ b := by
        rcases e' with z | z
        · rw [z]; exact Nat.le_add_right _ _
        · rw [z]; exact Nat.le_refl _
      exact I1.fpOk hle (I1.hok.fresh hle)
    rcases q1 with ⟨hq, q⟩ | ⟨hq, q⟩
    · obtain ⟨its, rv, p', hz⟩ := I1.list hq
      refine call_enumerate_list p'.isList fun h' he hit hsz hk => wpAny_pyIter_enum he ?_
      have I2 : Inv X pins σ H1 { s1 with heap := h' } := I1.kept (t' := s1.toks) hk
      exact ⟨s1.heap.objs.size + 1, [s1.heap.objs.size + 1, s1.heap.objs.size], _, _, H1, rfl, I2, turn_enum a (s1.heap.objs.size + 1) s1.heap.objs.size, ⟨⟨.none, he⟩, hit, Nat.succ_ne_self _⟩, fresh2, q⟩
    · obtain ⟨its, rv, p', hz⟩ := I1.tuple hq
      have pt : s1.heap.IsTuple a its.toArray := p'
      refine y_call_enum (begins_tuple a its.toArray) pt fun h' he hit hsz hk => wpAny_pyIter_enum he ?_
      have I2 : Inv X pins σ H1 { s1 with heap := h' } := I1.kept (t' := s1.toks) hk
      have hal : a < s1.heap.objs.size := p'.lt
      exact ⟨s1.heap.objs.size + 1, [s1.heap.objs.size + 1, s1.heap.objs.size], _, _, H1, rfl, I2, turn_enumT a (s1.heap.objs.size + 1) s1.heap.objs.size, ⟨⟨.none, he⟩, ⟨_, hit, rfl, rfl⟩, Nat.succ_ne_self _, Nat.ne_of_lt hal, Nat.ne_of_gt (Nat.lt_succ_of_lt hal)⟩, fresh2, q⟩
end L2
namespace Y
open PySem PySem.Spec L2
/-- (0, d0), (1, d1), .. -/
def enL (k : Nat) : List D → List D
  | [] => []
  | d :: ds => .tup [.int k, d] :: enL (k + 1) ds
theorem enL_get : ∀ {ds : List D} {k i : Nat} {d : D}, (enL k ds)[i]? = some d → ∃ x, ds[i]? = some x ∧ d = .tup [.int (k + i : Nat), x]
  | [], _, i, d, h => by simp [enL] at h
  | x :: ds, k, 0, d, h => by
    have h' : D.tup [.int k, x] = d := Option.some.inj h
    exact ⟨x, rfl, by rw [← h']; rfl⟩
  | x :: ds, k, i + 1, d, h => by
    have h' : (enL (k + 1) ds)[i]? = some d := h
    obtain ⟨y, e1, e2⟩ := enL_get h'
    refine ⟨y, e1, ?_⟩
    rw [e2, show k + 1 + i = k + (i + 1) by omega]
theorem enL_length : ∀ {ds : List D} {k : Nat}, (enL k ds).length = ds.length
  | [], _ => rfl
  | d :: ds, k => by rw [enL, List.length_cons, List.length_cons, enL_length]
/-- what enumerate, zip take -/
def seqSrc (S : Sto) : D → Option (Bool × List D × List (Nat × List D))
  | .tup ds => some (true, ds, [])
  | .lst ds => some (false, ds, [])
  | .ref n => match S[n]? with
    | some (some (.lst ds)) => some (false, ds, [(n, ds)])
    | _ => none
  | _ => none
/-- where it stands at every later state that the sources suit -/
theorem seqSrc_ok {K : PySem.W.Frag} {ρ : List Addr} {H : Hp} {S : Sto} {d : D} {v : V} {b : Bool} {ds : List D} {src : List (Nat × List D)} (R : RS K ρ H S) (r : RelD K H (Al ρ S) ρ v d) (e : seqSrc S d = some (b, ds, src)) :
    ∃ a, v = .ref a ∧ ∀ ρ' H' S', RS K ρ' H' S' → Up K ρ H S ρ' H' S' → okSrc src S' → ∃ xs, (b = true → SqT K H' a xs) ∧ (b = false → SqL K H' a xs) ∧ RelL K H' (Al ρ' S') ρ' xs ds := by
  cases d with
  | tup es =>
    cases e
    obtain ⟨a, xs, rfl, h1, h2⟩ := r
    exact ⟨a, rfl, fun ρ' H' S' R' U _ => ⟨xs, fun _ => U.tup a xs h1, fun z => (by cases z), U.relL h2⟩⟩
  | lst es =>
    cases e
    obtain ⟨a, xs, rfl, h1, h2⟩ := r
    exact ⟨a, rfl, fun ρ' H' S' R' U _ => ⟨xs, fun z => (by cases z), fun _ => (U.fz h1).sq, U.relL h2⟩⟩
  | ref n =>
    simp only [seqSrc] at e
    split at e
    · rename_i es hS
      cases e
      obtain ⟨a, rfl, ha⟩ := r
      refine ⟨a, rfl, fun ρ' H' S' R' U ok => ?_⟩
      obtain ⟨ys, k1, k2⟩ := R'.obj n _ a (ok (n, _) List.mem_cons_self) (U.pre n a ha)
      exact ⟨ys, fun z => (by cases z), fun _ => .inl (.inl k1), k2⟩
    · cases e
  | _ => cases e
theorem okSrc_here {K : PySem.W.Frag} {ρ : List Addr} {H : Hp} {S : Sto} {d : D} {b : Bool} {ds : List D} {src : List (Nat × List D)} (e : seqSrc S d = some (b, ds, src)) : okSrc src S := by
  cases d with
  | tup es => cases e; intro p hp; cases hp
  | lst es => cases e; intro p hp; cases hp
  | ref n =>
    simp only [seqSrc] at e
    split at e
    · rename_i es hS
      cases e
      intro p hp
      rw [List.mem_singleton.mp hp]; exact hS
    · cases e
  | _ => cases e
def i_enum (l : LM) : IM := fun env S => bd (l env S) fun ds S1 => match ds with
  | [d] => lf ((seqSrc S1 d).map fun p => (enL 0 p.2.1, p.2.2)) S1
  | _ => .err
def zipL : List D → List D → List D
  | x :: xs, y :: ys => .tup [x, y] :: zipL xs ys
  | _, _ => []
theorem zipL_get : ∀ {xs ys : List D} {i : Nat} {d : D}, (zipL xs ys)[i]? = some d → ∃ x y, xs[i]? = some x ∧ ys[i]? = some y ∧ d = .tup [x, y]
  | [], _, i, d, h => by simp [zipL] at h
  | _ :: _, [], i, d, h => by simp [zipL] at h
  | x :: xs, y :: ys, 0, d, h => ⟨x, y, rfl, rfl, (Option.some.inj h).symm⟩
  | x :: xs, y :: ys, i + 1, d, h => by
    have h' : (zipL xs ys)[i]? = some d := h
    have := zipL_get (xs := xs) (ys := ys) (i := i) h'
    exact this
theorem zipL_length : ∀ {xs ys : List D}, (zipL xs ys).length = min xs.length ys.length
  | [], ys => by simp [zipL]
  | _ :: _, [] => by simp [zipL]
  | x :: xs, y :: ys => by simp [zipL, zipL_length]
def i_zip (l : LM) : IM := fun env S => bd (l env S) fun ds S1 => match ds with
  | [x, y] => lf ((seqSrc S1 x).bind fun p => (seqSrc S1 y).bind fun q => if p.1 = q.1 then some (zipL p.2.1 q.2.1, p.2.2 ++ q.2.2) else none) S1
  | _ => .err
section
variable {X : Cx} {W : WX} {pos tpos p : Pos} {e e2 : Expr} {l : LM} {elts : List Expr} {kk : Nat}
theorem y_enum (hm : X.mg "enumerate" = none) (ha : PA X [e] (tA X.K X.mg W l)) (hg : Gl X "enumerate" := by rfl) (hs : starEach [e] X.env = [(false, eval e X.env)] := by rfl) :
    PI X (.Tuple elts kk tpos) (.Call (.Name "enumerate" p) [e] [] pos) (tI X.K X.mg W (i_enum l)) :=
  PI_imp (pi_enumA hg hm ha hs) fun σ H Q ⟨ρ, env, S, R, V, w⟩ => tA_seq R V (wpM_mono (wpM_bd w) (fun ds S1 w1 ρ1 vs H1 R1 V1 U1 r1 => by
    split at w1
    · rename_i d
      obtain ⟨q, e1, k⟩ := wpM_lf w1
      obtain ⟨⟨b, es, src⟩, e2, rfl⟩ := Option.map_eq_some_iff.mp e1
      obtain ⟨v, rfl, rv⟩ := one_of r1
      obtain ⟨a, rfl, at'⟩ := seqSrc_ok R1 rv e2
      obtain ⟨xs0, t0, l0, _⟩ := at' ρ1 H1 S1 R1 Up.refl (okSrc_here (K := X.K) (ρ := ρ1) (H := H1) e2)
      refine ⟨a, xs0, rfl, ?_⟩
      cases b with
      | false =>
        refine .inl ⟨l0 rfl, k ρ1 H1 _ R1 U1 fun ρ2 H2 S2 R2 U2 ok => ?_⟩
        obtain ⟨xs, _, hl, rl⟩ := at' ρ2 H2 S2 R2 U2 ok
        have hl := hl rfl
        have len := rl.length
        simp only [enL_length]
        refine ⟨fun i hi => ⟨xs, xs[i]'(by omega), hl, by simp [len, hi]⟩, ⟨xs, hl, by omega⟩, fun i d x H' ed y => ?_⟩
        obtain ⟨T, u, rfl, hT, rfl, y⟩ := y
        obtain ⟨x0, f1, rfl⟩ := enL_get ed
        obtain ⟨w', g1, g2⟩ := rl.get f1
        rw [y xs hl] at g1
        cases g1
        have s : Same H2 (upd H2 T (.tup [.int (i : Nat), u])) := same_new hT
        refine ⟨s, T, _, rfl, SqT.of upd_same, RelL.cons (by rw [Nat.zero_add]; rfl) (RelL.cons ((Up.same (K := X.K) (ρ := ρ2) (S := S2) s).relD g2) RelL.nil)⟩
      | true =>
        refine .inr ⟨t0 rfl, k ρ1 H1 _ R1 U1 fun ρ2 H2 S2 R2 U2 ok => ?_⟩
        obtain ⟨xs, hl, _, rl⟩ := at' ρ2 H2 S2 R2 U2 ok
        have hl := hl rfl
        have len := rl.length
        simp only [enL_length]
        refine ⟨fun i hi => ⟨xs, xs[i]'(by omega), hl, by simp [len, hi]⟩, ⟨xs, hl, by omega⟩, fun i d x H' ed y => ?_⟩
        obtain ⟨T, u, rfl, hT, rfl, y⟩ := y
        obtain ⟨x0, f1, rfl⟩ := enL_get ed
        obtain ⟨w', g1, g2⟩ := rl.get f1
        rw [y xs hl] at g1
        cases g1
        have s : Same H2 (upd H2 T (.tup [.int (i : Nat), u])) := same_new hT
        refine ⟨s, T, _, rfl, SqT.of upd_same, RelL.cons (by rw [Nat.zero_add]; rfl) (RelL.cons ((Up.same (K := X.K) (ρ := ρ2) (S := S2) s).relD g2) RelL.nil)⟩
    · exact w1.elim) fun _ _ _ q => q)
theorem y_zip (hm : X.mg "zip" = none) (ha : PA X [e, e2] (tA X.K X.mg W l)) (hg : Gl X "zip" := by rfl) (hs : starEach [e, e2] X.env = (false, eval e X.env) :: starEach [e2] X.env := by rfl) (hpl : (backTo pos (starEach [e2] X.env)).any (·.1) = false := by rfl) :
    PI X (.Tuple elts kk tpos) (.Call (.Name "zip" p) [e, e2] [] pos) (tI X.K X.mg W (i_zip l)) :=
  PI_imp (RZ.pi_zipA hg hm ha hs hpl) fun σ H Q ⟨ρ, env, S, R, V, w⟩ => tA_seq R V (wpM_mono (wpM_bd w) (fun ds S1 w1 ρ1 vs H1 R1 V1 U1 r1 => by
    split at w1
    · rename_i d1 d2
      obtain ⟨q, e0, k⟩ := wpM_lf w1
      obtain ⟨⟨b, es, src⟩, e1, e0⟩ := Option.bind_eq_some_iff.mp e0
      obtain ⟨⟨b', fs, src'⟩, e2, e0⟩ := Option.bind_eq_some_iff.mp e0
      split at e0
      · rename_i hb
        have hb' : b = b' := hb
        subst hb'
        cases e0
        obtain ⟨v, vs', rfl, rv, rr⟩ := r1
        obtain ⟨v', rfl, rv'⟩ := one_of rr
        obtain ⟨a, rfl, at1⟩ := seqSrc_ok R1 rv e1
        obtain ⟨a', rfl, at2⟩ := seqSrc_ok R1 rv' e2
        obtain ⟨xs0, t0, l0, _⟩ := at1 ρ1 H1 S1 R1 Up.refl (okSrc_here (K := X.K) (ρ := ρ1) (H := H1) e1)
        obtain ⟨ys0, t1, l1, _⟩ := at2 ρ1 H1 S1 R1 Up.refl (okSrc_here (K := X.K) (ρ := ρ1) (H := H1) e2)
        refine ⟨a, a', xs0, ys0, rfl, ?_⟩
        cases b with
        | false =>
          refine .inl ⟨l0 rfl, l1 rfl, k ρ1 H1 _ R1 U1 fun ρ2 H2 S2 R2 U2 ok => ?_⟩
          obtain ⟨xs, _, hl, rl⟩ := at1 ρ2 H2 S2 R2 U2 fun p hp => ok p (List.mem_append_left _ hp)
          obtain ⟨ys, _, hl', rl'⟩ := at2 ρ2 H2 S2 R2 U2 fun p hp => ok p (List.mem_append_right _ hp)
          have hl := hl rfl
          have hl' := hl' rfl
          have len := rl.length
          have len' := rl'.length
          simp only [zipL_length]
          refine ⟨fun i hi => ⟨xs, ys, xs[i]'(by omega), ys[i]'(by omega), hl, hl', by simp, by simp⟩, ⟨xs, ys, hl, hl', by omega⟩, fun i d x H' ed y => ?_⟩
          obtain ⟨T, u, u', rfl, hT, rfl, y, y'⟩ := y
          obtain ⟨x0, y0, f1, f2, rfl⟩ := zipL_get ed
          obtain ⟨w', g1, g2⟩ := rl.get f1
          obtain ⟨w'', g3, g4⟩ := rl'.get f2
          rw [y xs hl] at g1
          rw [y' ys hl'] at g3
          cases g1; cases g3
          have s : Same H2 (upd H2 T (.tup [u, u'])) := same_new hT
          have U := Up.same (K := X.K) (ρ := ρ2) (S := S2) s
          exact ⟨s, T, _, rfl, SqT.of upd_same, RelL.cons (U.relD g2) (RelL.cons (U.relD g4) RelL.nil)⟩
        | true =>
          refine .inr ⟨t0 rfl, t1 rfl, k ρ1 H1 _ R1 U1 fun ρ2 H2 S2 R2 U2 ok => ?_⟩
          obtain ⟨xs, hl, _, rl⟩ := at1 ρ2 H2 S2 R2 U2 fun p hp => ok p (List.mem_append_left _ hp)
          obtain ⟨ys, hl', _, rl'⟩ := at2 ρ2 H2 S2 R2 U2 fun p hp => ok p (List.mem_append_right _ hp)
          have hl := hl rfl
          have hl' := hl' rfl
          have len := rl.length
          have len' := rl'.length
          simp only [zipL_length]
          refine ⟨fun i hi => ⟨xs, ys, xs[i]'(by omega), ys[i]'(by omega), hl, hl', by simp, by simp⟩, ⟨xs, ys, hl, hl', by omega⟩, fun i d x H' ed y => ?_⟩
          obtain ⟨T, u, u', rfl, hT, rfl, y, y'⟩ := y
          obtain ⟨x0, y0, f1, f2, rfl⟩ := zipL_get ed
          obtain ⟨w', g1, g2⟩ := rl.get f1
          obtain ⟨w'', g3, g4⟩ := rl'.get f2
          rw [y xs hl] at g1
          rw [y' ys hl'] at g3
          cases g1; cases g3
          have s : Same H2 (upd H2 T (.tup [u, u'])) := same_new hT
          have U := Up.same (K := X.K) (ρ := ρ2) (S := S2) s
          exact ⟨s, T, _, rfl, SqT.of upd_same, RelL.cons (U.relD g2) (RelL.cons (U.relD g4) RelL.nil)⟩
      · cases e0
    · exact w1.elim) fun _ _ _ q => q)
end
end Y

end
section
set_option Elab.async false
set_option linter.all false
set_option maxRecDepth 100000
set_option maxHeartbeats 4000000
set_option autoImplicit false
/-! t[::-1] -/
namespace HT
open PySem PyProof.Rows L2
section
variable {prog : Program} {w : World} {A : Around} {E : Value → Shared → Prop} {s : Shared}
theorem y_sliceRev {sl : Addr} {t : Tok} {n : Nat} {Q : Int × Int × Nat → Shared → Prop} (hs : s.heap.IsSliceOf sl .none .none (.int (-1) t)) (h : Q ((n : Int) - 1, -1, n) s) :
    wpAny (model prog w) A (Builtin.Slice.sliceApplied (.ref sl) (pure (n : Int))) Q E s := by
  obtain ⟨os, hos, hcs, hds⟩ := id hs
  unfold Builtin.Slice.sliceApplied Builtin.Slice.sliceFields
  refine wpAny_bind (wpAny_bind (wpAny_field hos hds (x := .none) rfl (wpAny_bind (wpAny_field hos hds (x := .none) rfl (wpAny_bind (wpAny_field hos hds (x := .int (-1) t) rfl (wpAny_pure ?_)))))))
  refine wpAny_bind (slicePart_int ?_)
  show wpAny _ _ (if ((-1 : Int) == 0) = true then _ else _) _ _ s
  rw [if_neg (by decide)]
  refine wpAny_bind (slicePart_none (wpAny_bind (slicePart_none (wpAny_bind (wpAny_pure ?_)))))
  have e : Builtin.Slice.sliceAdjust none none (-1) (n : Int) = ((n : Int) - 1, -1) := by
    unfold Builtin.Slice.sliceAdjust
    simp
  have e2 : Builtin.Slice.slicePlaces ((n : Int) - 1) (-1) (-1) = n := by
    unfold Builtin.Slice.slicePlaces
    have h1 : ¬ ((-1 : Int) > 0) := by decide
    simp only [h1, if_false]
    split
    · rw [show (- (-1 : Int)) = 1 by decide, Int.ediv_one]; omega
    · omega
  show wpAny _ _ (match Builtin.Slice.sliceAdjust none none (-1) (n : Int) with | (lo, hi) => pure (lo, (-1 : Int), Builtin.Slice.slicePlaces lo hi (-1))) _ _ s
  rw [e]
  show wpAny _ _ (pure ((n : Int) - 1, (-1 : Int), Builtin.Slice.slicePlaces ((n : Int) - 1) (-1) (-1))) _ _ s
  rw [e2]
  exact wpAny_pure h
theorem y_fmCongr {α β : Type} {f g : α → Option β} : ∀ l : List α, (∀ x ∈ l, f x = g x) → l.filterMap f = l.filterMap g
  | [], _ => rfl
  | x :: l, h => by
    rw [List.filterMap_cons, List.filterMap_cons, h x List.mem_cons_self, y_fmCongr l fun y hy => h y (List.mem_cons_of_mem _ hy)]
theorem y_pickRev (xs : Array Value) : ((List.range xs.size).filterMap fun (m : Nat) => xs[(((xs.size : Int) - 1) + (m : Int) * -1).toNat]?).toArray = xs.toList.reverse.toArray := by
  have e : (List.range xs.size).filterMap (fun (m : Nat) => xs[(((xs.size : Int) - 1) + (m : Int) * -1).toNat]?) = ((List.range xs.size).map fun k => xs.size - 1 - k).filterMap (xs[·]?) := by
    rw [List.filterMap_map]
    refine y_fmCongr _ fun m hm => ?_
    have hm' := List.mem_range.mp hm
    show _ = xs[xs.size - 1 - m]?
    have : (((xs.size : Int) - 1) + (m : Int) * -1).toNat = xs.size - 1 - m := by omega
    rw [this]
  rw [e, PySem.W.krv_range, List.filterMap_reverse, PySem.W.krv_all]
theorem y_getRev {t sl : Addr} {items : Array Value} {tk : Tok} {Q : Value → Shared → Prop} (ht : IsTup s.heap t items) (hs : s.heap.IsSliceOf sl .none .none (.int (-1) tk))
    (h : Q (.ref s.heap.objs.size) { s with heap := s.heap.push { cls := .type "tuple", data := .seq items.toList.reverse.toArray } })
    (hsz : items.size ≤ sizeLine) : wpAny (model prog w) A (getItem (.ref t) (.ref sl)) Q E s := by
  have htake : sizeOk (.seq items.toList.reverse.toArray) := by
    show items.toList.reverse.toArray.size ≤ sizeLine
    rw [List.size_toArray, List.length_reverse, Array.length_toList]
    exact hsz
  obtain ⟨os, hos, hcs, hds⟩ := id hs
  have hTs : s.TypeIs (.ref sl) "slice" := ⟨os, hos, hcs⟩
  unfold getItem
  try with_reducible refine wpAny_holding ?_
  first | refine wpAny_bind (wpAny_pure ?_) | skip
  refine wpAny_bind (wpAny_sequenceKey ht.typeIs (by decide) ?_)
  refine wpAny_bind (wpAny_callSpecial?_slot (name := Str.ofString "__getitem__") ht.typeIs PyProof.Rows.slot_tuple_getitem
    (wpAny_call_entry PyProof.Rows.slot_tuple_getitem ht.typeIs entry_tuple_getitem ?_ (args_tuple_getitem _ _)))
  show wpAny _ _ (Builtin.Tuple.tupleItemsOf (.ref t) >>= _) _ _ s
  refine wpAny_bind (tupleItemsOf_ ht ?_)
  refine wpAny_bind (wpAny_typeOf hTs ?_)
  rw [if_pos (by decide)]
  refine wpAny_bind (y_sliceRev hs ?_)
  have hno : ¬ ((((items.size : Int) - 1 == 0) && ((-1 : Int) == 1) && (items.size == items.size)) = true) := by
    have : ((-1 : Int) == 1) = false := by decide
    rw [this, Bool.and_false, Bool.false_and]; exact Bool.false_ne_true
  show wpAny _ _ (if (((items.size : Int) - 1 == 0) && ((-1 : Int) == 1) && (items.size == items.size)) = true then _ else _) _ _ s
  rw [if_neg hno, y_pickRev]
  first
    | exact wpAny_bind (m := Builtin.Tuple.tupleExact _) (wpAny_newObj_type (wpAny_pure ⟨_, rfl, wpAny_pure h⟩) htake)
    | exact wpAny_bind (m := Builtin.Tuple.tupleExact _) (wpAny_newObj_type (wpAny_bind (wpAny_pure (wpAny_pure ⟨_, rfl, wpAny_pure h⟩))) htake)
    | exact wpAny_bind (wpAny_bind (m := Builtin.Tuple.tupleExact _) (wpAny_newObj_type (wpAny_pure (wpAny_pure ⟨_, rfl, wpAny_pure h⟩)) htake))
    | exact wpAny_bind (wpAny_bind (m := Builtin.Tuple.tupleExact _) (wpAny_newObj_type (wpAny_pure ⟨_, rfl, wpAny_pure h⟩) htake))
end
end HT
namespace L2
open PySem PySem.Spec PyProof.Rows
def tRevT (K : PySem.W.Frag) (te : TE) : TE := fun σ H Q => te σ H fun x H1 => ∃ a xs, x = .ref a ∧ SqT K H1 a xs ∧ ∀ p, H1 p = none → Q (.ref p) (upd H1 p (.tup xs.reverse))
theorem pe_revT {X : Cx} {e : Expr} {te : TE} {k : Nat} {p1 p2 p3 pos : Pos} (he : PE X e te) : PE X (.Subscript e (.Slice none none (some (.UnaryOp .USub (.Constant (.int 1) k p1) p2)) p3) pos) (tRevT X.K te) := by
  refine ⟨fun pins s σ H Q I h => ?_⟩
  refine Subscript_ (thn (he.run pins s σ H _ I h) fun v s1 ⟨x, H1, I1, r1, q1⟩ => ?_)
  obtain ⟨a, xs, ex, hx, q⟩ := q1
  subst ex
  cases r1
  have hst : PO X (some (.UnaryOp .USub (.Constant (.int 1) k p1) p2)) (tPart (tUn (rU fun i => .int (-i)) (tC (.int 1)))) := po_some (pe_un un_neg pe_int)
  refine wpAny_Slice (thn (po_none.run pins s1 σ H1 (fun o H2 => o = none ∧ H2 = H1) I1 ⟨rfl, rfl⟩) fun vl s2 ⟨l, H2, I2, pl, el, e2⟩ => ?_)
  subst el e2
  refine thn (po_none.run pins s2 σ H2 (fun o H3 => o = none ∧ H3 = H2) I2 ⟨rfl, rfl⟩) fun vu s3 ⟨u, H3, I3, pu, eu, e3⟩ => ?_
  subst eu e3
  refine thn (hst.run pins s3 σ H3 (fun o H4 => o = some (-1) ∧ H4 = H3) I3 ⟨1, rfl, -1, rfl, rfl, rfl⟩) fun vs s4 ⟨o, H4, I4, ps, eo, e4⟩ => ?_
  subst eo e4
  cases pl
  cases pu
  cases ps with
  | int _ tk =>
    have I5 : Inv X pins σ H4 { s4 with heap := s4.heap.push { cls := .type "slice", data := .fields #[.none, .none, .int (-1) tk] } } := I4.kept (t' := s4.toks) fun b ob q => Heap.get?_push_of_some _ q
    obtain ⟨its, r, ht, hz⟩ := I5.tuple hx
    have hlen := r.length
    show wpAny (model X.prog X.w) X.A (subscriptTail e (.Slice none none (some (.UnaryOp .USub (.Constant (.int 1) k p1) p2)) p3) (.ref a) (.ref s4.heap.objs.size)) (EP X pins σ Q) X.xe { s4 with heap := s4.heap.push { cls := .type "slice", data := .fields #[.none, .none, .int (-1) tk] } }
    refine tail_any (ops := [.ref a, .ref s4.heap.objs.size]) ht.typeIs (PyProof.Rows.slot_tuple_getitem.lookup) ?_ (by with_unfolding_all rfl)
    refine HT.y_getRev ht (Heap.IsSliceOf.new _ .none .none (.int (-1) tk)) ?_ (by rw [List.size_toArray]; omega)
    refine ⟨.ref _, _, I5.laid (t' := s4.toks) (o := .tup xs.reverse) (fun b ob q => Heap.get?_push_of_some _ q) (Nat.le_refl _) ?_, rfl, q _ (I5.hok.fresh (Nat.le_refl _))⟩
    exact ⟨by rw [List.length_reverse]; exact hz, _, r.reverse, ⟨_, Heap.get?_push_size _ rfl, rfl, _, rfl⟩⟩

/-! list(text) -/
def sgnV (z : Str) : List V := z.cps.toList.map fun c => .str ⟨#[c]⟩
theorem cr_listStr {X : Cx} (hc : X.calm = true) : CallR X (.type "list") (fun vs H Q => ∃ z : Str, vs = [.str z] ∧ z.cps.size ≤ sizeLine ∧ ∀ p, H p = none → Q (.ref p) (upd H p (.lst (sgnV z)))) := by
  intro pins s σ H vs us Q I r h
  obtain ⟨z, rfl, hz, q⟩ := h
  obtain ⟨u, rfl, ru⟩ := vals1 r
  obtain ⟨t, rfl⟩ := ru
  refine call_list_str (I.ok.hd hc) z t (hn := hz) fun h' tk acc c' hk e' hi => ?_
  have hl : (sgnV z).length = acc.toList.length := by
    unfold sgnV
    rw [List.length_map, Array.length_toList, Array.length_toList, hi.1]
  refine ⟨.ref s.heap.objs.size, upd H s.heap.objs.size (.lst (sgnV z)), I.laid hk (Nat.le_refl _) (show ObjOk X.prog X.w _ _ _ (.lst (sgnV z)) from ⟨?_, acc.toList, c', vals_of_at hl fun j x u h1 h2 => ?_, ?_⟩), rfl, q _ (I.hok.fresh (Nat.le_refl _))⟩
  · unfold sgnV; rw [List.length_map, Array.length_toList]; exact hz
  · obtain ⟨c, u', e1, rfl⟩ := hi.2 j u (by rw [← h2, Array.getElem?_toList])
    unfold sgnV at h1
    rw [List.getElem?_map, Array.getElem?_toList, e1] at h1
    cases h1
    exact ⟨_, rfl⟩
  · rw [Array.toArray_toList]; exact e'

/-! l.count(x) -/
def rCountD (K : PySem.W.Frag) : V → List V → Hp → VK → Prop := fun x xs H Q => ∃ (a : Addr) (y : V) (d : PyData) (ds : List PyData), x = V.ref a ∧ xs = [y] ∧ Dp K H (V.ref a) (.list ds) ∧ Dp K H y d ∧
  SeqAt.shaped (.list ds) = true ∧ SeqAt.shaped d = true ∧ Q (.int (ds.countP (fun z => PyData.eqv z d) : Nat)) H
theorem mt_countD {X : Cx} (hu : X.A.units + 65 < cLine) : MtR X "list.count" (rCountD X.K) := by
  intro pins s σ H x xs v us Q I rx rxs h
  obtain ⟨a, y, d, ds, rfl, rfl, hl, hy, sl, sd, q⟩ := h
  cases rx
  cases rxs with
  | cons ry rt =>
    rename_i uy ut
    cases rt
    obtain ⟨bs, r1⟩ := Dp.reads I d y uy hy ry
    have hxs : PyData.canLayAll0 ds = true := SeqAt.canLay_of_shaped sl
    have hroom : X.A.units + 1 + min (PyData.depthAll ds) d.depth < cLine := room_in_shaped sd hu
    cases hl with
    | lst hs ha =>
      obtain ⟨its, rv, ⟨⟨cls, dd, data, sls⟩, n, ho, hc, hdn, hdt⟩, hlen⟩ := I.list hs
      simp only at hc hdt
      subst hc hdt
      obtain ⟨as, h4⟩ := Dp.readsAll I ds _ its ha rv
      have hmap : its.map (SeqAt.readOf s.heap) = ds := SeqAt.readsAll_map ds its as hxs h4
      refine call_meets PySem.F.slot_list_count ⟨_, ho, rfl⟩ PySem.F.entry_list_count (PySem.F.args_list_count_2 _ _)
        (SeqAt.list_countAt a its.toArray n dd sls uy (fun u => PyData.eqv (SeqAt.readOf s.heap u) d)) ⟨ho, SeqAt.items_eqAt (vs := its.toArray) (show ReadsAll s.heap its.toArray.toList ds as from h4) r1 hxs (SeqAt.canLay_of_shaped sd) hroom, ?_⟩
      have ec : its.toArray.toList.countP (fun u => PyData.eqv (SeqAt.readOf s.heap u) d) = ds.countP fun z => PyData.eqv z d := by
        rw [← hmap, List.countP_map]; rfl
      refine ⟨.int (ds.countP (fun z => PyData.eqv z d) : Nat), H, I.tok _, ⟨s.toks, ?_⟩, q⟩
      show Value.int ((its.toArray.toList.countP _ : Nat) : Int) s.toks = _
      rw [ec]
end L2

end
section
set_option Elab.async false
set_option linter.all false
set_option maxRecDepth 100000
set_option maxHeartbeats 4000000
set_option autoImplicit false
namespace L2
open PySem PySem.Spec PyProof.Rows PySem.W
section
variable {β : Type} {X : Cx} {H : Hp} {s : Shared}
theorem each_vals : ∀ {xs : List V} {us : List Value} {es : List β}, Vals xs us → xs.length = es.length → EachIs (fun u (b : V × β) => RelV b.1 u) us (xs.zip es)
  | [], _, [], h, _ => by cases h; exact .nil
  | x :: xs, _, e :: es, h, hl => by
    cases h with
    | cons h1 h2 => exact .cons h1 (each_vals h2 (by simpa using hl))
  | [], _, _ :: _, _, hl => by simp at hl
  | _ :: _, _, [], _, hl => by simp at hl
theorem vals_each : ∀ {us : List Value} {bs : List (V × β)}, EachIs (fun u (b : V × β) => RelV b.1 u) us bs → Vals (bs.map Prod.fst) us
  | _, _, .nil => .nil
  | _, _, .cons h t => .cons h (vals_each t)
theorem zip_snd : ∀ {xs : List V} {es : List β}, xs.length = es.length → (xs.zip es).map Prod.snd = es
  | [], [], _ => rfl
  | x :: xs, e :: es, h => by rw [List.zip_cons_cons, List.map_cons, zip_snd (by simpa using h)]
  | [], _ :: _, h => by simp at h
  | _ :: _, [], h => by simp at h
/-- sorted(l), items that read as data -/
def rSortD (K : PySem.W.Frag) (enc : β → PyData) : List V → Hp → VK → Prop := fun vs H Q => ∃ (a : Addr) (xs : List V) (es : List β), vs = [V.ref a] ∧ SqL K H a xs ∧ xs.length = es.length ∧ DpAll K H xs (es.map enc) ∧ AllAlike (es.map enc) ∧ Sortable (es.map enc) ∧ (∀ e ∈ es, (enc e).depth ≤ 64) ∧
  ∀ p, H p = none → Q (.ref p) (upd H p (.lst (((xs.zip es).mergeSort (dataLe false fun b => enc b.2)).map Prod.fst)))
theorem cr_sortD {enc : β → PyData} (hu : X.A.units + 200 < cLine) : CallR X (.builtin "sorted") (rSortD X.K enc) := by
  intro pins s σ H vs us Q I r h
  obtain ⟨a, xs, es, rfl, hs, hlen, hd, hal, hso, hdp, q⟩ := h
  obtain ⟨its, rv, hl, hz⟩ := I.list hs
  rw [Vals.ref1 r]
  have hvl := rv.length
  obtain ⟨as, rd⟩ := Dp.readsAll I (es.map enc) xs its hd rv
  have ez : (xs.zip es).map (fun b => enc b.2) = es.map enc := by
    rw [show (fun b : V × β => enc b.2) = enc ∘ Prod.snd from rfl, ← List.map_map, zip_snd hlen]
  have zl : (xs.zip es).length = xs.length := by rw [List.length_zip]; omega
  refine sorted_data (R := fun u (b : V × β) => RelV b.1 u) (enc := fun b => enc b.2) hl.isList (each_vals rv hlen) (readsAll_each (fun b : V × β => enc b.2) (as := as) (by rw [ez]; exact rd)) (by rw [ez]; exact hal) (by rw [ez]; exact hso) (by omega) (fun b hb => ?_) fun out h1 h2 => ?_
  · have := hdp b.2 (by
      have := List.mem_map_of_mem (f := Prod.snd) hb
      rwa [zip_snd hlen] at this)
    omega
  · obtain ⟨ep, he'⟩ := PyProof.Rows.sortedAll_at s.heap its out.toArray
    have hv := vals_each h2
    have hln : (((xs.zip es).mergeSort (dataLe false fun b => enc b.2)).map Prod.fst).length ≤ sizeLine := by
      rw [List.length_map, List.length_mergeSort]; omega
    exact ⟨.ref _, upd H (s.heap.objs.size + 1) (.lst (((xs.zip es).mergeSort (dataLe false fun b => enc b.2)).map Prod.fst)), I.laid (t' := s.toks) (fun _ _ => PyProof.Rows.sortedAll_old) (Nat.le_succ _) ⟨hln, out, ep, hv, he'⟩, rfl, q _ (I.hok.fresh (Nat.le_succ _))⟩
end
end L2
namespace Y
open PySem PySem.Spec L2 PySem.W
noncomputable def pD (d : D) : PyData := (toP d).getD .none
theorem toPL_map : ∀ {ds : List D} {ps : List PyData}, toPL ds = some ps → ds.map pD = ps
  | [], _, h => by
    have h' : some [] = some _ := h
    cases h'; rfl
  | d :: ds, ps, h => by
    have h' : (toP d).bind (fun p => (toPL ds).map fun ps => p :: ps) = some ps := h
    obtain ⟨p, e1, h2⟩ := Option.bind_eq_some_iff.mp h'
    obtain ⟨qs, e2, rfl⟩ := Option.map_eq_some_iff.mp h2
    rw [List.map_cons, toPL_map e2, pD, e1]; rfl
noncomputable def leD (a b : D) : Bool := dataLe false pD a b
open Classical in
noncomputable def o_sorted (S : Sto) : List D → Option (List D)
  | [d] => (lstOf S d).bind fun es => (toPL es).bind fun ps => if AllAlike ps ∧ Sortable ps ∧ (∀ p ∈ ps, p.depth ≤ 64) then some (es.mergeSort leD) else none
  | _ => none
section
variable {K : PySem.W.Frag}
theorem relL_zip {H : Hp} {A : Addr → Prop} {ρ : List Addr} : ∀ {ds : List D} {vs : List V}, RelL K H A ρ vs ds → ∀ p ∈ vs.zip ds, RelD K H A ρ p.1 p.2
  | [], _, h, p, hp => by
    have h' : _ = [] := h
    rw [h'] at hp; cases hp
  | d :: ds, _, ⟨x, xs, e, h1, h2⟩, p, hp => by
    rw [e, List.zip_cons_cons] at hp
    rcases List.mem_cons.mp hp with z | z
    · rw [z]; exact h1
    · exact relL_zip h2 p z
theorem relL_pairs {H : Hp} {A : Addr → Prop} {ρ : List Addr} : ∀ {zs : List (V × D)}, (∀ p ∈ zs, RelD K H A ρ p.1 p.2) → RelL K H A ρ (zs.map Prod.fst) (zs.map Prod.snd)
  | [], _ => rfl
  | z :: zs, h => RelL.cons (h z List.mem_cons_self) (relL_pairs fun p hp => h p (List.mem_cons_of_mem _ hp))
theorem cf_sorted : CallF K (rSortD K pD) o_sorted := by
  intro ρ H S ds es vs Q R r e q
  unfold o_sorted at e
  split at e
  · rename_i a
    obtain ⟨fs, e1, e2⟩ := Option.bind_eq_some_iff.mp e
    obtain ⟨ps, e3, e4⟩ := Option.bind_eq_some_iff.mp e2
    split at e4
    · rename_i hh
      cases e4
      obtain ⟨hal, hso, hdp⟩ := hh
      obtain ⟨v, rfl, rv⟩ := one_of r
      obtain ⟨p, xs, rfl, h1, h2⟩ := lst_rel R e1 rv
      have em := toPL_map e3
      refine ⟨p, xs, fs, rfl, h1, h2.length, by rw [em]; exact dpAll_of fs ps xs e3 h2, by rw [em]; exact hal, by rw [em]; exact hso, fun d hd => hdp _ (by rw [← em]; exact List.mem_map_of_mem hd), fun l hl => ?_⟩
      refine q l _ _ ?_ hl (same_new hl) upd_same
      have hz : ((xs.zip fs).mergeSort (dataLe false fun b => pD b.2)).map Prod.snd = fs.mergeSort leD := by
        have := List.map_mergeSort (r := dataLe false fun b : V × D => pD b.2) (s := leD) (f := Prod.snd) (l := xs.zip fs) (fun a _ b _ => rfl)
        rw [this, zip_snd h2.length]
      rw [← hz]
      exact relL_pairs fun p hp => relL_zip h2 p (List.mem_mergeSort.mp hp)
    · cases e4
  · cases e
/-- list(x), a text too -/
def o_listA (S : Sto) : List D → Option (List D)
  | [.str z] => if z.cps.size ≤ sizeLine then some (sgns z) else none
  | [d] => seqOf S d
  | _ => none
def rListA (K : PySem.W.Frag) : List V → Hp → VK → Prop := fun vs H Q => (∃ p ys, vs = [.ref p] ∧ (SqL K H p ys ∨ SqT K H p ys) ∧ ∀ l, H l = none → Q (.ref l) (upd H l (.lst ys))) ∨ ∃ z : Str, vs = [.str z] ∧ z.cps.size ≤ sizeLine ∧ ∀ p, H p = none → Q (.ref p) (upd H p (.lst (sgnV z)))
theorem cr_listA {X : Cx} (hc : X.calm = true) : CallR X (.type "list") (rListA X.K) := fun pins s σ H vs us Q I r h => h.elim (fun h => call_list_of pins s σ H vs us Q I r h) fun h => cr_listStr hc pins s σ H vs us Q I r h
theorem sgn_rel {H : Hp} {A : Addr → Prop} {ρ : List Addr} (z : Str) : RelL K H A ρ (sgnV z) (sgns z) := by
  unfold sgnV sgns
  induction z.cps.toList with
  | nil => rfl
  | cons c l ih => exact RelL.cons rfl ih
theorem cf_listA : CallF K (rListA K) o_listA := by
  intro ρ H S ds es vs Q R r e q
  cases ds with
  | nil => cases e
  | cons a t =>
    cases t with
    | cons b t => cases a <;> cases e
    | nil =>
      have gen : seqOf S a = some es → rListA K vs H Q := fun e => .inl (cf_list ρ H S [a] es vs Q R r e q)
      cases a with
      | str z =>
        simp only [o_listA] at e
        split at e
        · rename_i hl
          cases e
          obtain ⟨v, rfl, rv⟩ := one_of r
          have rv' : v = .str z := rv
          subst rv'
          exact .inr ⟨z, rfl, hl, fun p hp => q p _ _ (sgn_rel z) hp (same_new hp) upd_same⟩
        · cases e
      | _ => exact gen e
/-- l.count(x) -/
def m_count : MF := fun S x vs => match vs with
  | [y] => (toP y).bind fun d => (toPS S x).bind fun l => match l with
    | .list ps => if (SeqAt.shaped d && SeqAt.shaped (.list ps)) = true then some (.int (ps.countP fun z => PyData.eqv z d : Nat), S) else none
    | _ => none
  | _ => none
theorem ms_count : MtS K (rCountD K) m_count := by
  intro ρ H S S' x d ds v vs Q R rx rl e q
  unfold m_count at e
  split at e
  · rename_i y
    obtain ⟨u, rfl, ru⟩ := one_of rl
    obtain ⟨p, e1, e2⟩ := Option.bind_eq_some_iff.mp e
    obtain ⟨p2, e3, e4⟩ := Option.bind_eq_some_iff.mp e2
    cases p2 with
    | list ps =>
      simp only at e4
      split at e4
      · rename_i h
        cases e4
        obtain ⟨h1, h2⟩ := Bool.and_eq_true_iff.mp h
        have dl := dpS_of R e3 rx
        have : ∃ a, v = .ref a := by cases dl; exact ⟨_, rfl⟩
        obtain ⟨a, rfl⟩ := this
        exact ⟨a, u, p, ps, rfl, rfl, dl, dp_of _ _ _ e1 ru, h2, h1, q ρ _ H R Up.refl rfl⟩
      · cases e4
    | _ => cases e4
  · cases e
end
/-- t[::-1] -/
def revT (m : EM) : EM := fun env S => bd (m env S) fun d S1 => match d with
  | .tup ds => .ok (.tup ds.reverse) S1
  | _ => .err
def revF (m : EM) : LM := fun env S => bd (m env S) fun d S1 => lf ((lstOf S1 d).map List.reverse) S1
/-- tuple(range(..)) -/
def tupRg (l : LM) : EM := fun env S => bd (l env S) fun ds S1 => match ds with
  | [.int j] => if -(2 ^ 62) ≤ j ∧ j ≤ 2 ^ 24 then .ok (.tup (rgL 0 j)) S1 else .err
  | _ => .err
section
variable {X : Cx} {W : WX} {e a : Expr} {m : EM} {l : LM} {k : Nat} {p p1 p2 p3 pos pos' : Pos}
theorem y_revT (h : PE X e (tE X.K X.mg W m)) : PE X (.Subscript e (.Slice none none (some (.UnaryOp .USub (.Constant (.int 1) k p1) p2)) p3) pos) (tE X.K X.mg W (revT m)) :=
  (pe_revT h).imp fun σ H Q ⟨ρ, env, S, R, V, w⟩ => tE_seq R V (wpM_mono (wpM_bd w) (fun d S1 w1 ρ1 v H1 R1 V1 U1 r1 => by
    cases d with
    | tup ds =>
      obtain ⟨a, xs, rfl, h1, h2⟩ := r1
      refine ⟨a, xs, rfl, h1, fun p hp => ?_⟩
      have s : Same H1 (upd H1 p (.tup xs.reverse)) := same_new hp
      exact w1 ρ1 _ _ (R1.same s) (U1.trans (Up.same s)) ⟨p, _, rfl, SqT.of upd_same, (Up.same (K := X.K) (ρ := ρ1) (S := S1) s).relL h2.reverse⟩
    | _ => exact w1.elim) fun _ _ _ q => q)
theorem y_revF (h : PE X e (tE X.K X.mg W m)) : PE X (.Subscript e (.Slice none none (some (.UnaryOp .USub (.Constant (.int 1) k p1) p2)) p3) pos) (tF X.K X.mg W (revF m)) :=
  (pe_revL h).imp fun σ H Q ⟨ρ, env, S, R, V, w⟩ => tE_seq R V (wpM_mono (wpM_bd w) (fun d S1 w1 ρ1 v H1 R1 V1 U1 r1 => by
    obtain ⟨c, e1, q⟩ := wpM_lf w1
    obtain ⟨ds, e2, rfl⟩ := Option.map_eq_some_iff.mp e1
    obtain ⟨p, xs, rfl, h1, h2⟩ := lst_rel R1 e2 r1
    exact ⟨p, xs, rfl, h1, fun n np => q ρ1 n _ H1 _ R1 U1 h2.reverse np (same_new np) upd_same⟩) fun _ _ _ q => q)
theorem rg_rel {K : PySem.W.Frag} {H : Hp} {A : Addr → Prop} {ρ : List Addr} (i j : Int) : RelL K H A ρ (rgV i j) (rgL i j) := by
  unfold rgV rgL
  induction List.range (j - i).toNat with
  | nil => rfl
  | cons c l ih => exact RelL.cons rfl ih
theorem y_tupRg (hc : X.calm = true) (hmt : X.mg "tuple" = none) (hm : X.mg "range" = none) (ha : PE X a (tE X.K X.mg W m)) (hg : Gl X "tuple" := by rfl) (hgr : Gl X "range" := by rfl) (na : starEach [a] X.env = (false, eval a X.env) :: starEach [] X.env := by rfl)
    (nb : starEach [.Call (.Name "range" p) [a] [] pos] X.env = (false, eval (.Call (.Name "range" p) [a] [] pos) X.env) :: starEach [] X.env := by rfl) :
    PE X (.Call (.Name "tuple" p2) [.Call (.Name "range" p) [a] [] pos] [] pos') (tE X.K X.mg W (tupRg (lcons m lnil))) :=
  (pe_tupRg hc hg hmt (prg_1 hgr hm ha na) nb).imp fun σ H Q ⟨ρ, env, S, R, V, w⟩ => tE_seq R V (by
    have w := wpM_bd w
    unfold lcons at w
    refine wpM_mono (wpM_bd w) (fun d S1 w1 ρ1 v H1 R1 V1 U1 r1 => ?_) fun _ _ _ q => q
    simp only [lnil, bd] at w1
    have w1 : wpM (match [d] with
      | [.int j] => if -(2 ^ 62) ≤ j ∧ j ≤ 2 ^ 24 then Res.ok (D.tup (rgL 0 j)) S1 else .err
      | _ => .err) (PostV X.K ρ H S Q) (PostX X.K X.mg W ρ σ H S) := w1
    cases d with
    | int j =>
      simp only at w1
      split at w1
      · rename_i hj
        have r1' : v = .int j := r1
        subst r1'
        refine ⟨j, rfl, ⟨by omega, by omega, by omega, by omega, by omega⟩, fun q hq => ?_⟩
        have s : Same H1 (upd H1 q (.tup (rgV 0 j))) := same_new hq
        exact w1 ρ1 _ _ (R1.same s) (U1.trans (Up.same s)) ⟨q, _, rfl, SqT.of upd_same, rg_rel 0 j⟩
      · exact w1.elim
    | _ => exact w1.elim)
end
end Y

end
section
set_option Elab.async false
set_option linter.all false
set_option maxRecDepth 100000
set_option maxHeartbeats 4000000
set_option autoImplicit false
namespace Y
open PySem PySem.Spec L2

/-! ### __init__ of an own exception: self.f = x, .. -/
/-- what C.__init__(self, ..) does: the fields fs are the arguments -/
def spI (C : Addr) (fs : List Str) : Sp := fun vs H Q E => ∃ (a : Addr) (ws : List V), vs = .ref a :: ws ∧ ws.length = fs.length ∧ H a = some (exo a C none) ∧
  ∀ (d : Addr) (H2 : Hp), H d = none → d ≠ a → H2 a = some (exo a C (some d)) → H2 d = some (exd d (fs.zip ws).reverse) → (∀ b, b ≠ a → b ≠ d → H2 b = H b) → Q .non H2
section
variable {X : Cx} {s x1 x2 f1 f2 : Str} {p1 p2 p3 p4 q1 q2 q3 q4 : Pos} {C : Addr}
def tI1 (X : Cx) (C : Addr) (f1 : Str) : TS := fun D σ H => ∃ a y1, σ[0]? = some (some (V.ref a)) ∧ σ[1]? = some (some y1) ∧ H a = some (exo a C none) ∧
  ∀ d H2, H d = none → d ≠ a → H2 a = some (exo a C (some d)) → H2 d = some (exd d [(f1, y1)]) → (∀ b, b ≠ a → b ≠ d → H2 b = H b) → D.nx σ H2
def tI2 (X : Cx) (C : Addr) (f1 f2 : Str) : TS := fun D σ H => ∃ a y1 y2, σ[0]? = some (some (V.ref a)) ∧ σ[1]? = some (some y1) ∧ σ[2]? = some (some y2) ∧ H a = some (exo a C none) ∧
  ∀ d H2, H d = none → d ≠ a → H2 a = some (exo a C (some d)) → H2 d = some (exd d [(f2, y2), (f1, y1)]) → (∀ b, b ≠ a → b ≠ d → H2 b = H b) → D.nx σ H2
theorem ss_init1 (T : OexC X.K C) (n1 : PySem.W.findIn X.K (.ref C) f1 = some none)
    (hs : PE X (.Name s p1) (tVar 0)) (h1 : PE X (.Name x1 p3) (tVar 1)) (w1 : swapsWith (.Name x1 p3) (some (.Attribute (.Name s p1) f1 p2)) p4.line X.env = pure false := by rfl) :
    PSs X [.Assign [.Attribute (.Name s p1) f1 p2] (.Name x1 p3) p4] (tI1 X C f1) :=
  (pss_one (ps_ost hs h1 w1)).imp fun Dn σ H ⟨a, y1, e0, e1, ha, q⟩ => by
    refine ⟨y1, e1, .ref a, e0, a, C, rfl, T, n1, .inl ⟨ha, fun d hd ne => ?_⟩⟩
    refine q d _ hd ne upd_same ?_ fun b h1 h2 => ?_
    · rw [upd_ne ne]; exact upd_same
    · rw [upd_ne h1, upd_ne h2]
theorem ss_init2 (T : OexC X.K C) (n1 : PySem.W.findIn X.K (.ref C) f1 = some none) (n2 : PySem.W.findIn X.K (.ref C) f2 = some none)
    (hs : PE X (.Name s p1) (tVar 0)) (h1 : PE X (.Name x1 p3) (tVar 1)) (hs' : PE X (.Name s q1) (tVar 0)) (h2 : PE X (.Name x2 q3) (tVar 2)) (w1 : swapsWith (.Name x1 p3) (some (.Attribute (.Name s p1) f1 p2)) p4.line X.env = pure false := by rfl)
    (w2 : swapsWith (.Name x2 q3) (some (.Attribute (.Name s q1) f2 q2)) q4.line X.env = pure false := by rfl) :
    PSs X [.Assign [.Attribute (.Name s p1) f1 p2] (.Name x1 p3) p4, .Assign [.Attribute (.Name s q1) f2 q2] (.Name x2 q3) q4] (tI2 X C f1 f2) :=
  (pss_cons (ps_ost hs h1 w1) (pss_one (ps_ost hs' h2 w2))).imp fun Dn σ H ⟨a, y1, y2, e0, e1, e2, ha, q⟩ => by
    refine ⟨y1, e1, .ref a, e0, a, C, rfl, T, n1, .inl ⟨ha, fun d hd ne => ?_⟩⟩
    refine ⟨y2, e2, .ref a, e0, a, C, rfl, T, n2, .inr ⟨d, [(f1, y1)], upd_same, by rw [upd_ne ne]; exact upd_same, by simp, ?_⟩⟩
    refine q d _ hd ne ?_ upd_same fun b h1 h2 => ?_
    · rw [upd_ne (Ne.symm ne)]; exact upd_same
    · rw [upd_ne h2, upd_ne h1, upd_ne h2]
end
section
variable {P : Program} {w : World} {K : PySem.W.Frag} {mg : Str → Option Value} {base : Heap}
theorem ok_init1 {x qual : Str} {st : Stmt} {f : Addr} {fd : FuncData} {N ps : List Str} {k : Nat} {C : Addr} {f1 : Str} (F : Fun K x qual st f fd) (Sc : FnScope N ps (defScope st)) (hp : ps.length = 2)
    (hb : ∀ (cdv : Value) (A : Around) (outer : List Env) (s : Shared) (H : Hp) (E : XK), PSs (cxOf (L2.CX P w) P w K mg base N qual (defScope st) f cdv A outer s H E) (defBody st) (tI1 (cxOf (L2.CX P w) P w K mg base N qual (defScope st) f cdv A outer s H E) C f1)) :
    FnOk P w K mg base (L2.CX P w) (k + 1) f fd ps (spI C [f1]) := by
  refine F.okX Sc (fun vs H Q E ⟨a, ws, e, hl, _⟩ => by rw [e, hp]; simp [hl]) fun cdv A outer s H vs Q E hr h => ⟨_, hb cdv A outer s H E, ?_⟩
  obtain ⟨a, ws, rfl, hl, ha, q⟩ := h
  match ws, hl with
  | [y1], _ => exact ⟨a, y1, rfl, rfl, ha, fun d H2 h1 h2 h3 h4 h5 => q d H2 h1 h2 h3 h4 h5⟩
theorem ok_init2 {x qual : Str} {st : Stmt} {f : Addr} {fd : FuncData} {N ps : List Str} {k : Nat} {C : Addr} {f1 f2 : Str} (F : Fun K x qual st f fd) (Sc : FnScope N ps (defScope st)) (hp : ps.length = 3)
    (hb : ∀ (cdv : Value) (A : Around) (outer : List Env) (s : Shared) (H : Hp) (E : XK), PSs (cxOf (L2.CX P w) P w K mg base N qual (defScope st) f cdv A outer s H E) (defBody st) (tI2 (cxOf (L2.CX P w) P w K mg base N qual (defScope st) f cdv A outer s H E) C f1 f2)) :
    FnOk P w K mg base (L2.CX P w) (k + 1) f fd ps (spI C [f1, f2]) := by
  refine F.okX Sc (fun vs H Q E ⟨a, ws, e, hl, _⟩ => by rw [e, hp]; simp [hl]) fun cdv A outer s H vs Q E hr h => ⟨_, hb cdv A outer s H E, ?_⟩
  obtain ⟨a, ws, rfl, hl, ha, q⟩ := h
  match ws, hl with
  | [y1, y2], _ => exact ⟨a, y1, y2, rfl, rfl, rfl, ha, fun d H2 h1 h2 h3 h4 h5 => q d H2 h1 h2 h3 h4 h5⟩
end
/-! ### raise C(..) -/
def raiS (c : Str) (fs : List Str) (l : LM) : SM := fun env S => bS (l env S) env fun ds S1 => if ds.length = fs.length then .exc c (fs.zip ds) env S1 else .err
/-- names all different -/
theorem lookup_zip_rev {α β : Type} [BEq α] [LawfulBEq α] {fs : List α} {ws : List β} {f : α} {w : β} (hn : fs.Nodup) (hl : ws.length = fs.length) (h : (f, w) ∈ fs.zip ws) : (fs.zip ws).reverse.lookup f = some w := by
  have key : ∀ (l : List (α × β)), (l.map Prod.fst).Nodup → (f, w) ∈ l → l.lookup f = some w := fun l => by
    induction l with
    | nil => intro _ h; cases h
    | cons p l ih =>
      intro hn h
      obtain ⟨g, u⟩ := p
      rw [List.map_cons, List.nodup_cons] at hn
      rcases List.mem_cons.mp h with e | h'
      · cases e; simp [List.lookup]
      · have ne : (f == g) = false := by
          rw [beq_eq_false_iff_ne]
          intro e
          subst e
          exact hn.1 (List.mem_map.mpr ⟨_, h', rfl⟩)
        rw [List.lookup, ne]
        exact ih hn.2 h'
  refine key _ ?_ (List.mem_reverse.mpr h)
  rw [List.map_reverse, List.map_fst_zip (by omega)]
  exact List.pairwise_reverse.mpr (hn.imp Ne.symm)
theorem relL_mem {K : PySem.W.Frag} {H : Hp} {A : Addr → Prop} {ρ : List Addr} : ∀ {fs : List Str} {vs : List V} {ds : List D} {f : Str} {d : D}, RelL K H A ρ vs ds → (f, d) ∈ fs.zip ds → ∃ v, (f, v) ∈ fs.zip vs ∧ RelD K H A ρ v d
  | [], _, _, _, _, _, h => by simp at h
  | g :: fs, _, [], _, _, _, h => by simp at h
  | g :: fs, vs, d :: ds, f, d', ⟨x, xs, e, h1, h2⟩, h => by
    subst e
    rw [List.zip_cons_cons] at h
    rcases List.mem_cons.mp h with z | z
    · cases z; exact ⟨x, by simp, h1⟩
    · obtain ⟨v, k1, k2⟩ := relL_mem h2 z
      exact ⟨v, by rw [List.zip_cons_cons]; exact List.mem_cons_of_mem _ k1, k2⟩
section
variable {X : Cx} {W : WX} {x : Str} {e : Expr} {es : List Expr} {l : LM} {p pos pos' : Pos} {C fI : Addr} {k : Nat} {fd : FuncData} {ps fs : List Str}
theorem s_raise (hc : X.calm = true) (tk : Takes X W) (T : OexC X.K C) (iC : PySem.W.findIn X.K (.ref C) "__init__" = some (some (.ref fI))) (tI : PySem.W.typeIn X.K (.ref fI) = some (.type "function"))
    (F1 : FnOk X.prog X.w X.K X.mg X.base (L2.CX X.prog X.w) k fI fd ps (spI C fs)) (hr : Room (k + 1) X.A) (hb : Binds X.K fd ps []) (hm : X.mg x = some (.ref C)) (ha : PA X (e :: es) (tA X.K X.mg W l)) (hfs : fs.Nodup ∧ fs.length ≤ 1000) (hg : Gl X x := by rfl)
    (hdb : (x == ("__debug__" : Str)) = false := by decide) (he : starEach (e :: es) X.env = (false, eval e X.env) :: starEach es X.env := by rfl) (hpl : (backTo pos (starEach es X.env)).any (·.1) = false := by rfl) :
    PS X (.Raise (some (.Call (.Name x p) (e :: es) [] pos)) none pos') (tS X.K X.mg W (raiS x fs l)) :=
  (ps_raise hc tk (pmk_oex (CX := L2.CX X.prog X.w) T iC tI F1 hr hb .nil (L2.passL (X := X)) hg hm ha hdb he hpl)).imp fun Dn σ H ⟨ρ, env, S, R, V, w⟩ => tA_seq R V (wpM_mono (wpS_bS V w) (fun ds S1 w1 ρ1 vs H1 R1 V1 U1 r1 => by
    split at w1
    · rename_i hl
      have hvl : vs.length = fs.length := by rw [r1.length]; exact hl
      refine ⟨by omega, fun a na => ⟨a, vs, by rw [List.append_nil], hvl, upd_same, fun d H2 hd ne h1 h2 h3 => ⟨rfl, d, _, h1, h2, ?_, ?_⟩⟩⟩
      · rw [upd_ne ne] at hd; exact hd
      · have hd1 : H1 d = none := by rw [upd_ne ne] at hd; exact hd
        have eH : upd (del H2 a) d (.xd (fs.zip vs).reverse) = upd H1 d (.xd (fs.zip vs).reverse) := by
          funext b
          by_cases hbd : b = d
          · subst hbd; rw [upd_same, upd_same]
          · rw [upd_ne hbd, upd_ne hbd]
            by_cases hba : b = a
            · subst hba; rw [del_same, na]
            · rw [del_ne hba, h3 b hba hbd, upd_ne hba]
        rw [eH]
        have s : Same H1 (upd H1 d (.xd (fs.zip vs).reverse)) := same_new hd1
        have U2 : Up X.K ρ1 H1 S1 ρ1 (upd H1 d (.xd (fs.zip vs).reverse)) S1 := Up.same s
        refine w1 ρ1 σ _ _ _ (R1.same s) (U2.rv V1) (U1.trans U2) ⟨C, d, _, hm, rfl, rfl, upd_same, fun q hq => ?_⟩
        obtain ⟨v, k1, k2⟩ := relL_mem (f := q.1) (d := q.2) r1 hq
        exact ⟨v, lookup_zip_rev hfs.1 hvl k1, U2.relD k2⟩
    · exact w1.elim) fun _ _ _ q => q)
end
/-! ### try: .. except C as e: return .. -/
def tryS (body : SM) (yes : Str → Option Bool) (i : Nat) (suite : Str → List (Str × D) → SM) : SM := fun env S => match body env S with
  | .exc c fs env1 S1 => if i < env1.length then match yes c with
    | some true => match suite c fs (env1.set i none) S1 with
      | .nx env2 S2 => .nx (env2.set i none) S2
      | .brk env2 S2 => .brk (env2.set i none) S2
      | .ct env2 S2 => .ct (env2.set i none) S2
      | .exc _ _ _ _ => .err
      | r => r
    | some false => .exc c fs env1 S1
    | none => .err else .err
  | r => r
/-- a suite's readings: e stands at i -/
def ExS (K : PySem.W.Frag) (mg : Str → Option Value) (i : Nat) (a : Addr) (cls : Value) (d : Option Addr) (ρ : List Addr) (σ : L2.St) (H : Hp) (S : Sto) (c : Str) (fs : List (Str × D)) : Prop := σ[i]? = some (some (V.ref a)) ∧ ExcR K mg H (Al ρ S) ρ c fs cls d
section
variable (K : PySem.W.Frag) (mg : Str → Option Value) (i : Nat) (a : Addr) (cls : Value) (d : Option Addr)
def uE (m : Str → List (Str × D) → EM) : TE := fun σ H Q => ∃ ρ env S c fs, RS K ρ H S ∧ RV K ρ σ H S env ∧ ExS K mg i a cls d ρ σ H S c fs ∧ wpM (m c fs env S) (PostV K ρ H S Q) (PostX K mg W0 ρ σ H S)
def uA (m : Str → List (Str × D) → LM) : TA := fun σ H Q => ∃ ρ env S c fs, RS K ρ H S ∧ RV K ρ σ H S env ∧ ExS K mg i a cls d ρ σ H S c fs ∧ wpM (m c fs env S) (PostL K ρ H S Q) (PostX K mg W0 ρ σ H S)
def uF (m : Str → List (Str × D) → LM) : TE := fun σ H Q => ∃ ρ env S c fs, RS K ρ H S ∧ RV K ρ σ H S env ∧ ExS K mg i a cls d ρ σ H S c fs ∧ wpM (m c fs env S) (PostF K ρ H S Q) (PostX K mg W0 ρ σ H S)
def uS (m : Str → List (Str × D) → SM) : TS := fun Dn σ H => ∃ ρ env S c fs, RS K ρ H S ∧ RV K ρ σ H S env ∧ ExS K mg i a cls d ρ σ H S c fs ∧ wpS K mg W0 ρ H S Dn (m c fs env S)
end
theorem ExcR.up {K : PySem.W.Frag} {mg : Str → Option Value} {ρ ρ' : List Addr} {H H' : Hp} {S S' : Sto} {c : Str} {fs : List (Str × D)} {cls : Value} {d : Option Addr} (R : RS K ρ H S) (U : Up K ρ H S ρ' H' S') (h : ExcR K mg H (Al ρ S) ρ c fs cls d) : ExcR K mg H' (Al ρ' S') ρ' c fs cls d := by
  obtain ⟨C, dd, ys, h1, h2, h3, h4, h5⟩ := h
  refine ⟨C, dd, ys, h1, h2, h3, (U.ext dd _ h4 fun q => ?_).1, fun p hp => let ⟨v, e, r⟩ := h5 p hp; ⟨v, e, U.relD r⟩⟩
  obtain ⟨o, xs, e⟩ := R.alive q
  rw [h4] at e; cases o <;> cases e
theorem ExS.up {K : PySem.W.Frag} {mg : Str → Option Value} {i : Nat} {a : Addr} {ρ ρ' : List Addr} {σ : L2.St} {H H' : Hp} {S S' : Sto} {c : Str} {fs : List (Str × D)} {cls : Value} {d : Option Addr} (R : RS K ρ H S) (U : Up K ρ H S ρ' H' S') (h : ExS K mg i a cls d ρ σ H S c fs) : ExS K mg i a cls d ρ' σ H' S' c fs := ⟨h.1, h.2.up R U⟩
section
variable {X : Cx} {i : Nat} {a : Addr} {cls : Value} {d : Option Addr} {e : Expr} {es : List Expr} {pos : Pos}
/-- what does not speak of e -/
theorem u_lift {m : EM} (h : PE X e (tE X.K X.mg W0 m)) : PE X e (uE X.K X.mg i a cls d fun _ _ => m) := h.imp fun σ H Q ⟨ρ, env, S, c, fs, R, V, x, w⟩ => ⟨ρ, env, S, R, V, w⟩
theorem u_nil : PA X [] (uA X.K X.mg i a cls d fun _ _ => lnil) := y_nil.imp fun σ H Q ⟨ρ, env, S, c, fs, R, V, x, w⟩ => ⟨ρ, env, S, R, V, w⟩
theorem u_cons {m : Str → List (Str × D) → EM} {l : Str → List (Str × D) → LM} (ha : PE X e (uE X.K X.mg i a cls d m)) (hr : PA X es (uA X.K X.mg i a cls d l)) (hs : starEach (e :: es) X.env = (false, eval e X.env) :: starEach es X.env := by rfl) :
    PA X (e :: es) (uA X.K X.mg i a cls d fun c fs => lcons (m c fs) (l c fs)) :=
  (pa_cons ha hr hs).imp fun σ H Q ⟨ρ, env, S, c, fs, R, V, x, w⟩ => by
    refine ⟨ρ, env, S, c, fs, R, V, x, wpM_mono (wpM_bd w) (fun d1 S1 w1 ρ1 v H1 R1 U1 r1 => ?_) fun _ _ _ q => q⟩
    refine ⟨ρ1, env, S1, c, fs, R1, U1.rv V, x.up R U1, wpM_mono (wpM_bd w1) (fun ds S2 w2 ρ2 vs H2 R2 U2 r2 => ?_) fun _ _ _ q => q.up U1⟩
    exact w2 ρ2 (v :: vs) H2 R2 (U1.trans U2) (RelL.cons (U2.relD r1) r2)
theorem u_lst {l : Str → List (Str × D) → LM} (h : PA X es (uA X.K X.mg i a cls d l)) : PE X (.List es pos) (uF X.K X.mg i a cls d fun c fs => lstF (l c fs)) :=
  (pe_lst h).imp fun σ H Q ⟨ρ, env, S, c, fs, R, V, x, w⟩ => ⟨ρ, env, S, c, fs, R, V, x, wpM_mono (wpM_bd w) (fun xs S1 w1 ρ1 vs H1 R1 U1 r1 => by
    split at w1
    · rename_i hl
      exact ⟨by rw [r1.length]; exact hl, fun p np => w1 ρ1 p vs H1 _ R1 U1 r1 np (same_new np) upd_same⟩
    · exact w1.elim) fun _ _ _ q => q⟩
theorem u_tup {k} {l : Str → List (Str × D) → LM} (h : PA X es (uA X.K X.mg i a cls d l)) : PE X (.Tuple es k pos) (uE X.K X.mg i a cls d fun c fs => tupE (l c fs)) :=
  (pe_tup h).imp fun σ H Q ⟨ρ, env, S, c, fs, R, V, x, w⟩ => ⟨ρ, env, S, c, fs, R, V, x, wpM_mono (wpM_bd w) (fun xs S1 w1 ρ1 vs H1 R1 U1 r1 => by
    split at w1
    · rename_i hl
      refine ⟨by rw [r1.length]; exact hl, fun p np => ?_⟩
      have s : Same H1 (upd H1 p (.tup vs)) := same_new np
      exact w1 ρ1 (.ref p) _ (R1.same s) (U1.trans (Up.same s)) ⟨p, vs, rfl, SqT.of upd_same, (Up.same (K := X.K) (ρ := ρ1) (S := S1) s).relL r1⟩
    · exact w1.elim) fun _ _ _ q => q⟩
theorem u_frz {l : Str → List (Str × D) → LM} (h : PE X e (uF X.K X.mg i a cls d l)) : PE X e (uE X.K X.mg i a cls d fun c fs => frz (l c fs)) :=
  h.imp fun σ H Q ⟨ρ, env, S, c, fs, R, V, x, w⟩ => ⟨ρ, env, S, c, fs, R, V, x, wpM_mono (wpM_bd w) (fun xs S1 w1 ρ1 p ys H1 H2 R1 U1 r1 np s hp => by
    have U2 : Up X.K ρ1 H1 S1 ρ1 H2 S1 := Up.same s
    exact w1 ρ1 (.ref p) H2 (R1.same s) (U1.trans U2) ⟨p, ys, rfl, .inl ⟨.inl hp, R1.noal np⟩, U2.relL r1⟩) fun _ _ _ q => q⟩
theorem u_ret {m : Str → List (Str × D) → EM} (he : PE X e (uE X.K X.mg i a cls d m)) : PS X (.Return (some e) pos) (uS X.K X.mg i a cls d fun c fs => retS (m c fs)) :=
  (ps_ret he).imp fun Dn σ H ⟨ρ, env, S, c, fs, R, V, x, w⟩ => ⟨ρ, env, S, c, fs, R, V, x, wpM_mono (wpS_bS V w) (fun d S1 w1 ρ1 v H1 R1 U1 r1 => w1 ρ1 v H1 R1 U1 r1) fun _ _ _ q => q⟩
theorem u_one {st : Stmt} {m : Str → List (Str × D) → SM} (h : PS X st (uS X.K X.mg i a cls d m)) : PSs X [st] (uS X.K X.mg i a cls d m) := pss_one h
theorem u_liftS {st : Stmt} {m : SM} (h : PS X st (tS X.K X.mg W0 m)) : PS X st (uS X.K X.mg i a cls d fun _ _ => m) := h.imp fun Dn σ H ⟨ρ, env, S, c, fs, R, V, x, w⟩ => ⟨ρ, env, S, R, V, w⟩
end
/-- e.f, e of one of the classes cs -/
def fldE (cs : List Str) (f : Str) : Str → List (Str × D) → EM := fun c fs _ S => if c ∈ cs then lf (fs.lookup f) S else .err
theorem mem_of_lookup {fs : List (Str × D)} {f : Str} {d : D} (h : fs.lookup f = some d) : (f, d) ∈ fs := by
  induction fs with
  | nil => cases h
  | cons p l ih =>
    obtain ⟨g, u⟩ := p
    rw [List.lookup] at h
    split at h
    · rename_i e
      cases h
      rw [eq_of_beq e]; exact List.mem_cons_self
    · exact List.mem_cons_of_mem _ (ih h)
theorem u_fld {X : Cx} {i : Nat} {a : Addr} {cls : Value} {d : Option Addr} {oe : Obj} {pn : List (Addr × Obj)} {n f : Str} {p pos : Pos} {cs : List Str} (T : ∀ c ∈ cs, ∀ C, X.mg c = some (.ref C) → XfC X.K C ∧ PySem.W.findIn X.K (.ref C) f = some none)
    (hz : Zc cls d oe) (hf : ∃ vs, oe.data = .fields vs) (he : PE (X.suite a ((a, oe) :: pn)) (.Name n p) (tVar i)) (hb : attributeBase (.Name n p) f X.env (eval (.Name n p) X.env) = eval (.Name n p) X.env := by rfl) :
    PE (X.suite a ((a, oe) :: pn)) (.Attribute (.Name n p) f pos) (uE X.K X.mg i a cls d (fldE cs f)) := by
  by_cases h : ∃ C, cls = .ref C ∧ XfC X.K C ∧ PySem.W.findIn X.K (.ref C) f = some none
  · obtain ⟨C, hc, t1, t2⟩ := h
    refine (pe_xf t1 t2 hz hf he hb).imp fun σ H Q ⟨ρ, env, S, c, fs, R, V, x, w⟩ => ?_
    obtain ⟨x1, C', dd, ys, h1, h2, h3, h4, h5⟩ := x
    unfold fldE at w
    split at w
    · obtain ⟨v, e, q⟩ := wpM_lf w
      obtain ⟨u, k1, k2⟩ := h5 _ (mem_of_lookup e)
      exact ⟨.ref a, x1, rfl, hc, dd, ys, u, h3, h4, k1, q ρ u H R Up.refl k2⟩
    · exact w.elim
  · refine ⟨fun pins s σ H Q I q => ?_⟩
    obtain ⟨ρ, env, S, c, fs, R, V, x, w⟩ := q
    obtain ⟨x1, C', dd, ys, h1, h2, h3, h4, h5⟩ := x
    unfold fldE at w
    split at w
    · rename_i hcs
      obtain ⟨t1, t2⟩ := T c hcs C' h1
      exact absurd ⟨C', h2, t1, t2⟩ h
    · exact w.elim
theorem RV.hide {K : PySem.W.Frag} {ρ : List Addr} {σ : L2.St} {H : Hp} {S : Sto} {env : En} (hV : RV K ρ σ H S env) (i : Nat) (x : Option L2.V) : RV K ρ (σ.set i x) H S (env.set i none) := by
  refine ⟨by simp [hV.1], fun j e h => ?_⟩
  by_cases hj : i = j
  · subst hj
    by_cases hi : i < env.length
    · rw [List.getElem?_set_self hi] at h; cases h
    · rw [List.getElem?_eq_none (by simp; omega)] at h; cases h
  · rw [List.getElem?_set_ne hj] at h ⊢
    exact hV.2 j e h
theorem s_try {X : Cx} {W : WX} {x n : Str} {C : Addr} {i : Nat} {body suite : List Stmt} {b₀ : Stmt} {np pos pos' : Pos} {mb : SM} {ms : Str → List (Str × D) → SM} {yes : Str → Option Bool}
    (hs : X.stack = X.env :: X.outer) (hf : X.env.frame = some X.env.locals) (hN : X.N.Nodup) (hm : X.mg x = some (.ref C)) (tk : Takes X W)
    (hy : ∀ c C' b, X.mg c = some (.ref C') → yes c = some b → PySem.W.exmOne X.K (.ref C') (.ref C) = some b)
    (hb : ∀ (W : WX) (pn : List (Addr × Obj)) (xe : Value → Shared → Prop), Takes (X.tr pn xe) W → PassesOwn (model X.prog X.w) X.A X.env xe → PSs (X.tr pn xe) body (tS X.K X.mg W mb))
    (hsu : ∀ (a : Addr) (oe : Obj) (cls : Value) (d : Option Addr) (pn : List (Addr × Obj)), Zc cls d oe → (∃ vs, oe.data = .fields vs) → PSs (X.suite a ((a, oe) :: pn)) (b₀ :: suite) (uS X.K X.mg i a cls d ms))
    (hi : X.N[i]? = some n := by rfl) (hln : X.env.kindOf n = some .local := by rfl) (hg : Gl X x := by rfl) (hdb : (x == ("__debug__" : Str)) = false := by decide) :
    PS X (.Try body [.ExceptHandler (some (.Name x np)) (some n) (b₀ :: suite) pos'] [] [] pos) (tS X.K X.mg W (tryS mb yes i ms)) :=
  (ps_try_as (c := .ref C) (tb := fun W => tS X.K X.mg W mb) (ts := fun a cls d => uS X.K X.mg i a cls d ms) hs hf hN hi hln ⟨hg, hdb, .inl hm⟩ tk hb hsu).imp fun Dn σ H ⟨ρ, env, S, R, V, w⟩ => by
    refine ⟨ρ, env, S, R, V, ?_⟩
    unfold tryS at w
    cases e1 : mb env S with
    | nx env1 S1 => rw [e1] at w; exact w
    | brk env1 S1 => rw [e1] at w; exact w
    | ct env1 S1 => rw [e1] at w; exact w
    | ret d S1 => rw [e1] at w; exact w
    | err => rw [e1] at w; exact w
    | exc c fs env1 S1 =>
      rw [e1] at w
      simp only at w
      split at w
      · rename_i hi1
        intro ρ' σ' H' cls dx R' V' U' x'
        obtain ⟨C', dd, ys, h1, h2, h3, h4, h5⟩ := id x'
        subst h2
        cases e2 : yes c with
        | none => rw [e2] at w; exact w.elim
        | some b =>
          rw [e2] at w
          refine ⟨b, hy c C' b h1 e2, fun hb => ?_, fun hb => ?_⟩
          · subst hb
            simp only at w
            intro a ha
            refine ⟨ρ', env1.set i none, S1, c, fs, R', V'.hide i _, ⟨by rw [List.getElem?_set_self (by rw [← V'.1]; exact hi1)], x'⟩, ?_⟩
            cases e3 : ms c fs (env1.set i none) S1 with
            | nx env2 S2 => rw [e3] at w; exact fun ρ2 σ2 H2 R2 V2 U2 => w ρ2 (σ2.set i none) H2 R2 (V2.hide i none) (U'.trans U2)
            | brk env2 S2 => rw [e3] at w; exact fun ρ2 σ2 H2 R2 V2 U2 => w ρ2 (σ2.set i none) H2 R2 (V2.hide i none) (U'.trans U2)
            | ct env2 S2 => rw [e3] at w; exact fun ρ2 σ2 H2 R2 V2 U2 => w ρ2 (σ2.set i none) H2 R2 (V2.hide i none) (U'.trans U2)
            | ret d S2 => rw [e3] at w; exact fun ρ2 v H2 R2 U2 => w ρ2 v H2 R2 (U'.trans U2)
            | err => rw [e3] at w; exact w.elim
            | exc c2 fs2 env2 S2 => rw [e3] at w; exact w.elim
          · subst hb
            simp only at w
            exact w ρ' σ' H' (.ref C') dx R' V' U' x'
      · exact w.elim
end Y

end
section
set_option Elab.async false
set_option linter.all false
set_option maxRecDepth 100000
set_option maxHeartbeats 4000000
set_option autoImplicit false
namespace Y
open PySem PySem.Spec L2
section
variable (P : Program) (w : World) (K : PySem.W.Frag) (mg : Str → Option Value) (base : Heap)
/-- a def of the text, bound to its name -/
structure Fu (x : Str) (st : Stmt) (ps : List Str) : Prop where
  ex : ∃ f fd, Fun K x x st f fd ∧ mg x = some (.ref f) ∧ Binds K fd ps []
/-- a def whose mirror is mf -/
structure Cl (x : Str) (k : Nat) (ps : List Str) (mf : List D → Sto → Res D) : Prop where
  ex : ∃ f fd, FnOk P w K mg base (L2.CX P w) k f fd ps (spM K mg ps.length mf) ∧ mg x = some (.ref f) ∧ PySem.W.keepIn K (.ref f) = true ∧ Binds K fd ps []
/-- an own exception class whose __init__ keeps its arguments as fs -/
structure Ex (x : Str) (fs : List Str) : Prop where
  ex : ∃ C fI fd ps, OexC K C ∧ PySem.W.findIn K (.ref C) "__init__" = some (some (.ref fI)) ∧ PySem.W.typeIn K (.ref fI) = some (.type "function") ∧ FnOk P w K mg base (L2.CX P w) 1 fI fd ps (spI C fs) ∧ Binds K fd ps [] ∧ mg x = some (.ref C)
end
section
variable {P : Program} {w : World} {K : PySem.W.Frag} {mg : Str → Option Value} {base : Heap}
theorem Cl.mono {x : Str} {j k : Nat} {ps : List Str} {mf : List D → Sto → Res D} (C : Cl P w K mg base x j ps mf) (h : j ≤ k) : Cl P w K mg base x k ps mf := by
  obtain ⟨f, fd, F, r⟩ := C.ex
  exact ⟨f, fd, F.mono h, r⟩
theorem cl_fn {x : Str} {st : Stmt} {N ps : List Str} {k n : Nat} {m : SM} (F : Fu K mg x st ps) (Sc : FnScope N ps (defScope st)) (hn : N.length = n)
    (hb : ∀ (f : Addr) (cdv : Value) (A : Around) (outer : List Env) (s : Shared) (H : Hp) (E : XK), Room k (A.deeper (PyProof.Rows.envOfC x (defScope st) s.heap.objs.size f cdv)) →
      PSs (cxOf (L2.CX P w) P w K mg base N x (defScope st) f cdv A outer s H E) (defBody st) (tS K mg (fun cls d _ H => E cls d H) m)) : Cl P w K mg base x (k + 1) ps (fn n m) := by
  obtain ⟨f, fd, h1, h2, h3⟩ := F.ex
  exact ⟨f, fd, ok_fn h1 Sc hn (hb f), h2, h1.kp, h3⟩
theorem cl_run {x : Str} {st : Stmt} {N ps : List Str} {k n : Nat} {m : SM} (F : Fu K mg x st ps) (Sc : FnScope N ps (defScope st)) (hn : N.length = n)
    (hb : ∀ (f : Addr) (cdv : Value) (A : Around) (outer : List Env) (s : Shared) (H : Hp) (E : XK), Room k (A.deeper (PyProof.Rows.envOfC x (defScope st) s.heap.objs.size f cdv)) →
      PSs (cxOf (L2.CX P w) P w K mg base N x (defScope st) f cdv A outer s H E) (defBody st) (tS K mg (fun cls d _ H => E cls d H) m)) : Cl P w K mg base x (k + 1) ps (run n m) := by
  obtain ⟨f, fd, h1, h2, h3⟩ := F.ex
  exact ⟨f, fd, ok_run h1 Sc hn (hb f), h2, h1.kp, h3⟩
/-- a def of which nothing is told -/
theorem cl_none {x : Str} {st : Stmt} {ps : List Str} {k : Nat} (F : Fu K mg x st ps) : Cl P w K mg base x k ps (fun _ _ => .err) := by
  obtain ⟨f, fd, h1, h2, h3⟩ := F.ex
  have no : ∀ vs H Q E, spM K mg ps.length (fun _ _ => .err) vs H Q E → False := fun vs H Q E ⟨_, ρ, S, ds, _, _, w⟩ => w
  exact ⟨f, fd, ⟨fun vs H Q E h => (no _ _ _ _ h).elim, fun A outer s H args us vs Q E _ _ _ _ h => (no _ _ _ _ h).elim⟩, h2, h1.kp, h3⟩
end
section
variable {X : Cx} {W : WX} {k : Nat} {ps fs : List Str} {x : Str} {p pos pos' : Pos} {e : Expr} {es : List Expr} {l : LM} {mf : List D → Sto → Res D}
theorem y_fn (C : Cl X.prog X.w X.K X.mg X.base x k ps mf) (hr : Room k X.A) (tk : Takes X W) (ha : PA X (e :: es) (tA X.K X.mg W l)) (hn : Len l ps.length)
    (hg : Gl X x := by rfl) (hdb : (x == ("__debug__" : Str)) = false := by decide) (he : starEach (e :: es) X.env = (false, eval e X.env) :: starEach es X.env := by rfl) (hpl : (backTo pos (starEach es X.env)).any (·.1) = false := by rfl) :
    PE X (.Call (.Name x p) (e :: es) [] pos) (tE X.K X.mg W (cal mf l)) := by
  obtain ⟨f, fd, F, hm, hk, hb⟩ := C.ex
  exact y_call F hr tk hm hk hb ha hn hg hdb he hpl
theorem s_rais (hc : X.calm = true) (tk : Takes X W) (T : Ex X.prog X.w X.K X.mg X.base x fs) (hr : Room 2 X.A) (ha : PA X (e :: es) (tA X.K X.mg W l)) (hfs : fs.Nodup ∧ fs.length ≤ 1000) (hg : Gl X x := by rfl)
    (hdb : (x == ("__debug__" : Str)) = false := by decide) (he : starEach (e :: es) X.env = (false, eval e X.env) :: starEach es X.env := by rfl) (hpl : (backTo pos (starEach es X.env)).any (·.1) = false := by rfl) :
    PS X (.Raise (some (.Call (.Name x p) (e :: es) [] pos)) none pos') (tS X.K X.mg W (raiS x fs l)) := by
  obtain ⟨C, fI, fd, ps, T, iC, tI, F1, hb, hm⟩ := T.ex
  exact s_raise hc tk T iC tI F1 hr hb hm ha hfs hg hdb he hpl
end
/-! ### the end -/
/-- what the law's def promises -/
def spLaw (K : PySem.W.Frag) : Sp := fun vs H Q _ => ∃ (a : Addr) (ns : List Int), vs = [.ref a] ∧ SqL K H a (ns.map V.int) ∧ ns.length ≤ 63 ∧ ∀ H', Q (.bl true) H'
theorem law_end {P : Program} {w : World} {K : PySem.W.Frag} {mg : Str → Option Value} {base : Heap} {k : Nat} {ps : List Str} {mf : List D → Sto → Res D} {f : Addr} {fd : FuncData} (F : FnOk P w K mg base (L2.CX P w) k f fd ps (spM K mg ps.length mf)) (hp : ps.length = 1)
    (h : ∀ ns : List Int, ns.length ≤ 63 → ∃ S, mf [.lst (ns.map .int)] [] = .ok (.bl true) S) : FnOk P w K mg base (L2.CX P w) k f fd ps (spLaw K) :=
  F.imp fun vs H Q E ⟨a, ns, e, hS, hl, q⟩ => by
    subst e
    obtain ⟨S, hm⟩ := h ns hl
    refine ⟨by simp [hp], [], [], [.lst (ns.map .int)], ⟨rfl, fun n o a h => by simp at h, fun n m o o' a h => by simp at h⟩, RelL.cons ⟨a, _, rfl, ?_, RelL.ints ns⟩ RelL.nil, ?_⟩
    · rcases hS with hS | hS
      · exact .inl ⟨hS, fun ⟨n, o, h, _⟩ => by simp at h⟩
      · exact .inr hS
    · rw [hm]
      intro ρ' v H' R U r
      have r' : v = .bl true := r
      subst r'
      exact q H'
end Y

end
section
set_option Elab.async false
set_option linter.all false
set_option maxRecDepth 100000
set_option maxHeartbeats 4000000
set_option autoImplicit false
namespace Y
open PySem PySem.Spec L2
section
variable {A : Around} {k : Nat}
theorem hu0 (hr : Room k A) : A.units < cLine := by have := hr.un; omega
theorem hu64 (hr : Room k A) : A.units + 64 < cLine := by have := hr.un; omega
theorem hu65 (hr : Room k A) : A.units + 65 < cLine := by have := hr.un; omega
theorem hu200 (hr : Room k A) : A.units + 200 < cLine := by have := hr.un; omega
end
def yesL (l : List (Str × Bool)) : Str → Option Bool := fun c => l.lookup c
/-- the class that an except clause names -/
structure Hd (K : PySem.W.Frag) (mg : Str → Option Value) (x : Str) (yes : Str → Option Bool) : Prop where
  ex : ∃ C, mg x = some (.ref C) ∧ ∀ c C' b, mg c = some (.ref C') → yes c = some b → PySem.W.exmOne K (.ref C') (.ref C) = some b
theorem exm_self {K : PySem.W.Frag} {S : Addr} (h1 : PySem.W.subIn K (.ref S) (.type "BaseException") = some true) (h2 : PySem.W.isClsIn K S = true) (h3 : PySem.W.typeIn K (.ref S) = some (.type "type")) (h4 : PySem.W.subIn K (.ref S) (.ref S) = some true) :
    PySem.W.exmOne K (.ref S) (.ref S) = some true := by
  have e1 : (PySem.W.subIn K (.ref S) (.type "BaseException") == some true) = true := by rw [h1] <;> rfl
  have e2 : ((PySem.W.clsIn K S).isSome && PySem.W.typeIn K (.ref S) == some (.type "type")) = true := by
    have h2' : (PySem.W.clsIn K S).isSome = true := h2
    rw [h2', h3] <;> rfl
  show (if (PySem.W.subIn K (.ref S) (.type "BaseException") == some true) = true then (if ((PySem.W.clsIn K S).isSome && PySem.W.typeIn K (.ref S) == some (.type "type")) = true then PySem.W.subIn K (.ref S) (.ref S) else none) else none) = some true
  rw [if_pos e1, if_pos e2]
  exact h4
theorem hd_self {K : PySem.W.Frag} {mg : Str → Option Value} {x : Str} {C : Addr} (h : mg x = some (.ref C)) (e : PySem.W.exmOne K (.ref C) (.ref C) = some true) : Hd K mg x (yesL [(x, true)]) :=
  ⟨C, h, fun c C' b hc hy => by
    unfold yesL at hy
    rw [List.lookup] at hy
    split at hy
    · rename_i e1
      have e2 := eq_of_beq e1
      subst e2
      have e3 := hc.symm.trans h
      cases e3
      cases hy
      exact e
    · cases hy⟩
theorem s_tryH {X : Cx} {W : WX} {x n : Str} {i : Nat} {body suite : List Stmt} {b₀ : Stmt} {np pos pos' : Pos} {mb : SM} {ms : Str → List (Str × D) → SM} {yes : Str → Option Bool}
    (hs : X.stack = X.env :: X.outer) (hf : X.env.frame = some X.env.locals) (hN : X.N.Nodup) (h : Hd X.K X.mg x yes) (tk : Takes X W)
    (hb : ∀ (W : WX) (pn : List (Addr × Obj)) (xe : Value → Shared → Prop), Takes (X.tr pn xe) W → PassesOwn (model X.prog X.w) X.A X.env xe → PSs (X.tr pn xe) body (tS X.K X.mg W mb))
    (hsu : ∀ (a : Addr) (oe : Obj) (cls : Value) (d : Option Addr) (pn : List (Addr × Obj)), Zc cls d oe → (∃ vs, oe.data = .fields vs) → PSs (X.suite a ((a, oe) :: pn)) (b₀ :: suite) (uS X.K X.mg i a cls d ms))
    (hi : X.N[i]? = some n := by rfl) (hln : X.env.kindOf n = some .local := by rfl) (hg : Gl X x := by rfl) (hdb : (x == ("__debug__" : Str)) = false := by decide) :
    PS X (.Try body [.ExceptHandler (some (.Name x np)) (some n) (b₀ :: suite) pos'] [] [] pos) (tS X.K X.mg W (tryS mb yes i ms)) := by
  obtain ⟨C, hm, hy⟩ := h.ex
  exact s_try hs hf hN hm tk hy hb hsu hi hln hg hdb
def clsBody : Stmt → List Stmt
  | .ClassDef _ _ _ b .. => b
  | _ => []
theorem noCX {P : Program} {w : World} {H : Hp} {s : Shared} {e : Value} {s' : Shared} (h : L2.CX P w [] H s (fun _ _ _ => False) e s') : False := by
  obtain ⟨_, _, _, _, _, _, _, _, _, _, _, _, z⟩ := h
  exact z.elim
section
variable {X : Cx} {W : WX} {pos py spos : Pos} {elt iter tg : Expr} {ifs : List Expr} {scope : Scope} {own : List (Str × Nat)} {ts : TM} {el : EM} {mi : IM} {g : TgM} {y : Str}
theorem y_compF (hc : X.calm = true) (hN : X.N.Nodup) (hi : PI X tg iter (tI X.K X.mg W mi)) (ok : blkC X.N X.env.scope scope own = true)
    (hg : ∀ (s : Shared) (H : Hp) (C : Addr) (cl : List (Str × Addr)) (fp : List Addr), PG (X.blk s H scope (compEnvC scope cl C X.env) fp) tg (tG X.K (own.map (·.2)) g)) (ht : ∀ (s : Shared) (H : Hp) (C : Addr) (cl : List (Str × Addr)) (fp : List Addr), PTs (X.blk s H scope (compEnvC scope cl C X.env) fp) ifs (tT X.K X.mg W0 ts))
    (he : ∀ (s : Shared) (H : Hp) (C : Addr) (cl : List (Str × Addr)) (fp : List Addr), PE (X.blk s H scope (compEnvC scope cl C X.env) fp) elt (tE X.K X.mg W0 el)) (hs : ∀ x, foldedSetIterable iter X.env x = pure x := by intro _; rfl) :
    PE X (.ListComp elt [⟨tg, iter, ifs, 0⟩] scope pos) (tE X.K X.mg W (compF mi g ts el (own.map (·.2)))) := y_comp (compF_imp (X := X) (W := W) (own := own)) hc hN hi ok hg ht he hs
theorem s_setCompF (i : Nat) (hc : X.calm = true) (hN : X.N.Nodup) (hyl : X.env.scope.names.lookup y = some .local)
    (hsw : swapsWith (.ListComp elt [⟨tg, iter, ifs, 0⟩] scope pos) (some (.Name y py)) spos.line X.env = pure true) (hi : PI X tg iter (tI X.K X.mg W mi)) (ok : blkC X.N X.env.scope scope own = true)
    (hg : ∀ (s : Shared) (H : Hp) (C : Addr) (cl : List (Str × Addr)) (fp : List Addr), PG (X.blk s H scope (compEnvC scope cl C X.env) fp) tg (tG X.K (own.map (·.2)) g)) (ht : ∀ (s : Shared) (H : Hp) (C : Addr) (cl : List (Str × Addr)) (fp : List Addr), PTs (X.blk s H scope (compEnvC scope cl C X.env) fp) ifs (tT X.K X.mg W0 ts))
    (he : ∀ (s : Shared) (H : Hp) (C : Addr) (cl : List (Str × Addr)) (fp : List Addr), PE (X.blk s H scope (compEnvC scope cl C X.env) fp) elt (tE X.K X.mg W0 el)) (hy : X.N[i]? = some y := by rfl) (hs : ∀ x, foldedSetIterable iter X.env x = pure x := by intro _; rfl) :
    PS X (.Assign [.Name y py] (.ListComp elt [⟨tg, iter, ifs, 0⟩] scope pos) spos) (tS X.K X.mg W (asg (tgN i) (compF mi g ts el (own.map (·.2))))) := s_setComp i (compF_imp (X := X) (W := W) (own := own)) hc hN hyl hsw hi ok hg ht he hy hs
theorem y_compN (hc : X.calm = true) (hN : X.N.Nodup) (hi : PI X tg iter (tI X.K X.mg W mi)) (ok : blkC X.N X.env.scope scope own = true)
    (hg : ∀ (s : Shared) (H : Hp) (C : Addr) (cl : List (Str × Addr)) (fp : List Addr), PG (X.blk s H scope (compEnvC scope cl C X.env) fp) tg (tG X.K (own.map (·.2)) g)) (ht : ∀ (s : Shared) (H : Hp) (C : Addr) (cl : List (Str × Addr)) (fp : List Addr), PTs (X.blk s H scope (compEnvC scope cl C X.env) fp) ifs (tT X.K X.mg W0 ts))
    (he : ∀ (s : Shared) (H : Hp) (C : Addr) (cl : List (Str × Addr)) (fp : List Addr), PE (X.blk s H scope (compEnvC scope cl C X.env) fp) elt (tE X.K X.mg W0 el)) (hs : ∀ x, foldedSetIterable iter X.env x = pure x := by intro _; rfl) :
    PE X (.ListComp elt [⟨tg, iter, ifs, 0⟩] scope pos) (tE X.K X.mg W (compN mi g ts el (own.map (·.2)))) := y_comp (compN_imp (X := X) (W := W) (own := own)) hc hN hi ok hg ht he hs
theorem s_setCompN (i : Nat) (hc : X.calm = true) (hN : X.N.Nodup) (hyl : X.env.scope.names.lookup y = some .local)
    (hsw : swapsWith (.ListComp elt [⟨tg, iter, ifs, 0⟩] scope pos) (some (.Name y py)) spos.line X.env = pure true) (hi : PI X tg iter (tI X.K X.mg W mi)) (ok : blkC X.N X.env.scope scope own = true)
    (hg : ∀ (s : Shared) (H : Hp) (C : Addr) (cl : List (Str × Addr)) (fp : List Addr), PG (X.blk s H scope (compEnvC scope cl C X.env) fp) tg (tG X.K (own.map (·.2)) g)) (ht : ∀ (s : Shared) (H : Hp) (C : Addr) (cl : List (Str × Addr)) (fp : List Addr), PTs (X.blk s H scope (compEnvC scope cl C X.env) fp) ifs (tT X.K X.mg W0 ts))
    (he : ∀ (s : Shared) (H : Hp) (C : Addr) (cl : List (Str × Addr)) (fp : List Addr), PE (X.blk s H scope (compEnvC scope cl C X.env) fp) elt (tE X.K X.mg W0 el)) (hy : X.N[i]? = some y := by rfl) (hs : ∀ x, foldedSetIterable iter X.env x = pure x := by intro _; rfl) :
    PS X (.Assign [.Name y py] (.ListComp elt [⟨tg, iter, ifs, 0⟩] scope pos) spos) (tS X.K X.mg W (asg (tgN i) (compN mi g ts el (own.map (·.2))))) := s_setComp i (compN_imp (X := X) (W := W) (own := own)) hc hN hyl hsw hi ok hg ht he hy hs
end
end Y

end
section
set_option Elab.async false
set_option linter.all false
set_option maxRecDepth 100000
set_option maxHeartbeats 4000000
set_option autoImplicit false
/-! reasoning about mirrors -/
namespace Y
open PySem PySem.Spec L2
structure SK where
  nx : En → Sto → Prop
  bk : En → Sto → Prop
  ct : En → Sto → Prop
  rt : D → Sto → Prop
  ex : Str → List (Str × D) → En → Sto → Prop
def wS (r : SR) (k : SK) : Prop := match r with
  | .nx e S => k.nx e S
  | .brk e S => k.bk e S
  | .ct e S => k.ct e S
  | .ret d S => k.rt d S
  | .exc c fs e S => k.ex c fs e S
  | .err => False
section
variable {α β : Type} {env : En} {S : Sto} {k : SK} {Q : β → Sto → Prop} {E : Str → List (Str × D) → Sto → Prop}
theorem wS_seq {a b : SM} : wS (seqS a b env S) k = wS (a env S) ⟨fun e S => wS (b e S) k, k.bk, k.ct, k.rt, k.ex⟩ := by
  unfold seqS
  cases a env S <;> rfl
theorem wS_bS {r : Res α} {f : α → Sto → SR} : wS (bS r env f) k = wpM r (fun a S => wS (f a S) k) (fun c fs S => k.ex c fs env S) := by
  cases r <;> rfl
theorem wpM_bdE {r : Res α} {f : α → Sto → Res β} : wpM (bd r f) Q E = wpM r (fun a S => wpM (f a S) Q E) E := by
  cases r <;> rfl
theorem wS_if {c : TM} {a b : SM} : wS (ifS c a b env S) k = wpM (c env S) (fun t S1 => if t = true then wS (a env S1) k else wS (b env S1) k) (fun c fs S => k.ex c fs env S) := by
  unfold ifS
  cases c env S with
  | ok t S1 => cases t <;> rfl
  | exc c fs S1 => rfl
  | err => rfl
theorem wpM_ok {a : β} : wpM (.ok a S) Q E = Q a S := rfl
theorem wpM_lfE {o : Option β} : wpM (lf o S) Q E = match o with | some a => Q a S | none => False := by cases o <;> rfl
theorem wS_nx {e : En} : wS (.nx e S) k = k.nx e S := rfl
theorem wS_ret {d : D} : wS (.ret d S) k = k.rt d S := rfl
theorem wS_asg {g : TgM} {e : EM} : wS (asg g e env S) k = wpM (e env S) (fun d S1 => match g d env with | some env1 => k.nx env1 S1 | none => False) (fun c fs S => k.ex c fs env S) := by
  unfold asg
  rw [wS_bS]
  congr 1
  funext d S1
  cases g d env <;> rfl
theorem wS_exS {e : EM} : wS (exS e env S) k = wpM (e env S) (fun _ S1 => k.nx env S1) (fun c fs S => k.ex c fs env S) := by
  unfold exS; rw [wS_bS]; rfl
theorem wS_retS {e : EM} : wS (retS e env S) k = wpM (e env S) (fun d S1 => k.rt d S1) (fun c fs S => k.ex c fs env S) := by
  unfold retS; rw [wS_bS]; rfl
theorem wS_setS {e o i : EM} : wS (setS e o i env S) k = wpM (e env S) (fun d S1 => wpM (o env S1) (fun x S2 => wpM (i env S2) (fun j S3 => match setAt S3 x j d with | some S4 => k.nx env S4 | none => False) (fun c fs S => k.ex c fs env S)) (fun c fs S => k.ex c fs env S)) (fun c fs S => k.ex c fs env S) := by
  unfold setS
  simp only [wS_bS]
  congr 1; funext d S1; congr 1; funext x S2; congr 1; funext j S3
  cases setAt S3 x j d <;> rfl
theorem wS_rai {c : Str} {fs : List Str} {l : LM} : wS (raiS c fs l env S) k = wpM (l env S) (fun ds S1 => if ds.length = fs.length then k.ex c (fs.zip ds) env S1 else False) (fun c fs S => k.ex c fs env S) := by
  unfold raiS
  rw [wS_bS]
  congr 1; funext ds S1
  split <;> rfl
theorem wS_try {body : SM} {yes : Str → Option Bool} {i : Nat} {su : Str → List (Str × D) → SM} : wS (tryS body yes i su env S) k = wS (body env S) ⟨k.nx, k.bk, k.ct, k.rt, fun c fs env1 S1 => if i < env1.length then match yes c with
    | some true => wS (su c fs (env1.set i none) S1) ⟨fun e S => k.nx (e.set i none) S, fun e S => k.bk (e.set i none) S, fun e S => k.ct (e.set i none) S, k.rt, fun _ _ _ _ => False⟩
    | some false => k.ex c fs env1 S1
    | none => False else False⟩ := by
  unfold tryS
  cases body env S with
  | exc c fs env1 S1 =>
    by_cases hi : i < env1.length
    · simp only [if_pos hi]
      show _ = (if i < env1.length then _ else _)
      rw [if_pos hi]
      cases yes c with
      | none => rfl
      | some b =>
        cases b with
        | false => rfl
        | true => simp only; cases su c fs (env1.set i none) S1 <;> rfl
    · simp only [if_neg hi]
      show _ = (if i < env1.length then _ else _)
      rw [if_neg hi]; rfl
  | _ => rfl
theorem wS_nxS : wS (nxS env S) k = k.nx env S := rfl
theorem wpM_op2 {f : Sto → D → D → Option D} {a b : EM} {Q : D → Sto → Prop} : wpM (op2 f a b env S) Q E = wpM (a env S) (fun x S1 => wpM (b env S1) (fun y S2 => wpM (lf (f S2 x y) S2) Q E) E) E := by
  unfold op2; simp only [wpM_bdE]
theorem wpM_op1 {f : Sto → D → Option D} {a : EM} {Q : D → Sto → Prop} : wpM (op1 f a env S) Q E = wpM (a env S) (fun x S1 => wpM (lf (f S1 x) S1) Q E) E := by
  unfold op1; simp only [wpM_bdE]
theorem wpM_asT {a : EM} {Q : Bool → Sto → Prop} : wpM (asT a env S) Q E = wpM (a env S) (fun x S1 => match x with | .bl b => Q b S1 | _ => False) E := by
  unfold asT; rw [wpM_bdE]; congr 1; funext x S1; cases x <;> rfl
theorem wpM_trt {a : EM} {Q : Bool → Sto → Prop} : wpM (trt a env S) Q E = wpM (a env S) (fun x S1 => wpM (lf (tru S1 x) S1) Q E) E := by
  unfold trt; rw [wpM_bdE]
theorem wpM_notT {a : TM} {Q : Bool → Sto → Prop} : wpM (notT a env S) Q E = wpM (a env S) (fun x S1 => Q (!x) S1) E := by
  unfold notT; rw [wpM_bdE]; rfl
theorem wpM_andT {a b : TM} {Q : Bool → Sto → Prop} : wpM (andT a b env S) Q E = wpM (a env S) (fun x S1 => if x = true then wpM (b env S1) Q E else Q false S1) E := by
  unfold andT; rw [wpM_bdE]; congr 1; funext x S1; cases x <;> rfl
theorem wpM_orT {a b : TM} {Q : Bool → Sto → Prop} : wpM (orT a b env S) Q E = wpM (a env S) (fun x S1 => if x = true then Q true S1 else wpM (b env S1) Q E) E := by
  unfold orT; rw [wpM_bdE]; congr 1; funext x S1; cases x <;> rfl
theorem wpM_andV {a b : EM} {Q : D → Sto → Prop} : wpM (andV a b env S) Q E = wpM (a env S) (fun x S1 => wpM (lf (tru S1 x) S1) (fun t S2 => if t = true then wpM (b env S2) Q E else Q x S2) E) E := by
  unfold andV; simp only [wpM_bdE]; congr 1; funext x S1; congr 1; funext t S2; cases t <;> rfl
theorem wpM_notE {a : EM} {Q : D → Sto → Prop} : wpM (notE a env S) Q E = wpM (a env S) (fun x S1 => wpM (lf (tru S1 x) S1) (fun t S2 => Q (.bl (!t)) S2) E) E := by
  unfold notE; simp only [wpM_bdE]; rfl
theorem wpM_ifE {c : TM} {a b : EM} {Q : D → Sto → Prop} : wpM (ifE c a b env S) Q E = wpM (c env S) (fun t S1 => if t = true then wpM (a env S1) Q E else wpM (b env S1) Q E) E := by
  unfold ifE; rw [wpM_bdE]; congr 1; funext x S1; cases x <;> rfl
theorem wpM_lnil {Q : List D → Sto → Prop} : wpM (lnil env S) Q E = Q [] S := rfl
theorem wpM_lcons {a : EM} {l : LM} {Q : List D → Sto → Prop} : wpM (lcons a l env S) Q E = wpM (a env S) (fun x S1 => wpM (l env S1) (fun xs S2 => Q (x :: xs) S2) E) E := by
  unfold lcons; simp only [wpM_bdE]; rfl
theorem wpM_tupE {l : LM} {Q : D → Sto → Prop} : wpM (tupE l env S) Q E = wpM (l env S) (fun xs S1 => if xs.length ≤ sizeLine then Q (.tup xs) S1 else False) E := by
  unfold tupE; rw [wpM_bdE]; congr 1; funext x S1; split <;> rfl
theorem wpM_lstF {l : LM} {Q : List D → Sto → Prop} : wpM (lstF l env S) Q E = wpM (l env S) (fun xs S1 => if xs.length ≤ sizeLine then Q xs S1 else False) E := by
  unfold lstF; rw [wpM_bdE]; congr 1; funext x S1; split <;> rfl
theorem wpM_frz {l : LM} {Q : D → Sto → Prop} : wpM (frz l env S) Q E = wpM (l env S) (fun xs S1 => Q (.lst xs) S1) E := by
  unfold frz; rw [wpM_bdE]; rfl
theorem wpM_new {l : LM} {Q : D → Sto → Prop} : wpM (new l env S) Q E = wpM (l env S) (fun xs S1 => Q (.ref S1.length) (S1 ++ [some (.lst xs)])) E := by
  unfold new; rw [wpM_bdE]; rfl
theorem wpM_cal {f : List D → Sto → Res D} {l : LM} {Q : D → Sto → Prop} : wpM (cal f l env S) Q E = wpM (l env S) (fun xs S1 => wpM (f xs S1) Q E) E := by
  unfold cal; rw [wpM_bdE]
theorem wpM_calB {f : Sto → List D → Option D} {l : LM} {Q : D → Sto → Prop} : wpM (calB f l env S) Q E = wpM (l env S) (fun xs S1 => wpM (lf (f S1 xs) S1) Q E) E := by
  unfold calB; rw [wpM_bdE]
theorem wpM_calF {f : Sto → List D → Option (List D)} {l : LM} {Q : List D → Sto → Prop} : wpM (calF f l env S) Q E = wpM (l env S) (fun xs S1 => wpM (lf (f S1 xs) S1) Q E) E := by
  unfold calF; rw [wpM_bdE]
theorem wpM_isiE {T : String} {m : EM} {Q : D → Sto → Prop} : wpM (isiE T m env S) Q E = wpM (m env S) (fun d S1 => wpM (lf ((tyN S1 d).map fun a => .bl (subT a T)) S1) Q E) E := by
  unfold isiE; rw [wpM_bdE]
theorem wpM_isiTE {Ts : List String} {m : EM} {Q : D → Sto → Prop} : wpM (isiTE Ts m env S) Q E = wpM (m env S) (fun d S1 => if Ts.length ≤ 1000 then wpM (lf ((tyN S1 d).map fun a => .bl (Ts.any (subT a))) S1) Q E else False) E := by
  unfold isiTE; rw [wpM_bdE]; congr 1; funext d S1; split <;> rfl
theorem wpM_vr {i : Nat} {Q : D → Sto → Prop} : wpM (vr i env S) Q E = match env[i]? with | some (some d) => Q d S | _ => False := by
  unfold vr
  cases env[i]? with
  | none => rfl
  | some o => cases o <;> rfl
theorem wpM_ct {d : D} {Q : D → Sto → Prop} : wpM (ct d env S) Q E = Q d S := rfl
theorem wpM_meth {T : String} {f : MF} {o : EM} {l : LM} {Q : D → Sto → Prop} : wpM (meth T f o l env S) Q E = wpM (o env S) (fun x S1 => if tyD T S1 x = true then wpM (l env S1) (fun ds S2 => match f S2 x ds with | some (d, S3) => Q d S3 | none => False) E else False) E := by
  unfold meth
  rw [wpM_bdE]; congr 1; funext x S1
  split
  · rw [wpM_bdE]; congr 1; funext ds S2
    cases f S2 x ds with
    | none => rfl
    | some p => rfl
  · rfl
theorem wpM_chn {f g : Sto → D → D → Option D} {a b c : EM} {Q : D → Sto → Prop} : wpM (chn f g a b c env S) Q E = wpM (a env S) (fun x S1 => wpM (b env S1) (fun y S2 => wpM (lf (f S2 x y) S2) (fun t S3 => match t with
    | .bl true => wpM (c env S3) (fun z S4 => wpM (lf (g S4 y z) S4) Q E) E
    | .bl false => Q (.bl false) S3
    | _ => False) E) E) E := by
  unfold chn
  simp only [wpM_bdE]
  congr 1; funext x S1; congr 1; funext y S2; congr 1; funext t S3
  cases t with
  | bl b => cases b <;> simp only [wpM_bdE, wpM_ok]
  | _ => rfl
theorem wpM_cut {f : Sto → D → Option Int → Option Int → Option D} {m : EM} {a b : OM} {Q : D → Sto → Prop} : wpM (cut f m a b env S) Q E = wpM (m env S) (fun d S1 => wpM (a env S1) (fun lo S2 => wpM (b env S2) (fun hi S3 => wpM (lf (f S3 d lo hi) S3) Q E) E) E) E := by
  unfold cut; simp only [wpM_bdE]
theorem wpM_cutF {m : EM} {a b : OM} {Q : List D → Sto → Prop} : wpM (cutF m a b env S) Q E = wpM (m env S) (fun d S1 => wpM (a env S1) (fun lo S2 => wpM (b env S2) (fun hi S3 => wpM (lf ((lstOf S3 d).map fun ds => cutL ds lo hi) S3) Q E) E) E) E := by
  unfold cutF; simp only [wpM_bdE]
theorem wpM_ono {Q : Option Int → Sto → Prop} : wpM (onoM env S) Q E = Q none S := rfl
theorem wpM_osm {m : EM} {Q : Option Int → Sto → Prop} : wpM (osmM m env S) Q E = wpM (m env S) (fun d S1 => match d with | .int i => Q (some i) S1 | _ => False) E := by
  unfold osmM; rw [wpM_bdE]; congr 1; funext d S1; cases d <;> rfl
theorem wpM_revT {m : EM} {Q : D → Sto → Prop} : wpM (revT m env S) Q E = wpM (m env S) (fun d S1 => match d with | .tup ds => Q (.tup ds.reverse) S1 | _ => False) E := by
  unfold revT; rw [wpM_bdE]; congr 1; funext d S1; cases d <;> rfl
theorem wpM_mono' {r : Res β} {Q' : β → Sto → Prop} (h : wpM r Q' E) (hq : ∀ a S, Q' a S → Q a S) : wpM r Q E := wpM_mono h hq fun _ _ _ h => h
/-! loops -/
theorem wS_loop {src : List (Nat × List D)} {tg : TgM} {body : SM} (I : Nat → En → Sto → Prop) : ∀ (all : List D) (i : Nat) (env : En) (S : Sto), I i env S → (∀ j d env S, all[j]? = some d → I (i + j) env S → okSrc src S ∧ ∃ env1, tg d env = some env1 ∧ wS (body env1 S) ⟨I (i + j + 1), k.nx, I (i + j + 1), k.rt, k.ex⟩) →
    (∀ env S, I (i + all.length) env S → okSrc src S ∧ k.nx env S) → wS (loop src tg body all env S) k
  | [], i, env, S, h, hs, hd => by
    obtain ⟨h1, h2⟩ := hd env S h
    unfold loop
    rw [if_pos h1]; exact h2
  | d :: ds, i, env, S, h, hs, hd => by
    obtain ⟨h1, env1, h2, h3⟩ := hs 0 d env S rfl h
    unfold loop
    rw [if_pos h1, h2]
    simp only
    have next : ∀ e S1, I (i + 1) e S1 → wS (loop src tg body ds e S1) k := fun e S1 h' => wS_loop I ds (i + 1) e S1 h' (fun j d' env S hj hI => by
      have := hs (j + 1) d' env S hj (by rw [show i + (j + 1) = i + 1 + j by omega]; exact hI)
      rw [show i + (j + 1) + 1 = i + 1 + j + 1 by omega] at this
      exact this) fun env S h' => hd env S (by rw [List.length_cons, show i + (ds.length + 1) = i + 1 + ds.length by omega]; exact h')
    revert h3
    cases body env1 S with
    | nx e S1 => exact fun h3 => next e S1 h3
    | ct e S1 => exact fun h3 => next e S1 h3
    | brk e S1 => exact fun h3 => h3
    | ret d S1 => exact fun h3 => h3
    | exc c fs e S1 => exact fun h3 => h3
    | err => exact fun h3 => h3
theorem wS_for {it : IM} {tg : TgM} {body : SM} : wS (forS it tg body env S) k = wpM (it env S) (fun p S1 => wS (loop p.2 tg body p.1 env S1) k) (fun c fs S => k.ex c fs env S) := by
  unfold forS; rw [wS_bS]
theorem okSrc_nil : okSrc [] S := fun p hp => by cases hp
/-! comprehensions -/
theorem wpM_clp {tg : TgM} {ts : TM} {el : EM} {env0 : En} {n0 : Nat} {G : Sto → Bool} {Q : Unit → Sto → Prop} (I : Nat → Sto → Prop) : ∀ (all : List D) (i : Nat) (S : Sto), I i S → (∀ j d S, all[j]? = some d → I (i + j) S → G S = true ∧ ∃ env1, tg d env0 = some env1 ∧ wpM (ts env1 S) (fun t S1 => if t = true then
      wpM (el env1 S1) (fun x S2 => ∃ acc, S2[n0]? = some (some (.lst acc)) ∧ acc.length < sizeLine ∧ I (i + j + 1) (S2.set n0 (some (.lst (acc ++ [x]))))) (fun _ _ _ => False) else I (i + j + 1) S1) (fun _ _ _ => False)) →
    (∀ S, I (i + all.length) S → G S = true ∧ Q () S) → wpM (clp tg ts el env0 n0 G all S) Q E
  | [], i, S, h, hs, hd => by
    obtain ⟨h1, h2⟩ := hd S h
    unfold clp
    rw [if_pos h1]; exact h2
  | d :: ds, i, S, h, hs, hd => by
    obtain ⟨h1, env1, h2, h3⟩ := hs 0 d S rfl h
    unfold clp
    rw [if_pos h1, h2]
    simp only
    have next : ∀ S1, I (i + 1) S1 → wpM (clp tg ts el env0 n0 G ds S1) Q E := fun S1 h' => wpM_clp I ds (i + 1) S1 h' (fun j d' S hj hI => by
      have := hs (j + 1) d' S hj (by rw [show i + (j + 1) = i + 1 + j by omega]; exact hI)
      rw [show i + (j + 1) + 1 = i + 1 + j + 1 by omega] at this
      exact this) fun S h' => hd S (by rw [List.length_cons, show i + (ds.length + 1) = i + 1 + ds.length by omega]; exact h')
    revert h3
    cases ts env1 S with
    | ok t S1 =>
      cases t with
      | false => exact fun h3 => next S1 h3
      | true =>
        intro h3
        have h3 : wpM (el env1 S1) (fun x S2 => ∃ acc, S2[n0]? = some (some (.lst acc)) ∧ acc.length < sizeLine ∧ I (i + 0 + 1) (S2.set n0 (some (.lst (acc ++ [x]))))) (fun _ _ _ => False) := h3
        revert h3
        simp only
        cases el env1 S1 with
        | ok x S2 =>
          rintro ⟨acc, e1, e2, e3⟩
          simp only [e1, e2, if_true]
          exact next _ e3
        | exc c fs S2 => exact fun h => h.elim
        | err => exact fun h => h.elim
    | exc c fs S1 => exact fun h => h.elim
    | err => exact fun h => h.elim
theorem wpM_compF {it : IM} {tg : TgM} {ts : TM} {el : EM} {vs : List Nat} {Q : D → Sto → Prop} : wpM (compF it tg ts el vs env S) Q E = wpM (it env S) (fun p S1 => wpM (clp tg ts el (wipeE env vs) S1.length (okB p.2) p.1 (S1 ++ [some (.lst [])])) (fun _ S2 => match S2[S1.length]? with
    | some (some (.lst ds)) => if belL S1.length ds = true then Q (.lst ds) (trunc S1 (S2.set S1.length none)) else Q (.lst ds) (S2.set S1.length none)
    | _ => False) E) E := by
  unfold compF
  simp only [wpM_bdE]
  congr 1; funext p S1; congr 1; funext u S2
  cases S2[S1.length]? with
  | none => rfl
  | some o =>
    cases o with
    | none => rfl
    | some o => cases o with
      | lst ds => simp only; split <;> rfl
      | dK _ => rfl
      | dT _ => rfl
theorem okB_nil : okB [] S = true := okB_iff.mpr okSrc_nil
/-! defs -/
theorem trunc_self {X : Sto} : trunc S (S ++ X) = S := by
  unfold trunc
  rw [if_pos (.inl (by simp))]; simp
theorem trunc_same : trunc S S = S := by
  unfold trunc
  rw [if_pos (.inl (by simp))]; simp
theorem frzD_pure {n k : Nat} {d : D} (h : d.pure = true) : frzD n k d S = some (d, S) := by
  cases k <;> simp [frzD, h]
theorem mapS_pure {n k : Nat} : ∀ {ds : List D}, pureL ds = true → mapS (frzD n k) ds S = some (ds, S)
  | [], _ => rfl
  | d :: ds, h => by
    have h' : (d.pure && pureL ds) = true := h
    obtain ⟨h1, h2⟩ := Bool.and_eq_true_iff.mp h'
    simp only [mapS, frzD_pure h1, Option.bind_some, mapS_pure h2, Option.map_some]
theorem scope_pure {d : D} {S' : Sto} (h : d.pure = true) : scope S (.ok d S') = .ok d (trunc S S') := by
  simp only [scope, frzD_pure h]
  rw [if_pos (bel_of_pure d h)]
theorem scope_ref {n : Nat} {ds : List D} {S' : Sto} (hn : ¬ n < S.length) (h : S'[n]? = some (some (.lst ds))) (hp : pureL ds = true) : scope S (.ok (.ref n) S') = .ok (.lst ds) (trunc S (S'.set n none)) := by
  have e : frzD S.length 9 (.ref n) S' = some (.lst ds, S'.set n none) := by
    show frzD S.length (8 + 1) (.ref n) S' = some (.lst ds, S'.set n none)
    rw [frzD]
    rw [if_neg (show ¬ (D.ref n).pure = true from Bool.false_ne_true), if_neg hn, h]
    show Option.map (fun p => (D.lst p.1, p.2)) (mapS (frzD S.length 8) ds (S'.set n none)) = _
    rw [mapS_pure hp]; rfl
  simp only [scope, e]
  rw [if_pos (show (D.lst ds).bel S.length = true from belL_of_pure ds hp)]
theorem scope_exc {c : Str} {fs : List (Str × D)} {S' : Sto} (h : fs.all (fun p => p.2.pure) = true) : scope S (.exc c fs S') = .exc c fs (trunc S S') := by
  simp only [scope]
  rw [if_pos h]
theorem scope_bl {b : Bool} {S' : Sto} : scope S (.ok (.bl b) S') = .ok (.bl b) (trunc S S') := scope_pure rfl
theorem scope_int {b : Int} {S' : Sto} : scope S (.ok (.int b) S') = .ok (.int b) (trunc S S') := scope_pure rfl
theorem scope_str {b : Str} {S' : Sto} : scope S (.ok (.str b) S') = .ok (.str b) (trunc S S') := scope_pure rfl
theorem scope_non {S' : Sto} : scope S (.ok .non S') = .ok .non (trunc S S') := scope_pure rfl
theorem wpM_exc {c : Str} {fs : List (Str × D)} {Q : D → Sto → Prop} : wpM (.exc c fs S) Q E = E c fs S := rfl
/-- a def by its body -/
theorem wpM_fn {n : Nat} {m : SM} {ds : List D} {Q : D → Sto → Prop} (h : wS (m (ds.map some ++ List.replicate (n - ds.length) none) S) ⟨fun _ S' => wpM (scope S (.ok .non S')) Q E, fun _ _ => False, fun _ _ => False, fun d S' => wpM (scope S (.ok d S')) Q E, fun c fs _ S' => wpM (scope S (.exc c fs S')) Q E⟩) : wpM (fn n m ds S) Q E := by
  unfold fn run
  revert h
  cases m (ds.map some ++ List.replicate (n - ds.length) none) S <;> exact fun h => h
theorem wpM_run {n : Nat} {m : SM} {ds : List D} {Q : D → Sto → Prop} (h : wS (m (ds.map some ++ List.replicate (n - ds.length) none) S) ⟨fun _ S' => Q .non S', fun _ _ => False, fun _ _ => False, fun d S' => Q d S', fun c fs _ S' => E c fs S'⟩) : wpM (run n m ds S) Q E := by
  unfold run
  revert h
  cases m (ds.map some ++ List.replicate (n - ds.length) none) S <;> exact fun h => h
end
end Y

end
section
set_option Elab.async false
set_option linter.all false
set_option maxRecDepth 100000
set_option maxHeartbeats 4000000
namespace Y
open PySem PySem.Spec L2
/-! ### dicts: tables of data -/
section
variable {κ : Type} [DecidableEq κ]
def valD (kvs : List (κ × D)) (k : κ) : Option D := (kvs.find? fun kv => decide (kv.1 = k)).map (·.2)
def putD (kvs : List (κ × D)) (k : κ) (d : D) : List (κ × D) :=
  if (kvs.any fun kv => decide (kv.1 = k)) = true then kvs.map (fun kv => if kv.1 = k then (kv.1, d) else kv) else kvs ++ [(k, d)]
def tab (kvs : List (κ × D)) (xs : List V) : List (κ × V) := (kvs.map (·.1)).zip xs
variable {K : PySem.W.Frag} {H : Hp} {A : Addr → Prop} {ρ : List Addr}
theorem valD_rel (k : κ) : ∀ {kvs : List (κ × D)} {xs : List V}, RelL K H A ρ xs (kvs.map (·.2)) → (valD kvs k = none ∧ valV (tab kvs xs) k = none) ∨ ∃ d v, valD kvs k = some d ∧ valV (tab kvs xs) k = some v ∧ RelD K H A ρ v d
  | [], _, h => .inl ⟨rfl, rfl⟩
  | (k0, d0) :: kvs, _, ⟨x, xs, rfl, h1, h2⟩ => by
    by_cases e : k0 = k
    · exact .inr ⟨d0, x, by simp [valD, e], by simp [tab, valV, e], h1⟩
    · rcases valD_rel k h2 with ⟨a, b⟩ | ⟨d, v, a, b, c⟩
      · refine .inl ⟨?_, ?_⟩
        · simpa [valD, e] using a
        · simpa [tab, valV, e] using b
      · refine .inr ⟨d, v, ?_, ?_, c⟩
        · simpa [valD, e] using a
        · simpa [tab, valV, e] using b
theorem tab_any (k : κ) : ∀ {kvs : List (κ × D)} {xs : List V}, xs.length = kvs.length → ((tab kvs xs).any fun kv => decide (kv.1 = k)) = kvs.any fun kv => decide (kv.1 = k)
  | [], _, _ => rfl
  | p :: kvs, [], h => by cases h
  | p :: kvs, x :: xs, h => by
    have ih := tab_any k (kvs := kvs) (xs := xs) (by simpa using h)
    show (decide (p.1 = k) || (tab kvs xs).any _) = (decide (p.1 = k) || kvs.any _)
    rw [ih]
theorem putD_map (k : κ) {d : D} {v : V} (r : RelD K H A ρ v d) : ∀ {kvs : List (κ × D)} {xs : List V}, RelL K H A ρ xs (kvs.map (·.2)) →
    ∃ ys, (tab kvs xs).map (fun kv => if kv.1 = k then (kv.1, v) else kv) = tab (kvs.map (fun kv => if kv.1 = k then (kv.1, d) else kv)) ys ∧ RelL K H A ρ ys ((kvs.map (fun kv => if kv.1 = k then (kv.1, d) else kv)).map (·.2))
  | [], _, h => ⟨[], rfl, rfl⟩
  | (k0, d0) :: kvs, _, ⟨x, xs, rfl, h1, h2⟩ => by
    obtain ⟨ys, e, q⟩ := putD_map k r h2
    by_cases z : k0 = k
    · refine ⟨v :: ys, ?_, ?_⟩
      · show (if k0 = k then (k0, v) else (k0, x)) :: (tab kvs xs).map _ = _
        rw [e]; simp [tab, z]
      · rw [List.map_cons, if_pos z]; exact RelL.cons r q
    · refine ⟨x :: ys, ?_, ?_⟩
      · show (if k0 = k then (k0, v) else (k0, x)) :: (tab kvs xs).map _ = _
        rw [e]; simp [tab, z]
      · rw [List.map_cons, if_neg z]; exact RelL.cons h1 q
theorem putD_rel (k : κ) {d : D} {v : V} {kvs : List (κ × D)} {xs : List V} (h : RelL K H A ρ xs (kvs.map (·.2))) (r : RelD K H A ρ v d) :
    ∃ ys, putK (tab kvs xs) k v = tab (putD kvs k d) ys ∧ RelL K H A ρ ys ((putD kvs k d).map (·.2)) := by
  have hl : xs.length = kvs.length := by rw [h.length, List.length_map]
  unfold putK putD
  rw [tab_any k hl]
  by_cases z : (kvs.any fun kv => decide (kv.1 = k)) = true
  · rw [if_pos z, if_pos z]; exact putD_map k r h
  · rw [if_neg z, if_neg z]
    refine ⟨xs ++ [v], ?_, ?_⟩
    · unfold tab
      rw [List.map_append, List.zip_append (by rw [List.length_map, hl])]; rfl
    · rw [List.map_append]; exact h.append (RelL.cons r RelL.nil)
theorem tab_len {kvs : List (κ × D)} {xs : List V} (h : RelL K H A ρ xs (kvs.map (·.2))) : (tab kvs xs).length = kvs.length := by
  unfold tab
  rw [List.length_zip, h.length, List.length_map, List.length_map, Nat.min_self]
end
/-! ### keys -/
def keyD : D → Option Key
  | .int i => some (.inl i)
  | .str s => some (.inr s)
  | _ => none
def keysD : List D → Option (List Key)
  | [] => some []
  | d :: ds => (keyD d).bind fun k => (keysD ds).map fun ks => k :: ks
section
variable {K : PySem.W.Frag} {H : Hp} {A : Addr → Prop} {ρ : List Addr}
theorem keyD_ok {d : D} {v : V} {k : Key} (r : RelD K H A ρ v d) (h : keyD d = some k) : v = kV k := by
  cases d <;> cases h <;> exact r
theorem keysD_ok : ∀ {ds : List D} {vs : List V} {ks : List Key}, RelL K H A ρ vs ds → keysD ds = some ks → vs = ks.map kV
  | [], _, _, r, h => by cases h; exact r
  | d :: ds, _, _, ⟨x, xs, rfl, r1, r2⟩, h => by
    obtain ⟨k, e1, h1⟩ := Option.bind_eq_some_iff.mp h
    obtain ⟨ks, e2, e3⟩ := Option.map_eq_some_iff.mp h1
    cases e3
    rw [keyD_ok r1 e1, keysD_ok r2 e2]; rfl
end
/-- what a dict holds at a key, at a tuple's items -/
def dGetD (S : Sto) (x k : D) : Option (Option D) := match x with
  | .ref n => match S[n]? with
    | some (some (.dK kvs)) => (keyD k).map (valD kvs)
    | _ => none
  | _ => none
def dGetT (S : Sto) (x : D) (ks : List D) : Option (Option D) := match x with
  | .ref n => match S[n]? with
    | some (some (.dT kvs)) => (keysD ks).map (valD kvs)
    | _ => none
  | _ => none
def dPutD (S : Sto) (x k d : D) : Option Sto := match x with
  | .ref n => match S[n]? with
    | some (some (.dK kvs)) => (keyD k).bind fun k => if kvs.length < sizeLine then some (S.set n (some (.dK (putD kvs k d)))) else none
    | _ => none
  | _ => none
def dPutT (S : Sto) (x : D) (ks : List D) (d : D) : Option Sto := match x with
  | .ref n => match S[n]? with
    | some (some (.dT kvs)) => (keysD ks).bind fun k => if kvs.length < sizeLine then some (S.set n (some (.dT (putD kvs k d)))) else none
    | _ => none
  | _ => none
section
variable {K : PySem.W.Frag} {ρ : List Addr} {H : Hp} {S S' : Sto} {x y d : D} {u v : V}
def OptR (K : PySem.W.Frag) (H : Hp) (A : Addr → Prop) (ρ : List Addr) (o : Option D) (r : Option V) : Prop := (o = none ∧ r = none) ∨ ∃ d v, o = some d ∧ r = some v ∧ RelD K H A ρ v d
theorem dGetD_ok {o : Option D} (R : RS K ρ H S) (rx : RelD K H (Al ρ S) ρ u x) (ry : RelD K H (Al ρ S) ρ v y) (h : dGetD S x y = some o) : ∃ a r, u = .ref a ∧ DGet H a v r ∧ OptR K H (Al ρ S) ρ o r := by
  cases x with
  | ref n =>
    simp only [dGetD] at h
    split at h
    · rename_i kvs hS
      obtain ⟨k, e1, rfl⟩ := Option.map_eq_some_iff.mp h
      obtain ⟨a, rfl, ha⟩ := rx
      obtain ⟨xs, h1, h2⟩ := R.obj n _ a hS ha
      have e2 := keyD_ok ry e1
      subst e2
      exact ⟨a, _, rfl, DGet.k h1, valD_rel k h2⟩
    · cases h
  | _ => cases h
theorem dGetT_ok {o : Option D} {ys : List D} {vs : List V} {b : Addr} (R : RS K ρ H S) (rx : RelD K H (Al ρ S) ρ u x) (ry : RelL K H (Al ρ S) ρ vs ys) (hb : H b = some (.tup vs)) (h : dGetT S x ys = some o) : ∃ a r, u = .ref a ∧ DGet H a (.ref b) r ∧ OptR K H (Al ρ S) ρ o r := by
  cases x with
  | ref n =>
    simp only [dGetT] at h
    split at h
    · rename_i kvs hS
      obtain ⟨k, e1, rfl⟩ := Option.map_eq_some_iff.mp h
      obtain ⟨a, rfl, ha⟩ := rx
      obtain ⟨xs, h1, h2⟩ := R.obj n _ a hS ha
      have e2 := keysD_ok ry e1
      subst e2
      exact ⟨a, _, rfl, DGet.t h1 hb, valD_rel k h2⟩
    · cases h
  | _ => cases h
theorem dPutD_ok (R : RS K ρ H S) (rx : RelD K H (Al ρ S) ρ u x) (ry : RelD K H (Al ρ S) ρ v y) {w : V} (rd : RelD K H (Al ρ S) ρ w d) (h : dPutD S x y d = some S') : ∃ a H', u = .ref a ∧ DPut H a v w H' ∧ RS K ρ H' S' ∧ Up K ρ H S ρ H' S' := by
  cases x with
  | ref n =>
    simp only [dPutD] at h
    split at h
    · rename_i kvs hS
      obtain ⟨k, e1, h⟩ := Option.bind_eq_some_iff.mp h
      split at h
      · rename_i hl
        cases h
        obtain ⟨a, rfl, ha⟩ := rx
        obtain ⟨xs, h1, h2⟩ := R.obj n _ a hS ha
        have e2 := keyD_ok ry e1
        subst e2
        obtain ⟨zs, e3, e4⟩ := putD_rel k (kvs := kvs) h2 rd
        refine ⟨a, _, rfl, DPut.k h1 (by show (tab kvs xs).length < _; rw [tab_len h2]; exact hl), ?_, Up.setO hS ha h1⟩
        show RS K ρ (upd H a (.dK (putK (tab kvs xs) k w))) _
        rw [e3]
        exact R.setO (o2 := .dK (putD kvs k d)) hS ha h1 e4
      · cases h
    · cases h
  | _ => cases h
theorem dPutT_ok {ys : List D} {vs : List V} {b : Addr} (R : RS K ρ H S) (rx : RelD K H (Al ρ S) ρ u x) (ry : RelL K H (Al ρ S) ρ vs ys) (hb : H b = some (.tup vs)) {w : V} (rd : RelD K H (Al ρ S) ρ w d) (h : dPutT S x ys d = some S') : ∃ a H', u = .ref a ∧ DPut H a (.ref b) w H' ∧ RS K ρ H' S' ∧ Up K ρ H S ρ H' S' := by
  cases x with
  | ref n =>
    simp only [dPutT] at h
    split at h
    · rename_i kvs hS
      obtain ⟨k, e1, h⟩ := Option.bind_eq_some_iff.mp h
      split at h
      · rename_i hl
        cases h
        obtain ⟨a, rfl, ha⟩ := rx
        obtain ⟨xs, h1, h2⟩ := R.obj n _ a hS ha
        have e2 := keysD_ok ry e1
        subst e2
        obtain ⟨zs, e3, e4⟩ := putD_rel k (kvs := kvs) h2 rd
        refine ⟨a, _, rfl, DPut.t h1 hb (by show (tab kvs xs).length < _; rw [tab_len h2]; exact hl), ?_, Up.setO hS ha h1⟩
        show RS K ρ (upd H a (.dT (putK (tab kvs xs) k w))) _
        rw [e3]
        exact R.setO (o2 := .dT (putD kvs k d)) hS ha h1 e4
      · cases h
    · cases h
  | _ => cases h
end
end Y

end
section
set_option Elab.async false
set_option linter.all false
set_option maxRecDepth 100000
set_option maxHeartbeats 4000000
namespace Y
open PySem PySem.Spec L2
/-! ### dicts: expressions and statements -/
def newD (o : Ob) : EM := fun _ S => .ok (.ref S.length) (S ++ [some o])
/-- d[k]; d[a, b] -/
def itemE (mo mk : EM) : EM := fun env S => bd (mo env S) fun x S1 => bd (mk env S1) fun k S2 => match dGetD S2 x k with
  | some (some d) => .ok d S2
  | _ => .err
def itemT (mo : EM) (ml : LM) : EM := fun env S => bd (mo env S) fun x S1 => bd (ml env S1) fun ks S2 => if ks.length ≤ sizeLine then match dGetT S2 x ks with
  | some (some d) => .ok d S2
  | _ => .err else .err
/-- k in d (neg: not in) -/
def hasE (neg : Bool) (mk mo : EM) : EM := fun env S => bd (mk env S) fun k S1 => bd (mo env S1) fun x S2 => match dGetD S2 x k with
  | some o => .ok (.bl (o.isSome != neg)) S2
  | _ => .err
def putE (m mo mk : EM) : SM := fun env S => bS (m env S) env fun d S1 => bS (mo env S1) env fun x S2 => bS (mk env S2) env fun k S3 => match dPutD S3 x k d with
  | some S4 => .nx env S4
  | none => .err
def putT (m mo : EM) (ml : LM) : SM := fun env S => bS (m env S) env fun d S1 => bS (mo env S1) env fun x S2 => bS (ml env S2) env fun ks S3 => if ks.length ≤ sizeLine then match dPutT S3 x ks d with
  | some S4 => .nx env S4
  | none => .err else .err
section
variable {X : Cx} {W : WX} {pos : Pos} {o i e : Expr} {mo mi m : EM} {es : List Expr} {l : LM}
theorem newD_ok {K : PySem.W.Frag} {ρ : List Addr} {H : Hp} {S : Sto} {Q : VK} {ob : Ob} (hp : ob.pay = []) (hh : ob.ho [] = u) (R : RS K ρ H S) (w : PostV K ρ H S Q (.ref S.length) (S ++ [some ob])) (p : Addr) (np : H p = none) : Q (.ref p) (upd H p u) := by
  refine w (ρ ++ [p]) (.ref p) _ (R.newO (xs := []) np (same_new np) (by rw [hh]; exact upd_same) (by rw [hp]; exact RelL.nil)) (Up.new R.len np (same_new np)) ⟨p, rfl, ?_⟩
  rw [← R.len]; simp
theorem y_newK : PE X (.Dict [] [] pos) (tE X.K X.mg W (newD (.dK []))) := pe_dnewK.imp fun σ H Q ⟨ρ, env, S, R, V, w⟩ p np => newD_ok rfl rfl R (show PostV _ _ _ _ _ _ _ from w) p np
theorem y_newT : PE X (.Dict [] [] pos) (tE X.K X.mg W (newD (.dT []))) := pe_dnewT.imp fun σ H Q ⟨ρ, env, S, R, V, w⟩ p np => newD_ok rfl rfl R (show PostV _ _ _ _ _ _ _ from w) p np
theorem y_item (hu : X.A.units + 1 < cLine) (ho : PE X o (tE X.K X.mg W mo)) (hi : PE X i (tE X.K X.mg W mi)) (hs : NoSl i := by intro _ _; rfl) : PE X (.Subscript o i pos) (tE X.K X.mg W (itemE mo mi)) :=
  (pe_dget hu ho hi hs).imp fun σ H Q ⟨ρ, env, S, R, V, w⟩ => tE_seq R V (wpM_mono (wpM_bd w) (fun x S1 w1 ρ1 u H1 R1 V1 U1 r1 => tE_seq R1 V1 (wpM_mono (wpM_bd (wpM_mono w1 (fun _ _ q => q.up U1) fun _ _ _ q => q.up U1)) (fun k S2 w2 ρ2 v H2 R2 V2 U2 r2 => by
    split at w2
    · rename_i d hd
      obtain ⟨a, r, ea, g, q⟩ := dGetD_ok R2 (U2.relD r1) r2 hd
      rcases q with ⟨z, _⟩ | ⟨d', v', z, rfl, rd⟩
      · cases z
      · cases z
        exact ⟨a, v', ea, g, (PostV.up U2 w2).same R2 (Same.refl H2) rd⟩
    · exact w2.elim) fun _ _ _ q => q)) fun _ _ _ q => q)
theorem y_itemT {kp : Pos} (hu : X.A.units + 1 < cLine) (ho : PE X o (tE X.K X.mg W mo)) (hi : PA X es (tA X.K X.mg W l)) (hs : NoSl (.Tuple es k kp) := by intro _ _; rfl) : PE X (.Subscript o (.Tuple es k kp) pos) (tE X.K X.mg W (itemT mo l)) :=
  (pe_dget hu ho (pe_tup hi) hs).imp fun σ H Q ⟨ρ, env, S, R, V, w⟩ => tE_seq R V (wpM_mono (wpM_bd w) (fun x S1 w1 ρ1 u H1 R1 V1 U1 r1 => tA_seq R1 V1 (wpM_mono (wpM_bd (wpM_mono w1 (fun _ _ q => q.up U1) fun _ _ _ q => q.up U1)) (fun k S2 w2 ρ2 vs H2 R2 V2 U2 r2 => by
    split at w2
    · rename_i hl
      refine ⟨by rw [r2.length]; exact hl, fun p np => ?_⟩
      have s2 : Same H2 (upd H2 p (.tup vs)) := same_new np
      have U3 : Up X.K ρ2 H2 S2 ρ2 (upd H2 p (.tup vs)) S2 := Up.same s2
      split at w2
      · rename_i d hd
        obtain ⟨a, r, ea, g, q⟩ := dGetT_ok (R2.same s2) (U3.relD (U2.relD r1)) (U3.relL r2) upd_same hd
        rcases q with ⟨z, _⟩ | ⟨d', v', z, rfl, rd⟩
        · cases z
        · cases z
          exact ⟨a, v', ea, g, (PostV.up U2 w2).same R2 s2 rd⟩
      · exact w2.elim
    · exact w2.elim) fun _ _ _ q => q)) fun _ _ _ q => q)
theorem y_has (hu : X.A.units + 1 < cLine) (hi : PE X i (tE X.K X.mg W mi)) (ho : PE X o (tE X.K X.mg W mo)) (hm : behindInMarks .In o = false := by first | exact nomark _ | with_unfolding_all rfl) : PE X (.Compare i [.In] [o] pos) (tE X.K X.mg W (hasE false mi mo)) :=
  (pe_cmp (pc_din hu hi ho) hm).imp fun σ H Q ⟨ρ, env, S, R, V, w⟩ => tE_seq R V (wpM_mono (wpM_bd w) (fun x S1 w1 ρ1 u H1 R1 V1 U1 r1 => tE_seq R1 V1 (wpM_mono (wpM_bd (wpM_mono w1 (fun _ _ q => q.up U1) fun _ _ _ q => q.up U1)) (fun k S2 w2 ρ2 v H2 R2 V2 U2 r2 => by
    split at w2
    · rename_i d hd
      obtain ⟨a, r, ea, g, q⟩ := dGetD_ok R2 r2 (U2.relD r1) hd
      have e : r.isSome = (d.isSome != false) := by
        rcases q with ⟨rfl, rfl⟩ | ⟨d', v', rfl, rfl, rd⟩ <;> rfl
      exact ⟨a, r, ea, g, (PostV.up U2 w2).same R2 (Same.refl H2) (by rw [← e]; rfl)⟩
    · exact w2.elim) fun _ _ _ q => q)) fun _ _ _ q => q)
theorem y_hasNot (hu : X.A.units + 1 < cLine) (hi : PE X i (tE X.K X.mg W mi)) (ho : PE X o (tE X.K X.mg W mo)) (hm : behindInMarks .NotIn o = false := by first | exact nomark _ | with_unfolding_all rfl) : PE X (.Compare i [.NotIn] [o] pos) (tE X.K X.mg W (hasE true mi mo)) :=
  (pe_cmp (pc_dnotin hu hi ho) hm).imp fun σ H Q ⟨ρ, env, S, R, V, w⟩ => tE_seq R V (wpM_mono (wpM_bd w) (fun x S1 w1 ρ1 u H1 R1 V1 U1 r1 => tE_seq R1 V1 (wpM_mono (wpM_bd (wpM_mono w1 (fun _ _ q => q.up U1) fun _ _ _ q => q.up U1)) (fun k S2 w2 ρ2 v H2 R2 V2 U2 r2 => by
    split at w2
    · rename_i d hd
      obtain ⟨a, r, ea, g, q⟩ := dGetD_ok R2 r2 (U2.relD r1) hd
      have e : (!r.isSome) = (d.isSome != true) := by
        rcases q with ⟨rfl, rfl⟩ | ⟨d', v', rfl, rfl, rd⟩ <;> rfl
      exact ⟨a, r, ea, g, (PostV.up U2 w2).same R2 (Same.refl H2) (by rw [← e]; rfl)⟩
    · exact w2.elim) fun _ _ _ q => q)) fun _ _ _ q => q)
theorem s_put {p2 : Pos} (hu : X.A.units + 1 < cLine) (he : PE X e (tE X.K X.mg W m)) (ho : PE X o (tE X.K X.mg W mo)) (hi : PE X i (tE X.K X.mg W mi)) (hs : swapsWith e (some (.Subscript o i p2)) pos.line X.env = pure false := by rfl) :
    PS X (.Assign [.Subscript o i p2] e pos) (tS X.K X.mg W (putE m mo mi)) :=
  (ps_dput hu ho hi he hs).imp fun Dn σ H ⟨ρ, env, S, R, V, w⟩ => tE_seq R V (wpM_mono (wpS_bS V w) (fun d S1 w1 ρ1 v H1 R1 V1 U1 r1 =>
    tE_seq R1 V1 (wpM_mono (wpS_bS V1 (wpS_up U1 w1)) (fun x S2 w2 ρ2 u H2 R2 V2 U2 r2 => tE_seq R2 V2 (wpM_mono (wpS_bS V2 (wpS_up U2 w2)) (fun k S3 w3 ρ3 t H3 R3 V3 U3 r3 => by
      cases e1 : dPutD S3 x k d with
      | none => rw [e1] at w3; exact w3.elim
      | some S4 =>
        rw [e1] at w3
        obtain ⟨a, H', ea, g, R4, U4⟩ := dPutD_ok R3 (U3.relD r2) r3 ((U2.trans U3).relD r1) e1
        exact ⟨a, H', ea, g, w3 ρ3 σ H' R4 (U4.rv V3) (U3.trans U4)⟩) fun _ _ _ q => q)) fun _ _ _ q => q)) fun _ _ _ q => q)
theorem s_putT {p2 kp : Pos} (hu : X.A.units + 1 < cLine) (he : PE X e (tE X.K X.mg W m)) (ho : PE X o (tE X.K X.mg W mo)) (hi : PA X es (tA X.K X.mg W l)) (hs : swapsWith e (some (.Subscript o (.Tuple es k kp) p2)) pos.line X.env = pure false := by rfl) :
    PS X (.Assign [.Subscript o (.Tuple es k kp) p2] e pos) (tS X.K X.mg W (putT m mo l)) :=
  (ps_dput hu ho (pe_tup hi) he hs).imp fun Dn σ H ⟨ρ, env, S, R, V, w⟩ => tE_seq R V (wpM_mono (wpS_bS V w) (fun d S1 w1 ρ1 v H1 R1 V1 U1 r1 =>
    tE_seq R1 V1 (wpM_mono (wpS_bS V1 (wpS_up U1 w1)) (fun x S2 w2 ρ2 u H2 R2 V2 U2 r2 => tA_seq R2 V2 (wpM_mono (wpS_bS V2 (wpS_up U2 w2)) (fun ks S3 w3 ρ3 vs H3 R3 V3 U3 r3 => by
      split at w3
      · rename_i hl
        refine ⟨by rw [r3.length]; exact hl, fun p np => ?_⟩
        have s3 : Same H3 (upd H3 p (.tup vs)) := same_new np
        have U3' : Up X.K ρ3 H3 S3 ρ3 (upd H3 p (.tup vs)) S3 := Up.same s3
        cases e1 : dPutT S3 x ks d with
        | none => rw [e1] at w3; exact w3.elim
        | some S4 =>
          rw [e1] at w3
          obtain ⟨a, H', ea, g, R4, U4⟩ := dPutT_ok (R3.same s3) (U3'.relD (U3.relD r2)) (U3'.relL r3) upd_same (U3'.relD ((U2.trans U3).relD r1)) e1
          exact ⟨a, H', ea, g, w3 ρ3 σ H' R4 (U4.rv (U3'.rv V3)) ((U3.trans U3').trans U4)⟩
      · exact w3.elim) fun _ _ _ q => q)) fun _ _ _ q => q)) fun _ _ _ q => q)
end
end Y

end
section
set_option Elab.async false
set_option linter.all false
set_option maxRecDepth 100000
set_option maxHeartbeats 4000000
namespace Y
open PySem PySem.Spec L2
/-! ### dicts: get -/
def isDD (S : Sto) : D → Bool
  | .ref n => match S[n]? with
    | some (some (.dK _)) => true
    | some (some (.dT _)) => true
    | _ => false
  | _ => false
/-- d.get(k), d.get(k, z) -/
def get1 (mo mk : EM) : EM := fun env S => bd (mo env S) fun x S1 => if isDD S1 x then bd (mk env S1) fun k S2 => match dGetD S2 x k with
  | some o => .ok (o.getD .non) S2
  | none => .err else .err
def get2 (mo mk mz : EM) : EM := fun env S => bd (mo env S) fun x S1 => if isDD S1 x then bd (mk env S1) fun k S2 => bd (mz env S2) fun z S3 => match dGetD S3 x k with
  | some o => .ok (o.getD z) S3
  | none => .err else .err
def get1T (mo : EM) (ml : LM) : EM := fun env S => bd (mo env S) fun x S1 => if isDD S1 x then bd (ml env S1) fun ks S2 => if ks.length ≤ sizeLine then match dGetT S2 x ks with
  | some o => .ok (o.getD .non) S2
  | none => .err else .err else .err
section
variable {X : Cx} {W : WX} {pos apos cpos kp : Pos} {o e f : Expr} {mo mk mz : EM} {es : List Expr} {l : LM}
theorem isDD_ok {K : PySem.W.Frag} {ρ : List Addr} {H : Hp} {S : Sto} {x : D} {u : V} (R : RS K ρ H S) (r : RelD K H (Al ρ S) ρ u x) (h : isDD S x = true) : ∃ a, u = .ref a ∧ IsD H a := by
  cases x with
  | ref n =>
    obtain ⟨a, rfl, ha⟩ := r
    refine ⟨a, rfl, ?_⟩
    simp only [isDD] at h
    split at h
    · rename_i kvs hS
      obtain ⟨xs, h1, _⟩ := R.obj n _ a hS ha
      exact .inl ⟨_, .inl h1⟩
    · rename_i kvs hS
      obtain ⟨xs, h1, _⟩ := R.obj n _ a hS ha
      exact .inr ⟨_, .inl h1⟩
    · cases h
  | _ => cases h
theorem y_get1 (hu : X.A.units + 1 < cLine) (ho : PE X o (tE X.K X.mg W mo)) (he : PE X e (tE X.K X.mg W mk)) (m : M1 X o "get" apos e cpos := by exact ⟨by rfl, by rfl, by rfl, by rfl⟩) : PE X (.Call (.Attribute o "get" apos) [e] [] cpos) (tE X.K X.mg W (get1 mo mk)) :=
  (pe_dget1 hu ho he m).imp fun σ H Q ⟨ρ, env, S, R, V, w⟩ => tE_seq R V (wpM_mono (wpM_bd w) (fun x S1 w1 ρ1 u H1 R1 V1 U1 r1 => by
    split at w1
    · rename_i hd
      obtain ⟨a, ea, ia⟩ := isDD_ok R1 r1 hd
      refine ⟨a, ea, ia, tE_seq R1 V1 (wpM_mono (wpM_bd (wpM_mono w1 (fun _ _ q => q.up U1) fun _ _ _ q => q.up U1)) (fun k S2 w2 ρ2 v H2 R2 V2 U2 r2 => ?_) fun _ _ _ q => q)⟩
      split at w2
      · rename_i d hd
        obtain ⟨a', r, ea', g, q⟩ := dGetD_ok R2 (U2.relD r1) r2 hd
        cases ea.symm.trans ea'
        refine ⟨r, g, ?_⟩
        rcases q with ⟨rfl, rfl⟩ | ⟨d', v', rfl, rfl, rd⟩
        · exact (PostV.up U2 w2).same R2 (Same.refl H2) rfl
        · exact (PostV.up U2 w2).same R2 (Same.refl H2) rd
      · exact w2.elim
    · exact w1.elim) fun _ _ _ q => q)
theorem y_get1T {k : Nat} (hu : X.A.units + 1 < cLine) (ho : PE X o (tE X.K X.mg W mo)) (he : PA X es (tA X.K X.mg W l)) (m : M1 X o "get" apos (.Tuple es k kp) cpos := by exact ⟨by rfl, by rfl, by rfl, by rfl⟩) : PE X (.Call (.Attribute o "get" apos) [.Tuple es k kp] [] cpos) (tE X.K X.mg W (get1T mo l)) :=
  (pe_dget1 hu ho (pe_tup he) m).imp fun σ H Q ⟨ρ, env, S, R, V, w⟩ => tE_seq R V (wpM_mono (wpM_bd w) (fun x S1 w1 ρ1 u H1 R1 V1 U1 r1 => by
    split at w1
    · rename_i hd
      obtain ⟨a, ea, ia⟩ := isDD_ok R1 r1 hd
      refine ⟨a, ea, ia, tA_seq R1 V1 (wpM_mono (wpM_bd (wpM_mono w1 (fun _ _ q => q.up U1) fun _ _ _ q => q.up U1)) (fun k S2 w2 ρ2 vs H2 R2 V2 U2 r2 => ?_) fun _ _ _ q => q)⟩
      split at w2
      · rename_i hl
        refine ⟨by rw [r2.length]; exact hl, fun p np => ?_⟩
        have s2 : Same H2 (upd H2 p (.tup vs)) := same_new np
        have U3 : Up X.K ρ2 H2 S2 ρ2 (upd H2 p (.tup vs)) S2 := Up.same s2
        split at w2
        · rename_i d hd
          obtain ⟨a', r, ea', g, q⟩ := dGetT_ok (R2.same s2) (U3.relD (U2.relD r1)) (U3.relL r2) upd_same hd
          cases ea.symm.trans ea'
          refine ⟨r, g, ?_⟩
          rcases q with ⟨rfl, rfl⟩ | ⟨d', v', rfl, rfl, rd⟩
          · exact (PostV.up U2 w2).same R2 s2 rfl
          · exact (PostV.up U2 w2).same R2 s2 rd
        · exact w2.elim
      · exact w2.elim
    · exact w1.elim) fun _ _ _ q => q)
theorem y_get2 (hu : X.A.units + 1 < cLine) (ho : PE X o (tE X.K X.mg W mo)) (he : PE X e (tE X.K X.mg W mk)) (hf : PE X f (tE X.K X.mg W mz)) (m : M2 X o "get" apos e f cpos := by exact ⟨by rfl, by rfl, by rfl, by rfl⟩) : PE X (.Call (.Attribute o "get" apos) [e, f] [] cpos) (tE X.K X.mg W (get2 mo mk mz)) :=
  (pe_dget2 hu ho he hf m).imp fun σ H Q ⟨ρ, env, S, R, V, w⟩ => tE_seq R V (wpM_mono (wpM_bd w) (fun x S1 w1 ρ1 u H1 R1 V1 U1 r1 => by
    split at w1
    · rename_i hd
      obtain ⟨a, ea, ia⟩ := isDD_ok R1 r1 hd
      refine ⟨a, ea, ia, tE_seq R1 V1 (wpM_mono (wpM_bd (wpM_mono w1 (fun _ _ q => q.up U1) fun _ _ _ q => q.up U1)) (fun k S2 w2 ρ2 v H2 R2 V2 U2 r2 =>
        tE_seq R2 V2 (wpM_mono (wpM_bd (wpM_mono w2 (fun _ _ q => q.up U2) fun _ _ _ q => q.up U2)) (fun z S3 w3 ρ3 y H3 R3 V3 U3 r3 => ?_) fun _ _ _ q => q)) fun _ _ _ q => q)⟩
      split at w3
      · rename_i d hd
        obtain ⟨a', r, ea', g, q⟩ := dGetD_ok R3 (U3.relD (U2.relD r1)) (U3.relD r2) hd
        cases ea.symm.trans ea'
        refine ⟨r, g, ?_⟩
        rcases q with ⟨rfl, rfl⟩ | ⟨d', v', rfl, rfl, rd⟩
        · exact (PostV.up U3 w3).same R3 (Same.refl H3) r3
        · exact (PostV.up U3 w3).same R3 (Same.refl H3) rd
      · exact w3.elim
    · exact w1.elim) fun _ _ _ q => q)
end
end Y

end
section
set_option Elab.async false
set_option linter.all false
set_option maxRecDepth 100000
set_option maxHeartbeats 4000000
namespace Y
open PySem PySem.Spec L2
theorem hu1 {A : Around} {k : Nat} (hr : Room k A) : A.units + 1 < cLine := by have := hr.un; omega
section
variable {S : Sto} {env : En} {Q : D → Sto → Prop} {E : Str → List (Str × D) → Sto → Prop} {m mo mk mz : EM} {l : LM} {b : Bool} {k : SK}
theorem wpM_newD {o : Ob} : wpM (newD o env S) Q E = Q (.ref S.length) (S ++ [some o]) := rfl
theorem wpM_itemE : wpM (itemE mo mk env S) Q E = wpM (mo env S) (fun x S1 => wpM (mk env S1) (fun k S2 => match dGetD S2 x k with
    | some (some d) => Q d S2
    | _ => False) E) E := by
  unfold itemE
  simp only [wpM_bdE]
  congr 1; funext x S1; congr 1; funext k S2
  rcases dGetD S2 x k with _ | _ | d <;> rfl
theorem wpM_itemT : wpM (itemT mo l env S) Q E = wpM (mo env S) (fun x S1 => wpM (l env S1) (fun ks S2 => ks.length ≤ sizeLine ∧ match dGetT S2 x ks with
    | some (some d) => Q d S2
    | _ => False) E) E := by
  unfold itemT
  simp only [wpM_bdE]
  congr 1; funext x S1; congr 1; funext ks S2
  by_cases h : ks.length ≤ sizeLine
  · rw [if_pos h]
    rcases dGetT S2 x ks with _ | _ | d <;> simp [h, wpM]
  · rw [if_neg h]; simp [h, wpM]
theorem wpM_hasE : wpM (hasE b mk mo env S) Q E = wpM (mk env S) (fun k S1 => wpM (mo env S1) (fun x S2 => match dGetD S2 x k with
    | some o => Q (.bl (o.isSome != b)) S2
    | none => False) E) E := by
  unfold hasE
  simp only [wpM_bdE]
  congr 1; funext x S1; congr 1; funext k S2
  rcases dGetD S2 k x with _ | d <;> rfl
theorem wpM_get1 : wpM (get1 mo mk env S) Q E = wpM (mo env S) (fun x S1 => isDD S1 x = true ∧ wpM (mk env S1) (fun k S2 => match dGetD S2 x k with
    | some o => Q (o.getD .non) S2
    | none => False) E) E := by
  unfold get1
  simp only [wpM_bdE]
  congr 1; funext x S1
  by_cases h : isDD S1 x = true
  · rw [if_pos h, wpM_bdE]
    simp only [h, true_and]
    congr 1; funext k S2
    rcases dGetD S2 x k with _ | d <;> rfl
  · rw [if_neg h]; simp [h, wpM]
theorem wpM_get2 : wpM (get2 mo mk mz env S) Q E = wpM (mo env S) (fun x S1 => isDD S1 x = true ∧ wpM (mk env S1) (fun k S2 => wpM (mz env S2) (fun z S3 => match dGetD S3 x k with
    | some o => Q (o.getD z) S3
    | none => False) E) E) E := by
  unfold get2
  simp only [wpM_bdE]
  congr 1; funext x S1
  by_cases h : isDD S1 x = true
  · rw [if_pos h, wpM_bdE]
    simp only [h, true_and, wpM_bdE]
    congr 1; funext k S2; congr 1; funext z S3
    rcases dGetD S3 x k with _ | d <;> rfl
  · rw [if_neg h]; simp [h, wpM]
theorem wS_putE : wS (putE m mo mk env S) k = wpM (m env S) (fun d S1 => wpM (mo env S1) (fun x S2 => wpM (mk env S2) (fun j S3 => match dPutD S3 x j d with | some S4 => k.nx env S4 | none => False) (fun c fs S => k.ex c fs env S)) (fun c fs S => k.ex c fs env S)) (fun c fs S => k.ex c fs env S) := by
  unfold putE
  simp only [wS_bS]
  congr 1; funext d S1; congr 1; funext x S2; congr 1; funext j S3
  cases dPutD S3 x j d <;> rfl
theorem wS_putT : wS (putT m mo l env S) k = wpM (m env S) (fun d S1 => wpM (mo env S1) (fun x S2 => wpM (l env S2) (fun ks S3 => ks.length ≤ sizeLine ∧ match dPutT S3 x ks d with | some S4 => k.nx env S4 | none => False) (fun c fs S => k.ex c fs env S)) (fun c fs S => k.ex c fs env S)) (fun c fs S => k.ex c fs env S) := by
  unfold putT
  simp only [wS_bS]
  congr 1; funext d S1; congr 1; funext x S2; congr 1; funext ks S3
  by_cases h : ks.length ≤ sizeLine
  · rw [if_pos h]
    cases dPutT S3 x ks d <;> simp [h, wS]
  · rw [if_neg h]; simp [h, wS]
end
end Y

end
section
set_option Elab.async false
set_option linter.all false
set_option maxRecDepth 100000
set_option maxHeartbeats 4000000
set_option autoImplicit false
namespace L2
open PySem PySem.Spec PyProof.Rows PySem.W
section
variable {β : Type} {X : Cx} {H : Hp} {s : Shared} {pins : List (Addr × Obj)} {σ : St} {E : Value → Shared → Prop} {Q : VK}
/-- sorted(u), when it is known what is collected -/
theorem sort_col {enc : β → PyData} {u : Value} {xs : List V} {es : List β} (hu : X.A.units + 200 < cLine) (I : Inv X pins σ H s)
    (hcol : ∀ (R : List Value → Shared → Prop), (∀ (h' : Heap) (tk : Nat) (acc : List Value), (∀ b o, s.heap.get? b = some o → h'.get? b = some o) → Vals xs acc → R acc { s with heap := h', toks := tk }) → wpAny (model X.prog X.w) X.A.in1 (collect u) R E s)
    (hlen : xs.length = es.length) (hd : DpAll X.K H xs (es.map enc)) (hal : AllAlike (es.map enc)) (hso : Sortable (es.map enc)) (hdp : ∀ e ∈ es, (enc e).depth ≤ 64) (hL : es.length ≤ sizeLine)
    (q : ∀ p, H p = none → Q (.ref p) (upd H p (.lst (((xs.zip es).mergeSort (dataLe false fun b => enc b.2)).map Prod.fst)))) :
    wpAny (model X.prog X.w) X.A (call (.builtin "sorted") [u]) (fun v s' => ∃ x H', Inv X pins σ H' s' ∧ RelV x v ∧ Q x H') E s := by
  refine Calls.call_function_entry PyProof.Rows.kind_sorted PyProof.Rows.plain_sorted PyProof.Rows.entry_sorted (PyProof.Rows.args_sorted1 _) ?_
  unfold Builtin.«sorted»
  refine wpAny_bind (m := checkCount "sorted" 1 1 _) (wpAny_pure ?_)
  refine wpAny_bind (hcol _ fun h' tk acc hk rv => ?_)
  have I1 : Inv X pins σ H { s with heap := h', toks := tk } := I.kept hk
  have hvl := rv.length
  refine wpAny_bind (wpAny_newList ?_ (by omega))
  have hoL : (h'.push (seqObj "list" acc.toArray 0)).get? h'.objs.size = some (seqObj "list" acc.toArray 0) := Heap.get?_push_size _ rfl
  show wpAny _ _ _ _ _ { s with heap := h'.push (seqObj "list" acc.toArray 0), toks := tk }
  obtain ⟨as, rd⟩ := Dp.readsAll I1 (es.map enc) xs acc hd rv
  have ez : (xs.zip es).map (fun b => enc b.2) = es.map enc := by
    rw [show (fun b : V × β => enc b.2) = enc ∘ Prod.snd from rfl, ← List.map_map, zip_snd hlen]
  have zl : (xs.zip es).length = xs.length := by rw [List.length_zip]; omega
  have er0 : EachIs (fun v (b : V × β) => ∃ as, Reads h' v (enc b.2) as) acc (xs.zip es) := readsAll_each (fun b : V × β => enc b.2) (as := as) (by rw [ez]; exact rd)
  have er' : EachIs (fun v (b : V × β) => ∃ as, Reads (sortingHeap (h'.push (seqObj "list" acc.toArray 0)) h'.objs.size acc) v (enc b.2) as) acc (xs.zip es) :=
    er0.mono fun _ _ ⟨as, r⟩ => ⟨as, PyProof.Rows.Reads.keeps (fun b o e => sortingHeap_old (Nat.ne_of_lt (Heap.lt_size e)) (Heap.get?_push_of_some _ e)) r⟩
  have ev : EachIs (fun u (b : V × β) => RelV b.1 u) acc (xs.zip es) := each_vals rv hlen
  have hdp' : ∀ b ∈ xs.zip es, (enc b.2).depth ≤ 64 := fun b hb => hdp b.2 (by
    have := List.mem_map_of_mem (f := Prod.snd) hb
    rwa [zip_snd hlen] at this)
  refine wpAny_bind (wpAny_holding (wpAny_call_entry PyProof.Rows.slot_list_sort ⟨_, hoL, rfl⟩ PyProof.Rows.entry_list_sort
    (list_sort_vals (κ := dataKind (sortingHeap (h'.push (seqObj "list" acc.toArray 0)) h'.objs.size acc) ((xs.zip es).map fun b => enc b.2)) (s := { s with heap := h'.push (seqObj "list" acc.toArray 0), toks := tk }) hoL
      (SortsAt.data (s := { s with heap := sortingHeap (h'.push (seqObj "list" acc.toArray 0)) h'.objs.size acc, toks := tk }) (each_map (R := fun v d => ∃ as, Reads (sortingHeap (h'.push (seqObj "list" acc.toArray 0)) h'.objs.size acc) v d as) (fun b : V × β => enc b.2) er') (by rw [ez]; exact hal) (by rw [ez]; exact hso)
        (bound_map fun b hb => by
          have := hdp' b hb
          show X.A.units + 1 + 1 + _ < cLine
          omega)) (by omega) ?_)
    (PyProof.Rows.args_list_sort _)))
  refine ⟨.none, rfl, ?_⟩
  have eo := sortVals_data false ev er' (by rw [ez]; exact hal)
  obtain ⟨e', he'⟩ := PyProof.Rows.sortedHeap_at (vs := acc) (out := (sortVals (dataKind (sortingHeap (h'.push (seqObj "list" acc.toArray 0)) h'.objs.size acc) ((xs.zip es).map fun b => enc b.2)) false acc acc).toArray) hoL
  have hv := vals_each eo
  have hln : (((xs.zip es).mergeSort (dataLe false fun b => enc b.2)).map Prod.fst).length ≤ sizeLine := by
    rw [List.length_map, List.length_mergeSort]; omega
  refine wpAny_pure ⟨_, rfl, .ref h'.objs.size, upd H h'.objs.size (.lst (((xs.zip es).mergeSort (dataLe false fun b => enc b.2)).map Prod.fst)), I1.laid (t' := tk) (fun b u e => ?_) (Nat.le_refl _) ⟨hln, _, e', hv, he'⟩, rfl, q _ (I1.hok.fresh (Nat.le_refl _))⟩
  have hb : b < h'.objs.size := Heap.lt_size e
  rw [PyProof.Rows.sortedHeap_old (Nat.ne_of_lt hb) (by rw [size_push']; exact Nat.lt_succ_of_lt hb)]
  exact Heap.get?_push_of_some _ e
/-- sorted(d), d a dict: its keys -/
def rSortT (K : PySem.W.Frag) (enc : β → PyData) : List V → Hp → VK → Prop := fun vs H Q => ∃ (a : Addr) (kvs : List (List Key × V)) (es : List β), vs = [V.ref a] ∧ Rd H a (.dT kvs) ∧ es.length = kvs.length ∧ (∀ bs, IsKeys H kvs bs → DpAll K H (bs.map V.ref) (es.map enc)) ∧ AllAlike (es.map enc) ∧ Sortable (es.map enc) ∧ (∀ e ∈ es, (enc e).depth ≤ 64) ∧
  ∀ p bs, IsKeys H kvs bs → H p = none → Q (.ref p) (upd H p (.lst ((((bs.map V.ref).zip es).mergeSort (dataLe false fun b => enc b.2)).map Prod.fst)))
theorem cr_sortT {enc : β → PyData} (hc : X.calm = true) (hu : X.A.units + 200 < cLine) : CallR X (.builtin "sorted") (rSortT X.K enc) := by
  intro pins s σ H vs us Q I r h
  obtain ⟨d, kvs, es0, rfl, hd, hle, hdp, hal, hso, hdep, q⟩ := h
  obtain ⟨u, rfl, rx⟩ := r.one
  cases rx
  obtain ⟨z, hs, ks, pr, o, es, ep, ho, hx, hdt, he, hn⟩ := (show ObjOk X.prog X.w H s.heap d (.dT kvs) from hd.ok I.hok)
  have l1 : es.size = ks.length := size_of_entries he
  have l2 : kvs.length = ks.length := Paired.length pr
  have ik := isKeys_of pr
  refine sort_col (xs := (ks.map fun x => x.2.1).map V.ref) (es := es0) hu I (fun R hR => ?_) (by rw [List.length_map, List.length_map]; omega) (hdp _ ik) hal hso hdep (by omega) (fun p hp => q p _ ik hp)
  refine PySem.W.kdu_collect (A := X.A.in1) (kdl_raw hs hx hdt) (I.ok.hd hc) ho (by omega) fun h' tk acc' hk it => ?_
  have ea : acc'.toList = ks.map fun x => Value.ref x.2.1 := by
    have hl : acc'.toList.length = ks.length := by rw [Array.length_toList, it.1]; exact l1
    apply List.ext_getElem?
    intro j
    rw [List.getElem?_map]
    cases hj : acc'.toList[j]? with
    | none =>
      have h1 := List.getElem?_eq_none_iff.mp hj
      rw [List.getElem?_eq_none (by omega)]
      all_goals rfl
    | some v =>
      obtain ⟨en, hen, hv⟩ := it.2 j v (by rw [← Array.getElem?_toList]; exact hj)
      have qe := entry_at he j
      rw [hen] at qe
      cases hb : ks[j]? with
      | none =>
        rw [hb] at qe
        exact nomatch (show some en = none from qe)
      | some b =>
        rw [hb] at qe
        have e2 : en = entryOfKey (tupleKind (mixKind X.prog X.w)) b := Option.some.inj qe
        rw [hv, e2]
        all_goals rfl
  have eb : acc'.toList = (ks.map fun x => x.2.1).map Value.ref := by rw [ea, List.map_map]; all_goals rfl
  exact hR h' tk acc'.toList hk (by rw [eb]; exact vals_refs _)
def rSortK (K : PySem.W.Frag) (enc : β → PyData) : List V → Hp → VK → Prop := fun vs H Q => ∃ (a : Addr) (kvs : List (Key × V)) (es : List β), vs = [V.ref a] ∧ Rd H a (.dK kvs) ∧ es.length = kvs.length ∧ DpAll K H (kvs.map fun kv => kV kv.1) (es.map enc) ∧ AllAlike (es.map enc) ∧ Sortable (es.map enc) ∧ (∀ e ∈ es, (enc e).depth ≤ 64) ∧
  ∀ p, H p = none → Q (.ref p) (upd H p (.lst ((((kvs.map fun kv => kV kv.1).zip es).mergeSort (dataLe false fun b => enc b.2)).map Prod.fst)))
theorem cr_sortK {enc : β → PyData} (hc : X.calm = true) (hu : X.A.units + 200 < cLine) : CallR X (.builtin "sorted") (rSortK X.K enc) := by
  intro pins s σ H vs us Q I r h
  obtain ⟨d, kvs, es0, rfl, hd, hle, hdp, hal, hso, hdep, q⟩ := h
  obtain ⟨u, rfl, rx⟩ := r.one
  cases rx
  obtain ⟨z, lo, vs, rel, dd⟩ := dk_rd I.hok hd
  obtain ⟨ep, hat⟩ := dd.dictAt
  have ek : (kvs.map fun kv => kV kv.1) = vs.map fun p => kV p.1 := by
    have e := congrArg (List.map kV) rel.keys
    rw [List.map_map, List.map_map] at e
    exact e
  have hvl : vs.length = kvs.length := by
    have e := congrArg List.length ek
    rw [List.length_map, List.length_map] at e
    exact e.symm
  refine sort_col (xs := kvs.map fun kv => kV kv.1) (es := es0) hu I (fun R hR => ?_) (by rw [List.length_map]; omega) hdp hal hso hdep (by omega) q
  refine PySem.W.kdu_collect (A := X.A.in1) (PySem.W.kdl_dict (knd := mixKind X.prog X.w) (kvs := vs) (ep := ep) lo) (I.ok.hd hc) hat (by omega) fun h' tk acc hk hacc => ?_
  refine hR h' tk acc.toList hk ?_
  rw [ek]
  have e0 : acc.size = vs.length := hacc.1
  refine vals_of_at (by rw [List.length_map]; exact e0.symm) fun j x u e1 e2 => ?_
  obtain ⟨k, v, e3, e4⟩ := hacc.2 j u (by rw [← Array.getElem?_toList]; exact e2)
  rw [List.getElem?_map, e3] at e1
  cases e1
  exact keyIs_rel e4
end
end L2
namespace Y
open PySem PySem.Spec L2 PySem.W
/-! sorted(d); upper -/
def kD : Key → D
  | .inl i => .int i
  | .inr s => .str s
section
variable {K : PySem.W.Frag} {H : Hp} {A : Addr → Prop} {ρ : List Addr}
theorem kD_rel (k : Key) : RelD K H A ρ (kV k) (kD k) := by cases k <;> rfl
theorem kDs_rel : ∀ ks : List Key, RelL K H A ρ (ks.map kV) (ks.map kD)
  | [] => rfl
  | k :: ks => RelL.cons (kD_rel k) (kDs_rel ks)
def ksT (kvs : List (List Key × D)) : List D := kvs.map fun kv => .tup (kv.1.map kD)
def ksK (kvs : List (Key × D)) : List D := kvs.map fun kv => kD kv.1
theorem ksT_rel : ∀ {kvs : List (List Key × D)} {xs : List V} {bs : List Addr}, xs.length = kvs.length → IsKeys H (tab kvs xs) bs → RelL K H A ρ (bs.map V.ref) (ksT kvs)
  | [], _, bs, _, h => by
    cases bs with
    | nil => rfl
    | cons b bs => exact nomatch h
  | kv :: kvs, [], _, e, _ => by cases e
  | kv :: kvs, x :: xs, bs, e, h => by
    cases bs with
    | nil => exact nomatch h
    | cons b bs =>
      cases h with
      | cons h1 h2 => exact RelL.cons ⟨b, kv.1.map kV, rfl, SqT.of h1, kDs_rel _⟩ (ksT_rel (xs := xs) (by simpa using e) h2)
theorem ksK_rel (kvs : List (Key × D)) : RelL K H A ρ (kvs.map fun kv => kV kv.1) (ksK kvs) := by
  induction kvs with
  | nil => rfl
  | cons kv kvs ih => exact RelL.cons (kD_rel _) ih
theorem tab_keys {kvs : List (Key × D)} {xs : List V} (h : xs.length = kvs.length) : ((tab kvs xs).map fun kv => kV kv.1) = kvs.map fun kv => kV kv.1 := by
  unfold tab
  rw [show (fun kv : Key × V => kV kv.1) = kV ∘ Prod.fst from rfl, ← List.map_map, List.map_fst_zip (by simp [h]), List.map_map]; rfl
end
open Classical in
noncomputable def sortK (es : List D) : Option (List D) := (toPL es).bind fun ps => if AllAlike ps ∧ Sortable ps ∧ (∀ p ∈ ps, p.depth ≤ 64) then some (es.mergeSort leD) else none
noncomputable def o_sortedT (S : Sto) : List D → Option (List D)
  | [.ref n] => match S[n]? with
    | some (some (.dT kvs)) => sortK (ksT kvs)
    | _ => none
  | _ => none
noncomputable def o_sortedK (S : Sto) : List D → Option (List D)
  | [.ref n] => match S[n]? with
    | some (some (.dK kvs)) => sortK (ksK kvs)
    | _ => none
  | _ => none
section
variable {K : PySem.W.Frag}
theorem sortK_ok {es rs : List D} (e : sortK es = some rs) : ∃ ps, toPL es = some ps ∧ es.map pD = ps ∧ AllAlike (es.map pD) ∧ Sortable (es.map pD) ∧ (∀ d ∈ es, (pD d).depth ≤ 64) ∧ rs = es.mergeSort leD := by
  unfold sortK at e
  obtain ⟨ps, e3, e4⟩ := Option.bind_eq_some_iff.mp e
  split at e4
  · rename_i hh
    obtain ⟨hal, hso, hdp⟩ := hh
    have em := toPL_map e3
    exact ⟨ps, e3, em, by rw [em]; exact hal, by rw [em]; exact hso, fun d hd => hdp _ (by rw [← em]; exact List.mem_map_of_mem hd), (Option.some.inj e4).symm⟩
  · cases e4
theorem sort_zip {H : Hp} {A : Addr → Prop} {ρ : List Addr} {vs : List V} {es : List D} (r : RelL K H A ρ vs es) : RelL K H A ρ (((vs.zip es).mergeSort (dataLe false fun b => pD b.2)).map Prod.fst) (es.mergeSort leD) := by
  have hz : ((vs.zip es).mergeSort (dataLe false fun b => pD b.2)).map Prod.snd = es.mergeSort leD := by
    have := List.map_mergeSort (r := dataLe false fun b : V × D => pD b.2) (s := leD) (f := Prod.snd) (l := vs.zip es) (fun a _ b _ => rfl)
    rw [this, zip_snd r.length]
  rw [← hz]
  exact relL_pairs fun p hp => relL_zip r p (List.mem_mergeSort.mp hp)
theorem cf_sortedT : CallF K (rSortT K pD) o_sortedT := by
  intro ρ H S ds es vs Q R r e q
  unfold o_sortedT at e
  split at e
  · rename_i n
    split at e
    · rename_i kvs hS
      obtain ⟨ps, e3, em, hal, hso, hdp, rfl⟩ := sortK_ok e
      obtain ⟨v, rfl, a, rfl, ha⟩ := one_of r
      obtain ⟨xs, h1, h2⟩ := R.obj n _ a hS ha
      have hl : xs.length = kvs.length := by rw [h2.length]; exact List.length_map _
      have tl : (tab kvs xs).length = kvs.length := tab_len h2
      refine ⟨a, tab kvs xs, ksT kvs, rfl, .inl h1, by rw [tl]; exact List.length_map _, fun bs hb => by rw [em]; exact dpAll_of (A := Al ρ S) (ρ := ρ) _ _ _ e3 (ksT_rel hl hb), hal, hso, hdp, fun p bs hb hp => ?_⟩
      exact q p _ _ (sort_zip (ksT_rel hl hb)) hp (same_new hp) upd_same
    · cases e
  · cases e
theorem cf_sortedK : CallF K (rSortK K pD) o_sortedK := by
  intro ρ H S ds es vs Q R r e q
  unfold o_sortedK at e
  split at e
  · rename_i n
    split at e
    · rename_i kvs hS
      obtain ⟨ps, e3, em, hal, hso, hdp, rfl⟩ := sortK_ok e
      obtain ⟨v, rfl, a, rfl, ha⟩ := one_of r
      obtain ⟨xs, h1, h2⟩ := R.obj n _ a hS ha
      have hl : xs.length = kvs.length := by rw [h2.length]; exact List.length_map _
      have tl : (tab kvs xs).length = kvs.length := tab_len h2
      refine ⟨a, tab kvs xs, ksK kvs, rfl, .inl h1, by rw [tl]; exact List.length_map _, by rw [em, tab_keys hl]; exact dpAll_of (A := Al ρ S) (ρ := ρ) _ _ _ e3 (ksK_rel kvs), hal, hso, hdp, fun p hp => ?_⟩
      rw [tab_keys hl]
      exact q p _ _ (sort_zip (ksK_rel kvs)) hp (same_new hp) upd_same
    · cases e
  · cases e
noncomputable def m_upper : MF := fun S x vs => match x, vs with
  | .str a, [] => if a.length ≤ 5592405 then some (.str (Txt.upper a), S) else none
  | _, _ => none
theorem ms_upper : MtS K (fun x xs H Q => ∃ a, x = .str a ∧ xs = [] ∧ a.length ≤ 5592405 ∧ Q (.str (Txt.upper a)) H) m_upper := by
  intro ρ H S S' x d ds v vs Q R rx rl e q
  unfold m_upper at e
  split at e
  · rename_i a
    split at e
    · rename_i hl
      cases e
      have rx' : v = .str a := rx
      have rl' : vs = [] := rl
      subst rx' rl'
      exact ⟨a, rfl, rfl, hl, q ρ _ H R Up.refl rfl⟩
    · cases e
  · cases e
def AllL (P : Str → Bool → Prop) : List (Str × Bool) → Prop
  | [] => True
  | p :: l => P p.1 p.2 ∧ AllL P l
theorem allL_of {P : Str → Bool → Prop} : ∀ {l : List (Str × Bool)} {c : Str} {b : Bool}, AllL P l → l.lookup c = some b → P c b
  | [], _, _, _, h => by cases h
  | (c0, b0) :: l, c, b, ⟨h1, h2⟩, h => by
    rw [List.lookup] at h
    split at h
    · rename_i e
      cases h
      rw [eq_of_beq e]; exact h1
    · exact allL_of h2 h
def AllM (P : Str → Prop) : List Str → Prop
  | [] => True
  | p :: l => P p ∧ AllM P l
theorem allM_of {P : Str → Prop} : ∀ {l : List Str} {c : Str}, AllM P l → c ∈ l → P c
  | [], _, _, h => by cases h
  | c0 :: l, c, ⟨h1, h2⟩, h => by
    rcases List.mem_cons.mp h with e | h
    · rw [e]; exact h1
    · exact allM_of h2 h
end
end Y

end
section
set_option Elab.async false
set_option linter.all false
set_option maxRecDepth 100000
set_option maxHeartbeats 4000000
set_option autoImplicit false
/-! except suites of several statements; isinstance of the caught error -/
namespace PySem.W
open PySem PySem.Spec PySem.Calls PyProof.Rows
section
variable {prog : Program} {w : World} {A : Around} {E : Value → Shared → Prop} {s : Shared} {K : Frag} {x D : Addr} {ox : Obj} {od : Option Obj}
theorem findObj_dataY {C : Addr} {name : Str} {a g : Value} (hc : (clsIn K C).isSome = true) (ha : findIn K (.ref C) name = some (some a)) (hg : specialIn K a "__get__" = some (some g)) (ht : takesIn K a = some true) : findObj K C od name = some (.bind g a) := by
  obtain ⟨cd, h1⟩ := Option.isSome_iff_exists.mp hc
  unfold findObj
  rw [h1, Option.bind_some, ha, Option.bind_some]
  simp only [hg, ht, Option.bind_some, if_true]
/-- the class of a caught error that has a dict -/
theorem y_clsOfErr {Q : Option Value → Shared → Prop} (C : L2.ExcC K D)
    (X : K.In s.heap) (I : InstAt s.heap x ox D od) (h : Q (some (.ref D)) { s with toks := s.toks + 1 }) : wpAny (model prog w) A (getAttr? (.ref x) "__class__") Q E s := by
  obtain ⟨c1, c2, c3, c4, c5, c6, c7, c8⟩ := C
  have cls : (clsIn K D).isSome = true := by
    obtain ⟨cd, e, _⟩ := any_some c4
    rw [e]; rfl
  have hf : findObj K D od "__class__" = some (.bind (.builtin "getset_descriptor.__get__") (.builtin "object.__class__")) := findObj_dataY cls c5 c6 c7
  obtain ⟨hp, g, d, t, os⟩ := s
  have a0 := I.type (M := model prog w)
  have a1 := looks_findIn (M := model prog w) X c1
  have a2 := looks_findIn (M := model prog w) X c2
  have a3 := looks_find (M := model prog w) X I hf
  have isExc : Looks (model prog w) hp (isInstance (.ref x) (.type "BaseException")) true := a0.andThen (looks_subIn X c3)
  have k0 : (false && onTheHeap (Value.builtin "BaseException.__getattribute__")) = false := rfl
  have k2 : (Value.builtin "BaseException.__getattribute__" == Value.builtin "object.__getattribute__") = false := by decide +kernel
  have k1 : (onTheHeap (Value.ref D) && Value.builtin "BaseException.__getattribute__" == Value.builtin "object.__getattribute__") = false := by rw [k2, Bool.and_false]
  unfold getAttr? getAttrBy? getAttrBy
  refine wpAny_bind (wpAny_mkText (wpAny_bind (wpAny_attempt (wpAny_holding (wpAny_bind (a0.at (wpAny_bind (a1.at ?_))))))))
  show wpAny _ _ (if (onTheHeap (Value.ref D) && Value.builtin "BaseException.__getattribute__" == Value.builtin "object.__getattribute__") = true then _ else _) _ _ _
  rw [k1, if_neg Bool.false_ne_true]
  unfold getAttrByItsOwn hookBefore
  refine wpAny_bind ?_
  rw [if_pos (by rfl : onTheHeap (Value.ref D) = true)]
  refine a2.at (wpAny_bind (wpAny_attempt (wpAny_holding ?_)))
  unfold callGetattribute
  rw [k0, if_neg Bool.false_ne_true]
  unfold boundAndCalled
  rw [PySem.F.excAttr_ValueError.ga.bind (.ref x)]
  refine wpAny_bind (wpAny_pure ?_)
  show wpAny _ _ (call (.builtin "BaseException.__getattribute__") [.ref x, .str "__class__" t]) _ _ _
  refine wpAny_call (codeAny_call_builtin PySem.F.excAttr_ValueError.ga.plain PySem.F.entry_bexc_ga ?_)
  refine @check_slot (model prog w) _ _ ⟨hp, g, d, t + 1, os⟩ "BaseException.__getattribute__" "BaseException" "__getattribute__" (.ref x) [.str "__class__" t] [] _ (by decide +kernel) (by decide +kernel) isExc (PySem.F.args_bexc_ga (.ref x) (.str "__class__" t)) ?_
  unfold Builtin.«object.__getattribute__»
  refine wpAny_bind (wpAny_of_eq (a := ((Value.ref x : Value), [Value.str "__class__" t])) (by first | rfl | (simp only [slotArgs]; rfl)) ?_)
  refine wpAny_bind (wpAny_pure (wpAny_bind (a0.at (wpAny_bind (a3.at ?_)))))
  show wpAny _ _ (holding [Value.builtin "object.__class__"] (call (.builtin "getset_descriptor.__get__") [.builtin "object.__class__", .ref x, .ref D]) >>= ret) _ _ _
  refine wpAny_bind (wpAny_holding (wpAny_call (class_get (s := ⟨hp, g, d, t + 1, os⟩) (ox := ox) (od := od) X I c8 (wpAny_pure ?_))))
  show wpAny _ _ (handedOut (.ref D)) _ _ _
  rw [handedOut_of (v := .ref D) rfl]
  first
    | exact wpAny_pure (wpAny_pure h)
    | exact wpAny_pure h
    | exact wpAny_pure (wpAny_bind (wpAny_pure (wpAny_pure h)))
theorem y_kitErr (C : L2.ExcC K D) : KitX K (.ref x) (.ref D) (fun h => InstAt h x ox D od) where
  ty := fun _ _ _ I => I.type
  it := fun _ _ X _ => by
    obtain ⟨cdD, hcD, _⟩ := any_some C.hd
    unfold clsIn at hcD
    split at hcD
    · rename_i ho
      intro _ _ _ _ kp kq
      exact wpAny_bind (wpAny_loadPart (kp _ _ (X _ _ ho)) (wpAny_pure kq))
    · cases hcD
  ne := fun h tp dd its n sl X htp => by
    obtain ⟨cdD, hcD, _⟩ := any_some C.hd
    refine Bool.eq_false_iff.mpr fun q => ?_
    obtain rfl : D = tp := Value.ref.inj (beq_iff_eq.mp q)
    unfold clsIn at hcD
    split at hcD
    · rename_i ho
      cases (X _ _ ho).symm.trans htp
    · cases hcD
  ca := fun X I k => y_clsOfErr C X I k
end
end PySem.W
namespace L2
open PySem PySem.Spec PyProof.Rows
/-- isinstance(e, c) of the caught error at a -/
def rIsY (K : PySem.W.Frag) (D a : Addr) (d : Option Addr) : List V → Hp → VK → Prop := fun xs H Q => ∃ (C dd : Addr) (ys : List (Str × V)) (b : Bool), xs = [.ref a, .ref C] ∧ d = some dd ∧ H dd = some (.xd ys) ∧ PySem.W.kitOne K (.ref D) (.ref C) = some b ∧ Q (.bl b) H
theorem call_isY {X : Cx} {a D : Addr} {d : Option Addr} {oe : Obj} {pn : List (Addr × Obj)} (C : ExcC X.K D) (hz : Zc (.ref D) d oe) (hf : ∃ vs, oe.data = .fields vs) : CallR (X.suite a ((a, oe) :: pn)) (.builtin "isinstance") (rIsY X.K D a d) := by
  intro pins s σ H xs us Q I r h
  obtain ⟨c, dd, ys, b, rfl, rfl, hdd, e, q⟩ := h
  cases r with
  | cons rx rr =>
    cases rr with
    | cons rt rr =>
      cases rr
      cases rx
      cases rt
      obtain ⟨hget, _⟩ := I.pin (a, oe) (List.mem_append_left _ List.mem_cons_self)
      obtain ⟨vs, hv⟩ := hf
      obtain ⟨mA, hns, hr⟩ := (show ObjOk X.prog X.w H s.heap dd (.xd ys) from I.hok dd _ hdd)
      obtain ⟨od, ho, hl⟩ := lookIn_ns hns
      have J : PySem.W.InstAt s.heap a oe D (some od) := ⟨hget, hz.1, by unfold PySem.W.notCls; rw [hv] <;> rfl, by rw [hz.2]; exact ho⟩
      exact PySem.W.kia_one (PySem.W.y_kitErr C) I.kIn J e (fun z => nomatch z) fun tk => ⟨.bl b, H, I.kept (t' := tk) fun _ _ z => z, rfl, q⟩
end L2
namespace Y
open PySem PySem.Spec L2
/-- isinstance(e, C), e of a class that the list names -/
def isErr (l : List (Str × Bool)) : Str → List (Str × D) → EM := fun c _ _ S => lf ((l.lookup c).map D.bl) S
structure Is (K : PySem.W.Frag) (mg : Str → Option Value) (x : Str) (l : List (Str × Bool)) : Prop where
  ex : ∃ C, mg x = some (.ref C) ∧ ∀ c C' b, mg c = some (.ref C') → l.lookup c = some b → ExcC K C' ∧ PySem.W.kitOne K (.ref C') (.ref C) = some b
section
variable {X : Cx} {i : Nat} {a : Addr} {cls : Value} {d : Option Addr} {oe : Obj} {pn : List (Addr × Obj)} {e : Expr} {n x y : Str} {p p1 p2 pos : Pos}
theorem u_isE {l : List (Str × Bool)} (T : Is X.K X.mg x l) (hz : Zc cls d oe) (hf : ∃ vs, oe.data = .fields vs) (he : PE (X.suite a ((a, oe) :: pn)) (.Name n p1) (tVar i)) (hm : X.mg "isinstance" = none)
    (hgx : Gl X x := by rfl) (hdx : (x == ("__debug__" : Str)) = false := by decide) (hg : Gl X "isinstance" := by rfl)
    (hs : starEach [.Name n p1, .Name x p2] X.env = (false, eval (.Name n p1) X.env) :: starEach [.Name x p2] X.env := by rfl) (hs2 : starEach [.Name x p2] X.env = (false, eval (.Name x p2) X.env) :: starEach [] X.env := by rfl) (hpl : (backTo pos (starEach [.Name x p2] X.env)).any (·.1) = false := by rfl) :
    PE (X.suite a ((a, oe) :: pn)) (.Call (.Name "isinstance" p) [.Name n p1, .Name x p2] [] pos) (uE X.K X.mg i a cls d (isErr l)) := by
  obtain ⟨C, hC, hT⟩ := T.ex
  by_cases h : ∃ D, cls = .ref D ∧ ExcC X.K D
  · obtain ⟨D, rfl, hD⟩ := h
    refine (pe_callB (X := X.suite a ((a, oe) :: pn)) (call_isY hD hz hf) hg hm PyProof.Rows.Boot.«isinstance» (pa_cons (X := X.suite a ((a, oe) :: pn)) he (pa_cons (X := X.suite a ((a, oe) :: pn)) (pe_glob (X := X.suite a ((a, oe) :: pn)) (v := .ref C) hgx hC rfl hdx) pa_nil hs2) hs) (by decide) (by decide) hs hpl).imp fun σ H Q ⟨ρ, env, S, c, fs, R, V, x, w⟩ => ?_
    obtain ⟨x1, C', dd, ys, h1, h2, h3, h4, h5⟩ := x
    cases h2
    unfold isErr at w
    obtain ⟨v, e1, q⟩ := wpM_lf w
    obtain ⟨b, e2, rfl⟩ := Option.map_eq_some_iff.mp e1
    exact ⟨.ref a, x1, C, dd, ys, b, rfl, h3, h4, (hT c D b h1 e2).2, q ρ (.bl b) H R Up.refl rfl⟩
  · refine ⟨fun pins s σ H Q I q => ?_⟩
    obtain ⟨ρ, env, S, c, fs, R, V, x, w⟩ := q
    obtain ⟨x1, C', dd, ys, h1, h2, h3, h4, h5⟩ := x
    unfold isErr at w
    obtain ⟨v, e1, q⟩ := wpM_lf w
    obtain ⟨b, e2, rfl⟩ := Option.map_eq_some_iff.mp e1
    exact absurd ⟨C', h2, (hT c C' b h1 e2).1⟩ h
/-- a name is set to what speaks of e, then the rest -/
theorem u_setSeq {j : Nat} {rest : List Stmt} {m : Str → List (Str × D) → EM} {r : Str → List (Str × D) → SM} {py : Pos} (hji : j ≠ i) (hN : X.N.Nodup) (he : PE X e (uE X.K X.mg i a cls d m)) (hr : PSs X rest (uS X.K X.mg i a cls d r)) (hi : X.N[j]? = some y := by rfl)
    (hx : Loc X.env.scope y := by first | exact Or.inl rfl | exact Or.inr rfl) (hs : swapsWith e (some (.Name y py)) pos.line X.env = pure false := by rfl) (hf : X.fn y = true ∨ X.env.scope.names.lookup y = some .local := by first | exact .inl rfl | exact .inr rfl | assumption) :
    PSs X (.Assign [.Name y py] e pos :: rest) (uS X.K X.mg i a cls d fun c fs => seqS (asg (tgN j) (m c fs)) (r c fs)) :=
  (pss_cons (ps_set hN hi hx he hs hf) hr).imp fun Dn σ H ⟨ρ, env, S, c, fs, R, V, x, w⟩ => by
    refine ⟨ρ, env, S, c, fs, R, V, x, ?_⟩
    simp only [seqS, asg] at w
    cases e1 : m c fs env S with
    | err => rw [e1] at w; exact w.elim
    | exc c' fs' S1 => rw [e1] at w; exact fun ρ' H' cls dx R' U' k => w ρ' σ H' cls dx R' (U'.rv V) U' k
    | ok d1 S1 =>
      rw [e1] at w
      intro ρ1 v H1 R1 U1 r1
      have x1 := x.up R U1
      have x2 : ExS X.K X.mg i a cls d ρ1 (σ.set j (some v)) H1 S1 c fs := ⟨by rw [List.getElem?_set_ne hji]; exact x1.1, x1.2⟩
      exact ⟨ρ1, env.set j (some d1), S1, c, fs, R1, (U1.rv V).set r1, x2, wpS_up U1 w⟩
theorem ret_no {m : EM} : ∀ env S e S', retS m env S ≠ .nx e S' := fun env S e S' h => by
  unfold retS bS at h
  cases e1 : m env S <;> rw [e1] at h <;> cases h
/-- if c: .. that goes nowhere on, then the rest -/
theorem u_ifSeq {cnd : Expr} {mc : TM} {p : List Stmt} {ma : SM} {rest : List Stmt} {r : Str → List (Str × D) → SM} (hc : PT X cnd (tT X.K X.mg W0 mc)) (ha : PSs X p (tS X.K X.mg W0 ma)) (hne : ∀ env S e S', ma env S ≠ .nx e S') (hr : PSs X rest (uS X.K X.mg i a cls d r)) :
    PSs X (.If cnd p [] pos :: rest) (uS X.K X.mg i a cls d fun c fs => seqS (ifS mc ma nxS) (r c fs)) :=
  (pss_cons (ps_if hc ha pss_nil) hr).imp fun Dn σ H ⟨ρ, env, S, c, fs, R, V, x, w⟩ => by
    simp only [seqS, ifS] at w
    refine tT_seq R V ?_
    cases e1 : mc env S with
    | err => rw [e1] at w; exact w.elim
    | exc c' fs' S1 => rw [e1] at w; exact fun ρ' H' cls dx R' U' k => w ρ' σ H' cls dx R' (U'.rv V) U' k
    | ok b S1 =>
      rw [e1] at w
      intro ρ1 H1 R1 V1 U1
      cases b with
      | true =>
        refine iteT ⟨ρ1, env, S1, R1, V1, ?_⟩
        have w := wpS_up U1 w
        simp only [bS] at w
        revert w
        cases e2 : ma env S1 with
        | nx e' S' => exact absurd e2 (hne _ _ _ _)
        | _ => exact fun w => w
      | false =>
        exact iteF ⟨ρ1, env, S1, c, fs, R1, V1, x.up R U1, wpS_up U1 w⟩
end
end Y

end
section
set_option Elab.async false
set_option linter.all false
set_option maxRecDepth 100000
set_option maxHeartbeats 4000000
set_option autoImplicit false
/-! enumerate of a text -/
namespace L2
open PySem PySem.Spec PyProof.Rows
def IteS (x : Str) : It :=
  ⟨fun i _ => i < x.cps.size, fun i H v H' => ∃ T c, v = .ref T ∧ H T = none ∧ H' = upd H T (.tup [.int (i : Nat), .str ⟨#[c]⟩]) ∧ x.cps[i]? = some c, fun i _ => x.cps.size = i⟩
theorem turn_enumS {P : Program} {w : World} {K : PySem.W.Frag} {elts : List Expr} {kk : Nat} {tpos : Pos} (x : Str) (t : Tok) (e it : Addr) :
    Turn P w K (.Tuple elts kk tpos) (IteS x) [e, it] e (fun i h => (∃ old, IsEnum h e it ((i : Nat) : Int) old) ∧ h.IsStrIter it (strIterType x) x t i ∧ e ≠ it) where
  mem := by simp
  obj := fun i h st b hb => by
    obtain ⟨⟨old, he⟩, ⟨o, ho, hc, hd⟩, _⟩ := st
    have e' : b = e ∨ b = it := by simpa using hb
    rcases e' with z | z
    · rw [z]; exact ⟨_, he, fun v q => nomatch q⟩
    · rw [z]; exact ⟨o, ho, fun v q => by rw [hd] at q; cases q⟩
  keep := fun i h h' st k => let ⟨⟨old, he⟩, ⟨o, ho, r⟩, hne⟩ := st; ⟨⟨old, k e (by simp) _ he⟩, ⟨o, k it (by simp) o ho, r⟩, hne⟩
  item := by
    intro X hP hw hK hc i pins s σ H E I hf st hg
    subst hP hw hK
    obtain ⟨⟨old, he⟩, hit, hne⟩ := st
    have hel : e < s.heap.objs.size := Heap.lt_size he
    have hil : it < s.heap.objs.size := by obtain ⟨_, q, _⟩ := hit; exact Heap.lt_size q
    refine wpAny_pyNext_enum_itemD (Draws.text (A := X.A.in1) (I.ok.hd hc) it x t) he hit hg hne (by simp [hne]) fun u' h' tk hx' ho st' hT hsz hk => ?_
    obtain ⟨c, tu, hcx, rfl⟩ := hx'
    refine ⟨_, rfl, wpAny_letOwnedTupleGo_enum (s := { s with heap := h', toks := tk + 1 }) ho fun h'' he' sb => ?_⟩
    have hT2 : h''.get? s.heap.objs.size = some { cls := .type "tuple", data := .seq #[.int i tk, .str ⟨#[c]⟩ tu] } := (sb.2 _ (Nat.ne_of_gt hel)).trans hT
    have new : ObjOk X.prog X.w (upd H s.heap.objs.size (.tup [.int (i : Nat), .str ⟨#[c]⟩])) h'' s.heap.objs.size (.tup [.int (i : Nat), .str ⟨#[c]⟩]) :=
      ⟨by show 2 ≤ sizeLine; decide, [.int i tk, .str ⟨#[c]⟩ tu], .cons ⟨_, rfl⟩ (.cons ⟨_, rfl⟩ .nil), ⟨_, hT2, rfl, _, rfl⟩⟩
    have I1 : Inv X pins σ (upd H s.heap.objs.size (.tup [.int (i : Nat), .str ⟨#[c]⟩])) { s with heap := h'', toks := tk + 1 } :=
      I.turnedNew (ch := [e, it]) (fun b ob hb q => (sb.2 b (fun z => hb (by simp [z]))).trans (hk b ob (fun z => hb (by simp [z])) (fun z => hb (by simp [z])) q)) hf (Nat.le_refl _) new
    refine ⟨.ref s.heap.objs.size, _, I1, rfl, ⟨_, c, rfl, I.hok.fresh (Nat.le_refl _), rfl, hcx⟩, ⟨⟨Value.str ⟨#[c]⟩ tu, ?_⟩, ?_, hne⟩, fun b hb => ?_⟩
    · have e1 : ((i + 1 : Nat) : Int) = (i : Int) + 1 := by omega
      rw [e1]; exact he'
    · obtain ⟨o, ho2, r⟩ := st'
      exact ⟨o, (sb.2 it (Ne.symm hne)).trans ho2, r⟩
    · have hb' : b < s.heap.objs.size := by
        have e' : b = e ∨ b = it := by simpa using hb
        rcases e' with z | z
        · rw [z]; exact hel
        · rw [z]; exact hil
      rw [upd_ne (Nat.ne_of_lt hb')]
      exact (hf b hb).1
  done := by
    intro X hP hw hK hc i pins s σ H E I hf st hg
    subst hP hw hK
    obtain ⟨⟨old, he⟩, hit, hne⟩ := st
    obtain ⟨f0, f1, f2, f3, f4, f5⟩ := hf it (by simp)
    have hi : x.cps.size = i := hg
    subst hi
    exact wpAny_pyNext_enum_endD (Draws.text (A := X.A.in1) (I.ok.hd hc) it x t) he hit fun h' eb => ⟨rfl, I.turned (t' := s.toks) (fun b o hb q => eb b o hb q) f0 f1 f3 f4 f5⟩
  self := fun A i s Q E st h => let ⟨⟨_, he⟩, _⟩ := st; wpAny_pyIter_enum he h
def iEnumB (K : PySem.W.Frag) (ta : TA) : TI := fun σ H R => ta σ H fun vs H1 => (∃ a xs, vs = [.ref a] ∧ ((SqL K H1 a xs ∧ R (Ite K a) H1) ∨ (SqT K H1 a xs ∧ R (IteT K a) H1))) ∨ ∃ z, vs = [.str z] ∧ R (IteS z) H1
theorem pi_enumB {X : Cx} {e : Expr} {ta : TA} {p pos tpos : Pos} {elts : List Expr} {kk : Nat} (hg : Gl X "enumerate") (hm : X.mg "enumerate" = none) (ha : PA X [e] ta) (hs : starEach [e] X.env = [(false, eval e X.env)] := by rfl) :
    PI X (.Tuple elts kk tpos) (.Call (.Name "enumerate" p) [e] [] pos) (iEnumB X.K ta) := by
  refine ⟨fun pins s σ H R I h => ?_⟩
  refine Call_ (ld_blt I hg hm boot_enumerate (PyProof.Rows.callWith_type1 (thn (ha.run pos pins s σ H _ I h) fun us s1 ⟨vs, H1, I1, r1, q1⟩ => ?_) hs rfl))
  have fresh2 : ∀ b ∈ [s1.heap.objs.size + 1, s1.heap.objs.size], FpOk X pins H1 b := fun b hb => by
    have hle : s1.heap.objs.size ≤ b := by
      simp at hb
      omega
    exact I1.fpOk hle (I1.hok.fresh hle)
  rcases q1 with ⟨a, xs, ex, q1⟩ | ⟨z, ex, q⟩
  · subst ex
    cases r1 with
    | cons r rr =>
      cases rr
      cases r
      rcases q1 with ⟨hq, q⟩ | ⟨hq, q⟩
      · obtain ⟨its, rv, p', hz⟩ := I1.list hq
        refine call_enumerate_list p'.isList fun h' he hit hsz hk => wpAny_pyIter_enum he ?_
        have I2 : Inv X pins σ H1 { s1 with heap := h' } := I1.kept (t' := s1.toks) hk
        exact ⟨s1.heap.objs.size + 1, [s1.heap.objs.size + 1, s1.heap.objs.size], _, _, H1, rfl, I2, turn_enum a (s1.heap.objs.size + 1) s1.heap.objs.size, ⟨⟨.none, he⟩, hit, Nat.succ_ne_self _⟩, fresh2, q⟩
      · obtain ⟨its, rv, p', hz⟩ := I1.tuple hq
        have pt : s1.heap.IsTuple a its.toArray := p'
        refine y_call_enum (begins_tuple a its.toArray) pt fun h' he hit hsz hk => wpAny_pyIter_enum he ?_
        have I2 : Inv X pins σ H1 { s1 with heap := h' } := I1.kept (t' := s1.toks) hk
        have hal : a < s1.heap.objs.size := p'.lt
        exact ⟨s1.heap.objs.size + 1, [s1.heap.objs.size + 1, s1.heap.objs.size], _, _, H1, rfl, I2, turn_enumT a (s1.heap.objs.size + 1) s1.heap.objs.size, ⟨⟨.none, he⟩, ⟨_, hit, rfl, rfl⟩, Nat.succ_ne_self _, Nat.ne_of_lt hal, Nat.ne_of_gt (Nat.lt_succ_of_lt hal)⟩, fresh2, q⟩
  · subst ex
    cases r1 with
    | cons r rr =>
      cases rr
      obtain ⟨t, rfl⟩ := r
      refine y_call_enum (begins_text z t) trivial fun h' he hit hsz hk => wpAny_pyIter_enum he ?_
      have I2 : Inv X pins σ H1 { s1 with heap := h' } := I1.kept (t' := s1.toks) hk
      exact ⟨s1.heap.objs.size + 1, [s1.heap.objs.size + 1, s1.heap.objs.size], _, _, H1, rfl, I2, turn_enumS z t (s1.heap.objs.size + 1) s1.heap.objs.size, ⟨⟨.none, he⟩, ⟨_, hit, rfl, rfl⟩, Nat.succ_ne_self _⟩, fresh2, q⟩
end L2
namespace Y
open PySem PySem.Spec L2
def enumSrc (S : Sto) : D → Option (List D × List (Nat × List D))
  | .str z => some (enL 0 (sgns z), [])
  | d => (seqSrc S d).map fun p => (enL 0 p.2.1, p.2.2)
def i_enumA (l : LM) : IM := fun env S => bd (l env S) fun ds S1 => match ds with
  | [d] => lf (enumSrc S1 d) S1
  | _ => .err
theorem sgns_get {z : Str} {i : Nat} {d : D} (h : (sgns z)[i]? = some d) : ∃ c, z.cps[i]? = some c ∧ d = .str ⟨#[c]⟩ := by
  unfold sgns at h
  rw [List.getElem?_map] at h
  obtain ⟨c, h1, h2⟩ := Option.map_eq_some_iff.mp h
  exact ⟨c, by rw [← Array.getElem?_toList]; exact h1, h2.symm⟩
theorem sgns_len {z : Str} : (sgns z).length = z.cps.size := by
  unfold sgns
  rw [List.length_map]; rfl
section
variable {X : Cx} {W : WX} {pos tpos p : Pos} {e : Expr} {l : LM} {elts : List Expr} {kk : Nat}
theorem y_enumA (hm : X.mg "enumerate" = none) (ha : PA X [e] (tA X.K X.mg W l)) (hg : Gl X "enumerate" := by rfl) (hs : starEach [e] X.env = [(false, eval e X.env)] := by rfl) :
    PI X (.Tuple elts kk tpos) (.Call (.Name "enumerate" p) [e] [] pos) (tI X.K X.mg W (i_enumA l)) :=
  PI_imp (pi_enumB hg hm ha hs) fun σ H Q ⟨ρ, env, S, R, V, w⟩ => tA_seq R V (wpM_mono (wpM_bd w) (fun ds S1 w1 ρ1 vs H1 R1 V1 U1 r1 => by
    split at w1
    · rename_i d
      obtain ⟨q, e1, k⟩ := wpM_lf w1
      obtain ⟨v, rfl, rv⟩ := one_of r1
      have old : (seqSrc S1 d).map (fun p => (enL 0 p.2.1, p.2.2)) = some q → (∃ a xs, [v] = [L2.V.ref a] ∧ ((SqL X.K H1 a xs ∧ Q (Ite X.K a) H1) ∨ (SqT X.K H1 a xs ∧ Q (IteT X.K a) H1))) := fun e1 => by
        obtain ⟨⟨b, es, src⟩, e2, rfl⟩ := Option.map_eq_some_iff.mp e1
        obtain ⟨a, rfl, at'⟩ := seqSrc_ok R1 rv e2
        obtain ⟨xs0, t0, l0, _⟩ := at' ρ1 H1 S1 R1 Up.refl (okSrc_here (K := X.K) (ρ := ρ1) (H := H1) e2)
        refine ⟨a, xs0, rfl, ?_⟩
        cases b with
        | false =>
          refine .inl ⟨l0 rfl, k ρ1 H1 _ R1 U1 fun ρ2 H2 S2 R2 U2 ok => ?_⟩
          obtain ⟨xs, _, hl, rl⟩ := at' ρ2 H2 S2 R2 U2 ok
          have hl := hl rfl
          have len := rl.length
          simp only [enL_length]
          refine ⟨fun i hi => ⟨xs, xs[i]'(by omega), hl, by simp [len, hi]⟩, ⟨xs, hl, by omega⟩, fun i d x H' ed y => ?_⟩
          obtain ⟨T, u, rfl, hT, rfl, y⟩ := y
          obtain ⟨x0, f1, rfl⟩ := enL_get ed
          obtain ⟨w', g1, g2⟩ := rl.get f1
          rw [y xs hl] at g1
          cases g1
          have s : Same H2 (upd H2 T (.tup [.int (i : Nat), u])) := same_new hT
          exact ⟨s, T, _, rfl, SqT.of upd_same, RelL.cons (by rw [Nat.zero_add]; rfl) (RelL.cons ((Up.same (K := X.K) (ρ := ρ2) (S := S2) s).relD g2) RelL.nil)⟩
        | true =>
          refine .inr ⟨t0 rfl, k ρ1 H1 _ R1 U1 fun ρ2 H2 S2 R2 U2 ok => ?_⟩
          obtain ⟨xs, hl, _, rl⟩ := at' ρ2 H2 S2 R2 U2 ok
          have hl := hl rfl
          have len := rl.length
          simp only [enL_length]
          refine ⟨fun i hi => ⟨xs, xs[i]'(by omega), hl, by simp [len, hi]⟩, ⟨xs, hl, by omega⟩, fun i d x H' ed y => ?_⟩
          obtain ⟨T, u, rfl, hT, rfl, y⟩ := y
          obtain ⟨x0, f1, rfl⟩ := enL_get ed
          obtain ⟨w', g1, g2⟩ := rl.get f1
          rw [y xs hl] at g1
          cases g1
          have s : Same H2 (upd H2 T (.tup [.int (i : Nat), u])) := same_new hT
          exact ⟨s, T, _, rfl, SqT.of upd_same, RelL.cons (by rw [Nat.zero_add]; rfl) (RelL.cons ((Up.same (K := X.K) (ρ := ρ2) (S := S2) s).relD g2) RelL.nil)⟩
      cases d with
      | str z =>
        cases e1
        have rv' : v = .str z := rv
        subst rv'
        refine .inr ⟨z, rfl, k ρ1 H1 _ R1 U1 fun ρ2 H2 S2 R2 U2 ok => ?_⟩
        simp only [enL_length, sgns_len]
        refine ⟨fun i hi => hi, rfl, fun i d x H' ed y => ?_⟩
        obtain ⟨T, c, rfl, hT, rfl, y⟩ := y
        obtain ⟨x0, f1, rfl⟩ := enL_get ed
        obtain ⟨c', g1, rfl⟩ := sgns_get f1
        rw [y] at g1
        cases g1
        have s : Same H2 (upd H2 T (.tup [.int (i : Nat), .str ⟨#[c]⟩])) := same_new hT
        exact ⟨s, T, _, rfl, SqT.of upd_same, RelL.cons (by rw [Nat.zero_add]; rfl) (RelL.cons rfl RelL.nil)⟩
      | _ => exact .inl (old e1)
    · exact w1.elim) fun _ _ _ q => q)
end
end Y

end
section
set_option Elab.async false
set_option linter.all false
set_option maxRecDepth 100000
set_option maxHeartbeats 4000000
set_option autoImplicit false
/-! list + list, text * int, text[::-1], tuple(text) -/
namespace L2
open PySem PySem.Spec PyProof.Rows
section
variable {X : Cx}
def rCatL (K : PySem.W.Frag) : R2 := fun x y H Q => ∃ l b xs zs, x = .ref l ∧ y = .ref b ∧ SqL K H l xs ∧ SqL K H b zs ∧ xs.length + zs.length ≤ sizeLine ∧ ∀ p, H p = none → Q (.ref p) (upd H p (.lst (xs ++ zs)))
theorem op_catL : OpR X (binaryOp .Add) (rCatL X.K) := by
  intro pins s σ H x y v u Q I rx ry h
  obtain ⟨l, b, xs, zs, rfl, rfl, hx, hy, hz, q⟩ := h
  cases rx
  cases ry
  obtain ⟨us, ru, pu, lu⟩ := I.list hx
  obtain ⟨ws, rw', pw, lw⟩ := I.list hy
  obtain ⟨⟨c1, d1, t1, s1⟩, o1, k1, n1, e1⟩ := pu.isList
  obtain ⟨⟨c2, d2, t2, s2⟩, o2, k2, n2, e2⟩ := pw.isList
  simp only at k1 e1 k2 e2
  subst k1 e1 k2 e2
  have l1 := ru.length
  have l2 := rw'.length
  refine concat_meets ⟨_, o1, rfl⟩ ⟨_, o2, rfl⟩ noFill_list_add seq_list_add PySem.F.slot_list_add PySem.F.entry_list_add (PySem.F.args_list_add_2 _ _) (list_addW l b us.toArray ws.toArray n1 n2 d1 d2 s1 s2 (by rw [List.size_toArray, List.size_toArray]; omega)) ⟨o1, o2, ?_⟩
  rw [show us.toArray ++ ws.toArray = (us ++ ws).toArray by simp]
  exact ⟨.ref _, _, I.lnew (t' := s.toks) (ru.append rw') (by rw [List.length_append]; omega), rfl, q _ I.fresh⟩
def rMulS : R2 := fun x y H Q => ∃ (z : Str) (n : Int), x = .str z ∧ y = .int n ∧ n ≤ 16777216 ∧ 0 ≤ n ∧ z.length * n.toNat ≤ sizeLine ∧ Q (.str (Txt.mul z n)) H
theorem op_mulS : OpR X (binaryOp .Mult) rMulS := by
  intro pins s σ H x y v u Q I rx ry h
  obtain ⟨z, n, rfl, rfl, h1, h0, hz, q⟩ := h
  obtain ⟨t, rfl⟩ := rx
  obtain ⟨t', rfl⟩ := ry
  have hs := sizeLine_eq
  refine SB.mul (n := n) ⟨?_, fun hn _ hc => ?_, fun hn _ => ?_⟩ fun t2 k => ⟨.str (Txt.mul z n), H, I.tok k, ⟨_, rfl⟩, q⟩
  · simp; omega
  · have hn1 : 1 ≤ n := by omega
    have a1 : (z.length : Int) ≤ 16777216 := by
      have : z.length * 1 ≤ z.length * n.toNat := Nat.mul_le_mul_left _ (by omega)
      omega
    have a2 : (16777216 : Int) ≤ (2 ^ 63 - 1) / n := Int.le_ediv_of_mul_le (by omega) (by omega)
    omega
  · show decide (_ > sizeLine) = false
    exact decide_eq_false (by omega)
def tRevA (K : PySem.W.Frag) (te : TE) : TE := fun σ H Q => te σ H fun x H1 => (∃ a xs, x = .ref a ∧ SqT K H1 a xs ∧ ∀ p, H1 p = none → Q (.ref p) (upd H1 p (.tup xs.reverse))) ∨ ∃ z : Str, x = .str z ∧ z.length ≤ sizeLine ∧ Q (.str (Txt.sliceBy z none none (-1, 0))) H1
theorem pe_revA {e : Expr} {te : TE} {k : Nat} {p1 p2 p3 pos : Pos} (he : PE X e te) : PE X (.Subscript e (.Slice none none (some (.UnaryOp .USub (.Constant (.int 1) k p1) p2)) p3) pos) (tRevA X.K te) := by
  refine ⟨fun pins s σ H Q I h => ?_⟩
  refine Subscript_ (thn (he.run pins s σ H _ I h) fun v s1 ⟨x, H1, I1, r1, q1⟩ => ?_)
  have hst : PO X (some (.UnaryOp .USub (.Constant (.int 1) k p1) p2)) (tPart (tUn (rU fun i => .int (-i)) (tC (.int 1)))) := po_some (pe_un un_neg pe_int)
  refine wpAny_Slice (thn (po_none.run pins s1 σ H1 (fun o H2 => o = none ∧ H2 = H1) I1 ⟨rfl, rfl⟩) fun vl s2 ⟨l, H2, I2, pl, el, e2⟩ => ?_)
  subst el e2
  refine thn (po_none.run pins s2 σ H2 (fun o H3 => o = none ∧ H3 = H2) I2 ⟨rfl, rfl⟩) fun vu s3 ⟨u, H3, I3, pu, eu, e3⟩ => ?_
  subst eu e3
  refine thn (hst.run pins s3 σ H3 (fun o H4 => o = some (-1) ∧ H4 = H3) I3 ⟨1, rfl, -1, rfl, rfl, rfl⟩) fun vs s4 ⟨o, H4, I4, ps, eo, e4⟩ => ?_
  subst eo e4
  cases pl
  cases pu
  cases ps with
  | int _ tk =>
    have I5 : Inv X pins σ H4 { s4 with heap := s4.heap.push { cls := .type "slice", data := .fields #[.none, .none, .int (-1) tk] } } := I4.kept (t' := s4.toks) fun b ob q => Heap.get?_push_of_some _ q
    rcases q1 with ⟨a, xs, ex, hx, q⟩ | ⟨z, ex, hz, q⟩
    · subst ex
      cases r1
      obtain ⟨its, r, ht, hz⟩ := I5.tuple hx
      have hlen := r.length
      show wpAny (model X.prog X.w) X.A (subscriptTail e (.Slice none none (some (.UnaryOp .USub (.Constant (.int 1) k p1) p2)) p3) (.ref a) (.ref s4.heap.objs.size)) (EP X pins σ Q) X.xe { s4 with heap := s4.heap.push { cls := .type "slice", data := .fields #[.none, .none, .int (-1) tk] } }
      refine tail_any (ops := [.ref a, .ref s4.heap.objs.size]) ht.typeIs (PyProof.Rows.slot_tuple_getitem.lookup) ?_ (by with_unfolding_all rfl)
      refine HT.y_getRev ht (Heap.IsSliceOf.new _ .none .none (.int (-1) tk)) ?_ (by rw [List.size_toArray]; omega)
      refine ⟨.ref _, _, I5.laid (t' := s4.toks) (o := .tup xs.reverse) (fun b ob q => Heap.get?_push_of_some _ q) (Nat.le_refl _) ?_, rfl, q _ (I5.hok.fresh (Nat.le_refl _))⟩
      exact ⟨by rw [List.length_reverse]; exact hz, _, r.reverse, ⟨_, Heap.get?_push_size _ rfl, rfl, _, rfl⟩⟩
    · subst ex
      obtain ⟨t, rfl⟩ := r1
      show wpAny (model X.prog X.w) X.A (subscriptTail e (.Slice none none (some (.UnaryOp .USub (.Constant (.int 1) k p1) p2)) p3) (.str z t) (.ref s4.heap.objs.size)) (EP X pins σ Q) X.xe { s4 with heap := s4.heap.push { cls := .type "slice", data := .fields #[.none, .none, .int (-1) tk] } }
      refine tail_any (ops := [.ref s4.heap.objs.size, .str z t]) (typeIs_str _ _ _) PySem.F.slot_str_getitem.lookup ?_ (by with_unfolding_all rfl)
      exact wpAny_getItem_str_slice (l := none) (u := none) (st := some (-1, tk)) ⟨_, Heap.get?_push_size _ rfl, rfl, rfl⟩ rfl
        (post_val_or_str ⟨Nat.le_trans (Txt.sliceBy_le z _ _ (-1, tk) (show (-1 : Int) ≠ 0 by decide)) hz, fun t' c => ⟨.str (Txt.sliceBy z none none (-1, 0)), H4, I5.tok c, ⟨t', rfl⟩, q⟩⟩)
def rTupS : List V → Hp → VK → Prop := fun vs H Q => ∃ z : Str, vs = [.str z] ∧ z.cps.size ≤ sizeLine ∧ ∀ p, H p = none → Q (.ref p) (upd H p (.tup (sgnV z)))
theorem cr_tupS (hc : X.calm = true) : CallR X (.type "tuple") rTupS := by
  intro pins s σ H vs us Q I r h
  obtain ⟨z, rfl, hz, q⟩ := h
  obtain ⟨u, rfl, ru⟩ := vals1 r
  obtain ⟨t, rfl⟩ := ru
  refine call_tuple_str (I.ok.hd hc) z t (hsz := hz) fun h' tk acc hk hi => ?_
  have hl : (sgnV z).length = acc.toList.length := by
    unfold sgnV
    rw [List.length_map]
    exact hi.1.symm
  have rv : Vals (sgnV z) acc.toList := vals_of_at hl fun j x u e1 e2 => by
    obtain ⟨c, w, g1, rfl⟩ := hi.2 j u (by rw [← Array.getElem?_toList]; exact e2)
    unfold sgnV at e1
    rw [List.getElem?_map, Array.getElem?_toList, g1] at e1
    cases e1
    exact ⟨w, rfl⟩
  have I1 : Inv X pins σ H { s with heap := h', toks := tk } := I.kept hk
  refine ⟨.ref h'.objs.size, _, I1.laid (t' := tk) (o := .tup (sgnV z)) (fun b ob q => Heap.get?_push_of_some _ q) (Nat.le_refl _) ?_, rfl, q _ (I1.hok.fresh (Nat.le_refl _))⟩
  exact ⟨by rw [hl, Array.length_toList, hi.1]; exact hz, acc.toList, rv, ⟨_, Heap.get?_push_size _ rfl, rfl, _, by rw [Array.toArray_toList]⟩⟩
end
end L2
namespace Y
open PySem PySem.Spec L2
def catF (a b : EM) : LM := fun env S => bd (a env S) fun x S1 => bd (b env S1) fun y S2 => lf ((lstOf S2 x).bind fun xs => (lstOf S2 y).bind fun ys => if xs.length + ys.length ≤ sizeLine then some (xs ++ ys) else none) S2
open Classical in
noncomputable def o_mulA (S : Sto) (x y : D) : Option D := match x, y with
  | .str z, .int n => if n ≤ 16777216 ∧ 0 ≤ n ∧ z.length * n.toNat ≤ sizeLine then some (.str (Txt.mul z n)) else none
  | x, y => o_mul S x y
def revS (z : Str) : Str := Txt.sliceBy z none none (-1, 0)
def revA (m : EM) : EM := fun env S => bd (m env S) fun d S1 => match d with
  | .tup ds => .ok (.tup ds.reverse) S1
  | .str z => if z.length ≤ sizeLine then .ok (.str (revS z)) S1 else .err
  | _ => .err
def o_tupleA (S : Sto) : List D → Option D
  | [.str z] => if z.cps.size ≤ sizeLine then some (.tup (sgns z)) else none
  | ds => o_tuple S ds
section
variable {X : Cx} {W : WX} {pos p1 p2 p3 : Pos} {a b e : Expr} {ma mb m : EM}
theorem y_cat (ha : PE X a (tE X.K X.mg W ma)) (hb : PE X b (tE X.K X.mg W mb)) : PE X (.BinOp a .Add b pos) (tF X.K X.mg W (catF ma mb)) :=
  (pe_op op_catL ha hb).imp fun σ H Q ⟨ρ, env, S, R, V, w⟩ => by
    refine tE_seq R V (wpM_mono (wpM_bd w) (fun x S1 w1 ρ1 v H1 R1 V1 U1 r1 => ?_) fun _ _ _ q => q)
    refine tE_seq R1 V1 (wpM_mono (wpM_bd w1) (fun y S2 w2 ρ2 u H2 R2 V2 U2 r2 => ?_) fun _ _ _ q => q.up U1)
    obtain ⟨ds, e0, q⟩ := wpM_lf w2
    obtain ⟨xs, e1, e2⟩ := Option.bind_eq_some_iff.mp e0
    obtain ⟨ys, e3, e4⟩ := Option.bind_eq_some_iff.mp e2
    split at e4
    · rename_i hl
      cases e4
      obtain ⟨l, us, rfl, h1, h2⟩ := lst_rel R2 e1 (U2.relD r1)
      obtain ⟨c, ws, rfl, h3, h4⟩ := lst_rel R2 e3 r2
      exact ⟨l, c, us, ws, rfl, rfl, h1, h3, by rw [h2.length, h4.length]; exact hl, fun p hp => q ρ2 p _ H2 _ R2 (U1.trans U2) (h2.append h4) hp (same_new hp) upd_same⟩
    · cases e4
theorem op_mulA : OpR X (binaryOp .Mult) (fun x y H Q => rMulS x y H Q ∨ rI IntMulOk (fun i j => .int (i * j)) x y H Q) := op_mulS.or op_mulG
theorem os_mulA {K : PySem.W.Frag} : OpS K (fun x y H Q => rMulS x y H Q ∨ rI IntMulOk (fun i j => .int (i * j)) x y H Q) o_mulA := by
  intro ρ H S x y d v u Q R r1 r2 e q
  have gen : o_mul S x y = some d → rMulS v u H Q ∨ rI IntMulOk (fun i j => .int (i * j)) v u H Q := fun e => .inr (os_mul ρ H S x y d v u Q R r1 r2 e q)
  cases x with
  | str z =>
    cases y with
    | int n =>
      simp only [o_mulA] at e
      split at e
      · rename_i h
        cases e
        have r1' : v = .str z := r1
        have r2' : u = .int n := r2
        subst r1' r2'
        exact .inl ⟨z, n, rfl, rfl, h.1, h.2.1, h.2.2, q _ H (Same.refl H) rfl⟩
      · cases e
    | _ => exact gen e
  | _ => exact gen e
theorem y_revA {k : Nat} (he : PE X e (tE X.K X.mg W m)) : PE X (.Subscript e (.Slice none none (some (.UnaryOp .USub (.Constant (.int 1) k p1) p2)) p3) pos) (tE X.K X.mg W (revA m)) :=
  (pe_revA he).imp fun σ H Q ⟨ρ, env, S, R, V, w⟩ => tE_seq R V (wpM_mono (wpM_bd w) (fun d S1 w1 ρ1 v H1 R1 V1 U1 r1 => by
    cases d with
    | tup ds =>
      obtain ⟨a, xs, rfl, h1, h2⟩ := r1
      refine .inl ⟨a, xs, rfl, h1, fun p hp => ?_⟩
      have s : Same H1 (upd H1 p (.tup xs.reverse)) := same_new hp
      exact w1 ρ1 (.ref p) _ (R1.same s) (U1.trans (Up.same s)) ⟨p, _, rfl, SqT.of upd_same, (Up.same (K := X.K) (ρ := ρ1) (S := S1) s).relL h2.reverse⟩
    | str z =>
      simp only at w1
      split at w1
      · rename_i hl
        have r1' : v = .str z := r1
        subst r1'
        exact .inr ⟨z, rfl, hl, w1 ρ1 _ H1 R1 U1 rfl⟩
      · exact w1.elim
    | _ => exact w1.elim) fun _ _ _ q => q)
theorem cr_tupA (hc : X.calm = true) : CallR X (.type "tuple") (fun xs H Q => rTupS xs H Q ∨ ∃ p ys, xs = [.ref p] ∧ ((SqL X.K H p ys ∧ ∀ l, H l = none → Q (.ref l) (upd H l (.tup ys))) ∨ (SqT X.K H p ys ∧ Q (.ref p) H))) := (cr_tupS hc).or call_tuple_of
theorem cs_tupA {K : PySem.W.Frag} : CallS K (fun xs H Q => rTupS xs H Q ∨ ∃ p ys, xs = [.ref p] ∧ ((SqL K H p ys ∧ ∀ l, H l = none → Q (.ref l) (upd H l (.tup ys))) ∨ (SqT K H p ys ∧ Q (.ref p) H))) o_tupleA := by
  intro ρ H S ds d vs Q R r e q
  unfold o_tupleA at e
  split at e
  · rename_i z
    split at e
    · rename_i hl
      cases e
      obtain ⟨v, rfl, rv⟩ := one_of r
      have rv' : v = .str z := rv
      subst rv'
      exact .inl ⟨z, rfl, hl, fun p hp => q _ _ (same_new hp) ⟨p, sgnV z, rfl, SqT.of upd_same, sgn_rel z⟩⟩
    · cases e
  · exact .inr (cs_tuple ρ H S _ d vs Q R r e q)
end
end Y

end
section
set_option Elab.async false
set_option linter.all false
set_option maxRecDepth 100000
set_option maxHeartbeats 4000000
set_option autoImplicit false
/-! tools for plain laws -/
namespace Y
open PySem PySem.Spec L2 PySem.W
section
variable {α β : Type} {env : En} {S : Sto} {k : SK} {Q : β → Sto → Prop} {E : Str → List (Str × D) → Sto → Prop}
theorem wpM_catF {a b : EM} {Q : List D → Sto → Prop} : wpM (catF a b env S) Q E = wpM (a env S) (fun x S1 => wpM (b env S1) (fun y S2 => wpM (lf ((lstOf S2 x).bind fun xs => (lstOf S2 y).bind fun ys => if xs.length + ys.length ≤ sizeLine then some (xs ++ ys) else none) S2) Q E) E) E := by
  unfold catF; simp only [wpM_bdE]
theorem wpM_revA {m : EM} {Q : D → Sto → Prop} : wpM (revA m env S) Q E = wpM (m env S) (fun d S1 => match d with | .tup ds => Q (.tup ds.reverse) S1 | .str z => (if z.length ≤ sizeLine then Q (.str (revS z)) S1 else False) | _ => False) E := by
  unfold revA; rw [wpM_bdE]; congr 1; funext d S1
  cases d with
  | str z => simp only; split <;> rfl
  | _ => rfl
@[irreducible] def rgOk (j : Int) : Prop := -(2 ^ 62) ≤ j ∧ j < 2 ^ 62
theorem rgOk_of {j : Int} (h0 : -4611686018427387904 ≤ j) (h1 : j < 4611686018427387904) : rgOk j := by
  unfold rgOk
  exact ⟨h0, h1⟩
theorem rgOk_nat {n : Nat} (h : n ≤ 16777216) : rgOk (n : Int) := rgOk_of (by omega) (by omega)
theorem wpM_rg1 {l : LM} {Q : List D × List (Nat × List D) → Sto → Prop} : wpM (i_rg1 l env S) Q E = wpM (l env S) (fun ds S1 => match ds with | [.int j] => rgOk j ∧ Q (rgL 0 j, []) S1 | _ => False) E := by
  unfold i_rg1
  rw [wpM_bdE]; congr 1; funext ds S1
  match ds with
  | [] => rfl
  | [.int j] =>
    show wpM (if -(2 ^ 62) ≤ j ∧ j < 2 ^ 62 then Res.ok (rgL 0 j, []) S1 else .err) Q E = (rgOk j ∧ Q (rgL 0 j, []) S1)
    unfold rgOk
    by_cases h : -(2 ^ 62) ≤ j ∧ j < 2 ^ 62
    · rw [if_pos h]; exact propext ⟨fun q => ⟨h, q⟩, fun q => q.2⟩
    · rw [if_neg h]; exact propext ⟨fun q => q.elim, fun q => h q.1⟩
  | [.non] => rfl
  | [.bl _] => rfl
  | [.str _] => rfl
  | [.tup _] => rfl
  | [.lst _] => rfl
  | [.ref _] => rfl
  | d :: _ :: _ => cases d <;> rfl
theorem wpM_rg2 {l : LM} {Q : List D × List (Nat × List D) → Sto → Prop} : wpM (i_rg2 l env S) Q E = wpM (l env S) (fun ds S1 => match ds with | [d, e] => (match d with | .int i => (match e with | .int j => rgOk i ∧ rgOk j ∧ Q (rgL i j, []) S1 | _ => False) | _ => False) | _ => False) E := by
  unfold i_rg2
  rw [wpM_bdE]; congr 1; funext ds S1
  match ds with
  | [] => rfl
  | [d] => cases d <;> rfl
  | [d, e] =>
    cases d <;> try rfl
    cases e <;> try rfl
    rename_i i j
    show wpM (if -(2 ^ 62) ≤ i ∧ i < 2 ^ 62 ∧ -(2 ^ 62) ≤ j ∧ j < 2 ^ 62 then Res.ok (rgL i j, []) S1 else .err) Q E = (rgOk i ∧ rgOk j ∧ Q (rgL i j, []) S1)
    unfold rgOk
    by_cases h : -(2 ^ 62) ≤ i ∧ i < 2 ^ 62 ∧ -(2 ^ 62) ≤ j ∧ j < 2 ^ 62
    · rw [if_pos h]; exact propext ⟨fun q => ⟨⟨h.1, h.2.1⟩, ⟨h.2.2.1, h.2.2.2⟩, q⟩, fun q => q.2.2⟩
    · rw [if_neg h]; exact propext ⟨fun q => q.elim, fun q => h ⟨q.1.1, q.1.2, q.2.1.1, q.2.1.2⟩⟩
  | d :: e :: _ :: _ => cases d <;> cases e <;> rfl
theorem wpM_enumA {l : LM} {Q : List D × List (Nat × List D) → Sto → Prop} : wpM (i_enumA l env S) Q E = wpM (l env S) (fun ds S1 => match ds with | [d] => wpM (lf (enumSrc S1 d) S1) Q E | _ => False) E := by
  unfold i_enumA
  rw [wpM_bdE]; congr 1; funext ds S1
  match ds with
  | [] => rfl
  | [d] => rfl
  | d :: _ :: _ => rfl
theorem wpM_iof {m : EM} {Q : List D × List (Nat × List D) → Sto → Prop} : wpM (i_of m env S) Q E = wpM (m env S) (fun d S1 => wpM (lf (srcOf S1 d) S1) Q E) E := by
  unfold i_of
  rw [wpM_bdE]
theorem wpM_lfS {a : β} : wpM (lf (some a) S) Q E = Q a S := rfl
theorem wpM_lfN : wpM (lf (none : Option β) S) Q E = False := rfl
/-- a run that is known -/
theorem eq_of_wp {r : Res β} {a : β} {S' : Sto} (h : wpM r (fun x S1 => x = a ∧ S1 = S') (fun _ _ _ => False)) : r = .ok a S' := by
  cases r with
  | ok x S1 => obtain ⟨rfl, rfl⟩ := h; rfl
  | exc c fs S1 => exact h.elim
  | err => exact h.elim
theorem wS_seqP {a b : SM} {env : En} {k : SK} (P : En → Sto → Prop) (h1 : wS (a env S) ⟨P, k.bk, k.ct, k.rt, k.ex⟩) (h2 : ∀ e S, P e S → wS (b e S) k) : wS (seqS a b env S) k := by
  rw [wS_seq]
  revert h1
  cases a env S with
  | nx e S1 => exact fun h => h2 e S1 h
  | _ => exact fun h => h
end
def mkR {γ : Type} (r : γ) : γ := r
theorem mkR_eq {γ : Type} {r : γ} : mkR r = r := by
  have h : mkR r = r ∧ True := ⟨rfl, trivial⟩
  exact h.1
/-! sizes -/
theorem le_sz {n : Nat} (h : Nat.ble n 16777216 = true) : n ≤ sizeLine := by
  have := sizeLine_eq
  have := Nat.le_of_ble_eq_true h
  omega
theorem le_szL {n : Nat} (h : n ≤ 16777216) : n ≤ sizeLine := by
  have := sizeLine_eq
  omega
/-! lists, stores -/
section
variable {S : Sto} {n : Nat} {ds : List D} {y : D}
theorem tyL (h : S[n]? = some (some (.lst ds))) : tyD "list" S (.ref n) = true := by simp [tyD, h]
theorem app_at (h : S[n]? = some (some (.lst ds))) (hl : ds.length < sizeLine) : m_append S (.ref n) [y] = some (.non, S.set n (some (.lst (ds ++ [y])))) := by
  simp [m_append, chg, h, hl]
theorem popAt_at {i : Int} {j : Nat} (h : S[n]? = some (some (.lst ds))) (hi : i = (j : Int)) (hj : j < ds.length) (hs : ds.length ≤ 1000000) : m_popAt S (.ref n) [.int i] = some (ds[j], S.set n (some (.lst (ds.eraseIdx j)))) := by
  subst hi
  have e : seqIndex? (j : Int) ds.length = some j := (by have := seqIndex_of (k := (j : Int)) (n := ds.length) (by omega) (by omega); simpa using this)
  simp only [m_popAt, chg, h]
  rw [if_pos (by omega)]
  simp [e, List.getElem?_eq_getElem hj]
theorem pop_last {a : D} (h : S[n]? = some (some (.lst (ds ++ [a])))) : m_pop S (.ref n) [] = some (a, S.set n (some (.lst ds))) := by
  simp [m_pop, chg, h]
theorem len_at (h : S[n]? = some (some (.lst ds))) : o_len S [.ref n] = some (.int ds.length) := by simp [o_len, seqOf, h]
theorem lst_at (h : S[n]? = some (some (.lst ds))) : lstOf S (.ref n) = some ds := by simp [lstOf, h]
theorem ix_at {j : Nat} {x : D} (h : S[n]? = some (some (.lst ds))) (hj : ds[j]? = some x) : o_ix S (.ref n) (.int (j : Int)) = some x := by
  simp only [o_ix, h]; exact atI_nat hj
theorem set_at {j : Nat} {x : D} (h : S[n]? = some (some (.lst ds))) (hj : j < ds.length) : setAt S (.ref n) (.int (j : Int)) x = some (S.set n (some (.lst (ds.set j x)))) := by
  have e : ixN ds.length (j : Int) = some j := by
    unfold ixN
    first
      | (have := seqIndex_of (k := (j : Int)) (n := ds.length) (by omega) (by omega); simpa using this)
      | simp [hj]
  simp [setAt, h, e]
theorem pureL_mem : ∀ {ds : List D}, (∀ d ∈ ds, d.pure = true) → pureL ds = true
  | [], _ => rfl
  | d :: ds, h => by
    show (d.pure && pureL ds) = true
    rw [h d List.mem_cons_self, pureL_mem fun x hx => h x (List.mem_cons_of_mem _ hx)]; rfl
theorem mem_pure : ∀ {ds : List D}, pureL ds = true → ∀ d ∈ ds, d.pure = true
  | [], _, d, h => by cases h
  | x :: ds, h, d, hd => by
    have h' : (x.pure && pureL ds) = true := h
    obtain ⟨h1, h2⟩ := Bool.and_eq_true_iff.mp h'
    rcases List.mem_cons.mp hd with e | hd
    · rw [e]; exact h1
    · exact mem_pure h2 d hd
theorem rgL_get {n j : Nat} {d : D} (h : (rgL 0 (n : Int))[j]? = some d) : d = .int j ∧ j < n := by
  unfold rgL at h
  rw [List.getElem?_map] at h
  cases e : (List.range ((n : Int) - 0).toNat)[j]? with
  | none => rw [e] at h; cases h
  | some z =>
    rw [e] at h
    obtain ⟨h1, h2⟩ := List.getElem?_eq_some_iff.mp e
    simp at h1 h2
    subst h2
    cases h
    exact ⟨by simp, by omega⟩
theorem rgL_len {n : Nat} : (rgL 0 (n : Int)).length = n := by simp [rgL]
theorem drop_at {α : Type} {ds : List α} {i : Nat} {d : α} (h : ds[i]? = some d) : ds.drop i = d :: ds.drop (i + 1) := by
  obtain ⟨h1, h2⟩ := List.getElem?_eq_some_iff.mp h
  rw [List.drop_eq_getElem_cons h1, h2]
/-! values -/
theorem ixT {j : Nat} {x : D} (h : ds[j]? = some x) : o_ix S (.tup ds) (.int (j : Int)) = some x := atI_nat h
theorem ixT0 {x : D} : o_ix S (.tup (x :: ds)) (.int 0) = some x := atI_nat (j := 0) rfl
theorem ixT1 {x y : D} : o_ix S (.tup (x :: y :: ds)) (.int 1) = some y := atI_nat (j := 1) rfl
theorem ixT2 {x y z : D} : o_ix S (.tup (x :: y :: z :: ds)) (.int 2) = some z := atI_nat (j := 2) rfl
theorem len_tup : o_len S [.tup ds] = some (.int ds.length) := rfl
theorem len_lst : o_len S [.lst ds] = some (.int ds.length) := rfl
theorem len_str {z : Str} (h : z.length ≤ 16777216) : o_len S [.str z] = some (.int z.length) := by simp only [o_len]; rw [if_pos (le_szL h)]
theorem eq_int {i j : Int} : o_eq S (.int i) (.int j) = some (.bl (i == j)) := by
  simp [o_eq, toPS, toP, SeqAt.shaped, PyData.canLay0, PyData.depth, PyData.eqv]
theorem ne_int {i j : Int} : o_ne S (.int i) (.int j) = some (.bl (!(i == j))) := by
  simp [o_ne, toPS, toP, SeqAt.shaped, PyData.canLay0, PyData.depth, PyData.eqv]
theorem eq_str {a b : Str} (h1 : PyData.strOk a = true) (h2 : PyData.strOk b = true) : o_eq S (.str a) (.str b) = some (.bl (a == b)) := by
  simp [o_eq, toPS, toP, SeqAt.shaped, PyData.canLay0, PyData.depth, PyData.eqv, h1, h2]
theorem ne_str {a b : Str} (h1 : PyData.strOk a = true) (h2 : PyData.strOk b = true) : o_ne S (.str a) (.str b) = some (.bl (!(a == b))) := by
  simp [o_ne, toPS, toP, SeqAt.shaped, PyData.canLay0, PyData.depth, PyData.eqv, h1, h2]
theorem eq_bl {a b : Bool} : o_eq S (.bl a) (.bl b) = some (.bl (a == b)) := by
  simp [o_eq, toPS, toP, SeqAt.shaped, PyData.canLay0, PyData.depth, PyData.eqv]
theorem strOk_of (w : String) : PyData.strOk (Str.ofString w) = true := by
  rw [Str.ofString_eq_toList]
  unfold PyData.strOk
  rw [Array.all_eq_true']
  intro x hx
  rw [List.mem_toArray] at hx
  obtain ⟨c, _, rfl⟩ := List.mem_map.mp hx
  refine decide_eq_true ?_
  have h := c.valid
  have h2 : c.toNat.isValidChar := h
  rcases h2 with h2 | h2
  · omega
  · exact h2.2
def isT : D → Bool | .tup _ => true | _ => false
def isS : D → Bool | .str _ => true | _ => false
def isI : D → Bool | .int _ => true | _ => false
def isB : D → Bool | .bl _ => true | _ => false
theorem isiT {d : D} (hd : d.pure = true) : (tyN S d).map (fun a => D.bl (subT a "tuple")) = some (.bl (isT d)) := by
  cases d <;> first | cases hd; done | simp [tyN, subT, isT]
theorem isiS {d : D} (hd : d.pure = true) : (tyN S d).map (fun a => D.bl (subT a "str")) = some (.bl (isS d)) := by
  cases d <;> first | cases hd; done | simp [tyN, subT, isS]
theorem isiB {d : D} (hd : d.pure = true) : (tyN S d).map (fun a => D.bl (subT a "bool")) = some (.bl (isB d)) := by
  cases d <;> first | cases hd; done | simp [tyN, subT, isB]
theorem isiI {d : D} (hd : d.pure = true) : (tyN S d).map (fun a => D.bl (subT a "int")) = some (.bl (isI d || isB d)) := by
  cases d <;> first | cases hd; done | simp [tyN, subT, isI, isB]
theorem str_at {z : Str} {j : Nat} {c : Nat} (h : z.cps[j]? = some c) (hl : z.length ≤ 16777216) : o_ix S (.str z) (.int (j : Int)) = some (.str ⟨#[c]⟩) := by
  simp only [o_ix]
  rw [if_pos (le_szL hl)]
  have e : atI z.cps.toList (j : Int) = some c := atI_nat (by rw [Array.getElem?_toList]; exact h)
  rw [e]; rfl
end
end Y

end
section
set_option Elab.async false
set_option linter.all false
set_option maxRecDepth 100000
set_option maxHeartbeats 4000000
set_option autoImplicit false
/-! a pool [great, mixed]: its list of ints at 0, itself at 1 -/
namespace Y
open PySem PySem.Spec L2 PySem.W
abbrev PSt (G : List Int) (m : Int) (rest : Sto) : Sto := some (.lst (G.map D.int)) :: some (.lst [.ref 0, .int m]) :: rest
def PP (rest S : Sto) : Prop := ∃ G m, (∀ g ∈ G, 0 ≤ g) ∧ G.length ≤ 64 ∧ 0 ≤ m ∧ m < 2147483648 ∧ S = PSt G m rest
theorem mul_ok {a b : Int} (h0 : 0 ≤ a) (h1 : a < 2 ^ 62) : PySem.IntMulOk a b := (CMul.ok (i := a) (j := b) (.inl ⟨by omega, by omega⟩))
theorem trunc_P {G G' : List Int} {m m' : Int} {rest X : Sto} : trunc (PSt G m rest) (PSt G' m' rest ++ X) = PSt G' m' rest := by
  unfold trunc
  rw [if_pos]
  · simp
  · refine .inr fun i o hi h => ?_
    match i with
    | 0 =>
      simp at h; subst h
      refine .inr ?_
      show belL _ (G'.map D.int) = true
      induction G' with
      | nil => rfl
      | cons g G' ih => simpa [belL, D.bel] using ih
    | 1 =>
      simp at h; subst h
      refine .inr ?_
      show belL _ [D.ref 0, D.int m'] = true
      simp [belL, D.bel]
    | i + 2 =>
      left
      simp only [List.cons_append, List.getElem?_cons_succ] at h ⊢
      simp only [List.length_cons] at hi
      rwa [List.getElem?_append_left (by omega)] at h
section
variable {rest S S0 X : Sto} {o : Option Ob}
theorem PP.len (h : PP rest S) : S.length = rest.length + 2 := by
  obtain ⟨G, m, _, _, _, _, rfl⟩ := h
  simp
theorem PP.getX {j : Nat} (h : PP (rest ++ X) S) : S[rest.length + 2 + j]? = X[j]? := by
  obtain ⟨G, m, _, _, _, _, rfl⟩ := h
  rw [show rest.length + 2 + j = (rest.length + j) + 1 + 1 by omega]
  simp only [List.getElem?_cons_succ]
  rw [List.getElem?_append_right (by omega)]
  congr 1; omega
theorem PP.setX {j : Nat} (h : PP (rest ++ X) S) : PP (rest ++ X.set j o) (S.set (rest.length + 2 + j) o) := by
  obtain ⟨G, m, h1, h2, h3, h4, rfl⟩ := h
  refine ⟨G, m, h1, h2, h3, h4, ?_⟩
  rw [show rest.length + 2 + j = (rest.length + j) + 1 + 1 by omega]
  simp only [List.set_cons_succ]
  rw [List.set_append_right _ _ (by omega), show rest.length + j - rest.length = j by omega]
theorem PP.app (h : PP rest S) : PP (rest ++ [o]) (S ++ [o]) := by
  obtain ⟨G, m, h1, h2, h3, h4, rfl⟩ := h
  exact ⟨G, m, h1, h2, h3, h4, by simp⟩
theorem PP.appX (h : PP (rest ++ X) S) : PP (rest ++ (X ++ [o])) (S ++ [o]) := by
  have := h.app (o := o)
  rwa [List.append_assoc] at this
theorem PP.nil (h : PP rest S) : PP (rest ++ []) S := by rwa [List.append_nil]
theorem PP.trunc (h0 : PP rest S0) (h : PP (rest ++ X) S) : PP rest (Y.trunc S0 S) := by
  obtain ⟨G, m, _, _, _, _, rfl⟩ := h0
  obtain ⟨G', m', h1, h2, h3, h4, rfl⟩ := h
  have := trunc_P (G := G) (G' := G') (m := m) (m' := m') (rest := rest) (X := X)
  rw [show PSt G' m' (rest ++ X) = PSt G' m' rest ++ X by simp, this]
  exact ⟨G', m', h1, h2, h3, h4, rfl⟩
theorem PP.trunc0 (h0 : PP rest S0) (h : PP rest S) : PP rest (Y.trunc S0 S) := h0.trunc h.nil
end
end Y

end
section
set_option Elab.async false
set_option linter.all false
set_option maxRecDepth 100000
set_option maxHeartbeats 4000000
set_option autoImplicit false
/-! data that is fine: texts of bounded length of real signs -/
namespace Y
open PySem PySem.Spec L2 PySem.W
def okS (z : Str) : Bool := decide (z.length ≤ 1000000) && PyData.strOk z
mutual
def fd : D → Bool
  | .non => true
  | .bl _ => true
  | .int _ => true
  | .str z => okS z
  | .tup ds => fdL ds
  | .lst ds => fdL ds
  | .ref _ => false
def fdL : List D → Bool
  | [] => true
  | d :: ds => fd d && fdL ds
end
mutual
theorem fd_pure : ∀ {d : D}, fd d = true → d.pure = true
  | .non, _ => rfl
  | .bl _, _ => rfl
  | .int _, _ => rfl
  | .str _, _ => rfl
  | .tup ds, h => fdL_pure (ds := ds) h
  | .lst ds, h => fdL_pure (ds := ds) h
  | .ref _, h => by cases h
theorem fdL_pure : ∀ {ds : List D}, fdL ds = true → pureL ds = true
  | [], _ => rfl
  | d :: ds, h => by
    have h' : (fd d && fdL ds) = true := h
    obtain ⟨h1, h2⟩ := Bool.and_eq_true_iff.mp h'
    show (d.pure && pureL ds) = true
    rw [fd_pure h1, fdL_pure h2]; rfl
end
theorem fdL_mem : ∀ {ds : List D}, fdL ds = true ↔ ∀ d ∈ ds, fd d = true
  | [] => ⟨fun _ d h => (nomatch h), fun _ => rfl⟩
  | d :: ds => by
    show (fd d && fdL ds) = true ↔ _
    rw [Bool.and_eq_true, fdL_mem (ds := ds)]
    simp
theorem fdL_nil : fdL [] = true := rfl
theorem fdL_cons {d : D} {ds : List D} : fdL (d :: ds) = (fd d && fdL ds) := rfl
theorem fdL_app {as bs : List D} : fdL (as ++ bs) = (fdL as && fdL bs) := by
  induction as with
  | nil => rfl
  | cons a as ih => rw [List.cons_append, fdL_cons, ih, fdL_cons, Bool.and_assoc]
theorem fdL_rev {as : List D} (h : fdL as = true) : fdL as.reverse = true := fdL_mem.mpr fun d hd => fdL_mem.mp h d (List.mem_reverse.mp hd)
theorem cutL_mem {ds : List D} {lo hi : Option Int} {x : D} (h : x ∈ cutL ds lo hi) : x ∈ ds := List.mem_of_mem_drop (List.mem_of_mem_take h)
theorem cutL_len {ds : List D} {lo hi : Option Int} : (cutL ds lo hi).length ≤ ds.length := by
  unfold cutL
  rw [List.length_take, List.length_drop]
  omega
theorem fdL_cut {ds : List D} {lo hi : Option Int} (h : fdL ds = true) : fdL (cutL ds lo hi) = true := fdL_mem.mpr fun d hd => fdL_mem.mp h d (cutL_mem hd)
theorem fd_tup {ds : List D} : fd (.tup ds) = fdL ds := rfl
theorem fd_lst {ds : List D} : fd (.lst ds) = fdL ds := rfl
theorem fd_int {i : Int} : fd (.int i) = true := rfl
theorem fd_bl {b : Bool} : fd (.bl b) = true := rfl
theorem fd_non : fd .non = true := rfl
theorem fd_str {z : Str} : fd (.str z) = okS z := rfl
/-! texts -/
theorem okS_len {z : Str} (h : okS z = true) : z.length ≤ 1000000 := of_decide_eq_true (Bool.and_eq_true_iff.mp h).1
theorem okS_ok {z : Str} (h : okS z = true) : PyData.strOk z = true := (Bool.and_eq_true_iff.mp h).2
/-- n signs at most, all of them real -/
structure FS (n : Nat) (z : Str) : Prop where
  len : z.length ≤ n
  ok : PyData.strOk z = true
theorem FS.okS {n : Nat} {z : Str} (h : FS n z) (hn : n ≤ 1000000) : okS z = true := Bool.and_eq_true_iff.mpr ⟨decide_eq_true (Nat.le_trans h.len hn), h.ok⟩
theorem FS.mono {n m : Nat} {z : Str} (h : FS n z) (hn : n ≤ m) : FS m z := ⟨Nat.le_trans h.len hn, h.ok⟩
theorem strOk_iff {z : Str} : PyData.strOk z = true ↔ ∀ c ∈ z.cps.toList, c < 0x110000 := by
  unfold PyData.strOk
  rw [← Array.all_toList, List.all_eq_true]
  exact ⟨fun h c hc => of_decide_eq_true (h c hc), fun h c hc => decide_eq_true (h c hc)⟩
theorem len_eq {z : Str} : z.length = z.cps.toList.length := rfl
theorem FS.of_lit (w : String) {n : Nat} (h : (Str.ofString w).length ≤ n := by decide) : FS n (Str.ofString w) := ⟨h, strOk_of w⟩
theorem app_cps {a b : Str} : (a ++ b).cps.toList = a.cps.toList ++ b.cps.toList := by
  show (Str.append a b).cps.toList = _
  first | rfl | simp [Str.append]
theorem FS.app {n m : Nat} {a b : Str} (h : FS n a) (h' : FS m b) : FS (n + m) (a ++ b) := by
  refine ⟨?_, strOk_iff.mpr fun c hc => ?_⟩
  · have := h.len
    have := h'.len
    rw [len_eq] at *
    rw [app_cps, List.length_append]; omega
  · rw [app_cps] at hc
    rcases List.mem_append.mp hc with hc | hc
    · exact strOk_iff.mp h.ok c hc
    · exact strOk_iff.mp h'.ok c hc
theorem FS.one {c : Nat} (h : c < 0x110000) : FS 1 ⟨#[c]⟩ := ⟨Nat.le_refl _, strOk_iff.mpr fun d hd => by
  have : d = c := by simpa using hd
  omega⟩
theorem FS.sub {n : Nat} {a b : Str} (h : FS n a) (hl : b.length ≤ a.length) (hm : ∀ c ∈ b.cps.toList, c ∈ a.cps.toList) : FS n b := ⟨Nat.le_trans hl h.len, strOk_iff.mpr fun c hc => strOk_iff.mp h.ok c (hm c hc)⟩
theorem cutS_cps {z : Str} {lo hi : Option Int} : (cutS z lo hi).cps.toList = (z.cps.toList.drop (HT.sIx z.length 0 lo)).take (HT.sIx z.length z.length hi - HT.sIx z.length 0 lo) := rfl
theorem cutS_mem {z : Str} {lo hi : Option Int} {c : Nat} (h : c ∈ (cutS z lo hi).cps.toList) : c ∈ z.cps.toList := by
  rw [cutS_cps] at h
  exact List.mem_of_mem_drop (List.mem_of_mem_take h)
theorem cutS_len {z : Str} {lo hi : Option Int} : (cutS z lo hi).length ≤ z.length := by
  rw [len_eq, len_eq, cutS_cps, List.length_take, List.length_drop]
  omega
theorem FS.cut {n : Nat} {z : Str} {lo hi : Option Int} (h : FS n z) : FS n (cutS z lo hi) := h.sub cutS_len fun c hc => cutS_mem hc
theorem revS_len {z : Str} : (revS z).length ≤ z.length := Txt.sliceBy_le z none none (-1, 0) (show (-1 : Int) ≠ 0 by decide)
theorem revS_mem {z : Str} {c : Nat} (h : c ∈ (revS z).cps.toList) : c ∈ z.cps.toList := by
  unfold revS Txt.sliceBy at h
  split at h
  · exact h
  · obtain ⟨i, _, e⟩ := List.mem_filterMap.mp (by simpa using h)
    rw [← Array.getElem?_toList] at e
    exact List.mem_of_getElem? e
theorem FS.rev {n : Nat} {z : Str} (h : FS n z) : FS n (revS z) := h.sub revS_len fun c hc => revS_mem hc
theorem foldl_app {β : Type} (a : Array β) : ∀ (n : Nat) (b : Array β), ((List.replicate n a).foldl (· ++ ·) b).toList = b.toList ++ (List.replicate n a.toList).flatten
  | 0, b => by simp
  | n + 1, b => by
    rw [List.replicate_succ, List.foldl_cons, foldl_app a n]
    simp [List.replicate_succ]
theorem mul_cps {z : Str} {n : Int} : ∃ k ≤ n.toNat, (Txt.mul z n).cps.toList = (List.replicate k z.cps.toList).flatten := by
  unfold Txt.mul
  split
  · exact ⟨0, Nat.zero_le _, rfl⟩
  · split
    · rename_i h1 h2
      exact ⟨1, by omega, by simp⟩
    · exact ⟨n.toNat, Nat.le_refl _, by rw [foldl_app]; simp⟩
theorem FS.mul {n k : Nat} {z : Str} {i : Int} (h : FS n z) (hi : i.toNat ≤ k) : FS (n * k) (Txt.mul z i) := by
  obtain ⟨j, hj, e⟩ := mul_cps (z := z) (n := i)
  refine ⟨?_, strOk_iff.mpr fun c hc => ?_⟩
  · rw [len_eq, e]
    simp only [List.length_flatten, List.map_replicate, List.sum_replicate_nat]
    have h1 : z.cps.toList.length ≤ n := h.len
    calc j * z.cps.toList.length ≤ k * n := Nat.mul_le_mul (by omega) h1
      _ = n * k := Nat.mul_comm _ _
  · rw [e] at hc
    obtain ⟨l, hl, hc⟩ := List.mem_flatten.mp hc
    rw [(List.mem_replicate.mp hl).2] at hc
    exact strOk_iff.mp h.ok c hc
/-- the operators on texts -/
theorem add_str {S : Sto} {n m : Nat} {a b : Str} (h : FS n a) (h' : FS m b) (hs : n + m ≤ 16777216) : o_add S (.str a) (.str b) = some (.str (a ++ b)) := by
  simp only [o_add]
  rw [if_pos (le_szL (by have := h.len; have := h'.len; omega))]
theorem mul_str {S : Sto} {n : Nat} {a : Str} {i : Int} (h : FS n a) (h0 : 0 ≤ i) (h1 : i ≤ 16777216) (hs : n * i.toNat ≤ 16777216) : o_mulA S (.str a) (.int i) = some (.str (Txt.mul a i)) := by
  simp only [o_mulA]
  rw [if_pos ⟨h1, h0, le_szL (Nat.le_trans (Nat.mul_le_mul_right _ h.len) hs)⟩]
theorem cut_str {S : Sto} {n : Nat} {a : Str} {lo hi : Option Int} (h : FS n a) (hs : n ≤ 16777216) : o_cut S (.str a) lo hi = some (.str (cutS a lo hi)) := by
  simp only [o_cut]
  rw [if_pos (le_szL (Nat.le_trans h.len hs))]
theorem cut_tup {S : Sto} {ds : List D} {lo hi : Option Int} : o_cut S (.tup ds) lo hi = some (.tup (cutL ds lo hi)) := rfl
theorem add_tup {S : Sto} {a b : List D} (h : a.length + b.length ≤ 16777216) : o_add S (.tup a) (.tup b) = some (.tup (a ++ b)) := by
  simp only [o_add]; rw [if_pos (le_szL h)]
theorem add_int {S : Sto} {i j : Int} : o_add S (.int i) (.int j) = some (.int (i + j)) := rfl
theorem sub_int {S : Sto} {i j : Int} : o_sub S (.int i) (.int j) = some (.int (i - j)) := rfl
theorem neg_int {S : Sto} {i : Int} : o_neg S (.int i) = some (.int (-i)) := rfl
theorem cmp_int {S : Sto} {f : Int → Int → Bool} {i j : Int} : o_cmp f S (.int i) (.int j) = some (.bl (f i j)) := rfl
theorem leI_int {S : Sto} {i j : Int} : o_leI S (.int i) (.int j) = some (.bl (decide (i ≤ j))) := rfl
theorem isN_non {S : Sto} {d : D} : o_is S d .non = some (.bl d.isN) := rfl
theorem notN_non {S : Sto} {d : D} : o_isnot S d .non = some (.bl (!d.isN)) := rfl
theorem inStr_one {L : Str} {c : Nat} : inStr ⟨#[c]⟩ L = decide (c ∈ L.cps.toList) := StrLaws.found_one L c
theorem inS_str {S : Sto} {x y : Str} {b : Bool} : o_inS b S (.str x) (.str y) = some (.bl (if b then !inStr x y else inStr x y)) := rfl
theorem sgns_mem {z : Str} {d : D} (h : d ∈ sgns z) : ∃ c, c ∈ z.cps.toList ∧ d = .str ⟨#[c]⟩ := by
  obtain ⟨c, hc, e⟩ := List.mem_map.mp h
  exact ⟨c, hc, e.symm⟩
theorem sgns_fd {z : Str} (h : PyData.strOk z = true) : fdL (sgns z) = true := fdL_mem.mpr fun d hd => by
  obtain ⟨c, hc, rfl⟩ := sgns_mem hd
  exact (FS.one (strOk_iff.mp h c hc)).okS (by omega)
/-! trues and ends of runs -/
theorem wpM_scP {S S' : Sto} {d : D} {Q : D → Sto → Prop} {E : Str → List (Str × D) → Sto → Prop} (h : d.pure = true) : wpM (scope S (.ok d S')) Q E = Q d (trunc S S') := by
  rw [scope_pure h]; rfl
theorem ok_eq {r : Res D} {d : D} {S : Sto} {Q : D → Sto → Prop} {E : Str → List (Str × D) → Sto → Prop} (h : r = .ok d S) (k : Q d S) : wpM r Q E := by rw [h]; exact k
end Y

end
section
set_option Elab.async false
set_option linter.all false
set_option maxRecDepth 100000
set_option maxHeartbeats 4000000
set_option autoImplicit false
/-! comprehensions, order, equality of tuples -/
namespace Y
open PySem PySem.Spec L2 PySem.W
section
variable {S : Sto}
theorem comp_mf {it : IM} {tg : TgM} {ts : TM} {el : EM} {vs : List Nat} {env : En} {all : List D} {src : List (Nat × List D)} {p : D → Bool} {f : D → D} (hit : it env S = .ok (all, src) S) (hG : ∀ X, okSrc src (S ++ X)) (hn : all.length ≤ 16777216) (hp : ∀ d ∈ all, (f d).pure = true)
    (h : ∀ d ∈ all, ∀ X, ∃ env1, tg d (wipeE env vs) = some env1 ∧ ts env1 (S ++ X) = .ok (p d) (S ++ X) ∧ (p d = true → el env1 (S ++ X) = .ok (f d) (S ++ X))) : compF it tg ts el vs env S = .ok (.lst ((all.filter p).map f)) S := by
  refine eq_of_wp ?_
  rw [wpM_compF, hit, wpM_ok]
  have okB : ∀ X, Y.okB src (S ++ X) = true := fun X => okB_iff.mpr (hG X)
  refine wpM_clp (fun i S' => S' = S ++ [some (.lst (((all.take i).filter p).map f))]) all 0 _ rfl ?_ ?_
  · rintro j d S' hj rfl
    rw [Nat.zero_add]
    obtain ⟨hjn, hjd⟩ := List.getElem?_eq_some_iff.mp hj
    obtain ⟨env1, e1, e2, e3⟩ := h d (List.mem_of_getElem? hj) [some (.lst (((all.take j).filter p).map f))]
    have et : all.take (j + 1) = all.take j ++ [d] := by rw [List.take_succ, hj]; rfl
    refine ⟨okB _, env1, e1, ?_⟩
    rw [e2, wpM_ok]
    rcases Bool.eq_false_or_eq_true (p d) with hpd | hpd
    · rw [hpd, if_pos rfl, e3 hpd, wpM_ok]
      refine ⟨((all.take j).filter p).map f, by simp, ?_, ?_⟩
      · have h1 := List.length_filter_le p (all.take j)
        rw [List.length_take] at h1
        rw [List.length_map]
        have := sizeLine_eq
        omega
      · rw [List.set_append_right _ _ (Nat.le_refl _), Nat.sub_self, List.set_cons_zero, et, List.filter_append, List.filter_cons_of_pos hpd, List.map_append]; rfl
    · rw [hpd, if_neg Bool.false_ne_true, et, List.filter_append, List.filter_cons_of_neg (by rw [hpd]; exact Bool.false_ne_true)]
      simp
  · rintro S' rfl
    refine ⟨okB _, ?_⟩
    rw [Nat.zero_add, List.take_length, List.getElem?_append_right (Nat.le_refl _), Nat.sub_self]
    simp only [List.getElem?_cons_zero]
    rw [if_pos (belL_of_pure _ (pureL_mem fun d hd => by
      obtain ⟨x, hx, rfl⟩ := List.mem_map.mp hd
      exact hp x (List.mem_filter.mp hx).1)), List.set_append_right _ _ (Nat.le_refl _), Nat.sub_self, List.set_cons_zero, trunc_self]
    exact ⟨by trivial, by trivial⟩
theorem okSrc_nilX (X : Sto) : okSrc [] (S ++ X) := okSrc_nil
theorem eq_tup2 {a b c d : Str} (h1 : PyData.strOk a = true) (h2 : PyData.strOk b = true) (h3 : PyData.strOk c = true) (h4 : PyData.strOk d = true) : o_eq S (.tup [.str a, .str b]) (.tup [.str c, .str d]) = some (.bl (a == c && b == d)) := by
  simp [o_eq, toPS, toP, toPL, SeqAt.shaped, PyData.canLay0, PyData.canLayAll0, PyData.depth, PyData.depthAll, PyData.eqv, PyData.eqvAll, h1, h2, h3, h4]
theorem le_tup2 {a b c d : Str} : o_le S (.tup [.str a, .str b]) (.tup [.str c, .str d]) = some (.bl (if (a == c) = true then (if (b == d) = true then true else strLe b d) else strLe a c)) := rfl
theorem le_tup3 {a b c d : Str} {i j : Int} : o_le S (.tup [.str a, .str b, .int i]) (.tup [.str c, .str d, .int j]) = some (.bl (if (a == c) = true then (if (b == d) = true then (if (i == j) = true then true else decide (i ≤ j)) else strLe b d) else strLe a c)) := rfl
end
end Y

end
section
set_option Elab.async false
set_option linter.all false
set_option maxRecDepth 100000
set_option maxHeartbeats 4000000
set_option autoImplicit false
/-! lists of texts, joined, sorted; comprehensions that draw from a pool -/
namespace Y
open PySem PySem.Spec L2 PySem.W
theorem sorted_ok {S : Sto} {ds : List D} {ps : List PyData} (hp : toPL ds = some ps) (h1 : AllAlike ps) (h2 : Sortable ps) (h3 : ∀ p ∈ ps, p.depth ≤ 64) : o_sorted S [.lst ds] = some (ds.mergeSort leD) := by
  simp only [o_sorted, lstOf, Option.bind_some, hp]
  rw [if_pos ⟨h1, h2, h3⟩]
theorem toPL_strs : ∀ ys : List Str, toPL (ys.map D.str) = some (ys.map PyData.str)
  | [] => rfl
  | y :: ys => by
    show (toP (.str y)).bind (fun p => (toPL (ys.map D.str)).map fun ps => p :: ps) = _
    rw [toPL_strs ys]; rfl
theorem strs_of_mem : ∀ {ds : List D}, (∀ d ∈ ds, ∃ c, d = .str ⟨#[c]⟩) → ∃ ys : List Str, ds = ys.map D.str ∧ ∀ y ∈ ys, y.length = 1
  | [], _ => ⟨[], rfl, fun y hy => by cases hy⟩
  | d :: ds, h => by
    obtain ⟨c, rfl⟩ := h d List.mem_cons_self
    obtain ⟨ys, e, hy⟩ := strs_of_mem fun x hx => h x (List.mem_cons_of_mem _ hx)
    refine ⟨⟨#[c]⟩ :: ys, by rw [e]; rfl, fun y hy' => ?_⟩
    rcases List.mem_cons.mp hy' with z | z
    · rw [z]; rfl
    · exact hy y z
theorem strsOf_strs : ∀ ys : List Str, strsOf (ys.map D.str) = some ys
  | [] => rfl
  | y :: ys => by
    show (strsOf (ys.map D.str)).map (fun l => y :: l) = _
    rw [strsOf_strs ys]; rfl
theorem sum_ones : ∀ {ys : List Str}, (∀ y ∈ ys, y.length = 1) → (ys.map (·.length)).sum = ys.length
  | [], _ => rfl
  | y :: ys, h => by
    rw [List.map_cons, List.sum_cons, h y List.mem_cons_self, sum_ones fun x hx => h x (List.mem_cons_of_mem _ hx), List.length_cons]; omega
theorem join_ones : ∀ {ys : List Str}, (∀ y ∈ ys, y.length = 1) → (Txt.join (Str.ofString "") ys).length = ys.length := fun {ys} h => by
  show (Builtin.Str.glued (Str.ofString "") ys).length = _
  rw [StrLaws.glued_eq_join]
  induction ys with
  | nil => rfl
  | cons x ys ih =>
    cases ys with
    | nil => exact h x List.mem_cons_self
    | cons y r =>
      show (x ++ Str.ofString "" ++ Str.join (Str.ofString "") (y :: r)).length = _
      rw [Str.length_append, Str.length_append, ih fun z hz => h z (List.mem_cons_of_mem _ hz), h x List.mem_cons_self]
      show 1 + 0 + _ = _
      simp only [List.length_cons]; omega
theorem join_mem0 : ∀ (ys : List Str) (c : Nat), c ∈ (Str.join (Str.ofString "") ys).cps.toList → ∃ y ∈ ys, c ∈ y.cps.toList
  | [], c, h => by cases h
  | [x], c, h => ⟨x, List.mem_cons_self, h⟩
  | x :: y :: r, c, h => by
    have h : c ∈ ((x.cps ++ (Str.ofString "").cps) ++ (Str.join (Str.ofString "") (y :: r)).cps).toList := h
    rw [Array.toList_append, Array.toList_append] at h
    rcases List.mem_append.mp h with h | h
    · rcases List.mem_append.mp h with h | h
      · exact ⟨x, List.mem_cons_self, h⟩
      · have e : (Str.ofString "").cps.toList = [] := by decide +kernel
        rw [e] at h; cases h
    · obtain ⟨z, h1, h2⟩ := join_mem0 (y :: r) c h
      exact ⟨z, List.mem_cons_of_mem _ h1, h2⟩
theorem join_mem {ys : List Str} {c : Nat} (h : c ∈ (Txt.join (Str.ofString "") ys).cps.toList) : ∃ y ∈ ys, c ∈ y.cps.toList := by
  have h : c ∈ (Builtin.Str.glued (Str.ofString "") ys).cps.toList := h
  rw [StrLaws.glued_eq_join] at h
  exact join_mem0 ys c h
theorem listA_str {S : Sto} {z : Str} (h : z.cps.size ≤ sizeLine) : o_listA S [.str z] = some (sgns z) := by
  simp only [o_listA]
  rw [if_pos h]
theorem sorted_strs {S : Sto} {ys : List Str} {ds : List D} (h : ds = ys.map D.str) : o_sorted S [.lst ds] = some (ds.mergeSort leD) := by
  refine sorted_ok (ps := ys.map PyData.str) (by rw [h, toPL_strs]) (AllAlike.of (enc := PyData.str) fun a b => by simp [alike]) (Sortable.others (enc := PyData.str) fun b => ⟨by simp, fun xs => by simp⟩) (fun p hp => ?_)
  obtain ⟨y, _, rfl⟩ := List.mem_map.mp hp
  simp [PyData.depth]
/-- "".join of single signs -/
theorem join_signs {S : Sto} {x : D} {ds : List D} (hx : seqOf S x = some ds) (h : ∀ d ∈ ds, ∃ c, d = .str ⟨#[c]⟩) (hl : ds.length ≤ 16777216) :
    ∃ z : Str, m_join S (.str (Str.ofString "")) [x] = some (.str z, S) ∧ z.length = ds.length ∧ ∀ c ∈ z.cps.toList, D.str ⟨#[c]⟩ ∈ ds := by
  obtain ⟨ys, e, hy⟩ := strs_of_mem h
  refine ⟨Txt.join (Str.ofString "") ys, ?_, ?_, fun c hc => ?_⟩
  · simp only [m_join, hx, Option.bind_some, e, strsOf_strs, sum_ones hy]
    rw [if_pos]
    have : ys.length = ds.length := by rw [e, List.length_map]
    show ys.length + ys.length * 0 ≤ 16777216
    omega
  · rw [join_ones hy, e, List.length_map]
  · obtain ⟨y, y1, y2⟩ := join_mem hc
    have hm : D.str y ∈ ds := by rw [e]; exact List.mem_map_of_mem y1
    obtain ⟨c', q⟩ := h _ hm
    cases q
    have : c = c' := by simpa using y2
    rw [this]; exact hm
theorem wpM_yesT {env : En} {S : Sto} {Q : Bool → Sto → Prop} {E : Str → List (Str × D) → Sto → Prop} : wpM (yesT env S) Q E = Q true S := rfl
theorem comp_pool {it : IM} {tg : TgM} {el : EM} {vs : List Nat} {env : En} {rest S : Sto} {A : List D → Prop} {R : D → Prop} {Q : D → Sto → Prop} {E : Str → List (Str × D) → Sto → Prop}
    (hit : wpM (it env S) (fun p S1 => p.2 = [] ∧ PP rest S1 ∧ p.1.length ≤ 16777216 ∧ A p.1) E)
    (step : ∀ all, A all → ∀ d ∈ all, ∀ X S', PP (rest ++ X) S' → ∃ env1, tg d (wipeE env vs) = some env1 ∧ wpM (el env1 S') (fun x S2 => R x ∧ x.pure = true ∧ PP (rest ++ X) S2) (fun _ _ _ => False))
    (k : ∀ all acc S', A all → PP rest S' → acc.length = all.length → (∀ d ∈ acc, R d) → Q (.lst acc) S') : wpM (compF it tg yesT el vs env S) Q E := by
  rw [wpM_compF]
  refine wpM_mono' hit ?_
  rintro ⟨all, src⟩ S1 ⟨rfl, hS, hn, hA⟩
  simp only
  have hn : all.length ≤ 16777216 := hn
  have hlen := hS.len
  refine wpM_clp (fun i S' => ∃ acc, PP (rest ++ [some (.lst acc)]) S' ∧ acc.length = i ∧ ∀ d ∈ acc, R d ∧ d.pure = true) all 0 _ ⟨[], hS.app, rfl, fun d hd => by cases hd⟩ ?_ ?_
  · rintro j d S' hj ⟨acc, hS', hl, hR⟩
    rw [Nat.zero_add] at hl ⊢
    obtain ⟨hjn, _⟩ := List.getElem?_eq_some_iff.mp hj
    obtain ⟨env1, e1, e2⟩ := step all hA d (List.mem_of_getElem? hj) _ S' hS'
    refine ⟨okB_nil, env1, e1, ?_⟩
    rw [wpM_yesT, if_pos rfl]
    refine wpM_mono' e2 ?_
    rintro x S2 ⟨r, p, h2⟩
    have g := h2.getX (j := 0)
    have st := h2.setX (j := 0) (o := some (.lst (acc ++ [x])))
    rw [Nat.add_zero] at g st
    rw [← hlen] at g st
    refine ⟨acc, g, ?_, acc ++ [x], st, by rw [List.length_append, List.length_singleton, hl], fun y hy => ?_⟩
    · have := sizeLine_eq
      omega
    · rcases List.mem_append.mp hy with hy | hy
      · exact hR y hy
      · rw [List.mem_singleton.mp hy]; exact ⟨r, p⟩
  · rintro S' ⟨acc, hS', hl, hR⟩
    refine ⟨okB_nil, ?_⟩
    have g := hS'.getX (j := 0)
    have st := hS'.setX (j := 0) (o := none)
    rw [Nat.add_zero] at g st
    rw [← hlen] at g st
    rw [show S'[S1.length]? = some (some (.lst acc)) from g]
    simp only
    rw [if_pos (belL_of_pure _ (pureL_mem fun d hd => (hR d hd).2))]
    exact k all acc _ hA (hS.trunc st) (by omega) fun d hd => (hR d hd).1
/-- a range of a drawn length -/
theorem rg_ok {S : Sto} {n : Nat} {l : LM} {env : En} {S1 : Sto} {Q : List D × List (Nat × List D) → Sto → Prop} {E : Str → List (Str × D) → Sto → Prop} (hl : l env S = .ok [.int (n : Int)] S1) (hn : n ≤ 16777216) (k : Q (rgL 0 n, []) S1) : wpM (i_rg1 l env S) Q E := by
  unfold i_rg1
  rw [wpM_bdE, hl, wpM_ok]
  simp only
  rw [if_pos (by omega), wpM_ok]
  exact k
end Y

end
section
set_option Elab.async false
set_option linter.all false
set_option maxRecDepth 100000
set_option maxHeartbeats 4000000
set_option autoImplicit false
/-! what an expression gives, by kinds: I holds of the store before and after -/
namespace Y
open PySem PySem.Spec L2 PySem.W
def NoX : Str → List (Str × D) → Sto → Prop := fun _ _ _ => False
def J (I : Sto → Prop) (env : En) (m : EM) (P : D → Prop) : Prop := ∀ S, I S → wpM (m env S) (fun d S1 => P d ∧ I S1) NoX
def JL (I : Sto → Prop) (env : En) (l : LM) (P : List D → Prop) : Prop := ∀ S, I S → wpM (l env S) (fun d S1 => P d ∧ I S1) NoX
def JO (I : Sto → Prop) (env : En) (o : OM) : Prop := ∀ S, I S → wpM (o env S) (fun _ S1 => I S1) NoX
def IsS (n : Nat) (d : D) : Prop := ∃ z, d = .str z ∧ FS n z
def IsI (lo hi : Int) (d : D) : Prop := ∃ v, d = .int v ∧ lo ≤ v ∧ v ≤ hi
def Fd (d : D) : Prop := fd d = true
def FdL (k : Nat) (d : D) : Prop := ∃ ds, d = .lst ds ∧ fdL ds = true ∧ ds.length ≤ k
def FL (k : Nat) (ds : List D) : Prop := fdL ds = true ∧ ds.length ≤ k
section
variable {I : Sto → Prop} {env : En} {m a b : EM} {l : LM} {lo hi : OM} {P A B : D → Prop} {PL : List D → Prop} {n k : Nat}
theorem wpM_noX {α : Type} {r : Res α} {Q Q' : α → Sto → Prop} {E : Str → List (Str × D) → Sto → Prop} (h : wpM r Q NoX) (hq : ∀ a S, Q a S → Q' a S) : wpM r Q' E := wpM_mono h hq fun _ _ _ h => h.elim
theorem J.use {S : Sto} {Q : D → Sto → Prop} {E : Str → List (Str × D) → Sto → Prop} (h : J I env m P) (hS : I S) (k : ∀ d S', P d → I S' → Q d S') : wpM (m env S) Q E := wpM_noX (h S hS) fun a S q => k a S q.1 q.2
theorem J.mono (h : J I env m A) (hp : ∀ d, A d → P d) : J I env m P := fun S hS => wpM_mono' (h S hS) fun a S q => ⟨hp a q.1, q.2⟩
theorem J_vr {i : Nat} {d : D} (h : env[i]? = some (some d)) (p : P d) : J I env (vr i) P := fun S hS => by
  rw [wpM_vr, h]; exact ⟨p, hS⟩
theorem J_ct {d : D} (p : P d) : J I env (ct d) P := fun S hS => ⟨p, hS⟩
theorem J_op2 {f : Sto → D → D → Option D} (ha : J I env a A) (hb : J I env b B) (h : ∀ S x y, A x → B y → ∃ d, f S x y = some d ∧ P d) : J I env (op2 f a b) P := fun S hS => by
  rw [wpM_op2]
  refine wpM_mono' (ha S hS) ?_
  rintro x S1 ⟨hx, h1⟩
  refine wpM_mono' (hb S1 h1) ?_
  rintro y S2 ⟨hy, h2⟩
  obtain ⟨d, e, p⟩ := h S2 x y hx hy
  rw [e]; exact ⟨p, h2⟩
theorem J_op1 {f : Sto → D → Option D} (ha : J I env a A) (h : ∀ S x, A x → ∃ d, f S x = some d ∧ P d) : J I env (op1 f a) P := fun S hS => by
  rw [wpM_op1]
  refine wpM_mono' (ha S hS) ?_
  rintro x S1 ⟨hx, h1⟩
  obtain ⟨d, e, p⟩ := h S1 x hx
  rw [e]; exact ⟨p, h1⟩
theorem JO_ono : JO I env onoM := fun S hS => hS
theorem JO_osm {x y : Int} (h : J I env m (IsI x y)) : JO I env (osmM m) := fun S hS => by
  rw [wpM_osm]
  refine wpM_mono' (h S hS) ?_
  rintro d S1 ⟨⟨v, rfl, _⟩, h1⟩
  exact h1
theorem J_cut {f : Sto → D → Option Int → Option Int → Option D} (ha : J I env a A) (hlo : JO I env lo) (hhi : JO I env hi) (h : ∀ S x i j, A x → ∃ d, f S x i j = some d ∧ P d) : J I env (cut f a lo hi) P := fun S hS => by
  rw [wpM_cut]
  refine wpM_mono' (ha S hS) ?_
  rintro x S1 ⟨hx, h1⟩
  refine wpM_mono' (hlo S1 h1) ?_
  intro i S2 h2
  refine wpM_mono' (hhi S2 h2) ?_
  intro j S3 h3
  obtain ⟨d, e, p⟩ := h S3 x i j hx
  rw [e]; exact ⟨p, h3⟩
theorem JL_nil (p : PL []) : JL I env lnil PL := fun S hS => ⟨p, hS⟩
theorem JL_cons {PR : List D → Prop} (ha : J I env a A) (hr : JL I env l PR) (h : ∀ x xs, A x → PR xs → PL (x :: xs)) : JL I env (lcons a l) PL := fun S hS => by
  rw [wpM_lcons]
  refine wpM_mono' (ha S hS) ?_
  rintro x S1 ⟨hx, h1⟩
  refine wpM_mono' (hr S1 h1) ?_
  rintro xs S2 ⟨hxs, h2⟩
  exact ⟨h x xs hx hxs, h2⟩
theorem JL.mono {PA : List D → Prop} (h : JL I env l PA) (hp : ∀ d, PA d → PL d) : JL I env l PL := fun S hS => wpM_mono' (h S hS) fun a S q => ⟨hp a q.1, q.2⟩
theorem FL_nil : JL I env lnil (FL 0) := JL_nil ⟨rfl, Nat.le_refl _⟩
theorem FL_cons (ha : J I env a Fd) (hr : JL I env l (FL k)) : JL I env (lcons a l) (FL (k + 1)) := JL_cons ha hr fun x xs hx hr => ⟨by rw [fdL_cons, show fd x = true from hx, hr.1]; rfl, by rw [List.length_cons]; exact Nat.succ_le_succ hr.2⟩
theorem J_tupF (h : JL I env l (FL k)) (hk : k ≤ 1000) : J I env (tupE l) Fd := fun S hS => by
  rw [wpM_tupE]
  refine wpM_mono' (h S hS) ?_
  rintro ds S1 ⟨hd, h1⟩
  rw [if_pos (le_szL (Nat.le_trans hd.2 (by omega)))]
  exact ⟨hd.1, h1⟩
theorem J_lstF (h : JL I env l (FL k)) (hk : k ≤ 1000) : J I env (frz (lstF l)) (FdL k) := fun S hS => by
  rw [wpM_frz, wpM_lstF]
  refine wpM_mono' (h S hS) ?_
  rintro ds S1 ⟨hd, h1⟩
  rw [if_pos (le_szL (Nat.le_trans hd.2 (by omega)))]
  exact ⟨⟨ds, rfl, hd.1, hd.2⟩, h1⟩
theorem J_cat (ha : J I env a (FdL n)) (hb : J I env b (FdL k)) (hk : n + k ≤ 1000000) : J I env (frz (catF a b)) (FdL (n + k)) := fun S hS => by
  rw [wpM_frz, wpM_catF]
  refine wpM_mono' (ha S hS) ?_
  rintro x S1 ⟨⟨ds, rfl, q1, q2⟩, h1⟩
  refine wpM_mono' (hb S1 h1) ?_
  rintro y S2 ⟨⟨es, rfl, q3, q4⟩, h2⟩
  simp only [lstOf, Option.bind_some]
  rw [if_pos (le_szL (by omega))]
  exact ⟨⟨_, rfl, by rw [fdL_app, q1, q3]; rfl, by rw [List.length_append]; omega⟩, h2⟩
theorem Fd_lst (h : J I env m (FdL k)) : J I env m Fd := h.mono fun d ⟨ds, e, q, _⟩ => by rw [e]; exact q
theorem Fd_str (h : J I env m (IsS n)) (hn : n ≤ 1000000) : J I env m Fd := h.mono fun d ⟨z, e, q⟩ => by rw [e]; exact q.okS hn
theorem Fd_int {x y : Int} (h : J I env m (IsI x y)) : J I env m Fd := h.mono fun d ⟨z, e, q⟩ => by rw [e]; rfl
theorem JS_vr {i : Nat} {z : Str} (h : env[i]? = some (some (.str z))) (p : FS n z) : J I env (vr i) (IsS n) := J_vr h ⟨z, rfl, p⟩
theorem JS_ct {w : String} (h : (Str.ofString w).length ≤ n) : J I env (ct (.str (Str.ofString w))) (IsS n) := J_ct ⟨_, rfl, h, strOk_of w⟩
theorem JS_add (ha : J I env a (IsS n)) (hb : J I env b (IsS k)) (h : n + k ≤ 1000000) : J I env (op2 o_add a b) (IsS (n + k)) := J_op2 ha hb fun S x y ⟨z, e1, p⟩ ⟨u, e2, q⟩ => by
  subst e1 e2
  exact ⟨_, add_str p q (by omega), _, rfl, p.app q⟩
theorem JS_cut (ha : J I env a (IsS n)) (hlo : JO I env lo) (hhi : JO I env hi) (h : n ≤ 1000000) : J I env (cut o_cut a lo hi) (IsS n) := J_cut ha hlo hhi fun S x i j ⟨z, e1, p⟩ => by
  subst e1
  exact ⟨_, cut_str p (by omega), _, rfl, p.cut⟩
theorem JS_rev (ha : J I env a (IsS n)) (h : n ≤ 1000000) : J I env (revA a) (IsS n) := fun S hS => by
  rw [wpM_revA]
  refine wpM_mono' (ha S hS) ?_
  rintro x S1 ⟨⟨z, rfl, p⟩, h1⟩
  simp only
  rw [if_pos (le_szL (Nat.le_trans p.len (by omega)))]
  exact ⟨⟨_, rfl, p.rev⟩, h1⟩
theorem JS_mul {i : Int} (ha : J I env a (IsS n)) (h0 : 0 ≤ i) (h1 : i ≤ 100000) (h2 : n * i.toNat ≤ 1000000) : J I env (op2 o_mulA a (ct (.int i))) (IsS (n * i.toNat)) := J_op2 ha (J_ct (P := fun d => d = .int i) rfl) fun S x y ⟨z, e1, p⟩ e2 => by
  subst e1 e2
  exact ⟨_, mul_str p h0 (by omega) (by omega), _, rfl, p.mul (Nat.le_refl _)⟩
theorem JI_vr {i : Nat} {v x y : Int} (h : env[i]? = some (some (.int v))) (p : x ≤ v) (q : v ≤ y) : J I env (vr i) (IsI x y) := J_vr h ⟨v, rfl, p, q⟩
theorem JI_ct {v : Int} : J I env (ct (.int v)) (IsI v v) := J_ct ⟨v, rfl, Int.le_refl _, Int.le_refl _⟩
theorem JI_add {x y x' y' : Int} (ha : J I env a (IsI x y)) (hb : J I env b (IsI x' y')) : J I env (op2 o_add a b) (IsI (x + x') (y + y')) := J_op2 ha hb fun S u v ⟨z, e1, p⟩ ⟨w, e2, q⟩ => by
  subst e1 e2
  exact ⟨_, rfl, _, rfl, by omega, by omega⟩
theorem JI_sub {x y x' y' : Int} (ha : J I env a (IsI x y)) (hb : J I env b (IsI x' y')) : J I env (op2 o_sub a b) (IsI (x - y') (y - x')) := J_op2 ha hb fun S u v ⟨z, e1, p⟩ ⟨w, e2, q⟩ => by
  subst e1 e2
  exact ⟨_, rfl, _, rfl, by omega, by omega⟩
theorem JI_neg {x y : Int} (ha : J I env a (IsI x y)) : J I env (op1 o_neg a) (IsI (-y) (-x)) := J_op1 ha fun S u ⟨z, e1, p⟩ => by
  subst e1
  exact ⟨_, rfl, _, rfl, by omega, by omega⟩
theorem ix_lst {ds : List D} {v : Int} (h0 : 0 ≤ v) (h1 : v < (ds.length : Int)) : ∃ d, d ∈ ds ∧ ∀ S, o_ix S (.lst ds) (.int v) = some d := by
  obtain ⟨i, rfl⟩ := Int.eq_ofNat_of_zero_le h0
  have hi : i < ds.length := by omega
  exact ⟨ds[i], List.getElem_mem hi, fun S => atI_nat (List.getElem?_eq_getElem hi)⟩
/-- statements -/
theorem asg_J {i : Nat} {r : SM} {S : Sto} {K : SK} (h : J I env m P) (hS : I S) (k : ∀ d S', P d → I S' → wS (r (env.set i (some d)) S') K) : wS (seqS (asg (tgN i) m) r env S) K := by
  rw [wS_seq, wS_asg]
  exact h.use hS fun d S' hd hS' => k d S' hd hS'
theorem exS_J {r : SM} {S : Sto} {K : SK} (h : J I env m P) (hS : I S) (k : ∀ d S', P d → I S' → wS (r env S') K) : wS (seqS (exS m) r env S) K := by
  rw [wS_seq, wS_exS]
  exact h.use hS k
end
end Y

end
section
set_option Elab.async false
set_option linter.all false
set_option maxRecDepth 100000
set_option maxHeartbeats 4000000
set_option autoImplicit false
/-! tuples of data; a list that grows -/
namespace Y
open PySem PySem.Spec L2 PySem.W PySem.Builtin
/-- simp only with the rules of Cg: mkR_eq stays in each -/
def IsT (n : Nat) (d : D) : Prop := ∃ ds, d = .tup ds ∧ fdL ds = true ∧ ds.length ≤ n
section
variable {I : Sto → Prop} {env : En} {m a b el : EM} {l : LM} {lo hi : OM} {P A B : D → Prop} {n k : Nat} {r S : Sto} {K : SK} {rest : SM} {i : Nat}
theorem Fd_tup (h : J I env m (IsT k)) : J I env m Fd := h.mono fun d ⟨ds, e, q, _⟩ => by rw [e]; exact q
theorem JT_vr {ds : List D} (h : env[i]? = some (some (.tup ds))) (hd : fdL ds = true) (hl : ds.length ≤ n) : J I env (vr i) (IsT n) := J_vr h ⟨ds, rfl, hd, hl⟩
theorem JT_tup (h : JL I env l (FL k)) (hk : k ≤ 1000) : J I env (tupE l) (IsT k) := fun S hS => by
  rw [wpM_tupE]
  refine wpM_mono' (h S hS) ?_
  rintro ds S1 ⟨hd, h1⟩
  rw [if_pos (le_szL (Nat.le_trans hd.2 (by omega)))]
  exact ⟨⟨ds, rfl, hd.1, hd.2⟩, h1⟩
theorem JT_add (ha : J I env a (IsT n)) (hb : J I env b (IsT k)) (h : n + k ≤ 1000000) : J I env (op2 o_add a b) (IsT (n + k)) := J_op2 ha hb fun S x y ⟨z, e1, p, q⟩ ⟨u, e2, p', q'⟩ => by
  subst e1 e2
  exact ⟨_, add_tup (by omega), _, rfl, by rw [fdL_app, p, p']; rfl, by rw [List.length_append]; omega⟩
theorem JT_cut (ha : J I env a (IsT n)) (hlo : JO I env lo) (hhi : JO I env hi) : J I env (cut o_cut a lo hi) (IsT n) := J_cut ha hlo hhi fun S x i j ⟨z, e1, p, q⟩ => by
  subst e1
  exact ⟨_, cut_tup, _, rfl, fdL_cut p, Nat.le_trans cutL_len q⟩
theorem JT_rev (ha : J I env a (IsT n)) : J I env (revA a) (IsT n) := fun S hS => by
  rw [wpM_revA]
  refine wpM_mono' (ha S hS) ?_
  rintro x S1 ⟨⟨z, rfl, p, q⟩, h1⟩
  exact ⟨⟨_, rfl, fdL_rev p, by rw [List.length_reverse]; exact q⟩, h1⟩
/-- one of a tuple at a place -/
theorem J_ixT {ds : List D} {v : Int} {j : Nat} (h : env[i]? = some (some (.tup ds))) (hj : env[j]? = some (some (.int v))) (h0 : 0 ≤ v) (h1 : v < (ds.length : Int)) (hp : ∀ d ∈ ds, P d) : J I env (op2 o_ix (vr i) (vr j)) P :=
  J_op2 (J_vr (P := fun d => d = .tup ds) h rfl) (J_vr (P := fun d => d = .int v) hj rfl) fun S x y e1 e2 => by
    subst e1 e2
    obtain ⟨k, rfl⟩ := Int.eq_ofNat_of_zero_le h0
    have hk : k < ds.length := by omega
    exact ⟨ds[k], ixT (List.getElem?_eq_getElem hk), hp _ (List.getElem_mem hk)⟩
theorem J_lenT {ds : List D} (h : env[i]? = some (some (.tup ds))) : J I env (calB o_len (lcons (vr i) lnil)) (fun d => d = .int ds.length) := fun S hS => by
  simp only [wpM_calB, wpM_lcons, wpM_lnil, wpM_vr, h, len_tup, wpM_lfS]
  exact ⟨by trivial, hS⟩
theorem J_listT {ds : List D} (h : env[i]? = some (some (.tup ds))) (hd : fdL ds = true) (hl : ds.length ≤ n) : J I env (frz (calF o_listA (lcons (vr i) lnil))) (FdL n) := fun S hS => by
  have e : o_listA S [.tup ds] = some ds := rfl
  rw [wpM_frz, wpM_calF, wpM_lcons, wpM_vr, h]
  simp only [wpM_lnil, e, wpM_lfS]
  exact ⟨⟨ds, rfl, hd, hl⟩, hS⟩
/-! a list that grows -/
theorem PP.last {o : Option Ob} (h : PP (r ++ [o]) S) : S[r.length + 2]? = some o := h.getX (j := 0)
theorem PP.setLast {o o' : Option Ob} (h : PP (r ++ [o]) S) : PP (r ++ [o']) (S.set (r.length + 2) o') := h.setX (j := 0)
def LI (r : Sto) (k : Nat) (S : Sto) : Prop := ∃ ds, PP (r ++ [some (.lst ds)]) S ∧ fdL ds = true ∧ ds.length ≤ k
theorem LI.mono (h : LI r k S) (hk : k ≤ n) : LI r n S := let ⟨ds, a, b, c⟩ := h; ⟨ds, a, b, Nat.le_trans c hk⟩
theorem J_ex (h : ∀ ds, J (PP (r ++ [some (.lst ds)])) env m P) : J (LI r k) env m P := fun S ⟨ds, hS, h1, h2⟩ => wpM_mono' (h ds S hS) fun x S1 q => ⟨q.1, ds, q.2, h1, h2⟩
theorem newF_J {l : LM} (h : ∀ S, PP r S → wpM (l env S) (fun ds S1 => FL k ds ∧ PP r S1) NoX) (hS : PP r S) (q : ∀ S', LI r k S' → wS (rest (env.set i (some (.ref (r.length + 2)))) S') K) : wS (seqS (asg (tgN i) (new l)) rest env S) K := by
  rw [wS_seq, wS_asg, wpM_new]
  refine wpM_noX (h S hS) ?_
  rintro ds S1 ⟨h1, hS1⟩
  rw [hS1.len]
  exact q _ ⟨ds, hS1.app, h1.1, h1.2⟩
theorem F_lst {l : LM} (h : JL I env l (FL k)) (hk : k ≤ 1000) : ∀ S, I S → wpM (lstF l env S) (fun ds S1 => FL k ds ∧ I S1) NoX := fun S hS => by
  rw [wpM_lstF]
  refine wpM_mono' (h S hS) ?_
  rintro ds S1 ⟨hd, h1⟩
  rw [if_pos (le_szL (Nat.le_trans hd.2 (by omega)))]
  exact ⟨hd, h1⟩
/-- the list at i, then more -/
theorem newC_J (hi : env[i]? = some (some (.ref (r.length + 2)))) (hb : ∀ ds, J (PP (r ++ [some (.lst ds)])) env b (FdL n)) (hS : LI r k S) (hk : k + n ≤ 1000000) (q : ∀ r' S', LI r' (k + n) S' → (∃ ds, r' = r ++ [some (.lst ds)]) → wS (rest (env.set i (some (.ref (r'.length + 2)))) S') K) : wS (seqS (asg (tgN i) (new (catF (vr i) b))) rest env S) K := by
  obtain ⟨ds, hS, h1, h2⟩ := hS
  rw [wS_seq, wS_asg, wpM_new, wpM_catF, wpM_vr, hi]
  simp only
  refine wpM_noX (hb ds S hS) ?_
  rintro x S1 ⟨⟨es, rfl, h3, h4⟩, hS1⟩
  have g := hS1.last
  simp only [lstOf, g, Option.bind_some]
  rw [if_pos (le_szL (by omega)), wpM_lfS, hS1.len]
  exact q _ _ ⟨_, hS1.app, by rw [fdL_app, h1, h3]; rfl, by rw [List.length_append]; omega⟩ ⟨ds, rfl⟩
theorem J_catR (hi : env[i]? = some (some (.ref (r.length + 2)))) (hb : ∀ ds, J (PP (r ++ [some (.lst ds)])) env b (FdL n)) (hk : k + n ≤ 1000000) : J (LI r k) env (frz (catF (vr i) b)) (FdL (k + n)) := fun S ⟨ds, hS, h1, h2⟩ => by
  rw [wpM_frz, wpM_catF, wpM_vr, hi]
  simp only
  refine wpM_mono' (hb ds S hS) ?_
  rintro x S1 ⟨⟨es, rfl, h3, h4⟩, hS1⟩
  have g := hS1.last
  simp only [lstOf, g, Option.bind_some]
  rw [if_pos (le_szL (by omega)), wpM_lfS]
  exact ⟨⟨_, rfl, by rw [fdL_app, h1, h3]; rfl, by rw [List.length_append]; omega⟩, ds, hS1, h1, h2⟩
theorem appE_J (hi : env[i]? = some (some (.ref (r.length + 2)))) (he : ∀ ds, J (PP (r ++ [some (.lst ds)])) env el Fd) (hS : LI r k S) (hk : k < 1000000) (q : ∀ S', LI r (k + 1) S' → K.nx env S') : wS (exS (meth "list" m_append (vr i) (lcons el lnil)) env S) K := by
  obtain ⟨ds, hS, h1, h2⟩ := hS
  rw [wS_exS, wpM_meth, wpM_vr, hi]
  simp only
  rw [if_pos (tyL hS.last), wpM_lcons]
  refine wpM_noX (he ds S hS) ?_
  rintro x S1 ⟨hx, hS1⟩
  rw [wpM_lnil, app_at hS1.last (Nat.lt_of_lt_of_le (show ds.length < 1000001 by omega) (le_sz rfl))]
  exact q _ ⟨_, hS1.setLast, by rw [fdL_app, h1, fdL_cons, show fd x = true from hx]; rfl, by rw [List.length_append, List.length_singleton]; omega⟩
theorem app_J (hi : env[i]? = some (some (.ref (r.length + 2)))) (he : ∀ ds, J (PP (r ++ [some (.lst ds)])) env el Fd) (hS : LI r k S) (hk : k < 1000000) (q : ∀ S', LI r (k + 1) S' → wS (rest env S') K) : wS (seqS (exS (meth "list" m_append (vr i) (lcons el lnil))) rest env S) K := by
  rw [wS_seq]
  exact appE_J hi he hS hk q
end
theorem wS_ifT {c : TM} {a b : SM} {env : En} {S : Sto} {K : SK} (h : c env S = .ok true S) (k : wS (a env S) K) : wS (ifS c a b env S) K := by
  rw [wS_if, h]; exact k
theorem wS_ifF {c : TM} {a b : SM} {env : En} {S : Sto} {K : SK} (h : c env S = .ok false S) (k : wS (b env S) K) : wS (ifS c a b env S) K := by
  rw [wS_if, h]; exact k
/-! upper -/
theorem upper_cps {z : Str} : (Txt.upper z).cps.toList = (z.cps.toList.map Unicode.upperOf).flatten := by
  show (placed z fun _ c => Unicode.upperOf c).toList = _
  unfold placed
  rw [Array.toList_flatten]
  congr 1
  apply List.ext_getElem?
  intro i
  simp [List.getElem?_mapIdx]
  cases z.cps[i]? <;> simp
end Y

end
section
set_option Elab.async false
set_option linter.all false
set_option maxRecDepth 100000
set_option maxHeartbeats 4000000
set_option autoImplicit false
namespace Z
open PySem PySem.Spec L2 Y
def topS (i : Nat) : Stmt := PySem.Challenge.pw_fewmends_k01_checks.main.body.getD i (.Pass ⟨0, 0, 0, 0⟩)
section
variable (P : Program) (w : World) (K : PySem.W.Frag) (mg : Str → Option Value) (base : Heap)
def yes_MendError : Str → Option Bool := yesL [("BadBook", true), ("BadLetters", true), ("BadText", true)]
def is_MendError_BadBook : List (Str × Bool) := [("BadBook", true), ("BadLetters", false), ("BadText", false)]
def is_MendError_BadLetters : List (Str × Bool) := [("BadBook", false), ("BadLetters", true), ("BadText", false)]
def is_MendError_BadText : List (Str × Bool) := [("BadBook", false), ("BadLetters", false), ("BadText", true)]
structure Zs : Prop where
  n_abs : mg "abs" = none
  n_bool : mg "bool" = none
  n_enumerate : mg "enumerate" = none
  n_int : mg "int" = none
  n_isinstance : mg "isinstance" = none
  n_len : mg "len" = none
  n_list : mg "list" = none
  n_max : mg "max" = none
  n_range : mg "range" = none
  n_sorted : mg "sorted" = none
  n_str : mg "str" = none
  n_tuple : mg "tuple" = none
  c_COST_MOST : ∃ t, mg "COST_MOST" = some (.int 1000 t)
  c_EDITS_MOST : ∃ t, mg "EDITS_MOST" = some (.int 60 t)
  c_EDIT_TEXT : ∃ t, mg "EDIT_TEXT" = some (.int 3 t)
  c_LETTERS_MOST : ∃ t, mg "LETTERS_MOST" = some (.int 6 t)
  c_SIGNS : ∃ t, mg "SIGNS" = some (.str (Str.ofString "abcdefghijklmnopqrstuvwxyz") t)
  c_TEXT_MOST : ∃ t, mg "TEXT_MOST" = some (.int 300 t)
  x_BadBook : Ex P w K mg base "BadBook" ["at", "word"]
  x_BadLetters : Ex P w K mg base "BadLetters" ["at", "word"]
  x_BadText : Ex P w K mg base "BadText" ["at", "word"]
  h_MendError : Hd K mg "MendError" yes_MendError
  f_MendError_at : ∀ c ∈ (["BadBook", "BadLetters", "BadText"] : List Str), ∀ C, mg c = some (.ref C) → XfC K C ∧ PySem.W.findIn K (.ref C) "at" = some none
  f_MendError_word : ∀ c ∈ (["BadBook", "BadLetters", "BadText"] : List Str), ∀ C, mg c = some (.ref C) → XfC K C ∧ PySem.W.findIn K (.ref C) "word" = some none
  i_MendError_BadBook : Is K mg "BadBook" is_MendError_BadBook
  i_MendError_BadLetters : Is K mg "BadLetters" is_MendError_BadLetters
  i_MendError_BadText : Is K mg "BadText" is_MendError_BadText
end
abbrev in_BadBook : Stmt := (clsBody (topS 10)).getD 0 (.Pass ⟨0, 0, 0, 0⟩)
theorem scI_BadBook : FnScope ["self", "at", "word"] ["self", "at", "word"] (defScope in_BadBook) := ⟨rfl, rfl, rfl, by decide +kernel, rfl, by decide +kernel, by decide +kernel⟩
abbrev in_BadLetters : Stmt := (clsBody (topS 8)).getD 0 (.Pass ⟨0, 0, 0, 0⟩)
theorem scI_BadLetters : FnScope ["self", "at", "word"] ["self", "at", "word"] (defScope in_BadLetters) := ⟨rfl, rfl, rfl, by decide +kernel, rfl, by decide +kernel, by decide +kernel⟩
abbrev in_BadText : Stmt := (clsBody (topS 9)).getD 0 (.Pass ⟨0, 0, 0, 0⟩)
theorem scI_BadText : FnScope ["self", "at", "word"] ["self", "at", "word"] (defScope in_BadText) := ⟨rfl, rfl, rfl, by decide +kernel, rfl, by decide +kernel, by decide +kernel⟩
section
variable {P : Program} {w : World} {K : PySem.W.Frag} {mg : Str → Option Value} {base : Heap}
abbrev st__law_pool : Stmt := topS 24
theorem sc__law_pool : FnScope ["script", "salt", "great", "mixed", "cell", "number"] ["script", "salt"] (defScope st__law_pool) := ⟨rfl, rfl, rfl, by decide +kernel, rfl, by decide +kernel, by decide +kernel⟩
noncomputable def m__law_pool : SM :=
  (seqS (asg (tgN 2) (new (lstF lnil)))
  (seqS (asg (tgN 3) (vr 1))
  (seqS (forS (i_of (frz (cutF (vr 0) onoM (osmM (ct (.int 63)))))) (tgN 4) (seqS (asg (tgN 5) (calB o_abs (lcons (calB o_int (lcons (vr 4) lnil)) lnil)))
  (seqS (ifS (asT (op2 o_ge (vr 5) (op2 o_pow (ct (.int 10)) (ct (.int 18))))) (exS (meth "list" m_append (vr 2) (lcons (op2 o_mod (calB o_int (lcons (vr 5) lnil)) (op2 o_mulA (op2 o_mulA (op2 o_pow (ct (.int 10)) (ct (.int 60))) (op2 o_pow (ct (.int 10)) (ct (.int 60)))) (op2 o_pow (ct (.int 10)) (ct (.int 60))))) lnil))) nxS)
  (asg (tgN 3) (op2 o_mod (calB o_int (lcons (op2 o_add (op2 o_add (op2 o_mulA (vr 3) (ct (.int 48271))) (op2 o_mulA (op2 o_mod (calB o_int (lcons (vr 5) lnil)) (ct (.int 2147483563))) (ct (.int 30307)))) (ct (.int 40))) lnil)) (ct (.int 2147483647)))))))
  (retS (new (lstF (lcons (vr 2) (lcons (vr 3) lnil))))))))
@[irreducible] noncomputable def M__law_pool : List D → Sto → Res D := run 6 m__law_pool
theorem ok__law_pool (z : Zs P w K mg base) (F : Fu K mg "_law_pool" st__law_pool ["script", "salt"])  : Cl P w K mg base "_law_pool" 1 ["script", "salt"] M__law_pool := by
  unfold M__law_pool
  exact cl_run (m := m__law_pool) F sc__law_pool rfl (fun f cdv A outer s H E hr =>
  (s_cons (s_set 2 sc__law_pool.nd (y_new (y_lst y_nil)))
  (s_cons (s_set 3 sc__law_pool.nd (y_vr 1))
  (s_cons (s_for (passes_of rfl) rfl (y_iter (y_frz (y_cutF (y_vr 0) y_ono (y_osm y_int)))) (g_name (ix := [4]) 4 sc__law_pool.nd) (s_cons (s_set 5 sc__law_pool.nd (y_callB call_abs cs_abs z.n_abs PyProof.Rows.Boot.«abs» (y_cons (y_callTy call_int1 cs_int z.n_int PyProof.Rows.Boot.«int» (y_cons (y_vr 4) y_nil)) y_nil)))
  (s_cons (s_if (y_tcmp op_ge os_cmp (y_vr 5) (y_op op_pow os_pow y_int y_int)) (s_one (s_expr (y_bm mt_append ms_append PySem.F.plainAttrs_list PySem.F.slot_list_append PySem.F.type_list_append (y_vr 2) (y_cons (y_op op_mod os_mod (y_callTy call_int1 cs_int z.n_int PyProof.Rows.Boot.«int» (y_cons (y_vr 5) y_nil)) (y_op op_mulA os_mulA (y_op op_mulA os_mulA (y_op op_pow os_pow y_int y_int) (y_op op_pow os_pow y_int y_int)) (y_op op_pow os_pow y_int y_int))) y_nil)))) s_nil)
  (s_one (s_set 3 sc__law_pool.nd (y_op op_mod os_mod (y_callTy call_int1 cs_int z.n_int PyProof.Rows.Boot.«int» (y_cons (y_op op_addA os_add (y_op op_addA os_add (y_op op_mulA os_mulA (y_vr 3) y_int) (y_op op_mulA os_mulA (y_op op_mod os_mod (y_callTy call_int1 cs_int z.n_int PyProof.Rows.Boot.«int» (y_cons (y_vr 5) y_nil)) y_int) y_int)) y_int) y_nil)) y_int))))))
  (s_one (s_ret (y_new (y_lst (y_cons (y_vr 2) (y_cons (y_vr 3) y_nil))))))))))
abbrev st__law_draw : Stmt := topS 25
theorem sc__law_draw : FnScope ["pool", "many", "number"] ["pool", "many"] (defScope st__law_draw) := ⟨rfl, rfl, rfl, by decide +kernel, rfl, by decide +kernel, by decide +kernel⟩
noncomputable def m__law_draw : SM :=
  (seqS (ifS (asT (op2 o_gt (calB o_len (lcons (op2 o_ix (vr 0) (ct (.int 0))) lnil)) (ct (.int 0)))) (seqS (asg (tgN 2) (meth "list" m_pop (op2 o_ix (vr 0) (ct (.int 0))) lnil))
  (seqS (ifS (asT (op2 o_ge (vr 2) (vr 1))) (exS (meth "list" m_append (op2 o_ix (vr 0) (ct (.int 0))) (lcons (op2 o_fdiv (vr 2) (vr 1)) lnil))) nxS)
  (retS (op2 o_mod (calB o_int (lcons (vr 2) lnil)) (vr 1))))) nxS)
  (seqS (setS (op2 o_mod (calB o_int (lcons (op2 o_add (op2 o_mulA (op2 o_ix (vr 0) (ct (.int 1))) (ct (.int 39373))) (ct (.int 1301))) lnil)) (ct (.int 2147483647))) (vr 0) (ct (.int 1)))
  (retS (op2 o_mod (calB o_int (lcons (op2 o_fdiv (op2 o_ix (vr 0) (ct (.int 1))) (ct (.int 71))) lnil)) (vr 1)))))
@[irreducible] noncomputable def M__law_draw : List D → Sto → Res D := fn 3 m__law_draw
theorem ok__law_draw (z : Zs P w K mg base) (F : Fu K mg "_law_draw" st__law_draw ["pool", "many"])  : Cl P w K mg base "_law_draw" 1 ["pool", "many"] M__law_draw := by
  unfold M__law_draw
  exact cl_fn (m := m__law_draw) F sc__law_draw rfl (fun f cdv A outer s H E hr =>
  (s_cons (s_if (y_tcmp op_gt os_cmp (y_callB call_len cs_len z.n_len PyProof.Rows.Boot.«len» (y_cons (y_ix ix_seq os_ix (y_vr 0) y_int (fun _ _ => rfl)) y_nil)) y_int) (s_cons (s_set 2 sc__law_draw.nd (y_bm0 mt_pop ms_pop PySem.F.plainAttrs_list PySem.F.slot_list_pop PySem.F.type_list_pop (y_ix ix_seq os_ix (y_vr 0) y_int (fun _ _ => rfl))))
  (s_cons (s_if (y_tcmp op_ge os_cmp (y_vr 2) (y_vr 1)) (s_one (s_expr (y_bm mt_append ms_append PySem.F.plainAttrs_list PySem.F.slot_list_append PySem.F.type_list_append (y_ix ix_seq os_ix (y_vr 0) y_int (fun _ _ => rfl)) (y_cons (y_op op_fdiv os_fdiv (y_vr 2) (y_vr 1)) y_nil)))) s_nil)
  (s_one (s_ret (y_op op_mod os_mod (y_callTy call_int1 cs_int z.n_int PyProof.Rows.Boot.«int» (y_cons (y_vr 2) y_nil)) (y_vr 1)))))) s_nil)
  (s_cons (s_sub (y_op op_mod os_mod (y_callTy call_int1 cs_int z.n_int PyProof.Rows.Boot.«int» (y_cons (y_op op_addA os_add (y_op op_mulA os_mulA (y_ix ix_seq os_ix (y_vr 0) y_int (fun _ _ => rfl)) y_int) y_int) y_nil)) y_int) (y_vr 0) y_int)
  (s_one (s_ret (y_op op_mod os_mod (y_callTy call_int1 cs_int z.n_int PyProof.Rows.Boot.«int» (y_cons (y_op op_fdiv os_fdiv (y_ix ix_seq os_ix (y_vr 0) y_int (fun _ _ => rfl)) y_int) y_nil)) (y_vr 1)))))))
abbrev st__law_shuffled : Stmt := topS 26
theorem sc__law_shuffled : FnScope ["pool", "things", "left", "out", "lap"] ["pool", "things"] (defScope st__law_shuffled) := ⟨rfl, rfl, rfl, by decide +kernel, rfl, by decide +kernel, by decide +kernel⟩
noncomputable def m__law_shuffled : SM :=
  (seqS (asg (tgN 2) (new (calF o_listA (lcons (vr 1) lnil))))
  (seqS (asg (tgN 3) (new (lstF lnil)))
  (seqS (forS (i_rg1 (lcons (calB o_len (lcons (vr 1) lnil)) lnil)) (tgN 4) (exS (meth "list" m_append (vr 3) (lcons (meth "list" m_popAt (vr 2) (lcons (cal M__law_draw (lcons (vr 0) (lcons (calB o_len (lcons (vr 2) lnil)) lnil))) lnil)) lnil))))
  (retS (vr 3)))))
@[irreducible] noncomputable def M__law_shuffled : List D → Sto → Res D := fn 5 m__law_shuffled
theorem ok__law_shuffled (z : Zs P w K mg base) (F : Fu K mg "_law_shuffled" st__law_shuffled ["pool", "things"]) (C__law_draw : Cl P w K mg base "_law_draw" 1 ["pool", "many"] M__law_draw) : Cl P w K mg base "_law_shuffled" 2 ["pool", "things"] M__law_shuffled := by
  unfold M__law_shuffled
  exact cl_fn (m := m__law_shuffled) F sc__law_shuffled rfl (fun f cdv A outer s H E hr =>
  (s_cons (s_set 2 sc__law_shuffled.nd (y_new (y_callTyF (cr_listA rfl) cf_listA z.n_list PyProof.Rows.Boot.«list» (y_cons (y_vr 1) y_nil))))
  (s_cons (s_set 3 sc__law_shuffled.nd (y_new (y_lst y_nil)))
  (s_cons (s_for (passes_of rfl) rfl (y_rg1 z.n_range (y_cons (y_callB call_len cs_len z.n_len PyProof.Rows.Boot.«len» (y_cons (y_vr 1) y_nil)) y_nil)) (g_name (ix := [4]) 4 sc__law_shuffled.nd) (s_one (s_expr (y_bm mt_append ms_append PySem.F.plainAttrs_list PySem.F.slot_list_append PySem.F.type_list_append (y_vr 3) (y_cons (y_bm mt_popAt ms_popAt PySem.F.plainAttrs_list PySem.F.slot_list_pop PySem.F.type_list_pop (y_vr 2) (y_cons (y_fn C__law_draw (hr.mono (by first | decide | omega)) (takes_of rfl rfl rfl rfl) (y_cons (y_vr 0) (y_cons (y_callB call_len cs_len z.n_len PyProof.Rows.Boot.«len» (y_cons (y_vr 2) y_nil)) y_nil)) (len_cons (len_cons len_nil))) y_nil)) y_nil)))))
  (s_one (s_ret (y_vr 3)))))))
abbrev st__law_letters : Stmt := topS 27
theorem sc__law_letters : FnScope ["pool", "many"] ["pool", "many"] (defScope st__law_letters) := ⟨rfl, rfl, rfl, by decide +kernel, rfl, by decide +kernel, by decide +kernel⟩
noncomputable def m__law_letters : SM :=
  (retS (meth "str" m_join (ct (.str (Str.ofString ""))) (lcons (frz (calF o_sorted (lcons (frz (cutF (cal M__law_shuffled (lcons (vr 0) (lcons (ct (.str (Str.ofString "abcdefghijklmnopqrstuvwxyz"))) lnil))) onoM (osmM (vr 1)))) lnil))) lnil)))
@[irreducible] noncomputable def M__law_letters : List D → Sto → Res D := fn 2 m__law_letters
theorem ok__law_letters (z : Zs P w K mg base) (F : Fu K mg "_law_letters" st__law_letters ["pool", "many"]) (C__law_shuffled : Cl P w K mg base "_law_shuffled" 2 ["pool", "things"] M__law_shuffled) : Cl P w K mg base "_law_letters" 3 ["pool", "many"] M__law_letters := by
  unfold M__law_letters
  exact cl_fn (m := m__law_letters) F sc__law_letters rfl (fun f cdv A outer s H E hr =>
  (s_one (s_ret (y_bm mt_join ms_join PySem.F.plainAttrs_str PySem.F.slot_str_join PySem.F.type_str_join y_str (y_cons (y_frz (y_callBF (cr_sortD (hu200 hr)) cf_sorted z.n_sorted PyProof.Rows.Boot.«sorted» (y_cons (y_frz (y_cutF (y_fn C__law_shuffled (hr.mono (by first | decide | omega)) (takes_of rfl rfl rfl rfl) (y_cons (y_vr 0) (y_cons y_str y_nil)) (len_cons (len_cons len_nil))) y_ono (y_osm (y_vr 1)))) y_nil))) y_nil)))))
abbrev st__law_odd_things : Stmt := topS 37
theorem sc__law_odd_things : FnScope ["pool", "right", "number"] ["pool", "right"] (defScope st__law_odd_things) := ⟨rfl, rfl, rfl, by decide +kernel, rfl, by decide +kernel, by decide +kernel⟩
noncomputable def m__law_odd_things : SM :=
  (seqS (asg (tgN 2) (op2 o_ix (frz (lstF (lcons (ct (.int 0)) (lcons (ct (.int 1)) (lcons (op1 o_neg (ct (.int 1))) (lcons (op2 o_pow (ct (.int 10)) (ct (.int 59))) (lcons (ct (.int 7)) lnil))))))) (cal M__law_draw (lcons (vr 0) (lcons (ct (.int 5)) lnil)))))
  (retS (frz (lstF (lcons (ct .non) (lcons (ct (.bl true)) (lcons (ct (.bl false)) (lcons (vr 2) (lcons (tupE lnil) (lcons (frz (lstF lnil)) (lcons (frz (calF o_listA (lcons (vr 1) lnil))) (lcons (calB o_tupleA (lcons (vr 1) lnil)) (lcons (tupE (lcons (vr 1) lnil)) (lcons (frz (lstF (lcons (vr 1) lnil))) (lcons (tupE (lcons (vr 1) (lcons (vr 1) lnil))) lnil)))))))))))))))
@[irreducible] noncomputable def M__law_odd_things : List D → Sto → Res D := fn 3 m__law_odd_things
theorem ok__law_odd_things (z : Zs P w K mg base) (F : Fu K mg "_law_odd_things" st__law_odd_things ["pool", "right"]) (C__law_draw : Cl P w K mg base "_law_draw" 1 ["pool", "many"] M__law_draw) : Cl P w K mg base "_law_odd_things" 2 ["pool", "right"] M__law_odd_things := by
  unfold M__law_odd_things
  exact cl_fn (m := m__law_odd_things) F sc__law_odd_things rfl (fun f cdv A outer s H E hr =>
  (s_cons (s_set 2 sc__law_odd_things.nd (y_ix ix_seq os_ix (y_frz (y_lst (y_cons y_int (y_cons y_int (y_cons (y_un un_neg us_neg y_int) (y_cons (y_op op_pow os_pow y_int y_int) (y_cons y_int y_nil))))))) (y_fn C__law_draw (hr.mono (by first | decide | omega)) (takes_of rfl rfl rfl rfl) (y_cons (y_vr 0) (y_cons y_int y_nil)) (len_cons (len_cons len_nil))) (fun _ _ => rfl)))
  (s_one (s_ret (y_frz (y_lst (y_cons y_non (y_cons y_bl (y_cons y_bl (y_cons (y_vr 2) (y_cons (y_tup y_nil) (y_cons (y_frz (y_lst y_nil)) (y_cons (y_frz (y_callTyF (cr_listA rfl) cf_listA z.n_list PyProof.Rows.Boot.«list» (y_cons (y_vr 1) y_nil))) (y_cons (y_callTy (cr_tupA rfl) cs_tupA z.n_tuple PyProof.Rows.Boot.«tuple» (y_cons (y_vr 1) y_nil)) (y_cons (y_tup (y_cons (y_vr 1) y_nil)) (y_cons (y_frz (y_lst (y_cons (y_vr 1) y_nil))) (y_cons (y_tup (y_cons (y_vr 1) (y_cons (y_vr 1) y_nil))) y_nil)))))))))))))))))
abbrev st__law_is_whole : Stmt := topS 30
theorem sc__law_is_whole : FnScope ["thing"] ["thing"] (defScope st__law_is_whole) := ⟨rfl, rfl, rfl, by decide +kernel, rfl, by decide +kernel, by decide +kernel⟩
noncomputable def m__law_is_whole : SM :=
  (retS (andV (isiE "int" (vr 0)) (notE (isiE "bool" (vr 0)))))
@[irreducible] noncomputable def M__law_is_whole : List D → Sto → Res D := fn 1 m__law_is_whole
theorem ok__law_is_whole (z : Zs P w K mg base) (F : Fu K mg "_law_is_whole" st__law_is_whole ["thing"])  : Cl P w K mg base "_law_is_whole" 1 ["thing"] M__law_is_whole := by
  unfold M__law_is_whole
  exact cl_fn (m := m__law_is_whole) F sc__law_is_whole rfl (fun f cdv A outer s H E hr =>
  (s_one (s_ret (y_and (y_isi (T := "int") (by decide) (y_vr 0) z.n_isinstance z.n_int PyProof.Rows.Boot.«int») (y_one (y_not (y_isi (T := "bool") (by decide) (y_vr 0) z.n_isinstance z.n_bool PyProof.Rows.Boot.«bool»)))))))
abbrev st__law_same : Stmt := topS 36
theorem sc__law_same : FnScope ["told", "due"] ["told", "due"] (defScope st__law_same) := ⟨rfl, rfl, rfl, by decide +kernel, rfl, by decide +kernel, by decide +kernel⟩
noncomputable def m__law_same : SM :=
  (seqS (ifS (trt (cal M__law_is_whole (lcons (vr 1) lnil))) (retS (andV (cal M__law_is_whole (lcons (vr 0) lnil)) (op2 o_eq (vr 0) (vr 1)))) nxS)
  (seqS (ifS (orT (notT (trt (isiE "tuple" (vr 0)))) (orT (asT (op2 o_ne (calB o_len (lcons (vr 0) lnil)) (ct (.int 2)))) (orT (notT (trt (cal M__law_is_whole (lcons (op2 o_ix (vr 0) (ct (.int 0))) lnil)))) (notT (trt (isiE "str" (op2 o_ix (vr 0) (ct (.int 1))))))))) (retS (ct (.bl false))) nxS)
  (retS (andV (op2 o_eq (op2 o_ix (vr 0) (ct (.int 0))) (op2 o_ix (vr 1) (ct (.int 0)))) (op2 o_eq (op2 o_ix (vr 0) (ct (.int 1))) (op2 o_ix (vr 1) (ct (.int 1))))))))
@[irreducible] noncomputable def M__law_same : List D → Sto → Res D := fn 2 m__law_same
theorem ok__law_same (z : Zs P w K mg base) (F : Fu K mg "_law_same" st__law_same ["told", "due"]) (C__law_is_whole : Cl P w K mg base "_law_is_whole" 1 ["thing"] M__law_is_whole) : Cl P w K mg base "_law_same" 2 ["told", "due"] M__law_same := by
  unfold M__law_same
  exact cl_fn (m := m__law_same) F sc__law_same rfl (fun f cdv A outer s H E hr =>
  (s_cons (s_if (y_truth (y_fn C__law_is_whole (hr.mono (by first | decide | omega)) (takes_of rfl rfl rfl rfl) (y_cons (y_vr 1) y_nil) (len_cons len_nil))) (s_one (s_ret (y_and (y_fn C__law_is_whole (hr.mono (by first | decide | omega)) (takes_of rfl rfl rfl rfl) (y_cons (y_vr 0) y_nil) (len_cons len_nil)) (y_one (y_cmp (op_eqD (hu64 hr)) os_eq (y_vr 0) (y_vr 1)))))) s_nil)
  (s_cons (s_if ((y_tor (y_tnot (y_truth (y_isi (T := "tuple") (by decide) (y_vr 0) z.n_isinstance z.n_tuple PyProof.Rows.Boot.«tuple»))) (y_tor (y_tcmp (op_neD (hu64 hr)) os_ne (y_callB call_len cs_len z.n_len PyProof.Rows.Boot.«len» (y_cons (y_vr 0) y_nil)) y_int) (y_tor (y_tnot (y_truth (y_fn C__law_is_whole (hr.mono (by first | decide | omega)) (takes_of rfl rfl rfl rfl) (y_cons (y_ix ix_seq os_ix (y_vr 0) y_int (fun _ _ => rfl)) y_nil) (len_cons len_nil)))) (y_tor1 (y_tnot (y_truth (y_isi (T := "str") (by decide) (y_ix ix_seq os_ix (y_vr 0) y_int (fun _ _ => rfl)) z.n_isinstance z.n_str PyProof.Rows.Boot.«str»)))))))).pt (s_one (s_ret y_bl)) s_nil)
  (s_one (s_ret (y_and (y_cmp (op_eqD (hu64 hr)) os_eq (y_ix ix_seq os_ix (y_vr 0) y_int (fun _ _ => rfl)) (y_ix ix_seq os_ix (y_vr 1) y_int (fun _ _ => rfl))) (y_one (y_cmp (op_eqD (hu64 hr)) os_eq (y_ix ix_seq os_ix (y_vr 0) y_int (fun _ _ => rfl)) (y_ix ix_seq os_ix (y_vr 1) y_int (fun _ _ => rfl))))))))))
abbrev st_letters_fault : Stmt := topS 13
theorem sc_letters_fault : FnScope ["thing", "at", "sign"] ["thing"] (defScope st_letters_fault) := ⟨rfl, rfl, rfl, by decide +kernel, rfl, by decide +kernel, by decide +kernel⟩
noncomputable def m_letters_fault : SM :=
  (seqS (ifS (notT (trt (isiE "str" (vr 0)))) (retS (tupE (lcons (op1 o_neg (ct (.int 1))) (lcons (ct (.str (Str.ofString "shape"))) lnil)))) nxS)
  (seqS (ifS (notT (asT (chn o_leI o_leI (ct (.int 1)) (calB o_len (lcons (vr 0) lnil)) (ct (.int 6))))) (retS (tupE (lcons (op1 o_neg (ct (.int 1))) (lcons (ct (.str (Str.ofString "limit"))) lnil)))) nxS)
  (seqS (forS (i_enumA (lcons (vr 0) lnil)) (tgT [(tgN 1), (tgN 2)]) (seqS (ifS (asT (op2 (o_inS true) (vr 2) (ct (.str (Str.ofString "abcdefghijklmnopqrstuvwxyz"))))) (retS (tupE (lcons (vr 1) (lcons (ct (.str (Str.ofString "letter"))) lnil)))) nxS)
  (ifS (andT (trt (vr 1)) (asT (op2 o_le (vr 2) (op2 o_ix (vr 0) (op2 o_sub (vr 1) (ct (.int 1))))))) (retS (tupE (lcons (vr 1) (lcons (ct (.str (Str.ofString "order"))) lnil)))) nxS)))
  (retS (ct .non)))))
@[irreducible] noncomputable def M_letters_fault : List D → Sto → Res D := fn 3 m_letters_fault
theorem ok_letters_fault (z : Zs P w K mg base) (F : Fu K mg "letters_fault" st_letters_fault ["thing"])  : Cl P w K mg base "letters_fault" 1 ["thing"] M_letters_fault := by
  unfold M_letters_fault
  exact cl_fn (m := m_letters_fault) F sc_letters_fault rfl (fun f cdv A outer s H E hr =>
  (s_cons (s_if (y_tnot (y_truth (y_isi (T := "str") (by decide) (y_vr 0) z.n_isinstance z.n_str PyProof.Rows.Boot.«str»))) (s_one (s_ret (y_tup (y_cons (y_un un_neg us_neg y_int) (y_cons y_str y_nil))))) s_nil)
  (s_cons (s_if (y_tnot (y_tchn op_le os_cmp op_le os_cmp y_int (y_callB call_len cs_len z.n_len PyProof.Rows.Boot.«len» (y_cons (y_vr 0) y_nil)) (y_globI z.c_LETTERS_MOST))) (s_one (s_ret (y_tup (y_cons (y_un un_neg us_neg y_int) (y_cons y_str y_nil))))) s_nil)
  (s_cons (s_for (passes_of rfl) rfl (y_enumA z.n_enumerate (y_cons (y_vr 0) y_nil)) (g_tup rfl (g_cons (g_name (ix := [1, 2]) 1 sc_letters_fault.nd) (g_cons (g_name (ix := [1, 2]) 2 sc_letters_fault.nd) g_nil))) (s_cons (s_if (y_tcmp op_notin_str os_ninS (y_vr 2) (y_globS z.c_SIGNS)) (s_one (s_ret (y_tup (y_cons (y_vr 1) (y_cons y_str y_nil))))) s_nil)
  (s_one (s_if ((y_tand (y_truth (y_vr 1)) (y_tand1 (y_tcmp (op_leA (hu0 hr)) os_le (y_vr 2) (y_ix ix_seq os_ix (y_vr 0) (y_op op_sub os_sub (y_vr 1) y_int) (fun _ _ => rfl)))))).pt (s_one (s_ret (y_tup (y_cons (y_vr 1) (y_cons y_str y_nil))))) s_nil))))
  (s_one (s_ret y_non))))))
abbrev st_check_letters : Stmt := topS 14
theorem sc_check_letters : FnScope ["thing", "fault"] ["thing"] (defScope st_check_letters) := ⟨rfl, rfl, rfl, by decide +kernel, rfl, by decide +kernel, by decide +kernel⟩
noncomputable def m_check_letters : SM :=
  (seqS (asg (tgN 1) (cal M_letters_fault (lcons (vr 0) lnil)))
  (seqS (ifS (asT (op2 o_isnot (vr 1) (ct .non))) (raiS "BadLetters" ["at", "word"] (lcons (op2 o_ix (vr 1) (ct (.int 0))) (lcons (op2 o_ix (vr 1) (ct (.int 1))) lnil))) nxS)
  (retS (calB o_len (lcons (vr 0) lnil)))))
@[irreducible] noncomputable def M_check_letters : List D → Sto → Res D := fn 2 m_check_letters
theorem ok_check_letters (z : Zs P w K mg base) (F : Fu K mg "check_letters" st_check_letters ["thing"]) (C_letters_fault : Cl P w K mg base "letters_fault" 1 ["thing"] M_letters_fault) : Cl P w K mg base "check_letters" 3 ["thing"] M_check_letters := by
  unfold M_check_letters
  exact cl_fn (m := m_check_letters) F sc_check_letters rfl (fun f cdv A outer s H E hr =>
  (s_cons (s_set 1 sc_check_letters.nd (y_fn C_letters_fault (hr.mono (by first | decide | omega)) (takes_of rfl rfl rfl rfl) (y_cons (y_vr 0) y_nil) (len_cons len_nil)))
  (s_cons (s_if (y_tcmp op_notN os_isnot (y_vr 1) y_non) (s_one (s_rais rfl (takes_of rfl rfl rfl rfl) z.x_BadLetters (hr.mono (by first | decide | omega)) (y_cons (y_ix ix_seq os_ix (y_vr 1) y_int (fun _ _ => rfl)) (y_cons (y_ix ix_seq os_ix (y_vr 1) y_int (fun _ _ => rfl)) y_nil)) (by decide))) s_nil)
  (s_one (s_ret (y_callB call_len cs_len z.n_len PyProof.Rows.Boot.«len» (y_cons (y_vr 0) y_nil)))))))
abbrev st_text_fault : Stmt := topS 16
theorem sc_text_fault : FnScope ["letters", "thing", "at", "sign"] ["letters", "thing"] (defScope st_text_fault) := ⟨rfl, rfl, rfl, by decide +kernel, rfl, by decide +kernel, by decide +kernel⟩
noncomputable def m_text_fault : SM :=
  (seqS (ifS (notT (trt (isiE "str" (vr 1)))) (retS (tupE (lcons (op1 o_neg (ct (.int 1))) (lcons (ct (.str (Str.ofString "shape"))) lnil)))) nxS)
  (seqS (ifS (asT (op2 o_gt (calB o_len (lcons (vr 1) lnil)) (ct (.int 300)))) (retS (tupE (lcons (op1 o_neg (ct (.int 1))) (lcons (ct (.str (Str.ofString "limit"))) lnil)))) nxS)
  (seqS (forS (i_enumA (lcons (vr 1) lnil)) (tgT [(tgN 2), (tgN 3)]) (ifS (asT (op2 (o_inS true) (vr 3) (vr 0))) (retS (tupE (lcons (vr 2) (lcons (ct (.str (Str.ofString "letter"))) lnil)))) nxS))
  (retS (ct .non)))))
@[irreducible] noncomputable def M_text_fault : List D → Sto → Res D := fn 4 m_text_fault
theorem ok_text_fault (z : Zs P w K mg base) (F : Fu K mg "text_fault" st_text_fault ["letters", "thing"])  : Cl P w K mg base "text_fault" 1 ["letters", "thing"] M_text_fault := by
  unfold M_text_fault
  exact cl_fn (m := m_text_fault) F sc_text_fault rfl (fun f cdv A outer s H E hr =>
  (s_cons (s_if (y_tnot (y_truth (y_isi (T := "str") (by decide) (y_vr 1) z.n_isinstance z.n_str PyProof.Rows.Boot.«str»))) (s_one (s_ret (y_tup (y_cons (y_un un_neg us_neg y_int) (y_cons y_str y_nil))))) s_nil)
  (s_cons (s_if (y_tcmp op_gt os_cmp (y_callB call_len cs_len z.n_len PyProof.Rows.Boot.«len» (y_cons (y_vr 1) y_nil)) (y_globI z.c_TEXT_MOST)) (s_one (s_ret (y_tup (y_cons (y_un un_neg us_neg y_int) (y_cons y_str y_nil))))) s_nil)
  (s_cons (s_for (passes_of rfl) rfl (y_enumA z.n_enumerate (y_cons (y_vr 1) y_nil)) (g_tup rfl (g_cons (g_name (ix := [2, 3]) 2 sc_text_fault.nd) (g_cons (g_name (ix := [2, 3]) 3 sc_text_fault.nd) g_nil))) (s_one (s_if (y_tcmp op_notin_str os_ninS (y_vr 3) (y_vr 0)) (s_one (s_ret (y_tup (y_cons (y_vr 2) (y_cons y_str y_nil))))) s_nil)))
  (s_one (s_ret y_non))))))
abbrev st_check_text : Stmt := topS 17
theorem sc_check_text : FnScope ["letters", "thing", "fault"] ["letters", "thing"] (defScope st_check_text) := ⟨rfl, rfl, rfl, by decide +kernel, rfl, by decide +kernel, by decide +kernel⟩
noncomputable def m_check_text : SM :=
  (seqS (asg (tgN 2) (cal M_text_fault (lcons (vr 0) (lcons (vr 1) lnil))))
  (seqS (ifS (asT (op2 o_isnot (vr 2) (ct .non))) (raiS "BadText" ["at", "word"] (lcons (op2 o_ix (vr 2) (ct (.int 0))) (lcons (op2 o_ix (vr 2) (ct (.int 1))) lnil))) nxS)
  (retS (calB o_len (lcons (vr 1) lnil)))))
@[irreducible] noncomputable def M_check_text : List D → Sto → Res D := fn 3 m_check_text
theorem ok_check_text (z : Zs P w K mg base) (F : Fu K mg "check_text" st_check_text ["letters", "thing"]) (C_text_fault : Cl P w K mg base "text_fault" 1 ["letters", "thing"] M_text_fault) : Cl P w K mg base "check_text" 3 ["letters", "thing"] M_check_text := by
  unfold M_check_text
  exact cl_fn (m := m_check_text) F sc_check_text rfl (fun f cdv A outer s H E hr =>
  (s_cons (s_set 2 sc_check_text.nd (y_fn C_text_fault (hr.mono (by first | decide | omega)) (takes_of rfl rfl rfl rfl) (y_cons (y_vr 0) (y_cons (y_vr 1) y_nil)) (len_cons (len_cons len_nil))))
  (s_cons (s_if (y_tcmp op_notN os_isnot (y_vr 2) y_non) (s_one (s_rais rfl (takes_of rfl rfl rfl rfl) z.x_BadText (hr.mono (by first | decide | omega)) (y_cons (y_ix ix_seq os_ix (y_vr 2) y_int (fun _ _ => rfl)) (y_cons (y_ix ix_seq os_ix (y_vr 2) y_int (fun _ _ => rfl)) y_nil)) (by decide))) s_nil)
  (s_one (s_ret (y_callB call_len cs_len z.n_len PyProof.Rows.Boot.«len» (y_cons (y_vr 1) y_nil)))))))
abbrev st_is_whole : Stmt := topS 12
theorem sc_is_whole : FnScope ["thing"] ["thing"] (defScope st_is_whole) := ⟨rfl, rfl, rfl, by decide +kernel, rfl, by decide +kernel, by decide +kernel⟩
noncomputable def m_is_whole : SM :=
  (retS (andV (isiE "int" (vr 0)) (notE (isiE "bool" (vr 0)))))
@[irreducible] noncomputable def M_is_whole : List D → Sto → Res D := fn 1 m_is_whole
theorem ok_is_whole (z : Zs P w K mg base) (F : Fu K mg "is_whole" st_is_whole ["thing"])  : Cl P w K mg base "is_whole" 1 ["thing"] M_is_whole := by
  unfold M_is_whole
  exact cl_fn (m := m_is_whole) F sc_is_whole rfl (fun f cdv A outer s H E hr =>
  (s_one (s_ret (y_and (y_isi (T := "int") (by decide) (y_vr 0) z.n_isinstance z.n_int PyProof.Rows.Boot.«int») (y_one (y_not (y_isi (T := "bool") (by decide) (y_vr 0) z.n_isinstance z.n_bool PyProof.Rows.Boot.«bool»)))))))
abbrev st_has_letters_alone : Stmt := topS 15
theorem sc_has_letters_alone : FnScope ["letters", "thing", "sign"] ["letters", "thing"] (defScope st_has_letters_alone) := ⟨rfl, rfl, rfl, by decide +kernel, rfl, by decide +kernel, by decide +kernel⟩
noncomputable def m_has_letters_alone : SM :=
  (seqS (forS (i_of (vr 1)) (tgN 2) (ifS (asT (op2 (o_inS true) (vr 2) (vr 0))) (retS (ct (.bl false))) nxS))
  (retS (ct (.bl true))))
@[irreducible] noncomputable def M_has_letters_alone : List D → Sto → Res D := fn 3 m_has_letters_alone
theorem ok_has_letters_alone (z : Zs P w K mg base) (F : Fu K mg "has_letters_alone" st_has_letters_alone ["letters", "thing"])  : Cl P w K mg base "has_letters_alone" 1 ["letters", "thing"] M_has_letters_alone := by
  unfold M_has_letters_alone
  exact cl_fn (m := m_has_letters_alone) F sc_has_letters_alone rfl (fun f cdv A outer s H E hr =>
  (s_cons (s_for (passes_of rfl) rfl (y_iter (y_vr 1)) (g_name (ix := [2]) 2 sc_has_letters_alone.nd) (s_one (s_if (y_tcmp op_notin_str os_ninS (y_vr 2) (y_vr 0)) (s_one (s_ret y_bl)) s_nil)))
  (s_one (s_ret y_bl))))
abbrev st_is_edit_text : Stmt := topS 19
theorem sc_is_edit_text : FnScope ["letters", "thing"] ["letters", "thing"] (defScope st_is_edit_text) := ⟨rfl, rfl, rfl, by decide +kernel, rfl, by decide +kernel, by decide +kernel⟩
noncomputable def m_is_edit_text : SM :=
  (retS (andV (op2 o_le (calB o_len (lcons (vr 1) lnil)) (ct (.int 3))) (cal M_has_letters_alone (lcons (vr 0) (lcons (vr 1) lnil)))))
@[irreducible] noncomputable def M_is_edit_text : List D → Sto → Res D := fn 2 m_is_edit_text
theorem ok_is_edit_text (z : Zs P w K mg base) (F : Fu K mg "is_edit_text" st_is_edit_text ["letters", "thing"]) (C_has_letters_alone : Cl P w K mg base "has_letters_alone" 1 ["letters", "thing"] M_has_letters_alone) : Cl P w K mg base "is_edit_text" 2 ["letters", "thing"] M_is_edit_text := by
  unfold M_is_edit_text
  exact cl_fn (m := m_is_edit_text) F sc_is_edit_text rfl (fun f cdv A outer s H E hr =>
  (s_one (s_ret (y_and (y_cmp (op_leA (hu0 hr)) os_le (y_callB call_len cs_len z.n_len PyProof.Rows.Boot.«len» (y_cons (y_vr 1) y_nil)) (y_globI z.c_EDIT_TEXT)) (y_one (y_fn C_has_letters_alone (hr.mono (by first | decide | omega)) (takes_of rfl rfl rfl rfl) (y_cons (y_vr 0) (y_cons (y_vr 1) y_nil)) (len_cons (len_cons len_nil))))))))
abbrev st_edit_word : Stmt := topS 20
theorem sc_edit_word : FnScope ["letters", "thing", "ahead", "read", "write", "cost"] ["letters", "thing", "ahead"] (defScope st_edit_word) := ⟨rfl, rfl, rfl, by decide +kernel, rfl, by decide +kernel, by decide +kernel⟩
noncomputable def m_edit_word : SM :=
  (seqS (ifS (orT (notT (trt (isiE "tuple" (vr 1)))) (asT (op2 o_ne (calB o_len (lcons (vr 1) lnil)) (ct (.int 3))))) (retS (ct (.str (Str.ofString "shape")))) nxS)
  (seqS (asg (tgT [(tgN 3), (tgN 4), (tgN 5)]) (vr 1))
  (seqS (ifS (orT (notT (trt (isiE "str" (vr 3)))) (orT (notT (trt (isiE "str" (vr 4)))) (notT (trt (cal M_is_whole (lcons (vr 5) lnil)))))) (retS (ct (.str (Str.ofString "shape")))) nxS)
  (seqS (ifS (orT (notT (trt (cal M_is_edit_text (lcons (vr 0) (lcons (vr 3) lnil))))) (notT (trt (cal M_is_edit_text (lcons (vr 0) (lcons (vr 4) lnil)))))) (retS (ct (.str (Str.ofString "text")))) nxS)
  (seqS (ifS (asT (op2 o_eq (vr 3) (vr 4))) (retS (ct (.str (Str.ofString "like")))) nxS)
  (seqS (ifS (notT (asT (chn o_leI o_leI (ct (.int 1)) (vr 5) (ct (.int 1000))))) (retS (ct (.str (Str.ofString "cost")))) nxS)
  (seqS (ifS (andT (asT (op2 o_isnot (vr 2) (ct .non))) (asT (op2 o_le (tupE (lcons (vr 3) (lcons (vr 4) lnil))) (cut o_cut (vr 2) onoM (osmM (ct (.int 2))))))) (retS (ct (.str (Str.ofString "order")))) nxS)
  (retS (ct .non)))))))))
@[irreducible] noncomputable def M_edit_word : List D → Sto → Res D := fn 6 m_edit_word
theorem ok_edit_word (z : Zs P w K mg base) (F : Fu K mg "edit_word" st_edit_word ["letters", "thing", "ahead"]) (C_is_whole : Cl P w K mg base "is_whole" 1 ["thing"] M_is_whole) (C_is_edit_text : Cl P w K mg base "is_edit_text" 2 ["letters", "thing"] M_is_edit_text) : Cl P w K mg base "edit_word" 3 ["letters", "thing", "ahead"] M_edit_word := by
  unfold M_edit_word
  exact cl_fn (m := m_edit_word) F sc_edit_word rfl (fun f cdv A outer s H E hr =>
  (s_cons (s_if ((y_tor (y_tnot (y_truth (y_isi (T := "tuple") (by decide) (y_vr 1) z.n_isinstance z.n_tuple PyProof.Rows.Boot.«tuple»))) (y_tor1 (y_tcmp (op_neD (hu64 hr)) os_ne (y_callB call_len cs_len z.n_len PyProof.Rows.Boot.«len» (y_cons (y_vr 1) y_nil)) y_int)))).pt (s_one (s_ret y_str)) s_nil)
  (s_cons (s_asg (y_vr 1) (g_tup rfl (g_cons (g_name (ix := [3, 4, 5]) 3 sc_edit_word.nd) (g_cons (g_name (ix := [3, 4, 5]) 4 sc_edit_word.nd) (g_cons (g_name (ix := [3, 4, 5]) 5 sc_edit_word.nd) g_nil)))))
  (s_cons (s_if ((y_tor (y_tnot (y_truth (y_isi (T := "str") (by decide) (y_vr 3) z.n_isinstance z.n_str PyProof.Rows.Boot.«str»))) (y_tor (y_tnot (y_truth (y_isi (T := "str") (by decide) (y_vr 4) z.n_isinstance z.n_str PyProof.Rows.Boot.«str»))) (y_tor1 (y_tnot (y_truth (y_fn C_is_whole (hr.mono (by first | decide | omega)) (takes_of rfl rfl rfl rfl) (y_cons (y_vr 5) y_nil) (len_cons len_nil)))))))).pt (s_one (s_ret y_str)) s_nil)
  (s_cons (s_if ((y_tor (y_tnot (y_truth (y_fn C_is_edit_text (hr.mono (by first | decide | omega)) (takes_of rfl rfl rfl rfl) (y_cons (y_vr 0) (y_cons (y_vr 3) y_nil)) (len_cons (len_cons len_nil))))) (y_tor1 (y_tnot (y_truth (y_fn C_is_edit_text (hr.mono (by first | decide | omega)) (takes_of rfl rfl rfl rfl) (y_cons (y_vr 0) (y_cons (y_vr 4) y_nil)) (len_cons (len_cons len_nil)))))))).pt (s_one (s_ret y_str)) s_nil)
  (s_cons (s_if (y_tcmp (op_eqD (hu64 hr)) os_eq (y_vr 3) (y_vr 4)) (s_one (s_ret y_str)) s_nil)
  (s_cons (s_if (y_tnot (y_tchn op_le os_cmp op_le os_cmp y_int (y_vr 5) (y_globI z.c_COST_MOST))) (s_one (s_ret y_str)) s_nil)
  (s_cons (s_if ((y_tand (y_tcmp op_notN os_isnot (y_vr 2) y_non) (y_tand1 (y_tcmp (op_leA (hu0 hr)) os_le (y_tup (y_cons (y_vr 3) (y_cons (y_vr 4) y_nil))) (y_cut (y_vr 2) y_ono (y_osm y_int)))))).pt (s_one (s_ret y_str)) s_nil)
  (s_one (s_ret y_non))))))))))
abbrev st_book_fault : Stmt := topS 21
theorem sc_book_fault : FnScope ["thing", "letters", "edits", "ahead", "at", "edit", "word"] ["thing"] (defScope st_book_fault) := ⟨rfl, rfl, rfl, by decide +kernel, rfl, by decide +kernel, by decide +kernel⟩
noncomputable def m_book_fault : SM :=
  (seqS (ifS (orT (notT (trt (isiE "tuple" (vr 0)))) (asT (op2 o_ne (calB o_len (lcons (vr 0) lnil)) (ct (.int 2))))) (retS (tupE (lcons (op1 o_neg (ct (.int 1))) (lcons (ct (.str (Str.ofString "shape"))) lnil)))) nxS)
  (seqS (asg (tgT [(tgN 1), (tgN 2)]) (vr 0))
  (seqS (ifS (orT (notT (trt (isiE "str" (vr 1)))) (notT (trt (isiE "tuple" (vr 2))))) (retS (tupE (lcons (op1 o_neg (ct (.int 1))) (lcons (ct (.str (Str.ofString "shape"))) lnil)))) nxS)
  (seqS (ifS (asT (op2 o_isnot (cal M_letters_fault (lcons (vr 1) lnil)) (ct .non))) (retS (tupE (lcons (op1 o_neg (ct (.int 1))) (lcons (ct (.str (Str.ofString "letters"))) lnil)))) nxS)
  (seqS (ifS (asT (op2 o_gt (calB o_len (lcons (vr 2) lnil)) (ct (.int 60)))) (retS (tupE (lcons (op1 o_neg (ct (.int 1))) (lcons (ct (.str (Str.ofString "limit"))) lnil)))) nxS)
  (seqS (asg (tgN 3) (ct .non))
  (seqS (forS (i_enumA (lcons (vr 2) lnil)) (tgT [(tgN 4), (tgN 5)]) (seqS (asg (tgN 6) (cal M_edit_word (lcons (vr 1) (lcons (vr 5) (lcons (vr 3) lnil)))))
  (seqS (ifS (asT (op2 o_isnot (vr 6) (ct .non))) (retS (tupE (lcons (vr 4) (lcons (vr 6) lnil)))) nxS)
  (asg (tgN 3) (vr 5)))))
  (retS (ct .non)))))))))
@[irreducible] noncomputable def M_book_fault : List D → Sto → Res D := fn 7 m_book_fault
theorem ok_book_fault (z : Zs P w K mg base) (F : Fu K mg "book_fault" st_book_fault ["thing"]) (C_letters_fault : Cl P w K mg base "letters_fault" 1 ["thing"] M_letters_fault) (C_edit_word : Cl P w K mg base "edit_word" 3 ["letters", "thing", "ahead"] M_edit_word) : Cl P w K mg base "book_fault" 4 ["thing"] M_book_fault := by
  unfold M_book_fault
  exact cl_fn (m := m_book_fault) F sc_book_fault rfl (fun f cdv A outer s H E hr =>
  (s_cons (s_if ((y_tor (y_tnot (y_truth (y_isi (T := "tuple") (by decide) (y_vr 0) z.n_isinstance z.n_tuple PyProof.Rows.Boot.«tuple»))) (y_tor1 (y_tcmp (op_neD (hu64 hr)) os_ne (y_callB call_len cs_len z.n_len PyProof.Rows.Boot.«len» (y_cons (y_vr 0) y_nil)) y_int)))).pt (s_one (s_ret (y_tup (y_cons (y_un un_neg us_neg y_int) (y_cons y_str y_nil))))) s_nil)
  (s_cons (s_asg (y_vr 0) (g_tup rfl (g_cons (g_name (ix := [1, 2]) 1 sc_book_fault.nd) (g_cons (g_name (ix := [1, 2]) 2 sc_book_fault.nd) g_nil))))
  (s_cons (s_if ((y_tor (y_tnot (y_truth (y_isi (T := "str") (by decide) (y_vr 1) z.n_isinstance z.n_str PyProof.Rows.Boot.«str»))) (y_tor1 (y_tnot (y_truth (y_isi (T := "tuple") (by decide) (y_vr 2) z.n_isinstance z.n_tuple PyProof.Rows.Boot.«tuple»)))))).pt (s_one (s_ret (y_tup (y_cons (y_un un_neg us_neg y_int) (y_cons y_str y_nil))))) s_nil)
  (s_cons (s_if (y_tcmp op_notN os_isnot (y_fn C_letters_fault (hr.mono (by first | decide | omega)) (takes_of rfl rfl rfl rfl) (y_cons (y_vr 1) y_nil) (len_cons len_nil)) y_non) (s_one (s_ret (y_tup (y_cons (y_un un_neg us_neg y_int) (y_cons y_str y_nil))))) s_nil)
  (s_cons (s_if (y_tcmp op_gt os_cmp (y_callB call_len cs_len z.n_len PyProof.Rows.Boot.«len» (y_cons (y_vr 2) y_nil)) (y_globI z.c_EDITS_MOST)) (s_one (s_ret (y_tup (y_cons (y_un un_neg us_neg y_int) (y_cons y_str y_nil))))) s_nil)
  (s_cons (s_set 3 sc_book_fault.nd y_non)
  (s_cons (s_for (passes_of rfl) rfl (y_enumA z.n_enumerate (y_cons (y_vr 2) y_nil)) (g_tup rfl (g_cons (g_name (ix := [4, 5]) 4 sc_book_fault.nd) (g_cons (g_name (ix := [4, 5]) 5 sc_book_fault.nd) g_nil))) (s_cons (s_set 6 sc_book_fault.nd (y_fn C_edit_word (hr.mono (by first | decide | omega)) (takes_of rfl rfl rfl rfl) (y_cons (y_vr 1) (y_cons (y_vr 5) (y_cons (y_vr 3) y_nil))) (len_cons (len_cons (len_cons len_nil)))))
  (s_cons (s_if (y_tcmp op_notN os_isnot (y_vr 6) y_non) (s_one (s_ret (y_tup (y_cons (y_vr 4) (y_cons (y_vr 6) y_nil))))) s_nil)
  (s_one (s_set 3 sc_book_fault.nd (y_vr 5))))))
  (s_one (s_ret y_non))))))))))
abbrev st_check_book : Stmt := topS 22
theorem sc_check_book : FnScope ["thing", "fault"] ["thing"] (defScope st_check_book) := ⟨rfl, rfl, rfl, by decide +kernel, rfl, by decide +kernel, by decide +kernel⟩
noncomputable def m_check_book : SM :=
  (seqS (asg (tgN 1) (cal M_book_fault (lcons (vr 0) lnil)))
  (seqS (ifS (asT (op2 o_isnot (vr 1) (ct .non))) (raiS "BadBook" ["at", "word"] (lcons (op2 o_ix (vr 1) (ct (.int 0))) (lcons (op2 o_ix (vr 1) (ct (.int 1))) lnil))) nxS)
  (retS (calB o_len (lcons (op2 o_ix (vr 0) (ct (.int 1))) lnil)))))
@[irreducible] noncomputable def M_check_book : List D → Sto → Res D := fn 2 m_check_book
theorem ok_check_book (z : Zs P w K mg base) (F : Fu K mg "check_book" st_check_book ["thing"]) (C_book_fault : Cl P w K mg base "book_fault" 4 ["thing"] M_book_fault) : Cl P w K mg base "check_book" 5 ["thing"] M_check_book := by
  unfold M_check_book
  exact cl_fn (m := m_check_book) F sc_check_book rfl (fun f cdv A outer s H E hr =>
  (s_cons (s_set 1 sc_check_book.nd (y_fn C_book_fault (hr.mono (by first | decide | omega)) (takes_of rfl rfl rfl rfl) (y_cons (y_vr 0) y_nil) (len_cons len_nil)))
  (s_cons (s_if (y_tcmp op_notN os_isnot (y_vr 1) y_non) (s_one (s_rais rfl (takes_of rfl rfl rfl rfl) z.x_BadBook (hr.mono (by first | decide | omega)) (y_cons (y_ix ix_seq os_ix (y_vr 1) y_int (fun _ _ => rfl)) (y_cons (y_ix ix_seq os_ix (y_vr 1) y_int (fun _ _ => rfl)) y_nil)) (by decide))) s_nil)
  (s_one (s_ret (y_callB call_len cs_len z.n_len PyProof.Rows.Boot.«len» (y_cons (y_ix ix_seq os_ix (y_vr 0) y_int (fun _ _ => rfl)) y_nil)))))))
abbrev st__law_told : Stmt := topS 35
theorem sc__law_told : FnScope ["what", "letters", "thing", "told", "error", "kinds"] ["what", "letters", "thing"] (defScope st__law_told) := ⟨rfl, rfl, rfl, by decide +kernel, rfl, by decide +kernel, by decide +kernel⟩
noncomputable def m__law_told : SM :=
  (seqS (tryS (ifS (asT (op2 o_eq (vr 0) (ct (.int 0)))) (asg (tgN 3) (cal M_check_letters (lcons (vr 2) lnil))) (ifS (asT (op2 o_eq (vr 0) (ct (.int 1)))) (asg (tgN 3) (cal M_check_text (lcons (vr 1) (lcons (vr 2) lnil)))) (asg (tgN 3) (cal M_check_book (lcons (vr 2) lnil))))) yes_MendError 4 (fun c fs => seqS (asg (tgN 5) ((fun c fs => frz (lstF ((fun c fs => lcons ((isErr is_MendError_BadLetters) c fs) ((fun c fs => lcons ((isErr is_MendError_BadText) c fs) ((fun c fs => lcons ((isErr is_MendError_BadBook) c fs) ((fun _ _ => lnil) c fs)) c fs)) c fs)) c fs))) c fs)) ((fun c fs => seqS (ifS (orT (asT (op2 o_ne (meth "list" m_count (vr 5) (lcons (ct (.bl true)) lnil)) (ct (.int 1)))) (notT (trt (op2 o_ix (vr 5) (vr 0))))) (retS (tupE lnil)) nxS) ((fun c fs => retS ((fun c fs => tupE ((fun c fs => lcons ((fldE ["BadBook", "BadLetters", "BadText"] "at") c fs) ((fun c fs => lcons ((fldE ["BadBook", "BadLetters", "BadText"] "word") c fs) ((fun _ _ => lnil) c fs)) c fs)) c fs)) c fs)) c fs)) c fs)))
  (retS (vr 3)))
@[irreducible] noncomputable def M__law_told : List D → Sto → Res D := fn 6 m__law_told
theorem ok__law_told (z : Zs P w K mg base) (F : Fu K mg "_law_told" st__law_told ["what", "letters", "thing"]) (C_check_letters : Cl P w K mg base "check_letters" 3 ["thing"] M_check_letters) (C_check_text : Cl P w K mg base "check_text" 3 ["letters", "thing"] M_check_text) (C_check_book : Cl P w K mg base "check_book" 5 ["thing"] M_check_book) : Cl P w K mg base "_law_told" 6 ["what", "letters", "thing"] M__law_told := by
  unfold M__law_told
  exact cl_fn (m := m__law_told) F sc__law_told rfl (fun f cdv A outer s H E hr =>
  (s_cons (s_tryH rfl rfl sc__law_told.nd z.h_MendError (takes_of rfl rfl rfl rfl) (fun W pn xe tk pw => (s_one (s_if (y_tcmp (op_eqD (hu64 hr)) os_eq (y_vr 0) y_int) (s_one (s_set 3 sc__law_told.nd (y_fn C_check_letters (hr.mono (by first | decide | omega)) tk (y_cons (y_vr 2) y_nil) (len_cons len_nil)))) (s_one (s_if (y_tcmp (op_eqD (hu64 hr)) os_eq (y_vr 0) y_int) (s_one (s_set 3 sc__law_told.nd (y_fn C_check_text (hr.mono (by first | decide | omega)) tk (y_cons (y_vr 1) (y_cons (y_vr 2) y_nil)) (len_cons (len_cons len_nil))))) (s_one (s_set 3 sc__law_told.nd (y_fn C_check_book (hr.mono (by first | decide | omega)) tk (y_cons (y_vr 2) y_nil) (len_cons len_nil))))))))) (fun a oe cls d pn hz hf => (u_setSeq (j := 5) (by decide) sc__law_told.nd (u_frz (u_lst (u_cons (u_isE z.i_MendError_BadLetters hz hf (pe_var (i := 4) rfl (by first | exact Or.inl rfl | exact Or.inr (Or.inl rfl))) z.n_isinstance) (u_cons (u_isE z.i_MendError_BadText hz hf (pe_var (i := 4) rfl (by first | exact Or.inl rfl | exact Or.inr (Or.inl rfl))) z.n_isinstance) (u_cons (u_isE z.i_MendError_BadBook hz hf (pe_var (i := 4) rfl (by first | exact Or.inl rfl | exact Or.inr (Or.inl rfl))) z.n_isinstance) u_nil))))) (u_ifSeq ((y_tor (y_tcmp (op_neD (by have h := hu64 hr; exact h)) os_ne (y_bm (mt_countD (by have h := hu65 hr; exact h)) ms_count PySem.F.plainAttrs_list PySem.F.slot_list_count PySem.F.type_list_count (y_vr 5) (y_cons y_bl y_nil)) y_int) (y_tor1 (y_tnot (y_truth (y_ix ix_seq os_ix (y_vr 5) (y_vr 0) (fun _ _ => rfl))))))).pt (s_one (s_ret (y_tup y_nil))) ret_no (u_one (u_ret (u_tup (u_cons (u_fld (z.f_MendError_at) hz hf (pe_var (i := 4) rfl (by first | exact Or.inl rfl | exact Or.inr (Or.inl rfl)))) (u_cons (u_fld (z.f_MendError_word) hz hf (pe_var (i := 4) rfl (by first | exact Or.inl rfl | exact Or.inr (Or.inl rfl)))) u_nil)))))))))
  (s_one (s_ret (y_vr 3)))))
abbrev st__law_letters_due : Stmt := topS 31
theorem sc__law_letters_due : FnScope ["thing", "at"] ["thing"] (defScope st__law_letters_due) := ⟨rfl, rfl, rfl, by decide +kernel, rfl, by decide +kernel, by decide +kernel⟩
noncomputable def m__law_letters_due : SM :=
  (seqS (ifS (notT (trt (isiE "str" (vr 0)))) (retS (tupE (lcons (op1 o_neg (ct (.int 1))) (lcons (ct (.str (Str.ofString "shape"))) lnil)))) nxS)
  (seqS (ifS (orT (asT (op2 o_eq (calB o_len (lcons (vr 0) lnil)) (ct (.int 0)))) (asT (op2 o_gt (calB o_len (lcons (vr 0) lnil)) (ct (.int 6))))) (retS (tupE (lcons (op1 o_neg (ct (.int 1))) (lcons (ct (.str (Str.ofString "limit"))) lnil)))) nxS)
  (seqS (forS (i_rg1 (lcons (calB o_len (lcons (vr 0) lnil)) lnil)) (tgN 1) (seqS (ifS (asT (op2 (o_inS true) (op2 o_ix (vr 0) (vr 1)) (ct (.str (Str.ofString "abcdefghijklmnopqrstuvwxyz"))))) (retS (tupE (lcons (vr 1) (lcons (ct (.str (Str.ofString "letter"))) lnil)))) nxS)
  (ifS (andT (asT (op2 o_gt (vr 1) (ct (.int 0)))) (asT (op2 o_le (op2 o_ix (vr 0) (vr 1)) (op2 o_ix (vr 0) (op2 o_sub (vr 1) (ct (.int 1))))))) (retS (tupE (lcons (vr 1) (lcons (ct (.str (Str.ofString "order"))) lnil)))) nxS)))
  (retS (calB o_len (lcons (vr 0) lnil))))))
@[irreducible] noncomputable def M__law_letters_due : List D → Sto → Res D := fn 2 m__law_letters_due
theorem ok__law_letters_due (z : Zs P w K mg base) (F : Fu K mg "_law_letters_due" st__law_letters_due ["thing"])  : Cl P w K mg base "_law_letters_due" 1 ["thing"] M__law_letters_due := by
  unfold M__law_letters_due
  exact cl_fn (m := m__law_letters_due) F sc__law_letters_due rfl (fun f cdv A outer s H E hr =>
  (s_cons (s_if (y_tnot (y_truth (y_isi (T := "str") (by decide) (y_vr 0) z.n_isinstance z.n_str PyProof.Rows.Boot.«str»))) (s_one (s_ret (y_tup (y_cons (y_un un_neg us_neg y_int) (y_cons y_str y_nil))))) s_nil)
  (s_cons (s_if ((y_tor (y_tcmp (op_eqD (hu64 hr)) os_eq (y_callB call_len cs_len z.n_len PyProof.Rows.Boot.«len» (y_cons (y_vr 0) y_nil)) y_int) (y_tor1 (y_tcmp op_gt os_cmp (y_callB call_len cs_len z.n_len PyProof.Rows.Boot.«len» (y_cons (y_vr 0) y_nil)) y_int)))).pt (s_one (s_ret (y_tup (y_cons (y_un un_neg us_neg y_int) (y_cons y_str y_nil))))) s_nil)
  (s_cons (s_for (passes_of rfl) rfl (y_rg1 z.n_range (y_cons (y_callB call_len cs_len z.n_len PyProof.Rows.Boot.«len» (y_cons (y_vr 0) y_nil)) y_nil)) (g_name (ix := [1]) 1 sc__law_letters_due.nd) (s_cons (s_if (y_tcmp op_notin_str os_ninS (y_ix ix_seq os_ix (y_vr 0) (y_vr 1) (fun _ _ => rfl)) y_str) (s_one (s_ret (y_tup (y_cons (y_vr 1) (y_cons y_str y_nil))))) s_nil)
  (s_one (s_if ((y_tand (y_tcmp op_gt os_cmp (y_vr 1) y_int) (y_tand1 (y_tcmp (op_leA (hu0 hr)) os_le (y_ix ix_seq os_ix (y_vr 0) (y_vr 1) (fun _ _ => rfl)) (y_ix ix_seq os_ix (y_vr 0) (y_op op_sub os_sub (y_vr 1) y_int) (fun _ _ => rfl)))))).pt (s_one (s_ret (y_tup (y_cons (y_vr 1) (y_cons y_str y_nil))))) s_nil))))
  (s_one (s_ret (y_callB call_len cs_len z.n_len PyProof.Rows.Boot.«len» (y_cons (y_vr 0) y_nil))))))))
abbrev st__law_letters_holds : Stmt := topS 38
theorem sc__law_letters_holds : FnScope ["pool", "right", "at", "sign", "other", "things", "thing"] ["pool"] (defScope st__law_letters_holds) := ⟨rfl, rfl, rfl, by decide +kernel, rfl, by decide +kernel, by decide +kernel⟩
noncomputable def m__law_letters_holds : SM :=
  (seqS (asg (tgN 1) (cal M__law_letters (lcons (vr 0) (lcons (op2 o_add (ct (.int 1)) (cal M__law_draw (lcons (vr 0) (lcons (ct (.int 6)) lnil)))) lnil))))
  (seqS (asg (tgN 2) (cal M__law_draw (lcons (vr 0) (lcons (calB o_len (lcons (vr 1) lnil)) lnil))))
  (seqS (asg (tgN 3) (op2 o_ix (frz (lstF (lcons (ct (.str (Str.ofString "A"))) (lcons (ct (.str (Str.ofString "0"))) (lcons (ct (.str (Str.ofString " "))) (lcons (ct (.str (Str.ofString "-"))) (lcons (ct (.str (Str.ofString "Z"))) (lcons (ct (.str (Str.ofString "{"))) (lcons (op2 o_ix (vr 1) (ct (.int 0))) (lcons (op2 o_ix (vr 1) (op1 o_neg (ct (.int 1)))) (lcons (op2 o_ix (vr 1) (vr 2)) (lcons (ct (.str (Str.ofString "&"))) lnil)))))))))))) (cal M__law_draw (lcons (vr 0) (lcons (ct (.int 10)) lnil)))))
  (seqS (asg (tgN 4) (op2 o_ix (frz (lstF (lcons (ct (.str (Str.ofString "a"))) (lcons (ct (.str (Str.ofString "z"))) (lcons (ct (.str (Str.ofString "m"))) (lcons (ct (.str (Str.ofString "~"))) (lcons (ct (.str (Str.ofString "9"))) lnil))))))) (cal M__law_draw (lcons (vr 0) (lcons (ct (.int 5)) lnil)))))
  (seqS (asg (tgN 5) (frz (lstF (lcons (vr 1) (lcons (ct (.str (Str.ofString ""))) (lcons (revA (vr 1)) (lcons (op2 o_add (vr 1) (vr 3)) (lcons (op2 o_add (op2 o_add (cut o_cut (vr 1) onoM (osmM (vr 2))) (vr 3)) (cut o_cut (vr 1) (osmM (vr 2)) onoM)) (lcons (op2 o_add (op2 o_add (cut o_cut (vr 1) onoM (osmM (vr 2))) (vr 3)) (cut o_cut (vr 1) (osmM (op2 o_add (vr 2) (ct (.int 1)))) onoM)) lnil)))))))))
  (seqS (asg (tgN 5) (frz (catF (vr 5) (frz (lstF (lcons (vr 3) (lcons (op2 o_add (vr 3) (vr 1)) (lcons (op2 o_add (vr 1) (vr 1)) (lcons (ct (.str (Str.ofString "abcdef"))) (lcons (ct (.str (Str.ofString "abcdefg"))) (lcons (op2 o_add (ct (.str (Str.ofString "uvwxyz"))) (vr 3)) (lcons (ct (.str (Str.ofString "abcdeF"))) (lcons (ct (.str (Str.ofString "bcdefa"))) lnil)))))))))))))
  (seqS (asg (tgN 5) (frz (catF (vr 5) (frz (lstF (lcons (meth "str" m_join (ct (.str (Str.ofString ""))) (lcons (cal M__law_shuffled (lcons (vr 0) (lcons (op2 o_add (vr 1) (vr 4)) lnil))) lnil)) (lcons (op2 o_add (op2 o_add (cut o_cut (vr 1) onoM (osmM (vr 2))) (vr 4)) (vr 3)) (lcons (op2 o_mulA (ct (.str (Str.ofString "a"))) (ct (.int 7))) (lcons (op2 o_mulA (vr 1) (ct (.int 900))) lnil)))))))))
  (seqS (forS (i_of (frz (catF (frz (catF (vr 5) (cal M__law_odd_things (lcons (vr 0) (lcons (vr 1) lnil))))) (frz (lstF (lcons (vr 1) lnil)))))) (tgN 6) (ifS (notT (trt (cal M__law_same (lcons (cal M__law_told (lcons (ct (.int 0)) (lcons (ct (.str (Str.ofString ""))) (lcons (vr 6) lnil)))) (lcons (cal M__law_letters_due (lcons (vr 6) lnil)) lnil))))) (retS (ct (.bl false))) nxS))
  (retS (ct (.bl true)))))))))))
@[irreducible] noncomputable def M__law_letters_holds : List D → Sto → Res D := fn 7 m__law_letters_holds
theorem ok__law_letters_holds (z : Zs P w K mg base) (F : Fu K mg "_law_letters_holds" st__law_letters_holds ["pool"]) (C__law_draw : Cl P w K mg base "_law_draw" 1 ["pool", "many"] M__law_draw) (C__law_shuffled : Cl P w K mg base "_law_shuffled" 2 ["pool", "things"] M__law_shuffled) (C__law_letters : Cl P w K mg base "_law_letters" 3 ["pool", "many"] M__law_letters) (C__law_odd_things : Cl P w K mg base "_law_odd_things" 2 ["pool", "right"] M__law_odd_things) (C__law_same : Cl P w K mg base "_law_same" 2 ["told", "due"] M__law_same) (C__law_told : Cl P w K mg base "_law_told" 6 ["what", "letters", "thing"] M__law_told) (C__law_letters_due : Cl P w K mg base "_law_letters_due" 1 ["thing"] M__law_letters_due) : Cl P w K mg base "_law_letters_holds" 7 ["pool"] M__law_letters_holds := by
  unfold M__law_letters_holds
  exact cl_fn (m := m__law_letters_holds) F sc__law_letters_holds rfl (fun f cdv A outer s H E hr =>
  (s_cons (s_set 1 sc__law_letters_holds.nd (y_fn C__law_letters (hr.mono (by first | decide | omega)) (takes_of rfl rfl rfl rfl) (y_cons (y_vr 0) (y_cons (y_op op_addA os_add y_int (y_fn C__law_draw (hr.mono (by first | decide | omega)) (takes_of rfl rfl rfl rfl) (y_cons (y_vr 0) (y_cons y_int y_nil)) (len_cons (len_cons len_nil)))) y_nil)) (len_cons (len_cons len_nil))))
  (s_cons (s_set 2 sc__law_letters_holds.nd (y_fn C__law_draw (hr.mono (by first | decide | omega)) (takes_of rfl rfl rfl rfl) (y_cons (y_vr 0) (y_cons (y_callB call_len cs_len z.n_len PyProof.Rows.Boot.«len» (y_cons (y_vr 1) y_nil)) y_nil)) (len_cons (len_cons len_nil))))
  (s_cons (s_set 3 sc__law_letters_holds.nd (y_ix ix_seq os_ix (y_frz (y_lst (y_cons y_str (y_cons y_str (y_cons y_str (y_cons y_str (y_cons y_str (y_cons y_str (y_cons (y_ix ix_seq os_ix (y_vr 1) y_int (fun _ _ => rfl)) (y_cons (y_ix ix_seq os_ix (y_vr 1) (y_un un_neg us_neg y_int) (fun _ _ => rfl)) (y_cons (y_ix ix_seq os_ix (y_vr 1) (y_vr 2) (fun _ _ => rfl)) (y_cons y_str y_nil)))))))))))) (y_fn C__law_draw (hr.mono (by first | decide | omega)) (takes_of rfl rfl rfl rfl) (y_cons (y_vr 0) (y_cons y_int y_nil)) (len_cons (len_cons len_nil))) (fun _ _ => rfl)))
  (s_cons (s_set 4 sc__law_letters_holds.nd (y_ix ix_seq os_ix (y_frz (y_lst (y_cons y_str (y_cons y_str (y_cons y_str (y_cons y_str (y_cons y_str y_nil))))))) (y_fn C__law_draw (hr.mono (by first | decide | omega)) (takes_of rfl rfl rfl rfl) (y_cons (y_vr 0) (y_cons y_int y_nil)) (len_cons (len_cons len_nil))) (fun _ _ => rfl)))
  (s_cons (s_set 5 sc__law_letters_holds.nd (y_frz (y_lst (y_cons (y_vr 1) (y_cons y_str (y_cons (y_revA (y_vr 1)) (y_cons (y_op op_addA os_add (y_vr 1) (y_vr 3)) (y_cons (y_op op_addA os_add (y_op op_addA os_add (y_cut (y_vr 1) y_ono (y_osm (y_vr 2))) (y_vr 3)) (y_cut (y_vr 1) (y_osm (y_vr 2)) y_ono)) (y_cons (y_op op_addA os_add (y_op op_addA os_add (y_cut (y_vr 1) y_ono (y_osm (y_vr 2))) (y_vr 3)) (y_cut (y_vr 1) (y_osm (y_op op_addA os_add (y_vr 2) y_int)) y_ono)) y_nil)))))))))
  (s_cons (s_set 5 sc__law_letters_holds.nd (y_frz (y_cat (y_vr 5) (y_frz (y_lst (y_cons (y_vr 3) (y_cons (y_op op_addA os_add (y_vr 3) (y_vr 1)) (y_cons (y_op op_addA os_add (y_vr 1) (y_vr 1)) (y_cons y_str (y_cons y_str (y_cons (y_op op_addA os_add y_str (y_vr 3)) (y_cons y_str (y_cons y_str y_nil)))))))))))))
  (s_cons (s_set 5 sc__law_letters_holds.nd (y_frz (y_cat (y_vr 5) (y_frz (y_lst (y_cons (y_bm mt_join ms_join PySem.F.plainAttrs_str PySem.F.slot_str_join PySem.F.type_str_join y_str (y_cons (y_fn C__law_shuffled (hr.mono (by first | decide | omega)) (takes_of rfl rfl rfl rfl) (y_cons (y_vr 0) (y_cons (y_op op_addA os_add (y_vr 1) (y_vr 4)) y_nil)) (len_cons (len_cons len_nil))) y_nil)) (y_cons (y_op op_addA os_add (y_op op_addA os_add (y_cut (y_vr 1) y_ono (y_osm (y_vr 2))) (y_vr 4)) (y_vr 3)) (y_cons (y_op op_mulA os_mulA y_str y_int) (y_cons (y_op op_mulA os_mulA (y_vr 1) y_int) y_nil)))))))))
  (s_cons (s_for (passes_of rfl) rfl (y_iter (y_frz (y_cat (y_frz (y_cat (y_vr 5) (y_fn C__law_odd_things (hr.mono (by first | decide | omega)) (takes_of rfl rfl rfl rfl) (y_cons (y_vr 0) (y_cons (y_vr 1) y_nil)) (len_cons (len_cons len_nil))))) (y_frz (y_lst (y_cons (y_vr 1) y_nil)))))) (g_name (ix := [6]) 6 sc__law_letters_holds.nd) (s_one (s_if (y_tnot (y_truth (y_fn C__law_same (hr.mono (by first | decide | omega)) (takes_of rfl rfl rfl rfl) (y_cons (y_fn C__law_told (hr.mono (by first | decide | omega)) (takes_of rfl rfl rfl rfl) (y_cons y_int (y_cons y_str (y_cons (y_vr 6) y_nil))) (len_cons (len_cons (len_cons len_nil)))) (y_cons (y_fn C__law_letters_due (hr.mono (by first | decide | omega)) (takes_of rfl rfl rfl rfl) (y_cons (y_vr 6) y_nil) (len_cons len_nil)) y_nil)) (len_cons (len_cons len_nil))))) (s_one (s_ret y_bl)) s_nil)))
  (s_one (s_ret y_bl)))))))))))
abbrev st__law_text : Stmt := topS 28
theorem sc__law_text : FnScope ["pool", "letters", "most", "signs", "lap"] ["pool", "letters", "most"] (defScope st__law_text) := ⟨rfl, rfl, rfl, by decide +kernel, rfl, by decide +kernel, by decide +kernel⟩
noncomputable def m__law_text : SM :=
  (seqS (asg (tgN 3) (compF (i_rg1 (lcons (cal M__law_draw (lcons (vr 0) (lcons (op2 o_add (vr 2) (ct (.int 1))) lnil))) lnil)) (tgN 4) yesT (op2 o_ix (vr 1) (cal M__law_draw (lcons (vr 0) (lcons (calB o_len (lcons (vr 1) lnil)) lnil)))) [4]))
  (retS (meth "str" m_join (ct (.str (Str.ofString ""))) (lcons (vr 3) lnil))))
@[irreducible] noncomputable def M__law_text : List D → Sto → Res D := fn 5 m__law_text
theorem ok__law_text (z : Zs P w K mg base) (F : Fu K mg "_law_text" st__law_text ["pool", "letters", "most"]) (C__law_draw : Cl P w K mg base "_law_draw" 1 ["pool", "many"] M__law_draw) : Cl P w K mg base "_law_text" 2 ["pool", "letters", "most"] M__law_text := by
  unfold M__law_text
  exact cl_fn (m := m__law_text) F sc__law_text rfl (fun f cdv A outer s H E hr =>
  (s_cons (s_setCompF (own := [("lap", 4)]) 3 rfl sc__law_text.nd rfl rfl (y_rg1 z.n_range (y_cons (y_fn C__law_draw (hr.mono (by first | decide | omega)) (takes_of rfl rfl rfl rfl) (y_cons (y_vr 0) (y_cons (y_op op_addA os_add (y_vr 2) y_int) y_nil)) (len_cons (len_cons len_nil))) y_nil)) (by rfl) (fun _ _ _ _ _ => (g_name (ix := [4]) 4 sc__law_text.nd)) (fun _ _ _ _ _ => y_yes) (fun _ _ _ _ _ => (y_ix ix_seq os_ix (y_vr 1) (y_fn C__law_draw (hr.mono (by first | decide | omega)) takes0 (y_cons (y_vr 0) (y_cons (y_callB call_len cs_len z.n_len PyProof.Rows.Boot.«len» (y_cons (y_vr 1) y_nil)) y_nil)) (len_cons (len_cons len_nil))) (fun _ _ => rfl))))
  (s_one (s_ret (y_bm mt_join ms_join PySem.F.plainAttrs_str PySem.F.slot_str_join PySem.F.type_str_join y_str (y_cons (y_vr 3) y_nil))))))
abbrev st__law_text_due : Stmt := topS 32
theorem sc__law_text_due : FnScope ["letters", "thing", "at"] ["letters", "thing"] (defScope st__law_text_due) := ⟨rfl, rfl, rfl, by decide +kernel, rfl, by decide +kernel, by decide +kernel⟩
noncomputable def m__law_text_due : SM :=
  (seqS (ifS (notT (trt (isiE "str" (vr 1)))) (retS (tupE (lcons (op1 o_neg (ct (.int 1))) (lcons (ct (.str (Str.ofString "shape"))) lnil)))) nxS)
  (seqS (ifS (asT (op2 o_gt (calB o_len (lcons (vr 1) lnil)) (ct (.int 300)))) (retS (tupE (lcons (op1 o_neg (ct (.int 1))) (lcons (ct (.str (Str.ofString "limit"))) lnil)))) nxS)
  (seqS (forS (i_rg1 (lcons (calB o_len (lcons (vr 1) lnil)) lnil)) (tgN 2) (ifS (asT (op2 (o_inS true) (op2 o_ix (vr 1) (vr 2)) (vr 0))) (retS (tupE (lcons (vr 2) (lcons (ct (.str (Str.ofString "letter"))) lnil)))) nxS))
  (retS (calB o_len (lcons (vr 1) lnil))))))
@[irreducible] noncomputable def M__law_text_due : List D → Sto → Res D := fn 3 m__law_text_due
theorem ok__law_text_due (z : Zs P w K mg base) (F : Fu K mg "_law_text_due" st__law_text_due ["letters", "thing"])  : Cl P w K mg base "_law_text_due" 1 ["letters", "thing"] M__law_text_due := by
  unfold M__law_text_due
  exact cl_fn (m := m__law_text_due) F sc__law_text_due rfl (fun f cdv A outer s H E hr =>
  (s_cons (s_if (y_tnot (y_truth (y_isi (T := "str") (by decide) (y_vr 1) z.n_isinstance z.n_str PyProof.Rows.Boot.«str»))) (s_one (s_ret (y_tup (y_cons (y_un un_neg us_neg y_int) (y_cons y_str y_nil))))) s_nil)
  (s_cons (s_if (y_tcmp op_gt os_cmp (y_callB call_len cs_len z.n_len PyProof.Rows.Boot.«len» (y_cons (y_vr 1) y_nil)) y_int) (s_one (s_ret (y_tup (y_cons (y_un un_neg us_neg y_int) (y_cons y_str y_nil))))) s_nil)
  (s_cons (s_for (passes_of rfl) rfl (y_rg1 z.n_range (y_cons (y_callB call_len cs_len z.n_len PyProof.Rows.Boot.«len» (y_cons (y_vr 1) y_nil)) y_nil)) (g_name (ix := [2]) 2 sc__law_text_due.nd) (s_one (s_if (y_tcmp op_notin_str os_ninS (y_ix ix_seq os_ix (y_vr 1) (y_vr 2) (fun _ _ => rfl)) (y_vr 0)) (s_one (s_ret (y_tup (y_cons (y_vr 2) (y_cons y_str y_nil))))) s_nil)))
  (s_one (s_ret (y_callB call_len cs_len z.n_len PyProof.Rows.Boot.«len» (y_cons (y_vr 1) y_nil))))))))
abbrev st__law_text_holds : Stmt := topS 39
theorem sc__law_text_holds : FnScope ["pool", "letters", "right", "strange", "sign", "at", "full", "late", "things", "thing"] ["pool"] (defScope st__law_text_holds) := ⟨rfl, rfl, rfl, by decide +kernel, rfl, by decide +kernel, by decide +kernel⟩
noncomputable def m__law_text_holds : SM :=
  (seqS (asg (tgN 1) (cal M__law_letters (lcons (vr 0) (lcons (op2 o_add (ct (.int 1)) (cal M__law_draw (lcons (vr 0) (lcons (ct (.int 6)) lnil)))) lnil))))
  (seqS (asg (tgN 2) (op2 o_add (cal M__law_text (lcons (vr 0) (lcons (vr 1) (lcons (ct (.int 12)) lnil)))) (op2 o_ix (vr 1) (ct (.int 0)))))
  (seqS (asg (tgN 3) (compF (i_of (ct (.str (Str.ofString "abcdefghijklmnopqrstuvwxyzAB0 ~-")))) (tgN 4) (asT (op2 (o_inS true) (vr 4) (vr 1))) (vr 4) [4]))
  (seqS (asg (tgN 4) (op2 o_ix (vr 3) (cal M__law_draw (lcons (vr 0) (lcons (calB o_len (lcons (vr 3) lnil)) lnil)))))
  (seqS (asg (tgN 5) (cal M__law_draw (lcons (vr 0) (lcons (calB o_len (lcons (vr 2) lnil)) lnil))))
  (seqS (asg (tgN 6) (cut o_cut (op2 o_mulA (vr 2) (ct (.int 300))) onoM (osmM (ct (.int 300)))))
  (seqS (asg (tgN 7) (op2 o_add (cut o_cut (vr 6) onoM (osmM (op2 o_sub (ct (.int 299)) (cal M__law_draw (lcons (vr 0) (lcons (ct (.int 3)) lnil)))))) (vr 4)))
  (seqS (asg (tgN 8) (frz (lstF (lcons (vr 2) (lcons (ct (.str (Str.ofString ""))) (lcons (vr 4) (lcons (op2 o_add (vr 2) (vr 4)) (lcons (op2 o_add (vr 4) (vr 2)) (lcons (op2 o_add (op2 o_add (cut o_cut (vr 2) onoM (osmM (vr 5))) (vr 4)) (cut o_cut (vr 2) (osmM (op2 o_add (vr 5) (ct (.int 1)))) onoM)) (lcons (vr 6) (lcons (op2 o_add (vr 6) (op2 o_ix (vr 1) (ct (.int 0)))) lnil)))))))))))
  (seqS (asg (tgN 8) (frz (catF (vr 8) (frz (lstF (lcons (vr 7) (lcons (op2 o_add (vr 7) (vr 2)) (lcons (op2 o_add (vr 6) (vr 4)) (lcons (op2 o_add (vr 2) (ct (.str (Str.ofString " ")))) (lcons (vr 1) (lcons (revA (vr 1)) (lcons (op2 o_mulA (vr 4) (ct (.int 301))) lnil))))))))))))
  (seqS (asg (tgN 8) (frz (catF (vr 8) (frz (lstF (lcons (op2 o_add (op2 o_add (op2 o_add (cut o_cut (vr 2) onoM (osmM (vr 5))) (vr 4)) (vr 4)) (cut o_cut (vr 2) (osmM (vr 5)) onoM)) lnil))))))
  (seqS (forS (i_of (frz (catF (frz (catF (vr 8) (cal M__law_odd_things (lcons (vr 0) (lcons (vr 2) lnil))))) (frz (lstF (lcons (vr 2) lnil)))))) (tgN 9) (ifS (notT (trt (cal M__law_same (lcons (cal M__law_told (lcons (ct (.int 1)) (lcons (vr 1) (lcons (vr 9) lnil)))) (lcons (cal M__law_text_due (lcons (vr 1) (lcons (vr 9) lnil))) lnil))))) (retS (ct (.bl false))) nxS))
  (retS (ct (.bl true))))))))))))))
@[irreducible] noncomputable def M__law_text_holds : List D → Sto → Res D := fn 10 m__law_text_holds
theorem ok__law_text_holds (z : Zs P w K mg base) (F : Fu K mg "_law_text_holds" st__law_text_holds ["pool"]) (C__law_draw : Cl P w K mg base "_law_draw" 1 ["pool", "many"] M__law_draw) (C__law_letters : Cl P w K mg base "_law_letters" 3 ["pool", "many"] M__law_letters) (C__law_odd_things : Cl P w K mg base "_law_odd_things" 2 ["pool", "right"] M__law_odd_things) (C__law_same : Cl P w K mg base "_law_same" 2 ["told", "due"] M__law_same) (C__law_told : Cl P w K mg base "_law_told" 6 ["what", "letters", "thing"] M__law_told) (C__law_text : Cl P w K mg base "_law_text" 2 ["pool", "letters", "most"] M__law_text) (C__law_text_due : Cl P w K mg base "_law_text_due" 1 ["letters", "thing"] M__law_text_due) : Cl P w K mg base "_law_text_holds" 7 ["pool"] M__law_text_holds := by
  unfold M__law_text_holds
  exact cl_fn (m := m__law_text_holds) F sc__law_text_holds rfl (fun f cdv A outer s H E hr =>
  (s_cons (s_set 1 sc__law_text_holds.nd (y_fn C__law_letters (hr.mono (by first | decide | omega)) (takes_of rfl rfl rfl rfl) (y_cons (y_vr 0) (y_cons (y_op op_addA os_add y_int (y_fn C__law_draw (hr.mono (by first | decide | omega)) (takes_of rfl rfl rfl rfl) (y_cons (y_vr 0) (y_cons y_int y_nil)) (len_cons (len_cons len_nil)))) y_nil)) (len_cons (len_cons len_nil))))
  (s_cons (s_set 2 sc__law_text_holds.nd (y_op op_addA os_add (y_fn C__law_text (hr.mono (by first | decide | omega)) (takes_of rfl rfl rfl rfl) (y_cons (y_vr 0) (y_cons (y_vr 1) (y_cons y_int y_nil))) (len_cons (len_cons (len_cons len_nil)))) (y_ix ix_seq os_ix (y_vr 1) y_int (fun _ _ => rfl))))
  (s_cons (s_setCompF (own := [("sign", 4)]) 3 rfl sc__law_text_holds.nd rfl rfl (y_iter y_str) (by rfl) (fun _ _ _ _ _ => (g_name (ix := [4]) 4 sc__law_text_holds.nd)) (fun _ _ _ _ _ => (y_tst (y_tcmp op_notin_str os_ninS (y_vr 4) (y_vr 1)))) (fun _ _ _ _ _ => (y_vr 4)))
  (s_cons (s_set 4 sc__law_text_holds.nd (y_ix ix_seq os_ix (y_vr 3) (y_fn C__law_draw (hr.mono (by first | decide | omega)) (takes_of rfl rfl rfl rfl) (y_cons (y_vr 0) (y_cons (y_callB call_len cs_len z.n_len PyProof.Rows.Boot.«len» (y_cons (y_vr 3) y_nil)) y_nil)) (len_cons (len_cons len_nil))) (fun _ _ => rfl)))
  (s_cons (s_set 5 sc__law_text_holds.nd (y_fn C__law_draw (hr.mono (by first | decide | omega)) (takes_of rfl rfl rfl rfl) (y_cons (y_vr 0) (y_cons (y_callB call_len cs_len z.n_len PyProof.Rows.Boot.«len» (y_cons (y_vr 2) y_nil)) y_nil)) (len_cons (len_cons len_nil))))
  (s_cons (s_set 6 sc__law_text_holds.nd (y_cut (y_op op_mulA os_mulA (y_vr 2) y_int) y_ono (y_osm y_int)))
  (s_cons (s_set 7 sc__law_text_holds.nd (y_op op_addA os_add (y_cut (y_vr 6) y_ono (y_osm (y_op op_sub os_sub y_int (y_fn C__law_draw (hr.mono (by first | decide | omega)) (takes_of rfl rfl rfl rfl) (y_cons (y_vr 0) (y_cons y_int y_nil)) (len_cons (len_cons len_nil)))))) (y_vr 4)))
  (s_cons (s_set 8 sc__law_text_holds.nd (y_frz (y_lst (y_cons (y_vr 2) (y_cons y_str (y_cons (y_vr 4) (y_cons (y_op op_addA os_add (y_vr 2) (y_vr 4)) (y_cons (y_op op_addA os_add (y_vr 4) (y_vr 2)) (y_cons (y_op op_addA os_add (y_op op_addA os_add (y_cut (y_vr 2) y_ono (y_osm (y_vr 5))) (y_vr 4)) (y_cut (y_vr 2) (y_osm (y_op op_addA os_add (y_vr 5) y_int)) y_ono)) (y_cons (y_vr 6) (y_cons (y_op op_addA os_add (y_vr 6) (y_ix ix_seq os_ix (y_vr 1) y_int (fun _ _ => rfl))) y_nil)))))))))))
  (s_cons (s_set 8 sc__law_text_holds.nd (y_frz (y_cat (y_vr 8) (y_frz (y_lst (y_cons (y_vr 7) (y_cons (y_op op_addA os_add (y_vr 7) (y_vr 2)) (y_cons (y_op op_addA os_add (y_vr 6) (y_vr 4)) (y_cons (y_op op_addA os_add (y_vr 2) y_str) (y_cons (y_vr 1) (y_cons (y_revA (y_vr 1)) (y_cons (y_op op_mulA os_mulA (y_vr 4) y_int) y_nil))))))))))))
  (s_cons (s_set 8 sc__law_text_holds.nd (y_frz (y_cat (y_vr 8) (y_frz (y_lst (y_cons (y_op op_addA os_add (y_op op_addA os_add (y_op op_addA os_add (y_cut (y_vr 2) y_ono (y_osm (y_vr 5))) (y_vr 4)) (y_vr 4)) (y_cut (y_vr 2) (y_osm (y_vr 5)) y_ono)) y_nil))))))
  (s_cons (s_for (passes_of rfl) rfl (y_iter (y_frz (y_cat (y_frz (y_cat (y_vr 8) (y_fn C__law_odd_things (hr.mono (by first | decide | omega)) (takes_of rfl rfl rfl rfl) (y_cons (y_vr 0) (y_cons (y_vr 2) y_nil)) (len_cons (len_cons len_nil))))) (y_frz (y_lst (y_cons (y_vr 2) y_nil)))))) (g_name (ix := [9]) 9 sc__law_text_holds.nd) (s_one (s_if (y_tnot (y_truth (y_fn C__law_same (hr.mono (by first | decide | omega)) (takes_of rfl rfl rfl rfl) (y_cons (y_fn C__law_told (hr.mono (by first | decide | omega)) (takes_of rfl rfl rfl rfl) (y_cons y_int (y_cons (y_vr 1) (y_cons (y_vr 9) y_nil))) (len_cons (len_cons (len_cons len_nil)))) (y_cons (y_fn C__law_text_due (hr.mono (by first | decide | omega)) (takes_of rfl rfl rfl rfl) (y_cons (y_vr 1) (y_cons (y_vr 9) y_nil)) (len_cons (len_cons len_nil))) y_nil)) (len_cons (len_cons len_nil))))) (s_one (s_ret y_bl)) s_nil)))
  (s_one (s_ret y_bl))))))))))))))
abbrev st__law_book : Stmt := topS 29
theorem sc__law_book : FnScope ["pool", "letters", "many", "most", "edits", "lap", "read", "write"] ["pool", "letters", "many", "most"] (defScope st__law_book) := ⟨rfl, rfl, rfl, by decide +kernel, rfl, by decide +kernel, by decide +kernel⟩
noncomputable def m__law_book : SM :=
  (seqS (asg (tgN 4) (newD (.dT [])))
  (seqS (forS (i_rg1 (lcons (vr 2) lnil)) (tgN 5) (seqS (asg (tgN 6) (cal M__law_text (lcons (vr 0) (lcons (vr 1) (lcons (op2 o_ix (frz (lstF (lcons (ct (.int 1)) (lcons (ct (.int 1)) (lcons (ct (.int 2)) (lcons (ct (.int 3)) lnil)))))) (cal M__law_draw (lcons (vr 0) (lcons (ct (.int 4)) lnil)))) lnil)))))
  (seqS (asg (tgN 7) (cal M__law_text (lcons (vr 0) (lcons (vr 1) (lcons (op2 o_ix (frz (lstF (lcons (ct (.int 1)) (lcons (ct (.int 1)) (lcons (ct (.int 2)) (lcons (ct (.int 3)) lnil)))))) (cal M__law_draw (lcons (vr 0) (lcons (ct (.int 4)) lnil)))) lnil)))))
  (ifS (asT (op2 o_ne (vr 6) (vr 7))) (putT (op2 o_add (ct (.int 1)) (cal M__law_draw (lcons (vr 0) (lcons (vr 3) lnil)))) (vr 4) (lcons (vr 6) (lcons (vr 7) lnil))) nxS))))
  (retS (tupE (lcons (vr 1) (lcons (calB o_tupleA (lcons (compF (i_of (frz (calF o_sortedT (lcons (vr 4) lnil)))) (tgT [(tgN 6), (tgN 7)]) yesT (tupE (lcons (vr 6) (lcons (vr 7) (lcons (itemT (vr 4) (lcons (vr 6) (lcons (vr 7) lnil))) lnil)))) [6, 7]) lnil)) lnil))))))
@[irreducible] noncomputable def M__law_book : List D → Sto → Res D := fn 8 m__law_book
theorem ok__law_book (z : Zs P w K mg base) (F : Fu K mg "_law_book" st__law_book ["pool", "letters", "many", "most"]) (C__law_draw : Cl P w K mg base "_law_draw" 1 ["pool", "many"] M__law_draw) (C__law_text : Cl P w K mg base "_law_text" 2 ["pool", "letters", "most"] M__law_text) : Cl P w K mg base "_law_book" 3 ["pool", "letters", "many", "most"] M__law_book := by
  unfold M__law_book
  exact cl_fn (m := m__law_book) F sc__law_book rfl (fun f cdv A outer s H E hr =>
  (s_cons (s_set 4 sc__law_book.nd y_newT)
  (s_cons (s_for (passes_of rfl) rfl (y_rg1 z.n_range (y_cons (y_vr 2) y_nil)) (g_name (ix := [5]) 5 sc__law_book.nd) (s_cons (s_set 6 sc__law_book.nd (y_fn C__law_text (hr.mono (by first | decide | omega)) (takes_of rfl rfl rfl rfl) (y_cons (y_vr 0) (y_cons (y_vr 1) (y_cons (y_ix ix_seq os_ix (y_frz (y_lst (y_cons y_int (y_cons y_int (y_cons y_int (y_cons y_int y_nil)))))) (y_fn C__law_draw (hr.mono (by first | decide | omega)) (takes_of rfl rfl rfl rfl) (y_cons (y_vr 0) (y_cons y_int y_nil)) (len_cons (len_cons len_nil))) (fun _ _ => rfl)) y_nil))) (len_cons (len_cons (len_cons len_nil)))))
  (s_cons (s_set 7 sc__law_book.nd (y_fn C__law_text (hr.mono (by first | decide | omega)) (takes_of rfl rfl rfl rfl) (y_cons (y_vr 0) (y_cons (y_vr 1) (y_cons (y_ix ix_seq os_ix (y_frz (y_lst (y_cons y_int (y_cons y_int (y_cons y_int (y_cons y_int y_nil)))))) (y_fn C__law_draw (hr.mono (by first | decide | omega)) (takes_of rfl rfl rfl rfl) (y_cons (y_vr 0) (y_cons y_int y_nil)) (len_cons (len_cons len_nil))) (fun _ _ => rfl)) y_nil))) (len_cons (len_cons (len_cons len_nil)))))
  (s_one (s_if (y_tcmp (op_neD (hu64 hr)) os_ne (y_vr 6) (y_vr 7)) (s_one (s_putT (hu1 hr) (y_op op_addA os_add y_int (y_fn C__law_draw (hr.mono (by first | decide | omega)) (takes_of rfl rfl rfl rfl) (y_cons (y_vr 0) (y_cons (y_vr 3) y_nil)) (len_cons (len_cons len_nil)))) (y_vr 4) (y_cons (y_vr 6) (y_cons (y_vr 7) y_nil)))) s_nil)))))
  (s_one (s_ret (y_tup (y_cons (y_vr 1) (y_cons (y_callTy (cr_tupA rfl) cs_tupA z.n_tuple PyProof.Rows.Boot.«tuple» (y_cons (y_compF (own := [("read", 6), ("write", 7)]) rfl sc__law_book.nd (y_iter (y_frz (y_callBF (cr_sortT rfl (hu200 hr)) cf_sortedT z.n_sorted PyProof.Rows.Boot.«sorted» (y_cons (y_vr 4) y_nil)))) (by rfl) (fun _ _ _ _ _ => (g_tup rfl (g_cons (g_name (ix := [6, 7]) 6 sc__law_book.nd) (g_cons (g_name (ix := [6, 7]) 7 sc__law_book.nd) g_nil)))) (fun _ _ _ _ _ => y_yes) (fun _ _ _ _ _ => (y_tup (y_cons (y_vr 6) (y_cons (y_vr 7) (y_cons (y_itemT (hu1 hr) (y_vr 4) (y_cons (y_vr 6) (y_cons (y_vr 7) y_nil))) y_nil)))))) y_nil)) y_nil))))))))
abbrev st__law_edit_fault : Stmt := topS 33
theorem sc__law_edit_fault : FnScope ["letters", "edit", "ahead", "text", "sign"] ["letters", "edit", "ahead"] (defScope st__law_edit_fault) := ⟨rfl, rfl, rfl, by decide +kernel, rfl, by decide +kernel, by decide +kernel⟩
noncomputable def m__law_edit_fault : SM :=
  (seqS (ifS (orT (notT (trt (isiE "tuple" (vr 1)))) (asT (op2 o_ne (calB o_len (lcons (vr 1) lnil)) (ct (.int 3))))) (retS (ct (.str (Str.ofString "shape")))) nxS)
  (seqS (ifS (orT (notT (trt (isiE "str" (op2 o_ix (vr 1) (ct (.int 0)))))) (orT (notT (trt (isiE "str" (op2 o_ix (vr 1) (ct (.int 1)))))) (notT (trt (cal M__law_is_whole (lcons (op2 o_ix (vr 1) (ct (.int 2))) lnil)))))) (retS (ct (.str (Str.ofString "shape")))) nxS)
  (seqS (forS (i_of (cut o_cut (vr 1) onoM (osmM (ct (.int 2))))) (tgN 3) (ifS (orT (asT (op2 o_gt (calB o_len (lcons (vr 3) lnil)) (ct (.int 3)))) (asT (op2 o_gt (calB o_len (lcons (compF (i_of (vr 3)) (tgN 4) (asT (op2 (o_inS true) (vr 4) (vr 0))) (vr 4) [4]) lnil)) (ct (.int 0))))) (retS (ct (.str (Str.ofString "text")))) nxS))
  (seqS (ifS (asT (op2 o_eq (op2 o_ix (vr 1) (ct (.int 0))) (op2 o_ix (vr 1) (ct (.int 1))))) (retS (ct (.str (Str.ofString "like")))) nxS)
  (seqS (ifS (orT (asT (op2 o_lt (op2 o_ix (vr 1) (ct (.int 2))) (ct (.int 1)))) (asT (op2 o_gt (op2 o_ix (vr 1) (ct (.int 2))) (ct (.int 1000))))) (retS (ct (.str (Str.ofString "cost")))) nxS)
  (seqS (ifS (andT (asT (op2 o_isnot (vr 2) (ct .non))) (orT (asT (op2 o_le (vr 1) (vr 2))) (asT (op2 o_eq (cut o_cut (vr 1) onoM (osmM (ct (.int 2)))) (cut o_cut (vr 2) onoM (osmM (ct (.int 2)))))))) (retS (ct (.str (Str.ofString "order")))) nxS)
  (retS (ct (.str (Str.ofString ""))))))))))
@[irreducible] noncomputable def M__law_edit_fault : List D → Sto → Res D := fn 5 m__law_edit_fault
theorem ok__law_edit_fault (z : Zs P w K mg base) (F : Fu K mg "_law_edit_fault" st__law_edit_fault ["letters", "edit", "ahead"]) (C__law_is_whole : Cl P w K mg base "_law_is_whole" 1 ["thing"] M__law_is_whole) : Cl P w K mg base "_law_edit_fault" 2 ["letters", "edit", "ahead"] M__law_edit_fault := by
  unfold M__law_edit_fault
  exact cl_fn (m := m__law_edit_fault) F sc__law_edit_fault rfl (fun f cdv A outer s H E hr =>
  (s_cons (s_if ((y_tor (y_tnot (y_truth (y_isi (T := "tuple") (by decide) (y_vr 1) z.n_isinstance z.n_tuple PyProof.Rows.Boot.«tuple»))) (y_tor1 (y_tcmp (op_neD (hu64 hr)) os_ne (y_callB call_len cs_len z.n_len PyProof.Rows.Boot.«len» (y_cons (y_vr 1) y_nil)) y_int)))).pt (s_one (s_ret y_str)) s_nil)
  (s_cons (s_if ((y_tor (y_tnot (y_truth (y_isi (T := "str") (by decide) (y_ix ix_seq os_ix (y_vr 1) y_int (fun _ _ => rfl)) z.n_isinstance z.n_str PyProof.Rows.Boot.«str»))) (y_tor (y_tnot (y_truth (y_isi (T := "str") (by decide) (y_ix ix_seq os_ix (y_vr 1) y_int (fun _ _ => rfl)) z.n_isinstance z.n_str PyProof.Rows.Boot.«str»))) (y_tor1 (y_tnot (y_truth (y_fn C__law_is_whole (hr.mono (by first | decide | omega)) (takes_of rfl rfl rfl rfl) (y_cons (y_ix ix_seq os_ix (y_vr 1) y_int (fun _ _ => rfl)) y_nil) (len_cons len_nil)))))))).pt (s_one (s_ret y_str)) s_nil)
  (s_cons (s_for (passes_of rfl) rfl (y_iter (y_cut (y_vr 1) y_ono (y_osm y_int))) (g_name (ix := [3]) 3 sc__law_edit_fault.nd) (s_one (s_if ((y_tor (y_tcmp op_gt os_cmp (y_callB call_len cs_len z.n_len PyProof.Rows.Boot.«len» (y_cons (y_vr 3) y_nil)) y_int) (y_tor1 (y_tcmp op_gt os_cmp (y_callB call_len cs_len z.n_len PyProof.Rows.Boot.«len» (y_cons (y_compF (own := [("sign", 4)]) rfl sc__law_edit_fault.nd (y_iter (y_vr 3)) (by rfl) (fun _ _ _ _ _ => (g_name (ix := [4]) 4 sc__law_edit_fault.nd)) (fun _ _ _ _ _ => (y_tst (y_tcmp op_notin_str os_ninS (y_vr 4) (y_vr 0)))) (fun _ _ _ _ _ => (y_vr 4))) y_nil)) y_int)))).pt (s_one (s_ret y_str)) s_nil)))
  (s_cons (s_if (y_tcmp (op_eqD (hu64 hr)) os_eq (y_ix ix_seq os_ix (y_vr 1) y_int (fun _ _ => rfl)) (y_ix ix_seq os_ix (y_vr 1) y_int (fun _ _ => rfl))) (s_one (s_ret y_str)) s_nil)
  (s_cons (s_if ((y_tor (y_tcmp op_lt os_cmp (y_ix ix_seq os_ix (y_vr 1) y_int (fun _ _ => rfl)) y_int) (y_tor1 (y_tcmp op_gt os_cmp (y_ix ix_seq os_ix (y_vr 1) y_int (fun _ _ => rfl)) y_int)))).pt (s_one (s_ret y_str)) s_nil)
  (s_cons (s_if ((y_tand (y_tcmp op_notN os_isnot (y_vr 2) y_non) (y_tand1 ((y_tor (y_tcmp (op_leA (hu0 hr)) os_le (y_vr 1) (y_vr 2)) (y_tor1 (y_tcmp (op_eqD (hu64 hr)) os_eq (y_cut (y_vr 1) y_ono (y_osm y_int)) (y_cut (y_vr 2) y_ono (y_osm y_int)))))).pt))).pt (s_one (s_ret y_str)) s_nil)
  (s_one (s_ret y_str)))))))))
abbrev st__law_book_due : Stmt := topS 34
theorem sc__law_book_due : FnScope ["thing", "ahead", "at", "word"] ["thing"] (defScope st__law_book_due) := ⟨rfl, rfl, rfl, by decide +kernel, rfl, by decide +kernel, by decide +kernel⟩
noncomputable def m__law_book_due : SM :=
  (seqS (ifS (orT (notT (trt (isiE "tuple" (vr 0)))) (asT (op2 o_ne (calB o_len (lcons (vr 0) lnil)) (ct (.int 2))))) (retS (tupE (lcons (op1 o_neg (ct (.int 1))) (lcons (ct (.str (Str.ofString "shape"))) lnil)))) nxS)
  (seqS (ifS (orT (notT (trt (isiE "str" (op2 o_ix (vr 0) (ct (.int 0)))))) (notT (trt (isiE "tuple" (op2 o_ix (vr 0) (ct (.int 1))))))) (retS (tupE (lcons (op1 o_neg (ct (.int 1))) (lcons (ct (.str (Str.ofString "shape"))) lnil)))) nxS)
  (seqS (ifS (notT (trt (cal M__law_is_whole (lcons (cal M__law_letters_due (lcons (op2 o_ix (vr 0) (ct (.int 0))) lnil)) lnil)))) (retS (tupE (lcons (op1 o_neg (ct (.int 1))) (lcons (ct (.str (Str.ofString "letters"))) lnil)))) nxS)
  (seqS (ifS (asT (op2 o_gt (calB o_len (lcons (op2 o_ix (vr 0) (ct (.int 1))) lnil)) (ct (.int 60)))) (retS (tupE (lcons (op1 o_neg (ct (.int 1))) (lcons (ct (.str (Str.ofString "limit"))) lnil)))) nxS)
  (seqS (asg (tgN 1) (ct .non))
  (seqS (forS (i_rg1 (lcons (calB o_len (lcons (op2 o_ix (vr 0) (ct (.int 1))) lnil)) lnil)) (tgN 2) (seqS (asg (tgN 3) (cal M__law_edit_fault (lcons (op2 o_ix (vr 0) (ct (.int 0))) (lcons (op2 o_ix (op2 o_ix (vr 0) (ct (.int 1))) (vr 2)) (lcons (vr 1) lnil)))))
  (seqS (ifS (asT (op2 o_ne (vr 3) (ct (.str (Str.ofString ""))))) (retS (tupE (lcons (vr 2) (lcons (vr 3) lnil)))) nxS)
  (asg (tgN 1) (op2 o_ix (op2 o_ix (vr 0) (ct (.int 1))) (vr 2))))))
  (retS (calB o_len (lcons (op2 o_ix (vr 0) (ct (.int 1))) lnil)))))))))
@[irreducible] noncomputable def M__law_book_due : List D → Sto → Res D := fn 4 m__law_book_due
theorem ok__law_book_due (z : Zs P w K mg base) (F : Fu K mg "_law_book_due" st__law_book_due ["thing"]) (C__law_is_whole : Cl P w K mg base "_law_is_whole" 1 ["thing"] M__law_is_whole) (C__law_letters_due : Cl P w K mg base "_law_letters_due" 1 ["thing"] M__law_letters_due) (C__law_edit_fault : Cl P w K mg base "_law_edit_fault" 2 ["letters", "edit", "ahead"] M__law_edit_fault) : Cl P w K mg base "_law_book_due" 3 ["thing"] M__law_book_due := by
  unfold M__law_book_due
  exact cl_fn (m := m__law_book_due) F sc__law_book_due rfl (fun f cdv A outer s H E hr =>
  (s_cons (s_if ((y_tor (y_tnot (y_truth (y_isi (T := "tuple") (by decide) (y_vr 0) z.n_isinstance z.n_tuple PyProof.Rows.Boot.«tuple»))) (y_tor1 (y_tcmp (op_neD (hu64 hr)) os_ne (y_callB call_len cs_len z.n_len PyProof.Rows.Boot.«len» (y_cons (y_vr 0) y_nil)) y_int)))).pt (s_one (s_ret (y_tup (y_cons (y_un un_neg us_neg y_int) (y_cons y_str y_nil))))) s_nil)
  (s_cons (s_if ((y_tor (y_tnot (y_truth (y_isi (T := "str") (by decide) (y_ix ix_seq os_ix (y_vr 0) y_int (fun _ _ => rfl)) z.n_isinstance z.n_str PyProof.Rows.Boot.«str»))) (y_tor1 (y_tnot (y_truth (y_isi (T := "tuple") (by decide) (y_ix ix_seq os_ix (y_vr 0) y_int (fun _ _ => rfl)) z.n_isinstance z.n_tuple PyProof.Rows.Boot.«tuple»)))))).pt (s_one (s_ret (y_tup (y_cons (y_un un_neg us_neg y_int) (y_cons y_str y_nil))))) s_nil)
  (s_cons (s_if (y_tnot (y_truth (y_fn C__law_is_whole (hr.mono (by first | decide | omega)) (takes_of rfl rfl rfl rfl) (y_cons (y_fn C__law_letters_due (hr.mono (by first | decide | omega)) (takes_of rfl rfl rfl rfl) (y_cons (y_ix ix_seq os_ix (y_vr 0) y_int (fun _ _ => rfl)) y_nil) (len_cons len_nil)) y_nil) (len_cons len_nil)))) (s_one (s_ret (y_tup (y_cons (y_un un_neg us_neg y_int) (y_cons y_str y_nil))))) s_nil)
  (s_cons (s_if (y_tcmp op_gt os_cmp (y_callB call_len cs_len z.n_len PyProof.Rows.Boot.«len» (y_cons (y_ix ix_seq os_ix (y_vr 0) y_int (fun _ _ => rfl)) y_nil)) y_int) (s_one (s_ret (y_tup (y_cons (y_un un_neg us_neg y_int) (y_cons y_str y_nil))))) s_nil)
  (s_cons (s_set 1 sc__law_book_due.nd y_non)
  (s_cons (s_for (passes_of rfl) rfl (y_rg1 z.n_range (y_cons (y_callB call_len cs_len z.n_len PyProof.Rows.Boot.«len» (y_cons (y_ix ix_seq os_ix (y_vr 0) y_int (fun _ _ => rfl)) y_nil)) y_nil)) (g_name (ix := [2]) 2 sc__law_book_due.nd) (s_cons (s_set 3 sc__law_book_due.nd (y_fn C__law_edit_fault (hr.mono (by first | decide | omega)) (takes_of rfl rfl rfl rfl) (y_cons (y_ix ix_seq os_ix (y_vr 0) y_int (fun _ _ => rfl)) (y_cons (y_ix ix_seq os_ix (y_ix ix_seq os_ix (y_vr 0) y_int (fun _ _ => rfl)) (y_vr 2) (fun _ _ => rfl)) (y_cons (y_vr 1) y_nil))) (len_cons (len_cons (len_cons len_nil)))))
  (s_cons (s_if (y_tcmp (op_neD (hu64 hr)) os_ne (y_vr 3) y_str) (s_one (s_ret (y_tup (y_cons (y_vr 2) (y_cons (y_vr 3) y_nil))))) s_nil)
  (s_one (s_set 1 sc__law_book_due.nd (y_ix ix_seq os_ix (y_ix ix_seq os_ix (y_vr 0) y_int (fun _ _ => rfl)) (y_vr 2) (fun _ _ => rfl)))))))
  (s_one (s_ret (y_callB call_len cs_len z.n_len PyProof.Rows.Boot.«len» (y_cons (y_ix ix_seq os_ix (y_vr 0) y_int (fun _ _ => rfl)) y_nil)))))))))))
abbrev st__law_bent_edit : Stmt := topS 40
theorem sc__law_bent_edit : FnScope ["pool", "letters", "edit", "read", "write", "cost", "strange", "long", "rows", "sign"] ["pool", "letters", "edit"] (defScope st__law_bent_edit) := ⟨rfl, rfl, rfl, by decide +kernel, rfl, by decide +kernel, by decide +kernel⟩
noncomputable def m__law_bent_edit : SM :=
  (seqS (asg (tgT [(tgN 3), (tgN 4), (tgN 5)]) (vr 2))
  (seqS (asg (tgN 6) (op2 o_ix (compF (i_of (ct (.str (Str.ofString "azmkAQ9 ")))) (tgN 9) (asT (op2 (o_inS true) (vr 9) (vr 1))) (vr 9) [9]) (ct (.int 0))))
  (seqS (asg (tgN 7) (cut o_cut (op2 o_mulA (vr 1) (ct (.int 4))) onoM (osmM (ct (.int 4)))))
  (seqS (asg (tgN 8) (frz (lstF (lcons (frz (lstF (lcons (vr 3) (lcons (vr 4) (lcons (vr 5) lnil))))) (lcons (tupE (lcons (vr 3) (lcons (vr 4) lnil))) (lcons (tupE (lcons (vr 3) (lcons (vr 4) (lcons (vr 5) (lcons (vr 5) lnil))))) (lcons (tupE (lcons (vr 3) (lcons (vr 4) (lcons (ct .non) lnil)))) (lcons (tupE (lcons (vr 3) (lcons (vr 4) (lcons (ct (.bl true)) lnil)))) lnil))))))))
  (seqS (asg (tgN 8) (frz (catF (vr 8) (frz (lstF (lcons (tupE (lcons (vr 3) (lcons (ct .non) (lcons (vr 5) lnil)))) (lcons (tupE (lcons (ct (.int 0)) (lcons (vr 4) (lcons (vr 5) lnil)))) (lcons (tupE (lcons (vr 3) (lcons (vr 4) (lcons (calB o_str (lcons (vr 5) lnil)) lnil)))) (lcons (tupE (lcons (vr 5) (lcons (vr 3) (lcons (vr 4) lnil)))) (lcons (ct .non) (lcons (ct (.str (Str.ofString "abc"))) (lcons (tupE lnil) lnil))))))))))))
  (seqS (asg (tgN 8) (frz (catF (vr 8) (frz (lstF (lcons (tupE (lcons (vr 7) (lcons (vr 4) (lcons (vr 5) lnil)))) (lcons (tupE (lcons (vr 3) (lcons (vr 7) (lcons (vr 5) lnil)))) (lcons (tupE (lcons (vr 6) (lcons (vr 4) (lcons (vr 5) lnil)))) (lcons (tupE (lcons (vr 3) (lcons (op2 o_add (vr 6) (vr 4)) (lcons (vr 5) lnil)))) lnil)))))))))
  (seqS (asg (tgN 8) (frz (catF (vr 8) (frz (lstF (lcons (tupE (lcons (vr 3) (lcons (vr 3) (lcons (vr 5) lnil)))) (lcons (tupE (lcons (vr 4) (lcons (vr 4) (lcons (ct (.int 0)) lnil)))) (lcons (tupE (lcons (vr 3) (lcons (vr 4) (lcons (ct (.int 0)) lnil)))) (lcons (tupE (lcons (vr 3) (lcons (vr 4) (lcons (ct (.int 1001)) lnil)))) (lcons (tupE (lcons (vr 3) (lcons (vr 4) (lcons (op1 o_neg (vr 5)) lnil)))) lnil))))))))))
  (seqS (asg (tgN 8) (frz (catF (vr 8) (frz (lstF (lcons (tupE (lcons (vr 7) (lcons (vr 7) (lcons (vr 5) lnil)))) (lcons (tupE (lcons (vr 3) (lcons (vr 3) (lcons (ct (.int 1001)) lnil)))) (lcons (tupE (lcons (vr 6) (lcons (vr 6) (lcons (ct (.int 0)) lnil)))) (lcons (tupE (lcons (vr 3) (lcons (vr 4) (lcons (op2 o_pow (ct (.int 10)) (ct (.int 30))) lnil)))) lnil)))))))))
  (seqS (asg (tgN 8) (frz (catF (vr 8) (frz (lstF (lcons (tupE (lcons (vr 7) (lcons (vr 4) (lcons (ct (.int 0)) lnil)))) lnil))))))
  (retS (op2 o_ix (vr 8) (cal M__law_draw (lcons (vr 0) (lcons (calB o_len (lcons (vr 8) lnil)) lnil))))))))))))))
@[irreducible] noncomputable def M__law_bent_edit : List D → Sto → Res D := fn 10 m__law_bent_edit
theorem ok__law_bent_edit (z : Zs P w K mg base) (F : Fu K mg "_law_bent_edit" st__law_bent_edit ["pool", "letters", "edit"]) (C__law_draw : Cl P w K mg base "_law_draw" 1 ["pool", "many"] M__law_draw) : Cl P w K mg base "_law_bent_edit" 2 ["pool", "letters", "edit"] M__law_bent_edit := by
  unfold M__law_bent_edit
  exact cl_fn (m := m__law_bent_edit) F sc__law_bent_edit rfl (fun f cdv A outer s H E hr =>
  (s_cons (s_asg (y_vr 2) (g_tup rfl (g_cons (g_name (ix := [3, 4, 5]) 3 sc__law_bent_edit.nd) (g_cons (g_name (ix := [3, 4, 5]) 4 sc__law_bent_edit.nd) (g_cons (g_name (ix := [3, 4, 5]) 5 sc__law_bent_edit.nd) g_nil)))))
  (s_cons (s_set 6 sc__law_bent_edit.nd (y_ix ix_seq os_ix (y_compF (own := [("sign", 9)]) rfl sc__law_bent_edit.nd (y_iter y_str) (by rfl) (fun _ _ _ _ _ => (g_name (ix := [9]) 9 sc__law_bent_edit.nd)) (fun _ _ _ _ _ => (y_tst (y_tcmp op_notin_str os_ninS (y_vr 9) (y_vr 1)))) (fun _ _ _ _ _ => (y_vr 9))) y_int (fun _ _ => rfl)))
  (s_cons (s_set 7 sc__law_bent_edit.nd (y_cut (y_op op_mulA os_mulA (y_vr 1) y_int) y_ono (y_osm y_int)))
  (s_cons (s_set 8 sc__law_bent_edit.nd (y_frz (y_lst (y_cons (y_frz (y_lst (y_cons (y_vr 3) (y_cons (y_vr 4) (y_cons (y_vr 5) y_nil))))) (y_cons (y_tup (y_cons (y_vr 3) (y_cons (y_vr 4) y_nil))) (y_cons (y_tup (y_cons (y_vr 3) (y_cons (y_vr 4) (y_cons (y_vr 5) (y_cons (y_vr 5) y_nil))))) (y_cons (y_tup (y_cons (y_vr 3) (y_cons (y_vr 4) (y_cons y_non y_nil)))) (y_cons (y_tup (y_cons (y_vr 3) (y_cons (y_vr 4) (y_cons y_bl y_nil)))) y_nil))))))))
  (s_cons (s_set 8 sc__law_bent_edit.nd (y_frz (y_cat (y_vr 8) (y_frz (y_lst (y_cons (y_tup (y_cons (y_vr 3) (y_cons y_non (y_cons (y_vr 5) y_nil)))) (y_cons (y_tup (y_cons y_int (y_cons (y_vr 4) (y_cons (y_vr 5) y_nil)))) (y_cons (y_tup (y_cons (y_vr 3) (y_cons (y_vr 4) (y_cons (y_callTy call_str_int cs_str z.n_str PyProof.Rows.Boot.«str» (y_cons (y_vr 5) y_nil)) y_nil)))) (y_cons (y_tup (y_cons (y_vr 5) (y_cons (y_vr 3) (y_cons (y_vr 4) y_nil)))) (y_cons y_non (y_cons y_str (y_cons (y_tup y_nil) y_nil))))))))))))
  (s_cons (s_set 8 sc__law_bent_edit.nd (y_frz (y_cat (y_vr 8) (y_frz (y_lst (y_cons (y_tup (y_cons (y_vr 7) (y_cons (y_vr 4) (y_cons (y_vr 5) y_nil)))) (y_cons (y_tup (y_cons (y_vr 3) (y_cons (y_vr 7) (y_cons (y_vr 5) y_nil)))) (y_cons (y_tup (y_cons (y_vr 6) (y_cons (y_vr 4) (y_cons (y_vr 5) y_nil)))) (y_cons (y_tup (y_cons (y_vr 3) (y_cons (y_op op_addA os_add (y_vr 6) (y_vr 4)) (y_cons (y_vr 5) y_nil)))) y_nil)))))))))
  (s_cons (s_set 8 sc__law_bent_edit.nd (y_frz (y_cat (y_vr 8) (y_frz (y_lst (y_cons (y_tup (y_cons (y_vr 3) (y_cons (y_vr 3) (y_cons (y_vr 5) y_nil)))) (y_cons (y_tup (y_cons (y_vr 4) (y_cons (y_vr 4) (y_cons y_int y_nil)))) (y_cons (y_tup (y_cons (y_vr 3) (y_cons (y_vr 4) (y_cons y_int y_nil)))) (y_cons (y_tup (y_cons (y_vr 3) (y_cons (y_vr 4) (y_cons y_int y_nil)))) (y_cons (y_tup (y_cons (y_vr 3) (y_cons (y_vr 4) (y_cons (y_un un_neg us_neg (y_vr 5)) y_nil)))) y_nil))))))))))
  (s_cons (s_set 8 sc__law_bent_edit.nd (y_frz (y_cat (y_vr 8) (y_frz (y_lst (y_cons (y_tup (y_cons (y_vr 7) (y_cons (y_vr 7) (y_cons (y_vr 5) y_nil)))) (y_cons (y_tup (y_cons (y_vr 3) (y_cons (y_vr 3) (y_cons y_int y_nil)))) (y_cons (y_tup (y_cons (y_vr 6) (y_cons (y_vr 6) (y_cons y_int y_nil)))) (y_cons (y_tup (y_cons (y_vr 3) (y_cons (y_vr 4) (y_cons (y_op op_pow os_pow y_int y_int) y_nil)))) y_nil)))))))))
  (s_cons (s_set 8 sc__law_bent_edit.nd (y_frz (y_cat (y_vr 8) (y_frz (y_lst (y_cons (y_tup (y_cons (y_vr 7) (y_cons (y_vr 4) (y_cons y_int y_nil)))) y_nil))))))
  (s_one (s_ret (y_ix ix_seq os_ix (y_vr 8) (y_fn C__law_draw (hr.mono (by first | decide | omega)) (takes_of rfl rfl rfl rfl) (y_cons (y_vr 0) (y_cons (y_callB call_len cs_len z.n_len PyProof.Rows.Boot.«len» (y_cons (y_vr 8) y_nil)) y_nil)) (len_cons (len_cons len_nil))) (fun _ _ => rfl))))))))))))))
abbrev st__law_book_holds : Stmt := topS 41
theorem sc__law_book_holds : FnScope ["pool", "many", "letters", "right", "edits", "more", "things", "at", "read", "write", "cost", "head", "tail", "lap", "two", "other", "thing"] ["pool", "many"] (defScope st__law_book_holds) := ⟨rfl, rfl, rfl, by decide +kernel, rfl, by decide +kernel, by decide +kernel⟩
noncomputable def m__law_book_holds : SM :=
  (seqS (asg (tgN 2) (cal M__law_letters (lcons (vr 0) (lcons (op2 o_add (ct (.int 1)) (cal M__law_draw (lcons (vr 0) (lcons (ct (.int 6)) lnil)))) lnil))))
  (seqS (asg (tgN 3) (cal M__law_book (lcons (vr 0) (lcons (vr 2) (lcons (vr 1) (lcons (op2 o_ix (frz (lstF (lcons (ct (.int 3)) (lcons (ct (.int 1000)) lnil)))) (cal M__law_draw (lcons (vr 0) (lcons (ct (.int 2)) lnil)))) lnil))))))
  (seqS (asg (tgN 4) (op2 o_ix (vr 3) (ct (.int 1))))
  (seqS (asg (tgN 5) (cal M__law_letters (lcons (vr 0) (lcons (ct (.int 6)) lnil))))
  (seqS (asg (tgN 6) (new (lstF (lcons (vr 3) (lcons (tupE (lcons (vr 2) (lcons (tupE lnil) lnil))) (lcons (frz (calF o_listA (lcons (vr 3) lnil))) (lcons (tupE (lcons (vr 2) (lcons (frz (calF o_listA (lcons (vr 4) lnil))) lnil))) (lcons (tupE (lcons (vr 2) lnil)) (lcons (tupE (lcons (vr 2) (lcons (vr 4) (lcons (vr 4) lnil)))) lnil)))))))))
  (seqS (asg (tgN 6) (new (catF (vr 6) (frz (lstF (lcons (tupE (lcons (vr 4) (lcons (vr 2) lnil))) (lcons (tupE (lcons (revA (vr 2)) (lcons (vr 4) lnil))) (lcons (tupE (lcons (ct (.str (Str.ofString ""))) (lcons (vr 4) lnil))) (lcons (tupE (lcons (op2 o_add (vr 2) (vr 2)) (lcons (vr 4) lnil))) lnil)))))))))
  (seqS (asg (tgN 6) (new (catF (vr 6) (frz (lstF (lcons (tupE (lcons (op2 o_add (vr 5) (ct (.str (Str.ofString "a")))) (lcons (tupE lnil) lnil))) (lcons (tupE (lcons (meth "str" m_upper (vr 2) lnil) (lcons (tupE lnil) lnil))) (lcons (tupE (lcons (calB o_tupleA (lcons (vr 2) lnil)) (lcons (vr 4) lnil))) (lcons (tupE (lcons (vr 2) (lcons (ct (.str (Str.ofString "ab"))) lnil))) (lcons (tupE (lcons (vr 2) (lcons (ct .non) lnil))) lnil))))))))))
  (seqS (asg (tgN 6) (new (catF (vr 6) (frz (lstF (lcons (tupE (lcons (vr 2) (lcons (tupE (lcons (tupE lnil) (lcons (tupE lnil) lnil))) lnil))) (lcons (tupE (lcons (vr 2) (lcons (tupE (lcons (vr 4) lnil)) lnil))) lnil)))))))
  (seqS (ifS (asT (op2 o_gt (calB o_len (lcons (vr 4) lnil)) (ct (.int 0)))) (seqS (asg (tgN 7) (cal M__law_draw (lcons (vr 0) (lcons (calB o_len (lcons (vr 4) lnil)) lnil))))
  (seqS (asg (tgT [(tgN 8), (tgN 9), (tgN 10)]) (op2 o_ix (vr 4) (vr 7)))
  (seqS (asg (tgN 11) (cut o_cut (vr 4) onoM (osmM (vr 7))))
  (seqS (asg (tgN 12) (cut o_cut (vr 4) (osmM (op2 o_add (vr 7) (ct (.int 1)))) onoM))
  (seqS (forS (i_rg1 (lcons (ct (.int 9)) lnil)) (tgN 13) (exS (meth "list" m_append (vr 6) (lcons (tupE (lcons (vr 2) (lcons (op2 o_add (op2 o_add (vr 11) (tupE (lcons (cal M__law_bent_edit (lcons (vr 0) (lcons (vr 2) (lcons (op2 o_ix (vr 4) (vr 7)) lnil)))) lnil))) (vr 12)) lnil))) lnil))))
  (seqS (asg (tgN 14) (op2 o_add (op2 o_add (vr 11) (tupE (lcons (cal M__law_bent_edit (lcons (vr 0) (lcons (vr 2) (lcons (op2 o_ix (vr 4) (vr 7)) lnil)))) lnil))) (vr 12)))
  (seqS (asg (tgN 15) (cal M__law_draw (lcons (vr 0) (lcons (calB o_len (lcons (vr 4) lnil)) lnil))))
  (seqS (exS (meth "list" m_append (vr 6) (lcons (tupE (lcons (vr 2) (lcons (op2 o_add (op2 o_add (cut o_cut (vr 14) onoM (osmM (vr 15))) (tupE (lcons (cal M__law_bent_edit (lcons (vr 0) (lcons (vr 2) (lcons (op2 o_ix (vr 4) (vr 15)) lnil)))) lnil))) (cut o_cut (vr 14) (osmM (op2 o_add (vr 15) (ct (.int 1)))) onoM)) lnil))) lnil)))
  (seqS (exS (meth "list" m_append (vr 6) (lcons (tupE (lcons (vr 2) (lcons (op2 o_add (op2 o_add (vr 11) (tupE (lcons (op2 o_ix (vr 4) (vr 7)) (lcons (op2 o_ix (vr 4) (vr 7)) lnil)))) (vr 12)) lnil))) lnil)))
  (seqS (exS (meth "list" m_append (vr 6) (lcons (tupE (lcons (vr 2) (lcons (op2 o_add (op2 o_add (vr 11) (tupE (lcons (tupE (lcons (vr 8) (lcons (vr 9) (lcons (calB o_max2 (lcons (ct (.int 1)) (lcons (op2 o_sub (vr 10) (ct (.int 1))) lnil))) lnil)))) (lcons (tupE (lcons (vr 8) (lcons (vr 9) (lcons (vr 10) lnil)))) lnil)))) (vr 12)) lnil))) lnil)))
  (seqS (exS (meth "list" m_append (vr 6) (lcons (tupE (lcons (vr 2) (lcons (revA (vr 4)) lnil))) lnil)))
  (seqS (exS (meth "list" m_append (vr 6) (lcons (tupE (lcons (vr 2) (lcons (op2 o_add (op2 o_add (vr 12) (vr 11)) (tupE (lcons (op2 o_ix (vr 4) (vr 7)) lnil))) lnil))) lnil)))
  (seqS (exS (meth "list" m_append (vr 6) (lcons (tupE (lcons (cut o_cut (vr 2) (osmM (ct (.int 1))) onoM) (lcons (vr 4) lnil))) lnil)))
  (exS (meth "list" m_append (vr 6) (lcons (tupE (lcons (revA (vr 2)) (lcons (op2 o_add (op2 o_add (vr 11) (tupE (lcons (ct .non) lnil))) (vr 12)) lnil))) lnil)))))))))))))))) nxS)
  (seqS (forS (i_of (frz (catF (frz (catF (vr 6) (cal M__law_odd_things (lcons (vr 0) (lcons (vr 2) lnil))))) (frz (lstF (lcons (vr 3) lnil)))))) (tgN 16) (ifS (notT (trt (cal M__law_same (lcons (cal M__law_told (lcons (ct (.int 2)) (lcons (ct (.str (Str.ofString ""))) (lcons (vr 16) lnil)))) (lcons (cal M__law_book_due (lcons (vr 16) lnil)) lnil))))) (retS (ct (.bl false))) nxS))
  (retS (ct (.bl true)))))))))))))
@[irreducible] noncomputable def M__law_book_holds : List D → Sto → Res D := fn 17 m__law_book_holds
theorem ok__law_book_holds (z : Zs P w K mg base) (F : Fu K mg "_law_book_holds" st__law_book_holds ["pool", "many"]) (C__law_draw : Cl P w K mg base "_law_draw" 1 ["pool", "many"] M__law_draw) (C__law_letters : Cl P w K mg base "_law_letters" 3 ["pool", "many"] M__law_letters) (C__law_odd_things : Cl P w K mg base "_law_odd_things" 2 ["pool", "right"] M__law_odd_things) (C__law_same : Cl P w K mg base "_law_same" 2 ["told", "due"] M__law_same) (C__law_told : Cl P w K mg base "_law_told" 6 ["what", "letters", "thing"] M__law_told) (C__law_book : Cl P w K mg base "_law_book" 3 ["pool", "letters", "many", "most"] M__law_book) (C__law_book_due : Cl P w K mg base "_law_book_due" 3 ["thing"] M__law_book_due) (C__law_bent_edit : Cl P w K mg base "_law_bent_edit" 2 ["pool", "letters", "edit"] M__law_bent_edit) : Cl P w K mg base "_law_book_holds" 7 ["pool", "many"] M__law_book_holds := by
  unfold M__law_book_holds
  exact cl_fn (m := m__law_book_holds) F sc__law_book_holds rfl (fun f cdv A outer s H E hr =>
  (s_cons (s_set 2 sc__law_book_holds.nd (y_fn C__law_letters (hr.mono (by first | decide | omega)) (takes_of rfl rfl rfl rfl) (y_cons (y_vr 0) (y_cons (y_op op_addA os_add y_int (y_fn C__law_draw (hr.mono (by first | decide | omega)) (takes_of rfl rfl rfl rfl) (y_cons (y_vr 0) (y_cons y_int y_nil)) (len_cons (len_cons len_nil)))) y_nil)) (len_cons (len_cons len_nil))))
  (s_cons (s_set 3 sc__law_book_holds.nd (y_fn C__law_book (hr.mono (by first | decide | omega)) (takes_of rfl rfl rfl rfl) (y_cons (y_vr 0) (y_cons (y_vr 2) (y_cons (y_vr 1) (y_cons (y_ix ix_seq os_ix (y_frz (y_lst (y_cons y_int (y_cons y_int y_nil)))) (y_fn C__law_draw (hr.mono (by first | decide | omega)) (takes_of rfl rfl rfl rfl) (y_cons (y_vr 0) (y_cons y_int y_nil)) (len_cons (len_cons len_nil))) (fun _ _ => rfl)) y_nil)))) (len_cons (len_cons (len_cons (len_cons len_nil))))))
  (s_cons (s_set 4 sc__law_book_holds.nd (y_ix ix_seq os_ix (y_vr 3) y_int (fun _ _ => rfl)))
  (s_cons (s_set 5 sc__law_book_holds.nd (y_fn C__law_letters (hr.mono (by first | decide | omega)) (takes_of rfl rfl rfl rfl) (y_cons (y_vr 0) (y_cons y_int y_nil)) (len_cons (len_cons len_nil))))
  (s_cons (s_set 6 sc__law_book_holds.nd (y_new (y_lst (y_cons (y_vr 3) (y_cons (y_tup (y_cons (y_vr 2) (y_cons (y_tup y_nil) y_nil))) (y_cons (y_frz (y_callTyF (cr_listA rfl) cf_listA z.n_list PyProof.Rows.Boot.«list» (y_cons (y_vr 3) y_nil))) (y_cons (y_tup (y_cons (y_vr 2) (y_cons (y_frz (y_callTyF (cr_listA rfl) cf_listA z.n_list PyProof.Rows.Boot.«list» (y_cons (y_vr 4) y_nil))) y_nil))) (y_cons (y_tup (y_cons (y_vr 2) y_nil)) (y_cons (y_tup (y_cons (y_vr 2) (y_cons (y_vr 4) (y_cons (y_vr 4) y_nil)))) y_nil)))))))))
  (s_cons (s_set 6 sc__law_book_holds.nd (y_new (y_cat (y_vr 6) (y_frz (y_lst (y_cons (y_tup (y_cons (y_vr 4) (y_cons (y_vr 2) y_nil))) (y_cons (y_tup (y_cons (y_revA (y_vr 2)) (y_cons (y_vr 4) y_nil))) (y_cons (y_tup (y_cons y_str (y_cons (y_vr 4) y_nil))) (y_cons (y_tup (y_cons (y_op op_addA os_add (y_vr 2) (y_vr 2)) (y_cons (y_vr 4) y_nil))) y_nil)))))))))
  (s_cons (s_set 6 sc__law_book_holds.nd (y_new (y_cat (y_vr 6) (y_frz (y_lst (y_cons (y_tup (y_cons (y_op op_addA os_add (y_vr 5) y_str) (y_cons (y_tup y_nil) y_nil))) (y_cons (y_tup (y_cons (y_bm0 mt_upper ms_upper PySem.F.plainAttrs_str PySem.F.slot_str_upper PySem.F.type_str_upper (y_vr 2)) (y_cons (y_tup y_nil) y_nil))) (y_cons (y_tup (y_cons (y_callTy (cr_tupA rfl) cs_tupA z.n_tuple PyProof.Rows.Boot.«tuple» (y_cons (y_vr 2) y_nil)) (y_cons (y_vr 4) y_nil))) (y_cons (y_tup (y_cons (y_vr 2) (y_cons y_str y_nil))) (y_cons (y_tup (y_cons (y_vr 2) (y_cons y_non y_nil))) y_nil))))))))))
  (s_cons (s_set 6 sc__law_book_holds.nd (y_new (y_cat (y_vr 6) (y_frz (y_lst (y_cons (y_tup (y_cons (y_vr 2) (y_cons (y_tup (y_cons (y_tup y_nil) (y_cons (y_tup y_nil) y_nil))) y_nil))) (y_cons (y_tup (y_cons (y_vr 2) (y_cons (y_tup (y_cons (y_vr 4) y_nil)) y_nil))) y_nil)))))))
  (s_cons (s_if (y_tcmp op_gt os_cmp (y_callB call_len cs_len z.n_len PyProof.Rows.Boot.«len» (y_cons (y_vr 4) y_nil)) y_int) (s_cons (s_set 7 sc__law_book_holds.nd (y_fn C__law_draw (hr.mono (by first | decide | omega)) (takes_of rfl rfl rfl rfl) (y_cons (y_vr 0) (y_cons (y_callB call_len cs_len z.n_len PyProof.Rows.Boot.«len» (y_cons (y_vr 4) y_nil)) y_nil)) (len_cons (len_cons len_nil))))
  (s_cons (s_asg (y_ix ix_seq os_ix (y_vr 4) (y_vr 7) (fun _ _ => rfl)) (g_tup rfl (g_cons (g_name (ix := [8, 9, 10]) 8 sc__law_book_holds.nd) (g_cons (g_name (ix := [8, 9, 10]) 9 sc__law_book_holds.nd) (g_cons (g_name (ix := [8, 9, 10]) 10 sc__law_book_holds.nd) g_nil)))))
  (s_cons (s_set 11 sc__law_book_holds.nd (y_cut (y_vr 4) y_ono (y_osm (y_vr 7))))
  (s_cons (s_set 12 sc__law_book_holds.nd (y_cut (y_vr 4) (y_osm (y_op op_addA os_add (y_vr 7) y_int)) y_ono))
  (s_cons (s_for (passes_of rfl) rfl (y_rg1 z.n_range (y_cons y_int y_nil)) (g_name (ix := [13]) 13 sc__law_book_holds.nd) (s_one (s_expr (y_bm mt_append ms_append PySem.F.plainAttrs_list PySem.F.slot_list_append PySem.F.type_list_append (y_vr 6) (y_cons (y_tup (y_cons (y_vr 2) (y_cons (y_op op_addA os_add (y_op op_addA os_add (y_vr 11) (y_tup (y_cons (y_fn C__law_bent_edit (hr.mono (by first | decide | omega)) (takes_of rfl rfl rfl rfl) (y_cons (y_vr 0) (y_cons (y_vr 2) (y_cons (y_ix ix_seq os_ix (y_vr 4) (y_vr 7) (fun _ _ => rfl)) y_nil))) (len_cons (len_cons (len_cons len_nil)))) y_nil))) (y_vr 12)) y_nil))) y_nil)))))
  (s_cons (s_set 14 sc__law_book_holds.nd (y_op op_addA os_add (y_op op_addA os_add (y_vr 11) (y_tup (y_cons (y_fn C__law_bent_edit (hr.mono (by first | decide | omega)) (takes_of rfl rfl rfl rfl) (y_cons (y_vr 0) (y_cons (y_vr 2) (y_cons (y_ix ix_seq os_ix (y_vr 4) (y_vr 7) (fun _ _ => rfl)) y_nil))) (len_cons (len_cons (len_cons len_nil)))) y_nil))) (y_vr 12)))
  (s_cons (s_set 15 sc__law_book_holds.nd (y_fn C__law_draw (hr.mono (by first | decide | omega)) (takes_of rfl rfl rfl rfl) (y_cons (y_vr 0) (y_cons (y_callB call_len cs_len z.n_len PyProof.Rows.Boot.«len» (y_cons (y_vr 4) y_nil)) y_nil)) (len_cons (len_cons len_nil))))
  (s_cons (s_expr (y_bm mt_append ms_append PySem.F.plainAttrs_list PySem.F.slot_list_append PySem.F.type_list_append (y_vr 6) (y_cons (y_tup (y_cons (y_vr 2) (y_cons (y_op op_addA os_add (y_op op_addA os_add (y_cut (y_vr 14) y_ono (y_osm (y_vr 15))) (y_tup (y_cons (y_fn C__law_bent_edit (hr.mono (by first | decide | omega)) (takes_of rfl rfl rfl rfl) (y_cons (y_vr 0) (y_cons (y_vr 2) (y_cons (y_ix ix_seq os_ix (y_vr 4) (y_vr 15) (fun _ _ => rfl)) y_nil))) (len_cons (len_cons (len_cons len_nil)))) y_nil))) (y_cut (y_vr 14) (y_osm (y_op op_addA os_add (y_vr 15) y_int)) y_ono)) y_nil))) y_nil)))
  (s_cons (s_expr (y_bm mt_append ms_append PySem.F.plainAttrs_list PySem.F.slot_list_append PySem.F.type_list_append (y_vr 6) (y_cons (y_tup (y_cons (y_vr 2) (y_cons (y_op op_addA os_add (y_op op_addA os_add (y_vr 11) (y_tup (y_cons (y_ix ix_seq os_ix (y_vr 4) (y_vr 7) (fun _ _ => rfl)) (y_cons (y_ix ix_seq os_ix (y_vr 4) (y_vr 7) (fun _ _ => rfl)) y_nil)))) (y_vr 12)) y_nil))) y_nil)))
  (s_cons (s_expr (y_bm mt_append ms_append PySem.F.plainAttrs_list PySem.F.slot_list_append PySem.F.type_list_append (y_vr 6) (y_cons (y_tup (y_cons (y_vr 2) (y_cons (y_op op_addA os_add (y_op op_addA os_add (y_vr 11) (y_tup (y_cons (y_tup (y_cons (y_vr 8) (y_cons (y_vr 9) (y_cons (y_callB (call_max2 rfl) cs_max2 z.n_max PyProof.Rows.Boot.«max» (y_cons y_int (y_cons (y_op op_sub os_sub (y_vr 10) y_int) y_nil))) y_nil)))) (y_cons (y_tup (y_cons (y_vr 8) (y_cons (y_vr 9) (y_cons (y_vr 10) y_nil)))) y_nil)))) (y_vr 12)) y_nil))) y_nil)))
  (s_cons (s_expr (y_bm mt_append ms_append PySem.F.plainAttrs_list PySem.F.slot_list_append PySem.F.type_list_append (y_vr 6) (y_cons (y_tup (y_cons (y_vr 2) (y_cons (y_revA (y_vr 4)) y_nil))) y_nil)))
  (s_cons (s_expr (y_bm mt_append ms_append PySem.F.plainAttrs_list PySem.F.slot_list_append PySem.F.type_list_append (y_vr 6) (y_cons (y_tup (y_cons (y_vr 2) (y_cons (y_op op_addA os_add (y_op op_addA os_add (y_vr 12) (y_vr 11)) (y_tup (y_cons (y_ix ix_seq os_ix (y_vr 4) (y_vr 7) (fun _ _ => rfl)) y_nil))) y_nil))) y_nil)))
  (s_cons (s_expr (y_bm mt_append ms_append PySem.F.plainAttrs_list PySem.F.slot_list_append PySem.F.type_list_append (y_vr 6) (y_cons (y_tup (y_cons (y_cut (y_vr 2) (y_osm y_int) y_ono) (y_cons (y_vr 4) y_nil))) y_nil)))
  (s_one (s_expr (y_bm mt_append ms_append PySem.F.plainAttrs_list PySem.F.slot_list_append PySem.F.type_list_append (y_vr 6) (y_cons (y_tup (y_cons (y_revA (y_vr 2)) (y_cons (y_op op_addA os_add (y_op op_addA os_add (y_vr 11) (y_tup (y_cons y_non y_nil))) (y_vr 12)) y_nil))) y_nil))))))))))))))))) s_nil)
  (s_cons (s_for (passes_of rfl) rfl (y_iter (y_frz (y_cat (y_frz (y_cat (y_vr 6) (y_fn C__law_odd_things (hr.mono (by first | decide | omega)) (takes_of rfl rfl rfl rfl) (y_cons (y_vr 0) (y_cons (y_vr 2) y_nil)) (len_cons (len_cons len_nil))))) (y_frz (y_lst (y_cons (y_vr 3) y_nil)))))) (g_name (ix := [16]) 16 sc__law_book_holds.nd) (s_one (s_if (y_tnot (y_truth (y_fn C__law_same (hr.mono (by first | decide | omega)) (takes_of rfl rfl rfl rfl) (y_cons (y_fn C__law_told (hr.mono (by first | decide | omega)) (takes_of rfl rfl rfl rfl) (y_cons y_int (y_cons y_str (y_cons (y_vr 16) y_nil))) (len_cons (len_cons (len_cons len_nil)))) (y_cons (y_fn C__law_book_due (hr.mono (by first | decide | omega)) (takes_of rfl rfl rfl rfl) (y_cons (y_vr 16) y_nil) (len_cons len_nil)) y_nil)) (len_cons (len_cons len_nil))))) (s_one (s_ret y_bl)) s_nil)))
  (s_one (s_ret y_bl)))))))))))))
abbrev st__law_full_book : Stmt := topS 42
theorem sc__law_full_book : FnScope ["pool", "letters", "rows", "one", "two", "start", "late", "edits", "thing"] ["pool"] (defScope st__law_full_book) := ⟨rfl, rfl, rfl, by decide +kernel, rfl, by decide +kernel, by decide +kernel⟩
noncomputable def m__law_full_book : SM :=
  (seqS (asg (tgN 1) (cal M__law_letters (lcons (vr 0) (lcons (op2 o_add (ct (.int 4)) (cal M__law_draw (lcons (vr 0) (lcons (ct (.int 3)) lnil)))) lnil))))
  (seqS (asg (tgN 2) (new (lstF lnil)))
  (seqS (forS (i_of (vr 1)) (tgN 3) (forS (i_of (vr 1)) (tgN 4) (seqS (exS (meth "list" m_append (vr 2) (lcons (tupE (lcons (op2 o_add (vr 3) (vr 4)) (lcons (vr 3) (lcons (op2 o_add (ct (.int 1)) (cal M__law_draw (lcons (vr 0) (lcons (ct (.int 1000)) lnil)))) lnil)))) lnil)))
  (seqS (exS (meth "list" m_append (vr 2) (lcons (tupE (lcons (vr 3) (lcons (op2 o_add (vr 4) (vr 3)) (lcons (op2 o_add (ct (.int 1)) (cal M__law_draw (lcons (vr 0) (lcons (ct (.int 1000)) lnil)))) lnil)))) lnil)))
  (seqS (exS (meth "list" m_append (vr 2) (lcons (tupE (lcons (op2 o_add (op2 o_add (vr 3) (vr 3)) (vr 4)) (lcons (vr 4) (lcons (op2 o_add (ct (.int 1)) (cal M__law_draw (lcons (vr 0) (lcons (ct (.int 1000)) lnil)))) lnil)))) lnil)))
  (exS (meth "list" m_append (vr 2) (lcons (tupE (lcons (ct (.str (Str.ofString ""))) (lcons (op2 o_add (vr 3) (vr 4)) (lcons (ct (.int 1000)) lnil)))) lnil))))))))
  (seqS (asg (tgN 2) (new (calF o_sorted (lcons (vr 2) lnil))))
  (seqS (asg (tgN 5) (ifE (asT (op2 o_gt (calB o_len (lcons (vr 2) lnil)) (ct (.int 61)))) (cal M__law_draw (lcons (vr 0) (lcons (op2 o_add (op2 o_sub (calB o_len (lcons (vr 2) lnil)) (ct (.int 61))) (ct (.int 1))) lnil))) (ct (.int 0))))
  (seqS (asg (tgN 2) (new (cutF (vr 2) (osmM (vr 5)) (osmM (op2 o_add (vr 5) (ct (.int 61)))))))
  (seqS (asg (tgN 6) (frz (catF (frz (cutF (vr 2) onoM (osmM (ct (.int 59))))) (frz (lstF (lcons (cal M__law_bent_edit (lcons (vr 0) (lcons (vr 1) (lcons (op2 o_ix (vr 2) (ct (.int 59))) lnil)))) lnil))))))
  (seqS (forS (i_of (tupE (lcons (frz (cutF (vr 2) onoM (osmM (ct (.int 60))))) (lcons (vr 2) (lcons (vr 6) (lcons (frz (catF (frz (cutF (vr 2) onoM (osmM (ct (.int 58))))) (frz (lstF (lcons (op2 o_ix (vr 2) (ct (.int 59))) (lcons (op2 o_ix (vr 2) (ct (.int 58))) lnil)))))) (lcons (frz (catF (vr 2) (frz (lstF (lcons (ct .non) lnil))))) lnil))))))) (tgN 7) (seqS (asg (tgN 8) (tupE (lcons (vr 1) (lcons (calB o_tupleA (lcons (vr 7) lnil)) lnil))))
  (ifS (notT (trt (cal M__law_same (lcons (cal M__law_told (lcons (ct (.int 2)) (lcons (ct (.str (Str.ofString ""))) (lcons (vr 8) lnil)))) (lcons (cal M__law_book_due (lcons (vr 8) lnil)) lnil))))) (retS (ct (.bl false))) nxS)))
  (retS (ct (.bl true)))))))))))
@[irreducible] noncomputable def M__law_full_book : List D → Sto → Res D := fn 9 m__law_full_book
theorem ok__law_full_book (z : Zs P w K mg base) (F : Fu K mg "_law_full_book" st__law_full_book ["pool"]) (C__law_draw : Cl P w K mg base "_law_draw" 1 ["pool", "many"] M__law_draw) (C__law_letters : Cl P w K mg base "_law_letters" 3 ["pool", "many"] M__law_letters) (C__law_same : Cl P w K mg base "_law_same" 2 ["told", "due"] M__law_same) (C__law_told : Cl P w K mg base "_law_told" 6 ["what", "letters", "thing"] M__law_told) (C__law_book_due : Cl P w K mg base "_law_book_due" 3 ["thing"] M__law_book_due) (C__law_bent_edit : Cl P w K mg base "_law_bent_edit" 2 ["pool", "letters", "edit"] M__law_bent_edit) : Cl P w K mg base "_law_full_book" 7 ["pool"] M__law_full_book := by
  unfold M__law_full_book
  exact cl_fn (m := m__law_full_book) F sc__law_full_book rfl (fun f cdv A outer s H E hr =>
  (s_cons (s_set 1 sc__law_full_book.nd (y_fn C__law_letters (hr.mono (by first | decide | omega)) (takes_of rfl rfl rfl rfl) (y_cons (y_vr 0) (y_cons (y_op op_addA os_add y_int (y_fn C__law_draw (hr.mono (by first | decide | omega)) (takes_of rfl rfl rfl rfl) (y_cons (y_vr 0) (y_cons y_int y_nil)) (len_cons (len_cons len_nil)))) y_nil)) (len_cons (len_cons len_nil))))
  (s_cons (s_set 2 sc__law_full_book.nd (y_new (y_lst y_nil)))
  (s_cons (s_for (passes_of rfl) rfl (y_iter (y_vr 1)) (g_name (ix := [3]) 3 sc__law_full_book.nd) (s_one (s_for (passes_of rfl) rfl (y_iter (y_vr 1)) (g_name (ix := [4]) 4 sc__law_full_book.nd) (s_cons (s_expr (y_bm mt_append ms_append PySem.F.plainAttrs_list PySem.F.slot_list_append PySem.F.type_list_append (y_vr 2) (y_cons (y_tup (y_cons (y_op op_addA os_add (y_vr 3) (y_vr 4)) (y_cons (y_vr 3) (y_cons (y_op op_addA os_add y_int (y_fn C__law_draw (hr.mono (by first | decide | omega)) (takes_of rfl rfl rfl rfl) (y_cons (y_vr 0) (y_cons y_int y_nil)) (len_cons (len_cons len_nil)))) y_nil)))) y_nil)))
  (s_cons (s_expr (y_bm mt_append ms_append PySem.F.plainAttrs_list PySem.F.slot_list_append PySem.F.type_list_append (y_vr 2) (y_cons (y_tup (y_cons (y_vr 3) (y_cons (y_op op_addA os_add (y_vr 4) (y_vr 3)) (y_cons (y_op op_addA os_add y_int (y_fn C__law_draw (hr.mono (by first | decide | omega)) (takes_of rfl rfl rfl rfl) (y_cons (y_vr 0) (y_cons y_int y_nil)) (len_cons (len_cons len_nil)))) y_nil)))) y_nil)))
  (s_cons (s_expr (y_bm mt_append ms_append PySem.F.plainAttrs_list PySem.F.slot_list_append PySem.F.type_list_append (y_vr 2) (y_cons (y_tup (y_cons (y_op op_addA os_add (y_op op_addA os_add (y_vr 3) (y_vr 3)) (y_vr 4)) (y_cons (y_vr 4) (y_cons (y_op op_addA os_add y_int (y_fn C__law_draw (hr.mono (by first | decide | omega)) (takes_of rfl rfl rfl rfl) (y_cons (y_vr 0) (y_cons y_int y_nil)) (len_cons (len_cons len_nil)))) y_nil)))) y_nil)))
  (s_one (s_expr (y_bm mt_append ms_append PySem.F.plainAttrs_list PySem.F.slot_list_append PySem.F.type_list_append (y_vr 2) (y_cons (y_tup (y_cons y_str (y_cons (y_op op_addA os_add (y_vr 3) (y_vr 4)) (y_cons y_int y_nil)))) y_nil))))))))))
  (s_cons (s_set 2 sc__law_full_book.nd (y_new (y_callBF (cr_sortD (hu200 hr)) cf_sorted z.n_sorted PyProof.Rows.Boot.«sorted» (y_cons (y_vr 2) y_nil))))
  (s_cons (s_set 5 sc__law_full_book.nd (y_if (y_tcmp op_gt os_cmp (y_callB call_len cs_len z.n_len PyProof.Rows.Boot.«len» (y_cons (y_vr 2) y_nil)) y_int) (y_fn C__law_draw (hr.mono (by first | decide | omega)) (takes_of rfl rfl rfl rfl) (y_cons (y_vr 0) (y_cons (y_op op_addA os_add (y_op op_sub os_sub (y_callB call_len cs_len z.n_len PyProof.Rows.Boot.«len» (y_cons (y_vr 2) y_nil)) y_int) y_int) y_nil)) (len_cons (len_cons len_nil))) y_int))
  (s_cons (s_set 2 sc__law_full_book.nd (y_new (y_cutF (y_vr 2) (y_osm (y_vr 5)) (y_osm (y_op op_addA os_add (y_vr 5) y_int)))))
  (s_cons (s_set 6 sc__law_full_book.nd (y_frz (y_cat (y_frz (y_cutF (y_vr 2) y_ono (y_osm y_int))) (y_frz (y_lst (y_cons (y_fn C__law_bent_edit (hr.mono (by first | decide | omega)) (takes_of rfl rfl rfl rfl) (y_cons (y_vr 0) (y_cons (y_vr 1) (y_cons (y_ix ix_seq os_ix (y_vr 2) y_int (fun _ _ => rfl)) y_nil))) (len_cons (len_cons (len_cons len_nil)))) y_nil))))))
  (s_cons (s_for (passes_of rfl) rfl (y_iter (y_tup (y_cons (y_frz (y_cutF (y_vr 2) y_ono (y_osm y_int))) (y_cons (y_vr 2) (y_cons (y_vr 6) (y_cons (y_frz (y_cat (y_frz (y_cutF (y_vr 2) y_ono (y_osm y_int))) (y_frz (y_lst (y_cons (y_ix ix_seq os_ix (y_vr 2) y_int (fun _ _ => rfl)) (y_cons (y_ix ix_seq os_ix (y_vr 2) y_int (fun _ _ => rfl)) y_nil)))))) (y_cons (y_frz (y_cat (y_vr 2) (y_frz (y_lst (y_cons y_non y_nil))))) y_nil))))))) (g_name (ix := [7]) 7 sc__law_full_book.nd) (s_cons (s_set 8 sc__law_full_book.nd (y_tup (y_cons (y_vr 1) (y_cons (y_callTy (cr_tupA rfl) cs_tupA z.n_tuple PyProof.Rows.Boot.«tuple» (y_cons (y_vr 7) y_nil)) y_nil))))
  (s_one (s_if (y_tnot (y_truth (y_fn C__law_same (hr.mono (by first | decide | omega)) (takes_of rfl rfl rfl rfl) (y_cons (y_fn C__law_told (hr.mono (by first | decide | omega)) (takes_of rfl rfl rfl rfl) (y_cons y_int (y_cons y_str (y_cons (y_vr 8) y_nil))) (len_cons (len_cons (len_cons len_nil)))) (y_cons (y_fn C__law_book_due (hr.mono (by first | decide | omega)) (takes_of rfl rfl rfl rfl) (y_cons (y_vr 8) y_nil) (len_cons len_nil)) y_nil)) (len_cons (len_cons len_nil))))) (s_one (s_ret y_bl)) s_nil))))
  (s_one (s_ret y_bl)))))))))))
abbrev st_law : Stmt := topS 43
theorem sc_law : FnScope ["script", "pool"] ["script"] (defScope st_law) := ⟨rfl, rfl, rfl, by decide +kernel, rfl, by decide +kernel, by decide +kernel⟩
noncomputable def m_law : SM :=
  (seqS (asg (tgN 1) (cal M__law_pool (lcons (vr 0) (lcons (ct (.int 1301)) lnil))))
  (seqS (ifS (orT (notT (trt (cal M__law_letters_holds (lcons (vr 1) lnil)))) (notT (trt (cal M__law_text_holds (lcons (vr 1) lnil))))) (retS (ct (.bl false))) nxS)
  (seqS (ifS (orT (notT (trt (cal M__law_book_holds (lcons (vr 1) (lcons (op2 o_add (ct (.int 1)) (cal M__law_draw (lcons (vr 1) (lcons (ct (.int 8)) lnil)))) lnil))))) (notT (trt (cal M__law_book_holds (lcons (vr 1) (lcons (cal M__law_draw (lcons (vr 1) (lcons (ct (.int 3)) lnil))) lnil)))))) (retS (ct (.bl false))) nxS)
  (seqS (ifS (andT (asT (op2 o_eq (cal M__law_draw (lcons (vr 1) (lcons (ct (.int 7)) lnil))) (ct (.int 3)))) (notT (trt (cal M__law_full_book (lcons (vr 1) lnil))))) (retS (ct (.bl false))) nxS)
  (retS (cal M__law_letters_holds (lcons (vr 1) lnil)))))))
@[irreducible] noncomputable def M_law : List D → Sto → Res D := fn 2 m_law
theorem ok_law (z : Zs P w K mg base) {f : Addr} {fd : FuncData} (F : Fun K "law" "law" st_law f fd) (C__law_pool : Cl P w K mg base "_law_pool" 1 ["script", "salt"] M__law_pool) (C__law_draw : Cl P w K mg base "_law_draw" 1 ["pool", "many"] M__law_draw) (C__law_letters_holds : Cl P w K mg base "_law_letters_holds" 7 ["pool"] M__law_letters_holds) (C__law_text_holds : Cl P w K mg base "_law_text_holds" 7 ["pool"] M__law_text_holds) (C__law_book_holds : Cl P w K mg base "_law_book_holds" 7 ["pool", "many"] M__law_book_holds) (C__law_full_book : Cl P w K mg base "_law_full_book" 7 ["pool"] M__law_full_book) : FnOk P w K mg base (L2.CX P w) 8 f fd ["script"] (spM K mg 1 M_law) := by
  unfold M_law
  exact ok_fn (m := m_law) F sc_law rfl (fun cdv A outer s H E hr =>
  (s_cons (s_set 1 sc_law.nd (y_fn C__law_pool (hr.mono (by first | decide | omega)) (takes_of rfl rfl rfl rfl) (y_cons (y_vr 0) (y_cons y_int y_nil)) (len_cons (len_cons len_nil))))
  (s_cons (s_if ((y_tor (y_tnot (y_truth (y_fn C__law_letters_holds (hr.mono (by first | decide | omega)) (takes_of rfl rfl rfl rfl) (y_cons (y_vr 1) y_nil) (len_cons len_nil)))) (y_tor1 (y_tnot (y_truth (y_fn C__law_text_holds (hr.mono (by first | decide | omega)) (takes_of rfl rfl rfl rfl) (y_cons (y_vr 1) y_nil) (len_cons len_nil))))))).pt (s_one (s_ret y_bl)) s_nil)
  (s_cons (s_if ((y_tor (y_tnot (y_truth (y_fn C__law_book_holds (hr.mono (by first | decide | omega)) (takes_of rfl rfl rfl rfl) (y_cons (y_vr 1) (y_cons (y_op op_addA os_add y_int (y_fn C__law_draw (hr.mono (by first | decide | omega)) (takes_of rfl rfl rfl rfl) (y_cons (y_vr 1) (y_cons y_int y_nil)) (len_cons (len_cons len_nil)))) y_nil)) (len_cons (len_cons len_nil))))) (y_tor1 (y_tnot (y_truth (y_fn C__law_book_holds (hr.mono (by first | decide | omega)) (takes_of rfl rfl rfl rfl) (y_cons (y_vr 1) (y_cons (y_fn C__law_draw (hr.mono (by first | decide | omega)) (takes_of rfl rfl rfl rfl) (y_cons (y_vr 1) (y_cons y_int y_nil)) (len_cons (len_cons len_nil))) y_nil)) (len_cons (len_cons len_nil)))))))).pt (s_one (s_ret y_bl)) s_nil)
  (s_cons (s_if ((y_tand (y_tcmp (op_eqD (hu64 hr)) os_eq (y_fn C__law_draw (hr.mono (by first | decide | omega)) (takes_of rfl rfl rfl rfl) (y_cons (y_vr 1) (y_cons y_int y_nil)) (len_cons (len_cons len_nil))) y_int) (y_tand1 (y_tnot (y_truth (y_fn C__law_full_book (hr.mono (by first | decide | omega)) (takes_of rfl rfl rfl rfl) (y_cons (y_vr 1) y_nil) (len_cons len_nil))))))).pt (s_one (s_ret y_bl)) s_nil)
  (s_one (s_ret (y_fn C__law_letters_holds (hr.mono (by first | decide | omega)) (takes_of rfl rfl rfl rfl) (y_cons (y_vr 1) y_nil) (len_cons len_nil)))))))))
end
end Z

end
section
set_option Elab.async false
set_option linter.all false
set_option maxRecDepth 100000
set_option maxHeartbeats 4000000
set_option autoImplicit false
namespace Z
open PySem PySem.Spec L2 Y PySem.W
section
variable {rest S : Sto} {Q : D → Sto → Prop} {E : Str → List (Str × D) → Sto → Prop}
theorem draw_wp {many : Int} (hS : PP rest S) (h0 : 0 < many) (h1 : many < 1073741824) (k : ∀ v S', PP rest S' → 0 ≤ v → v < many → Q (.int v) S') : wpM (M__law_draw [.ref 1, .int many] S) Q E := by
  unfold M__law_draw
  refine wpM_fn ?_
  unfold m__law_draw
  obtain ⟨G, m, hG, hl, hm0, hm1, rfl⟩ := id hS
  have ix0 : ∀ G m, o_ix (PSt G m rest) (.ref 1) (.int 0) = some (.ref 0) := fun G m => ix_at (j := 0) (ds := [.ref 0, .int m]) rfl rfl
  have ix1 : ∀ G m, o_ix (PSt G m rest) (.ref 1) (.int 1) = some (.int m) := fun G m => ix_at (j := 1) (ds := [.ref 0, .int m]) rfl rfl
  have ln : ∀ G m, o_len (PSt G m rest) [.ref 0] = some (.int (G.length : Int)) := fun G m => by rw [len_at (ds := G.map D.int) rfl, List.length_map]
  have st1 : ∀ G m x, setAt (PSt G m rest) (.ref 1) (.int 1) (.int x) = some (PSt G x rest) := fun G m x => set_at (j := 1) (ds := [.ref 0, .int m]) rfl (Nat.lt_succ_self 1)
  have e1 : ∀ m : Int, (fun m => 0 ≤ m ∧ m < 2147483648) m → IntMulOk m 39373 := fun m h => mul_ok h.1 (by omega)
  rcases List.eq_nil_or_concat G with rfl | ⟨G0, g, hc⟩
  · simp only [mkR_eq, wpM_rg1, wpM_rg2, wpM_enumA, wpM_iof, wpM_lfS, wS_rai, wS_try, wpM_catF, wpM_revA, wpM_newD, wpM_itemE, wpM_itemT, wpM_hasE, wpM_get1, wpM_get2, wS_putE, wS_putT, and_self, if_true, if_false, Bool.false_eq_true, reduceIte, wS_setS, wS_seq, wS_if, wS_asg, wS_exS, wS_retS, wS_nxS, wS_nx, wS_ret, wpM_op2, wpM_op1, wpM_asT, wpM_trt, wpM_notT, wpM_andT, wpM_orT, wpM_andV, wpM_notE, wpM_ifE, wpM_lnil, wpM_lcons, wpM_tupE, wpM_lstF, wpM_frz, wpM_new, wpM_cal, wpM_calB, wpM_calF, wpM_isiE, wpM_vr, wpM_ct, wpM_meth, wpM_chn, wpM_cut, wpM_cutF, wpM_ono, wpM_osm, wpM_revT, wpM_lfE, wS_for, tgN, List.getElem?_cons_zero, List.getElem?_cons_succ, List.set_cons_zero, List.set_cons_succ, List.map_cons, List.map_nil, List.length_cons, List.length_nil, List.replicate_succ, List.replicate_zero, Nat.reduceAdd, Nat.reduceSub, List.cons_append, List.nil_append, ix0, ln, o_cmp, List.length_nil, ix1, o_mulA, o_mul, e1 m ⟨hm0, hm1⟩, if_true, o_add, o_int, o_mod, st1, o_fdiv]
    simp only [show decide ((0 : Int) < ((0 : Nat) : Int)) = false from rfl, mkR_eq, wpM_rg1, wpM_rg2, wpM_enumA, wpM_iof, wpM_lfS, wS_rai, wS_try, wpM_catF, wpM_revA, wpM_newD, wpM_itemE, wpM_itemT, wpM_hasE, wpM_get1, wpM_get2, wS_putE, wS_putT, and_self, if_true, if_false, Bool.false_eq_true, reduceIte, wS_setS, wS_seq, wS_if, wS_asg, wS_exS, wS_retS, wS_nxS, wS_nx, wS_ret, wpM_op2, wpM_op1, wpM_asT, wpM_trt, wpM_notT, wpM_andT, wpM_orT, wpM_andV, wpM_notE, wpM_ifE, wpM_lnil, wpM_lcons, wpM_tupE, wpM_lstF, wpM_frz, wpM_new, wpM_cal, wpM_calB, wpM_calF, wpM_isiE, wpM_vr, wpM_ct, wpM_meth, wpM_chn, wpM_cut, wpM_cutF, wpM_ono, wpM_osm, wpM_revT, wpM_lfE, wS_for, tgN, List.getElem?_cons_zero, List.getElem?_cons_succ, List.set_cons_zero, List.set_cons_succ, List.map_cons, List.map_nil, List.length_cons, List.length_nil, List.replicate_succ, List.replicate_zero, Nat.reduceAdd, Nat.reduceSub, List.cons_append, List.nil_append, ix1, o_mulA, o_mul, e1 m ⟨hm0, hm1⟩, o_add, o_int, o_mod, show ((0 : Int) < 2147483647) from by decide, st1, o_fdiv, show ((0 : Int) < 71 ∧ (71 : Int) < 1073741824) from by decide, h0]
    rw [scope_int, wpM_ok]
    refine k _ _ (hS.trunc0 ⟨_, _, hG, hl, ?_, ?_, rfl⟩) (Int.emod_nonneg _ (by omega)) (Int.emod_lt_of_pos _ h0)
    · exact Int.emod_nonneg _ (by decide)
    · have := Int.emod_lt_of_pos (m * 39373 + 1301) (show (0 : Int) < 2147483647 by decide)
      omega
  · rw [List.concat_eq_append] at hc
    subst hc
    have hg : 0 ≤ g := hG g (by simp)
    have hp : m_pop (PSt (G0 ++ [g]) m rest) (.ref 0) [] = some (.int g, PSt G0 m rest) := by
      have := pop_last (S := PSt (G0 ++ [g]) m rest) (n := 0) (ds := G0.map D.int) (a := .int g) (by simp)
      simpa using this
    have hl0 : G0.length ≤ 63 := by rw [List.length_append, List.length_singleton] at hl; omega
    have hap : ∀ x, m_append (PSt G0 m rest) (.ref 0) [.int x] = some (.non, PSt (G0 ++ [x]) m rest) := fun x => by
      have := app_at (S := PSt G0 m rest) (n := 0) (ds := G0.map D.int) (y := .int x) rfl (by rw [List.length_map]; exact Nat.lt_of_lt_of_le (Nat.lt_of_le_of_lt hl0 (by decide)) (le_sz (n := 64) rfl))
      rw [this]; simp
    have hpos : decide ((0 : Int) < ((G0 ++ [g]).length : Int)) = true := decide_eq_true (by rw [List.length_append, List.length_singleton]; omega)
    have ty0 : ∀ G m, tyD "list" (PSt G m rest) (.ref 0) = true := fun G m => tyL (ds := G.map D.int) rfl
    have ok0 : PP rest (PSt G0 m rest) := ⟨G0, m, fun x hx => hG x (List.mem_append_left _ hx), by omega, hm0, hm1, rfl⟩
    simp only [mkR_eq, wpM_rg1, wpM_rg2, wpM_enumA, wpM_iof, wpM_lfS, wS_rai, wS_try, wpM_catF, wpM_revA, wpM_newD, wpM_itemE, wpM_itemT, wpM_hasE, wpM_get1, wpM_get2, wS_putE, wS_putT, and_self, if_true, if_false, Bool.false_eq_true, reduceIte, wS_setS, wS_seq, wS_if, wS_asg, wS_exS, wS_retS, wS_nxS, wS_nx, wS_ret, wpM_op2, wpM_op1, wpM_asT, wpM_trt, wpM_notT, wpM_andT, wpM_orT, wpM_andV, wpM_notE, wpM_ifE, wpM_lnil, wpM_lcons, wpM_tupE, wpM_lstF, wpM_frz, wpM_new, wpM_cal, wpM_calB, wpM_calF, wpM_isiE, wpM_vr, wpM_ct, wpM_meth, wpM_chn, wpM_cut, wpM_cutF, wpM_ono, wpM_osm, wpM_revT, wpM_lfE, wS_for, tgN, List.getElem?_cons_zero, List.getElem?_cons_succ, List.set_cons_zero, List.set_cons_succ, List.map_cons, List.map_nil, List.length_cons, List.length_nil, List.replicate_succ, List.replicate_zero, Nat.reduceAdd, Nat.reduceSub, List.cons_append, List.nil_append, ix0, ln, o_cmp, hpos, hp, ty0]
    rcases Bool.eq_false_or_eq_true (decide (many ≤ g)) with c | c
    · simp only [c, mkR_eq, wpM_rg1, wpM_rg2, wpM_enumA, wpM_iof, wpM_lfS, wS_rai, wS_try, wpM_catF, wpM_revA, wpM_newD, wpM_itemE, wpM_itemT, wpM_hasE, wpM_get1, wpM_get2, wS_putE, wS_putT, and_self, if_true, if_false, Bool.false_eq_true, reduceIte, wS_setS, wS_seq, wS_if, wS_asg, wS_exS, wS_retS, wS_nxS, wS_nx, wS_ret, wpM_op2, wpM_op1, wpM_asT, wpM_trt, wpM_notT, wpM_andT, wpM_orT, wpM_andV, wpM_notE, wpM_ifE, wpM_lnil, wpM_lcons, wpM_tupE, wpM_lstF, wpM_frz, wpM_new, wpM_cal, wpM_calB, wpM_calF, wpM_isiE, wpM_vr, wpM_ct, wpM_meth, wpM_chn, wpM_cut, wpM_cutF, wpM_ono, wpM_osm, wpM_revT, wpM_lfE, wS_for, tgN, List.getElem?_cons_zero, List.getElem?_cons_succ, List.set_cons_zero, List.set_cons_succ, List.map_cons, List.map_nil, List.length_cons, List.length_nil, List.replicate_succ, List.replicate_zero, Nat.reduceAdd, Nat.reduceSub, List.cons_append, List.nil_append, ix0, ty0, o_fdiv, h0, h1, hap, o_int, o_mod]
      rw [scope_int, wpM_ok]
      refine k _ _ (hS.trunc0 ⟨G0 ++ [g / many], m, fun x hx => ?_, ?_, hm0, hm1, rfl⟩) (Int.emod_nonneg _ (by omega)) (Int.emod_lt_of_pos _ h0)
      · rcases List.mem_append.mp hx with hx | hx
        · exact hG x (List.mem_append_left _ hx)
        · rw [List.mem_singleton.mp hx]; exact Int.ediv_nonneg hg (by omega)
      · rw [List.length_append, List.length_singleton]; omega
    · simp only [c, mkR_eq, wpM_rg1, wpM_rg2, wpM_enumA, wpM_iof, wpM_lfS, wS_rai, wS_try, wpM_catF, wpM_revA, wpM_newD, wpM_itemE, wpM_itemT, wpM_hasE, wpM_get1, wpM_get2, wS_putE, wS_putT, and_self, if_true, if_false, Bool.false_eq_true, reduceIte, wS_setS, wS_seq, wS_if, wS_asg, wS_exS, wS_retS, wS_nxS, wS_nx, wS_ret, wpM_op2, wpM_op1, wpM_asT, wpM_trt, wpM_notT, wpM_andT, wpM_orT, wpM_andV, wpM_notE, wpM_ifE, wpM_lnil, wpM_lcons, wpM_tupE, wpM_lstF, wpM_frz, wpM_new, wpM_cal, wpM_calB, wpM_calF, wpM_isiE, wpM_vr, wpM_ct, wpM_meth, wpM_chn, wpM_cut, wpM_cutF, wpM_ono, wpM_osm, wpM_revT, wpM_lfE, wS_for, tgN, List.getElem?_cons_zero, List.getElem?_cons_succ, List.set_cons_zero, List.set_cons_succ, List.map_cons, List.map_nil, List.length_cons, List.length_nil, List.replicate_succ, List.replicate_zero, Nat.reduceAdd, Nat.reduceSub, List.cons_append, List.nil_append, o_int, o_mod, h0]
      rw [scope_int, wpM_ok]
      exact k _ _ (hS.trunc0 ok0) (Int.emod_nonneg _ (by omega)) (Int.emod_lt_of_pos _ h0)
end
end Z

end
section
set_option Elab.async false
set_option linter.all false
set_option maxRecDepth 100000
set_option maxHeartbeats 4000000
set_option autoImplicit false
namespace Z
open PySem PySem.Spec L2 Y PySem.W
section
variable {S : Sto} {Q : D → Sto → Prop} {E : Str → List (Str × D) → Sto → Prop} {d : D}
def ordP : Option Nat → Nat → Bool
  | none, _ => false
  | some q, c => strLe ⟨#[c]⟩ ⟨#[q]⟩
def scanL (A : Str) : Option Nat → Nat → List Nat → Option (Int × String)
  | _, _, [] => none
  | p, n, c :: cs => if inStr ⟨#[c]⟩ A = true then (if ordP p c = true then some ((n : Int), "order") else scanL A (some c) (n + 1) cs) else some ((n : Int), "letter")
def fltD : Option (Int × String) → D
  | none => .non
  | some (n, w) => .tup [.int n, .str (Str.ofString w)]
def dueD (m : Int) : Option (Int × String) → D
  | none => .int m
  | some (n, w) => .tup [.int n, .str (Str.ofString w)]
def az : Str := Str.ofString "abcdefghijklmnopqrstuvwxyz"
def lettersF : D → Option (Int × String)
  | .str z => if 1 ≤ z.length ∧ z.length ≤ 6 then scanL az none 0 z.cps.toList else some (-1, "limit")
  | _ => some (-1, "shape")
def lenD : D → Int
  | .str z => z.length
  | _ => 0
def prevAt (l : List Nat) (i : Nat) : Option Nat := if i = 0 then none else l[i - 1]?
theorem prev_succ {l : List Nat} {i c : Nat} (h : l[i]? = some c) : prevAt l (i + 1) = some c := by
  unfold prevAt
  rw [if_neg (by omega)]; simpa using h
theorem letters_fault_eq (hd : fd d = true) : M_letters_fault [d] S = .ok (fltD (lettersF d)) S := by
  refine eq_of_wp ?_
  unfold M_letters_fault
  refine wpM_fn ?_
  unfold m_letters_fault
  simp only [mkR_eq, wpM_rg1, wpM_rg2, wpM_enumA, wpM_iof, wpM_lfS, wS_rai, wS_try, wpM_catF, wpM_revA, wpM_newD, wpM_itemE, wpM_itemT, wpM_hasE, wpM_get1, wpM_get2, wS_putE, wS_putT, and_self, if_true, if_false, Bool.false_eq_true, reduceIte, wS_setS, wS_seq, wS_if, wS_asg, wS_exS, wS_retS, wS_nxS, wS_nx, wS_ret, wpM_op2, wpM_op1, wpM_asT, wpM_trt, wpM_notT, wpM_andT, wpM_orT, wpM_andV, wpM_notE, wpM_ifE, wpM_lnil, wpM_lcons, wpM_tupE, wpM_lstF, wpM_frz, wpM_new, wpM_cal, wpM_calB, wpM_calF, wpM_isiE, wpM_vr, wpM_ct, wpM_meth, wpM_chn, wpM_cut, wpM_cutF, wpM_ono, wpM_osm, wpM_revT, wpM_lfE, wS_for, tgN, List.getElem?_cons_zero, List.getElem?_cons_succ, List.set_cons_zero, List.set_cons_succ, List.map_cons, List.map_nil, List.length_cons, List.length_nil, List.replicate_succ, List.replicate_zero, Nat.reduceAdd, Nat.reduceSub, List.cons_append, List.nil_append, isiS (fd_pure hd)]
  cases d with
  | str z =>
    have hz := okS_len hd
    simp only [isS, tru, mkR_eq, wpM_rg1, wpM_rg2, wpM_enumA, wpM_iof, wpM_lfS, wS_rai, wS_try, wpM_catF, wpM_revA, wpM_newD, wpM_itemE, wpM_itemT, wpM_hasE, wpM_get1, wpM_get2, wS_putE, wS_putT, and_self, if_true, if_false, Bool.false_eq_true, reduceIte, wS_setS, wS_seq, wS_if, wS_asg, wS_exS, wS_retS, wS_nxS, wS_nx, wS_ret, wpM_op2, wpM_op1, wpM_asT, wpM_trt, wpM_notT, wpM_andT, wpM_orT, wpM_andV, wpM_notE, wpM_ifE, wpM_lnil, wpM_lcons, wpM_tupE, wpM_lstF, wpM_frz, wpM_new, wpM_cal, wpM_calB, wpM_calF, wpM_isiE, wpM_vr, wpM_ct, wpM_meth, wpM_chn, wpM_cut, wpM_cutF, wpM_ono, wpM_osm, wpM_revT, wpM_lfE, wS_for, tgN, List.getElem?_cons_zero, List.getElem?_cons_succ, List.set_cons_zero, List.set_cons_succ, List.map_cons, List.map_nil, List.length_cons, List.length_nil, List.replicate_succ, List.replicate_zero, Nat.reduceAdd, Nat.reduceSub, List.cons_append, List.nil_append, Bool.not_true, len_str (show z.length ≤ 16777216 by omega), leI_int]
    by_cases h1 : 1 ≤ z.length
    · simp only [decide_eq_true (show (1 : Int) ≤ (z.length : Int) by omega), mkR_eq, wpM_rg1, wpM_rg2, wpM_enumA, wpM_iof, wpM_lfS, wS_rai, wS_try, wpM_catF, wpM_revA, wpM_newD, wpM_itemE, wpM_itemT, wpM_hasE, wpM_get1, wpM_get2, wS_putE, wS_putT, and_self, if_true, if_false, Bool.false_eq_true, reduceIte, wS_setS, wS_seq, wS_if, wS_asg, wS_exS, wS_retS, wS_nxS, wS_nx, wS_ret, wpM_op2, wpM_op1, wpM_asT, wpM_trt, wpM_notT, wpM_andT, wpM_orT, wpM_andV, wpM_notE, wpM_ifE, wpM_lnil, wpM_lcons, wpM_tupE, wpM_lstF, wpM_frz, wpM_new, wpM_cal, wpM_calB, wpM_calF, wpM_isiE, wpM_vr, wpM_ct, wpM_meth, wpM_chn, wpM_cut, wpM_cutF, wpM_ono, wpM_osm, wpM_revT, wpM_lfE, wS_for, tgN, List.getElem?_cons_zero, List.getElem?_cons_succ, List.set_cons_zero, List.set_cons_succ, List.map_cons, List.map_nil, List.length_cons, List.length_nil, List.replicate_succ, List.replicate_zero, Nat.reduceAdd, Nat.reduceSub, List.cons_append, List.nil_append, leI_int]
      by_cases h6 : z.length ≤ 6
      · simp only [decide_eq_true (show (z.length : Int) ≤ 6 by omega), mkR_eq, wpM_rg1, wpM_rg2, wpM_enumA, wpM_iof, wpM_lfS, wS_rai, wS_try, wpM_catF, wpM_revA, wpM_newD, wpM_itemE, wpM_itemT, wpM_hasE, wpM_get1, wpM_get2, wS_putE, wS_putT, and_self, if_true, if_false, Bool.false_eq_true, reduceIte, wS_setS, wS_seq, wS_if, wS_asg, wS_exS, wS_retS, wS_nxS, wS_nx, wS_ret, wpM_op2, wpM_op1, wpM_asT, wpM_trt, wpM_notT, wpM_andT, wpM_orT, wpM_andV, wpM_notE, wpM_ifE, wpM_lnil, wpM_lcons, wpM_tupE, wpM_lstF, wpM_frz, wpM_new, wpM_cal, wpM_calB, wpM_calF, wpM_isiE, wpM_vr, wpM_ct, wpM_meth, wpM_chn, wpM_cut, wpM_cutF, wpM_ono, wpM_osm, wpM_revT, wpM_lfE, wS_for, tgN, List.getElem?_cons_zero, List.getElem?_cons_succ, List.set_cons_zero, List.set_cons_succ, List.map_cons, List.map_nil, List.length_cons, List.length_nil, List.replicate_succ, List.replicate_zero, Nat.reduceAdd, Nat.reduceSub, List.cons_append, List.nil_append, Bool.not_true, i_enumA, wpM_bdE, enumSrc, wpM_lfS]
        have hF : lettersF (.str z) = scanL az none 0 z.cps.toList := if_pos ⟨h1, h6⟩
        refine wS_loop (fun i env S' => S' = S ∧ ∃ e1 e2, env = [some (.str z), e1, e2] ∧ scanL az none 0 z.cps.toList = scanL az (prevAt z.cps.toList i) i (z.cps.toList.drop i)) _ 0 _ _ ⟨rfl, none, none, rfl, rfl⟩ ?_ ?_
        · rintro j d env S' hj ⟨rfl, e1, e2, rfl, es⟩
          obtain ⟨x, hx, rfl⟩ := enL_get hj
          obtain ⟨c, hc, rfl⟩ := sgns_get hx
          refine ⟨okSrc_nil, _, rfl, ?_⟩
          have hc' : z.cps.toList[j]? = some c := by rw [Array.getElem?_toList]; exact hc
          rw [Nat.zero_add] at es ⊢
          rw [drop_at hc'] at es
          simp only [scanL] at es
          simp only [mkR_eq, wpM_rg1, wpM_rg2, wpM_enumA, wpM_iof, wpM_lfS, wS_rai, wS_try, wpM_catF, wpM_revA, wpM_newD, wpM_itemE, wpM_itemT, wpM_hasE, wpM_get1, wpM_get2, wS_putE, wS_putT, and_self, if_true, if_false, Bool.false_eq_true, reduceIte, wS_setS, wS_seq, wS_if, wS_asg, wS_exS, wS_retS, wS_nxS, wS_nx, wS_ret, wpM_op2, wpM_op1, wpM_asT, wpM_trt, wpM_notT, wpM_andT, wpM_orT, wpM_andV, wpM_notE, wpM_ifE, wpM_lnil, wpM_lcons, wpM_tupE, wpM_lstF, wpM_frz, wpM_new, wpM_cal, wpM_calB, wpM_calF, wpM_isiE, wpM_vr, wpM_ct, wpM_meth, wpM_chn, wpM_cut, wpM_cutF, wpM_ono, wpM_osm, wpM_revT, wpM_lfE, wS_for, tgN, List.getElem?_cons_zero, List.getElem?_cons_succ, List.set_cons_zero, List.set_cons_succ, List.map_cons, List.map_nil, List.length_cons, List.length_nil, List.replicate_succ, List.replicate_zero, Nat.reduceAdd, Nat.reduceSub, List.cons_append, List.nil_append, inS_str, show Str.ofString "abcdefghijklmnopqrstuvwxyz" = az from rfl, Nat.zero_add]
          rcases Bool.eq_false_or_eq_true (inStr ⟨#[c]⟩ az) with ha | ha
          · rw [if_pos ha] at es
            simp only [ha, mkR_eq, wpM_rg1, wpM_rg2, wpM_enumA, wpM_iof, wpM_lfS, wS_rai, wS_try, wpM_catF, wpM_revA, wpM_newD, wpM_itemE, wpM_itemT, wpM_hasE, wpM_get1, wpM_get2, wS_putE, wS_putT, and_self, if_true, if_false, Bool.false_eq_true, reduceIte, wS_setS, wS_seq, wS_if, wS_asg, wS_exS, wS_retS, wS_nxS, wS_nx, wS_ret, wpM_op2, wpM_op1, wpM_asT, wpM_trt, wpM_notT, wpM_andT, wpM_orT, wpM_andV, wpM_notE, wpM_ifE, wpM_lnil, wpM_lcons, wpM_tupE, wpM_lstF, wpM_frz, wpM_new, wpM_cal, wpM_calB, wpM_calF, wpM_isiE, wpM_vr, wpM_ct, wpM_meth, wpM_chn, wpM_cut, wpM_cutF, wpM_ono, wpM_osm, wpM_revT, wpM_lfE, wS_for, tgN, List.getElem?_cons_zero, List.getElem?_cons_succ, List.set_cons_zero, List.set_cons_succ, List.map_cons, List.map_nil, List.length_cons, List.length_nil, List.replicate_succ, List.replicate_zero, Nat.reduceAdd, Nat.reduceSub, List.cons_append, List.nil_append, Bool.not_true, tru]
            cases j with
            | zero =>
              simp only [show ((((0 : Nat) : Int)) != 0) = false from rfl, mkR_eq, wpM_rg1, wpM_rg2, wpM_enumA, wpM_iof, wpM_lfS, wS_rai, wS_try, wpM_catF, wpM_revA, wpM_newD, wpM_itemE, wpM_itemT, wpM_hasE, wpM_get1, wpM_get2, wS_putE, wS_putT, and_self, if_true, if_false, Bool.false_eq_true, reduceIte, wS_setS, wS_seq, wS_if, wS_asg, wS_exS, wS_retS, wS_nxS, wS_nx, wS_ret, wpM_op2, wpM_op1, wpM_asT, wpM_trt, wpM_notT, wpM_andT, wpM_orT, wpM_andV, wpM_notE, wpM_ifE, wpM_lnil, wpM_lcons, wpM_tupE, wpM_lstF, wpM_frz, wpM_new, wpM_cal, wpM_calB, wpM_calF, wpM_isiE, wpM_vr, wpM_ct, wpM_meth, wpM_chn, wpM_cut, wpM_cutF, wpM_ono, wpM_osm, wpM_revT, wpM_lfE, wS_for, tgN, List.getElem?_cons_zero, List.getElem?_cons_succ, List.set_cons_zero, List.set_cons_succ, List.map_cons, List.map_nil, List.length_cons, List.length_nil, List.replicate_succ, List.replicate_zero, Nat.reduceAdd, Nat.reduceSub, List.cons_append, List.nil_append]
              refine ⟨by trivial, _, _, rfl, ?_⟩
              rw [es, prev_succ hc']
              rfl
            | succ j =>
              have hj2 : j < z.cps.toList.length := by
                have := (List.getElem?_eq_some_iff.mp hc').1
                omega
              obtain ⟨q, hq⟩ : ∃ q, z.cps.toList[j]? = some q := ⟨_, List.getElem?_eq_getElem hj2⟩
              have hq' : z.cps[j]? = some q := by rw [← Array.getElem?_toList]; exact hq
              rw [prev_succ hq] at es
              simp only [show ((((j + 1 : Nat) : Int)) != 0) = true from by simp; omega, mkR_eq, wpM_rg1, wpM_rg2, wpM_enumA, wpM_iof, wpM_lfS, wS_rai, wS_try, wpM_catF, wpM_revA, wpM_newD, wpM_itemE, wpM_itemT, wpM_hasE, wpM_get1, wpM_get2, wS_putE, wS_putT, and_self, if_true, if_false, Bool.false_eq_true, reduceIte, wS_setS, wS_seq, wS_if, wS_asg, wS_exS, wS_retS, wS_nxS, wS_nx, wS_ret, wpM_op2, wpM_op1, wpM_asT, wpM_trt, wpM_notT, wpM_andT, wpM_orT, wpM_andV, wpM_notE, wpM_ifE, wpM_lnil, wpM_lcons, wpM_tupE, wpM_lstF, wpM_frz, wpM_new, wpM_cal, wpM_calB, wpM_calF, wpM_isiE, wpM_vr, wpM_ct, wpM_meth, wpM_chn, wpM_cut, wpM_cutF, wpM_ono, wpM_osm, wpM_revT, wpM_lfE, wS_for, tgN, List.getElem?_cons_zero, List.getElem?_cons_succ, List.set_cons_zero, List.set_cons_succ, List.map_cons, List.map_nil, List.length_cons, List.length_nil, List.replicate_succ, List.replicate_zero, Nat.reduceAdd, Nat.reduceSub, List.cons_append, List.nil_append, sub_int, show (((j + 1 : Nat) : Int)) - 1 = (j : Int) from by omega, str_at hq' (show z.length ≤ 16777216 by omega), o_le]
              rcases Bool.eq_false_or_eq_true (strLe ⟨#[c]⟩ ⟨#[q]⟩) with hb | hb
              · rw [if_pos (show ordP (some q) c = true from hb)] at es
                simp only [hb, mkR_eq, wpM_rg1, wpM_rg2, wpM_enumA, wpM_iof, wpM_lfS, wS_rai, wS_try, wpM_catF, wpM_revA, wpM_newD, wpM_itemE, wpM_itemT, wpM_hasE, wpM_get1, wpM_get2, wS_putE, wS_putT, and_self, if_true, if_false, Bool.false_eq_true, reduceIte, wS_setS, wS_seq, wS_if, wS_asg, wS_exS, wS_retS, wS_nxS, wS_nx, wS_ret, wpM_op2, wpM_op1, wpM_asT, wpM_trt, wpM_notT, wpM_andT, wpM_orT, wpM_andV, wpM_notE, wpM_ifE, wpM_lnil, wpM_lcons, wpM_tupE, wpM_lstF, wpM_frz, wpM_new, wpM_cal, wpM_calB, wpM_calF, wpM_isiE, wpM_vr, wpM_ct, wpM_meth, wpM_chn, wpM_cut, wpM_cutF, wpM_ono, wpM_osm, wpM_revT, wpM_lfE, wS_for, tgN, List.getElem?_cons_zero, List.getElem?_cons_succ, List.set_cons_zero, List.set_cons_succ, List.map_cons, List.map_nil, List.length_cons, List.length_nil, List.replicate_succ, List.replicate_zero, Nat.reduceAdd, Nat.reduceSub, List.cons_append, List.nil_append, le_sz (n := 2) rfl]
                rw [scope_pure rfl, wpM_ok, trunc_same, hF, es]
                exact ⟨rfl, rfl⟩
              · rw [if_neg (show ¬ ordP (some q) c = true from by show ¬ strLe _ _ = true; rw [hb]; exact Bool.false_ne_true)] at es
                simp only [hb, mkR_eq, wpM_rg1, wpM_rg2, wpM_enumA, wpM_iof, wpM_lfS, wS_rai, wS_try, wpM_catF, wpM_revA, wpM_newD, wpM_itemE, wpM_itemT, wpM_hasE, wpM_get1, wpM_get2, wS_putE, wS_putT, and_self, if_true, if_false, Bool.false_eq_true, reduceIte, wS_setS, wS_seq, wS_if, wS_asg, wS_exS, wS_retS, wS_nxS, wS_nx, wS_ret, wpM_op2, wpM_op1, wpM_asT, wpM_trt, wpM_notT, wpM_andT, wpM_orT, wpM_andV, wpM_notE, wpM_ifE, wpM_lnil, wpM_lcons, wpM_tupE, wpM_lstF, wpM_frz, wpM_new, wpM_cal, wpM_calB, wpM_calF, wpM_isiE, wpM_vr, wpM_ct, wpM_meth, wpM_chn, wpM_cut, wpM_cutF, wpM_ono, wpM_osm, wpM_revT, wpM_lfE, wS_for, tgN, List.getElem?_cons_zero, List.getElem?_cons_succ, List.set_cons_zero, List.set_cons_succ, List.map_cons, List.map_nil, List.length_cons, List.length_nil, List.replicate_succ, List.replicate_zero, Nat.reduceAdd, Nat.reduceSub, List.cons_append, List.nil_append]
                refine ⟨by trivial, _, _, rfl, ?_⟩
                rw [es, prev_succ hc']
          · rw [if_neg (by rw [ha]; exact Bool.false_ne_true)] at es
            simp only [ha, mkR_eq, wpM_rg1, wpM_rg2, wpM_enumA, wpM_iof, wpM_lfS, wS_rai, wS_try, wpM_catF, wpM_revA, wpM_newD, wpM_itemE, wpM_itemT, wpM_hasE, wpM_get1, wpM_get2, wS_putE, wS_putT, and_self, if_true, if_false, Bool.false_eq_true, reduceIte, wS_setS, wS_seq, wS_if, wS_asg, wS_exS, wS_retS, wS_nxS, wS_nx, wS_ret, wpM_op2, wpM_op1, wpM_asT, wpM_trt, wpM_notT, wpM_andT, wpM_orT, wpM_andV, wpM_notE, wpM_ifE, wpM_lnil, wpM_lcons, wpM_tupE, wpM_lstF, wpM_frz, wpM_new, wpM_cal, wpM_calB, wpM_calF, wpM_isiE, wpM_vr, wpM_ct, wpM_meth, wpM_chn, wpM_cut, wpM_cutF, wpM_ono, wpM_osm, wpM_revT, wpM_lfE, wS_for, tgN, List.getElem?_cons_zero, List.getElem?_cons_succ, List.set_cons_zero, List.set_cons_succ, List.map_cons, List.map_nil, List.length_cons, List.length_nil, List.replicate_succ, List.replicate_zero, Nat.reduceAdd, Nat.reduceSub, List.cons_append, List.nil_append, Bool.not_false, le_sz (n := 2) rfl]
            rw [scope_pure rfl, wpM_ok, trunc_same, hF, es]
            exact ⟨rfl, rfl⟩
        · rintro env S' ⟨rfl, e1, e2, rfl, es⟩
          refine ⟨okSrc_nil, ?_⟩
          rw [enL_length, sgns_len, Nat.zero_add] at es
          simp only [mkR_eq, wpM_rg1, wpM_rg2, wpM_enumA, wpM_iof, wpM_lfS, wS_rai, wS_try, wpM_catF, wpM_revA, wpM_newD, wpM_itemE, wpM_itemT, wpM_hasE, wpM_get1, wpM_get2, wS_putE, wS_putT, and_self, if_true, if_false, Bool.false_eq_true, reduceIte, wS_setS, wS_seq, wS_if, wS_asg, wS_exS, wS_retS, wS_nxS, wS_nx, wS_ret, wpM_op2, wpM_op1, wpM_asT, wpM_trt, wpM_notT, wpM_andT, wpM_orT, wpM_andV, wpM_notE, wpM_ifE, wpM_lnil, wpM_lcons, wpM_tupE, wpM_lstF, wpM_frz, wpM_new, wpM_cal, wpM_calB, wpM_calF, wpM_isiE, wpM_vr, wpM_ct, wpM_meth, wpM_chn, wpM_cut, wpM_cutF, wpM_ono, wpM_osm, wpM_revT, wpM_lfE, wS_for, tgN, List.getElem?_cons_zero, List.getElem?_cons_succ, List.set_cons_zero, List.set_cons_succ, List.map_cons, List.map_nil, List.length_cons, List.length_nil, List.replicate_succ, List.replicate_zero, Nat.reduceAdd, Nat.reduceSub, List.cons_append, List.nil_append]
          rw [scope_pure rfl, wpM_ok, trunc_same, hF, es, show z.cps.toList.drop z.cps.size = [] from by simp]
          exact ⟨rfl, rfl⟩
      · simp only [decide_eq_false (show ¬ (z.length : Int) ≤ 6 by omega), mkR_eq, wpM_rg1, wpM_rg2, wpM_enumA, wpM_iof, wpM_lfS, wS_rai, wS_try, wpM_catF, wpM_revA, wpM_newD, wpM_itemE, wpM_itemT, wpM_hasE, wpM_get1, wpM_get2, wS_putE, wS_putT, and_self, if_true, if_false, Bool.false_eq_true, reduceIte, wS_setS, wS_seq, wS_if, wS_asg, wS_exS, wS_retS, wS_nxS, wS_nx, wS_ret, wpM_op2, wpM_op1, wpM_asT, wpM_trt, wpM_notT, wpM_andT, wpM_orT, wpM_andV, wpM_notE, wpM_ifE, wpM_lnil, wpM_lcons, wpM_tupE, wpM_lstF, wpM_frz, wpM_new, wpM_cal, wpM_calB, wpM_calF, wpM_isiE, wpM_vr, wpM_ct, wpM_meth, wpM_chn, wpM_cut, wpM_cutF, wpM_ono, wpM_osm, wpM_revT, wpM_lfE, wS_for, tgN, List.getElem?_cons_zero, List.getElem?_cons_succ, List.set_cons_zero, List.set_cons_succ, List.map_cons, List.map_nil, List.length_cons, List.length_nil, List.replicate_succ, List.replicate_zero, Nat.reduceAdd, Nat.reduceSub, List.cons_append, List.nil_append, Bool.not_false, neg_int, le_sz (n := 2) rfl]
        rw [scope_pure rfl, wpM_ok, trunc_same]
        rw [show lettersF (.str z) = some (-1, "limit") from if_neg (by omega)]
        exact ⟨rfl, rfl⟩
    · simp only [decide_eq_false (show ¬ (1 : Int) ≤ (z.length : Int) by omega), mkR_eq, wpM_rg1, wpM_rg2, wpM_enumA, wpM_iof, wpM_lfS, wS_rai, wS_try, wpM_catF, wpM_revA, wpM_newD, wpM_itemE, wpM_itemT, wpM_hasE, wpM_get1, wpM_get2, wS_putE, wS_putT, and_self, if_true, if_false, Bool.false_eq_true, reduceIte, wS_setS, wS_seq, wS_if, wS_asg, wS_exS, wS_retS, wS_nxS, wS_nx, wS_ret, wpM_op2, wpM_op1, wpM_asT, wpM_trt, wpM_notT, wpM_andT, wpM_orT, wpM_andV, wpM_notE, wpM_ifE, wpM_lnil, wpM_lcons, wpM_tupE, wpM_lstF, wpM_frz, wpM_new, wpM_cal, wpM_calB, wpM_calF, wpM_isiE, wpM_vr, wpM_ct, wpM_meth, wpM_chn, wpM_cut, wpM_cutF, wpM_ono, wpM_osm, wpM_revT, wpM_lfE, wS_for, tgN, List.getElem?_cons_zero, List.getElem?_cons_succ, List.set_cons_zero, List.set_cons_succ, List.map_cons, List.map_nil, List.length_cons, List.length_nil, List.replicate_succ, List.replicate_zero, Nat.reduceAdd, Nat.reduceSub, List.cons_append, List.nil_append, Bool.not_false, neg_int, le_sz (n := 2) rfl]
      rw [scope_pure rfl, wpM_ok, trunc_same]
      rw [show lettersF (.str z) = some (-1, "limit") from if_neg (by omega)]
      exact ⟨rfl, rfl⟩
  | _ =>
    simp only [isS, tru, mkR_eq, wpM_rg1, wpM_rg2, wpM_enumA, wpM_iof, wpM_lfS, wS_rai, wS_try, wpM_catF, wpM_revA, wpM_newD, wpM_itemE, wpM_itemT, wpM_hasE, wpM_get1, wpM_get2, wS_putE, wS_putT, and_self, if_true, if_false, Bool.false_eq_true, reduceIte, wS_setS, wS_seq, wS_if, wS_asg, wS_exS, wS_retS, wS_nxS, wS_nx, wS_ret, wpM_op2, wpM_op1, wpM_asT, wpM_trt, wpM_notT, wpM_andT, wpM_orT, wpM_andV, wpM_notE, wpM_ifE, wpM_lnil, wpM_lcons, wpM_tupE, wpM_lstF, wpM_frz, wpM_new, wpM_cal, wpM_calB, wpM_calF, wpM_isiE, wpM_vr, wpM_ct, wpM_meth, wpM_chn, wpM_cut, wpM_cutF, wpM_ono, wpM_osm, wpM_revT, wpM_lfE, wS_for, tgN, List.getElem?_cons_zero, List.getElem?_cons_succ, List.set_cons_zero, List.set_cons_succ, List.map_cons, List.map_nil, List.length_cons, List.length_nil, List.replicate_succ, List.replicate_zero, Nat.reduceAdd, Nat.reduceSub, List.cons_append, List.nil_append, Bool.not_false, neg_int, le_sz (n := 2) rfl]
    rw [scope_pure rfl, wpM_ok, trunc_same]
    exact ⟨rfl, rfl⟩
end
end Z

end
section
set_option Elab.async false
set_option linter.all false
set_option maxRecDepth 100000
set_option maxHeartbeats 4000000
set_option autoImplicit false
namespace Z
open PySem PySem.Spec L2 Y PySem.W
section
variable {S : Sto} {Q : D → Sto → Prop} {E : Str → List (Str × D) → Sto → Prop} {d : D} {L : Str}
theorem is_whole_eq (hd : d.pure = true) : M_is_whole [d] S = .ok (.bl (isI d)) S := by
  refine eq_of_wp ?_
  unfold M_is_whole
  refine wpM_fn ?_
  unfold m_is_whole
  simp only [mkR_eq, wpM_rg1, wpM_rg2, wpM_enumA, wpM_iof, wpM_lfS, wS_rai, wS_try, wpM_catF, wpM_revA, wpM_newD, wpM_itemE, wpM_itemT, wpM_hasE, wpM_get1, wpM_get2, wS_putE, wS_putT, and_self, if_true, if_false, Bool.false_eq_true, reduceIte, wS_setS, wS_seq, wS_if, wS_asg, wS_exS, wS_retS, wS_nxS, wS_nx, wS_ret, wpM_op2, wpM_op1, wpM_asT, wpM_trt, wpM_notT, wpM_andT, wpM_orT, wpM_andV, wpM_notE, wpM_ifE, wpM_lnil, wpM_lcons, wpM_tupE, wpM_lstF, wpM_frz, wpM_new, wpM_cal, wpM_calB, wpM_calF, wpM_isiE, wpM_vr, wpM_ct, wpM_meth, wpM_chn, wpM_cut, wpM_cutF, wpM_ono, wpM_osm, wpM_revT, wpM_lfE, wS_for, tgN, List.getElem?_cons_zero, List.getElem?_cons_succ, List.set_cons_zero, List.set_cons_succ, List.map_cons, List.map_nil, List.length_cons, List.length_nil, List.replicate_succ, List.replicate_zero, Nat.reduceAdd, Nat.reduceSub, List.cons_append, List.nil_append, isiI hd, isiB hd, tru]
  cases d <;> first | cases hd; done | (simp only [isI, isB, mkR_eq, wpM_rg1, wpM_rg2, wpM_enumA, wpM_iof, wpM_lfS, wS_rai, wS_try, wpM_catF, wpM_revA, wpM_newD, wpM_itemE, wpM_itemT, wpM_hasE, wpM_get1, wpM_get2, wS_putE, wS_putT, and_self, if_true, if_false, Bool.false_eq_true, reduceIte, wS_setS, wS_seq, wS_if, wS_asg, wS_exS, wS_retS, wS_nxS, wS_nx, wS_ret, wpM_op2, wpM_op1, wpM_asT, wpM_trt, wpM_notT, wpM_andT, wpM_orT, wpM_andV, wpM_notE, wpM_ifE, wpM_lnil, wpM_lcons, wpM_tupE, wpM_lstF, wpM_frz, wpM_new, wpM_cal, wpM_calB, wpM_calF, wpM_isiE, wpM_vr, wpM_ct, wpM_meth, wpM_chn, wpM_cut, wpM_cutF, wpM_ono, wpM_osm, wpM_revT, wpM_lfE, wS_for, tgN, List.getElem?_cons_zero, List.getElem?_cons_succ, List.set_cons_zero, List.set_cons_succ, List.map_cons, List.map_nil, List.length_cons, List.length_nil, List.replicate_succ, List.replicate_zero, Nat.reduceAdd, Nat.reduceSub, List.cons_append, List.nil_append, tru, Bool.or_true, Bool.true_or, Bool.or_false, Bool.not_true, Bool.not_false]; rw [scope_bl, wpM_ok, trunc_same]; exact ⟨rfl, rfl⟩)
theorem lwhole_eq (hd : d.pure = true) : M__law_is_whole [d] S = .ok (.bl (isI d)) S := by
  refine eq_of_wp ?_
  unfold M__law_is_whole
  refine wpM_fn ?_
  unfold m__law_is_whole
  simp only [mkR_eq, wpM_rg1, wpM_rg2, wpM_enumA, wpM_iof, wpM_lfS, wS_rai, wS_try, wpM_catF, wpM_revA, wpM_newD, wpM_itemE, wpM_itemT, wpM_hasE, wpM_get1, wpM_get2, wS_putE, wS_putT, and_self, if_true, if_false, Bool.false_eq_true, reduceIte, wS_setS, wS_seq, wS_if, wS_asg, wS_exS, wS_retS, wS_nxS, wS_nx, wS_ret, wpM_op2, wpM_op1, wpM_asT, wpM_trt, wpM_notT, wpM_andT, wpM_orT, wpM_andV, wpM_notE, wpM_ifE, wpM_lnil, wpM_lcons, wpM_tupE, wpM_lstF, wpM_frz, wpM_new, wpM_cal, wpM_calB, wpM_calF, wpM_isiE, wpM_vr, wpM_ct, wpM_meth, wpM_chn, wpM_cut, wpM_cutF, wpM_ono, wpM_osm, wpM_revT, wpM_lfE, wS_for, tgN, List.getElem?_cons_zero, List.getElem?_cons_succ, List.set_cons_zero, List.set_cons_succ, List.map_cons, List.map_nil, List.length_cons, List.length_nil, List.replicate_succ, List.replicate_zero, Nat.reduceAdd, Nat.reduceSub, List.cons_append, List.nil_append, isiI hd, isiB hd, tru]
  cases d <;> first | cases hd; done | (simp only [isI, isB, mkR_eq, wpM_rg1, wpM_rg2, wpM_enumA, wpM_iof, wpM_lfS, wS_rai, wS_try, wpM_catF, wpM_revA, wpM_newD, wpM_itemE, wpM_itemT, wpM_hasE, wpM_get1, wpM_get2, wS_putE, wS_putT, and_self, if_true, if_false, Bool.false_eq_true, reduceIte, wS_setS, wS_seq, wS_if, wS_asg, wS_exS, wS_retS, wS_nxS, wS_nx, wS_ret, wpM_op2, wpM_op1, wpM_asT, wpM_trt, wpM_notT, wpM_andT, wpM_orT, wpM_andV, wpM_notE, wpM_ifE, wpM_lnil, wpM_lcons, wpM_tupE, wpM_lstF, wpM_frz, wpM_new, wpM_cal, wpM_calB, wpM_calF, wpM_isiE, wpM_vr, wpM_ct, wpM_meth, wpM_chn, wpM_cut, wpM_cutF, wpM_ono, wpM_osm, wpM_revT, wpM_lfE, wS_for, tgN, List.getElem?_cons_zero, List.getElem?_cons_succ, List.set_cons_zero, List.set_cons_succ, List.map_cons, List.map_nil, List.length_cons, List.length_nil, List.replicate_succ, List.replicate_zero, Nat.reduceAdd, Nat.reduceSub, List.cons_append, List.nil_append, tru, Bool.or_true, Bool.true_or, Bool.or_false, Bool.not_true, Bool.not_false]; rw [scope_bl, wpM_ok, trunc_same]; exact ⟨rfl, rfl⟩)
theorem letters_due_eq (hd : fd d = true) : M__law_letters_due [d] S = .ok (dueD (lenD d) (lettersF d)) S := by
  refine eq_of_wp ?_
  unfold M__law_letters_due
  refine wpM_fn ?_
  unfold m__law_letters_due
  simp only [mkR_eq, wpM_rg1, wpM_rg2, wpM_enumA, wpM_iof, wpM_lfS, wS_rai, wS_try, wpM_catF, wpM_revA, wpM_newD, wpM_itemE, wpM_itemT, wpM_hasE, wpM_get1, wpM_get2, wS_putE, wS_putT, and_self, if_true, if_false, Bool.false_eq_true, reduceIte, wS_setS, wS_seq, wS_if, wS_asg, wS_exS, wS_retS, wS_nxS, wS_nx, wS_ret, wpM_op2, wpM_op1, wpM_asT, wpM_trt, wpM_notT, wpM_andT, wpM_orT, wpM_andV, wpM_notE, wpM_ifE, wpM_lnil, wpM_lcons, wpM_tupE, wpM_lstF, wpM_frz, wpM_new, wpM_cal, wpM_calB, wpM_calF, wpM_isiE, wpM_vr, wpM_ct, wpM_meth, wpM_chn, wpM_cut, wpM_cutF, wpM_ono, wpM_osm, wpM_revT, wpM_lfE, wS_for, tgN, List.getElem?_cons_zero, List.getElem?_cons_succ, List.set_cons_zero, List.set_cons_succ, List.map_cons, List.map_nil, List.length_cons, List.length_nil, List.replicate_succ, List.replicate_zero, Nat.reduceAdd, Nat.reduceSub, List.cons_append, List.nil_append, isiS (fd_pure hd)]
  cases d with
  | str z =>
    have hz := okS_len hd
    simp only [isS, tru, mkR_eq, wpM_rg1, wpM_rg2, wpM_enumA, wpM_iof, wpM_lfS, wS_rai, wS_try, wpM_catF, wpM_revA, wpM_newD, wpM_itemE, wpM_itemT, wpM_hasE, wpM_get1, wpM_get2, wS_putE, wS_putT, and_self, if_true, if_false, Bool.false_eq_true, reduceIte, wS_setS, wS_seq, wS_if, wS_asg, wS_exS, wS_retS, wS_nxS, wS_nx, wS_ret, wpM_op2, wpM_op1, wpM_asT, wpM_trt, wpM_notT, wpM_andT, wpM_orT, wpM_andV, wpM_notE, wpM_ifE, wpM_lnil, wpM_lcons, wpM_tupE, wpM_lstF, wpM_frz, wpM_new, wpM_cal, wpM_calB, wpM_calF, wpM_isiE, wpM_vr, wpM_ct, wpM_meth, wpM_chn, wpM_cut, wpM_cutF, wpM_ono, wpM_osm, wpM_revT, wpM_lfE, wS_for, tgN, List.getElem?_cons_zero, List.getElem?_cons_succ, List.set_cons_zero, List.set_cons_succ, List.map_cons, List.map_nil, List.length_cons, List.length_nil, List.replicate_succ, List.replicate_zero, Nat.reduceAdd, Nat.reduceSub, List.cons_append, List.nil_append, Bool.not_true, len_str (show z.length ≤ 16777216 by omega), eq_int, cmp_int]
    by_cases h1 : 1 ≤ z.length
    · simp only [show ((z.length : Int) == 0) = false from by simp; omega, mkR_eq, wpM_rg1, wpM_rg2, wpM_enumA, wpM_iof, wpM_lfS, wS_rai, wS_try, wpM_catF, wpM_revA, wpM_newD, wpM_itemE, wpM_itemT, wpM_hasE, wpM_get1, wpM_get2, wS_putE, wS_putT, and_self, if_true, if_false, Bool.false_eq_true, reduceIte, wS_setS, wS_seq, wS_if, wS_asg, wS_exS, wS_retS, wS_nxS, wS_nx, wS_ret, wpM_op2, wpM_op1, wpM_asT, wpM_trt, wpM_notT, wpM_andT, wpM_orT, wpM_andV, wpM_notE, wpM_ifE, wpM_lnil, wpM_lcons, wpM_tupE, wpM_lstF, wpM_frz, wpM_new, wpM_cal, wpM_calB, wpM_calF, wpM_isiE, wpM_vr, wpM_ct, wpM_meth, wpM_chn, wpM_cut, wpM_cutF, wpM_ono, wpM_osm, wpM_revT, wpM_lfE, wS_for, tgN, List.getElem?_cons_zero, List.getElem?_cons_succ, List.set_cons_zero, List.set_cons_succ, List.map_cons, List.map_nil, List.length_cons, List.length_nil, List.replicate_succ, List.replicate_zero, Nat.reduceAdd, Nat.reduceSub, List.cons_append, List.nil_append, cmp_int]
      by_cases h6 : z.length ≤ 6
      · simp only [decide_eq_false (show ¬ (6 : Int) < (z.length : Int) by omega), mkR_eq, wpM_rg1, wpM_rg2, wpM_enumA, wpM_iof, wpM_lfS, wS_rai, wS_try, wpM_catF, wpM_revA, wpM_newD, wpM_itemE, wpM_itemT, wpM_hasE, wpM_get1, wpM_get2, wS_putE, wS_putT, and_self, if_true, if_false, Bool.false_eq_true, reduceIte, wS_setS, wS_seq, wS_if, wS_asg, wS_exS, wS_retS, wS_nxS, wS_nx, wS_ret, wpM_op2, wpM_op1, wpM_asT, wpM_trt, wpM_notT, wpM_andT, wpM_orT, wpM_andV, wpM_notE, wpM_ifE, wpM_lnil, wpM_lcons, wpM_tupE, wpM_lstF, wpM_frz, wpM_new, wpM_cal, wpM_calB, wpM_calF, wpM_isiE, wpM_vr, wpM_ct, wpM_meth, wpM_chn, wpM_cut, wpM_cutF, wpM_ono, wpM_osm, wpM_revT, wpM_lfE, wS_for, tgN, List.getElem?_cons_zero, List.getElem?_cons_succ, List.set_cons_zero, List.set_cons_succ, List.map_cons, List.map_nil, List.length_cons, List.length_nil, List.replicate_succ, List.replicate_zero, Nat.reduceAdd, Nat.reduceSub, List.cons_append, List.nil_append, len_str (show z.length ≤ 16777216 by omega)]
        refine ⟨rgOk_nat (by omega), ?_⟩
        have hF : lettersF (.str z) = scanL az none 0 z.cps.toList := if_pos ⟨h1, h6⟩
        refine wS_loop (fun i env S' => S' = S ∧ ∃ e1, env = [some (.str z), e1] ∧ scanL az none 0 z.cps.toList = scanL az (prevAt z.cps.toList i) i (z.cps.toList.drop i)) _ 0 _ _ ⟨rfl, none, rfl, rfl⟩ ?_ ?_
        · rintro j d env S' hj ⟨rfl, e1, rfl, es⟩
          obtain ⟨rfl, hjn⟩ := rgL_get hj
          have hjl : j < z.cps.toList.length := hjn
          obtain ⟨c, hc'⟩ : ∃ c, z.cps.toList[j]? = some c := ⟨_, List.getElem?_eq_getElem hjl⟩
          have hc : z.cps[j]? = some c := by rw [← Array.getElem?_toList]; exact hc'
          refine ⟨okSrc_nil, _, rfl, ?_⟩
          rw [Nat.zero_add] at es ⊢
          rw [drop_at hc'] at es
          simp only [scanL] at es
          simp only [mkR_eq, wpM_rg1, wpM_rg2, wpM_enumA, wpM_iof, wpM_lfS, wS_rai, wS_try, wpM_catF, wpM_revA, wpM_newD, wpM_itemE, wpM_itemT, wpM_hasE, wpM_get1, wpM_get2, wS_putE, wS_putT, and_self, if_true, if_false, Bool.false_eq_true, reduceIte, wS_setS, wS_seq, wS_if, wS_asg, wS_exS, wS_retS, wS_nxS, wS_nx, wS_ret, wpM_op2, wpM_op1, wpM_asT, wpM_trt, wpM_notT, wpM_andT, wpM_orT, wpM_andV, wpM_notE, wpM_ifE, wpM_lnil, wpM_lcons, wpM_tupE, wpM_lstF, wpM_frz, wpM_new, wpM_cal, wpM_calB, wpM_calF, wpM_isiE, wpM_vr, wpM_ct, wpM_meth, wpM_chn, wpM_cut, wpM_cutF, wpM_ono, wpM_osm, wpM_revT, wpM_lfE, wS_for, tgN, List.getElem?_cons_zero, List.getElem?_cons_succ, List.set_cons_zero, List.set_cons_succ, List.map_cons, List.map_nil, List.length_cons, List.length_nil, List.replicate_succ, List.replicate_zero, Nat.reduceAdd, Nat.reduceSub, List.cons_append, List.nil_append, inS_str, show Str.ofString "abcdefghijklmnopqrstuvwxyz" = az from rfl, str_at hc (show z.length ≤ 16777216 by omega)]
          rcases Bool.eq_false_or_eq_true (inStr ⟨#[c]⟩ az) with ha | ha
          · rw [if_pos ha] at es
            simp only [ha, mkR_eq, wpM_rg1, wpM_rg2, wpM_enumA, wpM_iof, wpM_lfS, wS_rai, wS_try, wpM_catF, wpM_revA, wpM_newD, wpM_itemE, wpM_itemT, wpM_hasE, wpM_get1, wpM_get2, wS_putE, wS_putT, and_self, if_true, if_false, Bool.false_eq_true, reduceIte, wS_setS, wS_seq, wS_if, wS_asg, wS_exS, wS_retS, wS_nxS, wS_nx, wS_ret, wpM_op2, wpM_op1, wpM_asT, wpM_trt, wpM_notT, wpM_andT, wpM_orT, wpM_andV, wpM_notE, wpM_ifE, wpM_lnil, wpM_lcons, wpM_tupE, wpM_lstF, wpM_frz, wpM_new, wpM_cal, wpM_calB, wpM_calF, wpM_isiE, wpM_vr, wpM_ct, wpM_meth, wpM_chn, wpM_cut, wpM_cutF, wpM_ono, wpM_osm, wpM_revT, wpM_lfE, wS_for, tgN, List.getElem?_cons_zero, List.getElem?_cons_succ, List.set_cons_zero, List.set_cons_succ, List.map_cons, List.map_nil, List.length_cons, List.length_nil, List.replicate_succ, List.replicate_zero, Nat.reduceAdd, Nat.reduceSub, List.cons_append, List.nil_append, Bool.not_true, cmp_int]
            cases j with
            | zero =>
              simp only [show decide ((0 : Int) < (((0 : Nat) : Int))) = false from rfl, mkR_eq, wpM_rg1, wpM_rg2, wpM_enumA, wpM_iof, wpM_lfS, wS_rai, wS_try, wpM_catF, wpM_revA, wpM_newD, wpM_itemE, wpM_itemT, wpM_hasE, wpM_get1, wpM_get2, wS_putE, wS_putT, and_self, if_true, if_false, Bool.false_eq_true, reduceIte, wS_setS, wS_seq, wS_if, wS_asg, wS_exS, wS_retS, wS_nxS, wS_nx, wS_ret, wpM_op2, wpM_op1, wpM_asT, wpM_trt, wpM_notT, wpM_andT, wpM_orT, wpM_andV, wpM_notE, wpM_ifE, wpM_lnil, wpM_lcons, wpM_tupE, wpM_lstF, wpM_frz, wpM_new, wpM_cal, wpM_calB, wpM_calF, wpM_isiE, wpM_vr, wpM_ct, wpM_meth, wpM_chn, wpM_cut, wpM_cutF, wpM_ono, wpM_osm, wpM_revT, wpM_lfE, wS_for, tgN, List.getElem?_cons_zero, List.getElem?_cons_succ, List.set_cons_zero, List.set_cons_succ, List.map_cons, List.map_nil, List.length_cons, List.length_nil, List.replicate_succ, List.replicate_zero, Nat.reduceAdd, Nat.reduceSub, List.cons_append, List.nil_append]
              refine ⟨by trivial, _, rfl, ?_⟩
              rw [es, prev_succ hc']
              rfl
            | succ j =>
              obtain ⟨q, hq⟩ : ∃ q, z.cps.toList[j]? = some q := ⟨_, List.getElem?_eq_getElem (by omega)⟩
              have hq' : z.cps[j]? = some q := by rw [← Array.getElem?_toList]; exact hq
              rw [prev_succ hq] at es
              simp only [decide_eq_true (show (0 : Int) < (((j + 1 : Nat) : Int)) by omega), mkR_eq, wpM_rg1, wpM_rg2, wpM_enumA, wpM_iof, wpM_lfS, wS_rai, wS_try, wpM_catF, wpM_revA, wpM_newD, wpM_itemE, wpM_itemT, wpM_hasE, wpM_get1, wpM_get2, wS_putE, wS_putT, and_self, if_true, if_false, Bool.false_eq_true, reduceIte, wS_setS, wS_seq, wS_if, wS_asg, wS_exS, wS_retS, wS_nxS, wS_nx, wS_ret, wpM_op2, wpM_op1, wpM_asT, wpM_trt, wpM_notT, wpM_andT, wpM_orT, wpM_andV, wpM_notE, wpM_ifE, wpM_lnil, wpM_lcons, wpM_tupE, wpM_lstF, wpM_frz, wpM_new, wpM_cal, wpM_calB, wpM_calF, wpM_isiE, wpM_vr, wpM_ct, wpM_meth, wpM_chn, wpM_cut, wpM_cutF, wpM_ono, wpM_osm, wpM_revT, wpM_lfE, wS_for, tgN, List.getElem?_cons_zero, List.getElem?_cons_succ, List.set_cons_zero, List.set_cons_succ, List.map_cons, List.map_nil, List.length_cons, List.length_nil, List.replicate_succ, List.replicate_zero, Nat.reduceAdd, Nat.reduceSub, List.cons_append, List.nil_append, sub_int, show (((j + 1 : Nat) : Int)) - 1 = (j : Int) from by omega, str_at hc (show z.length ≤ 16777216 by omega), str_at hq' (show z.length ≤ 16777216 by omega), o_le]
              rcases Bool.eq_false_or_eq_true (strLe ⟨#[c]⟩ ⟨#[q]⟩) with hb | hb
              · rw [if_pos (show ordP (some q) c = true from hb)] at es
                simp only [hb, mkR_eq, wpM_rg1, wpM_rg2, wpM_enumA, wpM_iof, wpM_lfS, wS_rai, wS_try, wpM_catF, wpM_revA, wpM_newD, wpM_itemE, wpM_itemT, wpM_hasE, wpM_get1, wpM_get2, wS_putE, wS_putT, and_self, if_true, if_false, Bool.false_eq_true, reduceIte, wS_setS, wS_seq, wS_if, wS_asg, wS_exS, wS_retS, wS_nxS, wS_nx, wS_ret, wpM_op2, wpM_op1, wpM_asT, wpM_trt, wpM_notT, wpM_andT, wpM_orT, wpM_andV, wpM_notE, wpM_ifE, wpM_lnil, wpM_lcons, wpM_tupE, wpM_lstF, wpM_frz, wpM_new, wpM_cal, wpM_calB, wpM_calF, wpM_isiE, wpM_vr, wpM_ct, wpM_meth, wpM_chn, wpM_cut, wpM_cutF, wpM_ono, wpM_osm, wpM_revT, wpM_lfE, wS_for, tgN, List.getElem?_cons_zero, List.getElem?_cons_succ, List.set_cons_zero, List.set_cons_succ, List.map_cons, List.map_nil, List.length_cons, List.length_nil, List.replicate_succ, List.replicate_zero, Nat.reduceAdd, Nat.reduceSub, List.cons_append, List.nil_append, le_sz (n := 2) rfl]
                rw [scope_pure rfl, wpM_ok, trunc_same, hF, es]
                exact ⟨rfl, rfl⟩
              · rw [if_neg (show ¬ ordP (some q) c = true from by show ¬ strLe _ _ = true; rw [hb]; exact Bool.false_ne_true)] at es
                simp only [hb, mkR_eq, wpM_rg1, wpM_rg2, wpM_enumA, wpM_iof, wpM_lfS, wS_rai, wS_try, wpM_catF, wpM_revA, wpM_newD, wpM_itemE, wpM_itemT, wpM_hasE, wpM_get1, wpM_get2, wS_putE, wS_putT, and_self, if_true, if_false, Bool.false_eq_true, reduceIte, wS_setS, wS_seq, wS_if, wS_asg, wS_exS, wS_retS, wS_nxS, wS_nx, wS_ret, wpM_op2, wpM_op1, wpM_asT, wpM_trt, wpM_notT, wpM_andT, wpM_orT, wpM_andV, wpM_notE, wpM_ifE, wpM_lnil, wpM_lcons, wpM_tupE, wpM_lstF, wpM_frz, wpM_new, wpM_cal, wpM_calB, wpM_calF, wpM_isiE, wpM_vr, wpM_ct, wpM_meth, wpM_chn, wpM_cut, wpM_cutF, wpM_ono, wpM_osm, wpM_revT, wpM_lfE, wS_for, tgN, List.getElem?_cons_zero, List.getElem?_cons_succ, List.set_cons_zero, List.set_cons_succ, List.map_cons, List.map_nil, List.length_cons, List.length_nil, List.replicate_succ, List.replicate_zero, Nat.reduceAdd, Nat.reduceSub, List.cons_append, List.nil_append]
                refine ⟨by trivial, _, rfl, ?_⟩
                rw [es, prev_succ hc']
          · rw [if_neg (by rw [ha]; exact Bool.false_ne_true)] at es
            simp only [ha, mkR_eq, wpM_rg1, wpM_rg2, wpM_enumA, wpM_iof, wpM_lfS, wS_rai, wS_try, wpM_catF, wpM_revA, wpM_newD, wpM_itemE, wpM_itemT, wpM_hasE, wpM_get1, wpM_get2, wS_putE, wS_putT, and_self, if_true, if_false, Bool.false_eq_true, reduceIte, wS_setS, wS_seq, wS_if, wS_asg, wS_exS, wS_retS, wS_nxS, wS_nx, wS_ret, wpM_op2, wpM_op1, wpM_asT, wpM_trt, wpM_notT, wpM_andT, wpM_orT, wpM_andV, wpM_notE, wpM_ifE, wpM_lnil, wpM_lcons, wpM_tupE, wpM_lstF, wpM_frz, wpM_new, wpM_cal, wpM_calB, wpM_calF, wpM_isiE, wpM_vr, wpM_ct, wpM_meth, wpM_chn, wpM_cut, wpM_cutF, wpM_ono, wpM_osm, wpM_revT, wpM_lfE, wS_for, tgN, List.getElem?_cons_zero, List.getElem?_cons_succ, List.set_cons_zero, List.set_cons_succ, List.map_cons, List.map_nil, List.length_cons, List.length_nil, List.replicate_succ, List.replicate_zero, Nat.reduceAdd, Nat.reduceSub, List.cons_append, List.nil_append, Bool.not_false, le_sz (n := 2) rfl]
            rw [scope_pure rfl, wpM_ok, trunc_same, hF, es]
            exact ⟨rfl, rfl⟩
        · rintro env S' ⟨rfl, e1, rfl, es⟩
          refine ⟨okSrc_nil, ?_⟩
          rw [rgL_len, Nat.zero_add] at es
          simp only [mkR_eq, wpM_rg1, wpM_rg2, wpM_enumA, wpM_iof, wpM_lfS, wS_rai, wS_try, wpM_catF, wpM_revA, wpM_newD, wpM_itemE, wpM_itemT, wpM_hasE, wpM_get1, wpM_get2, wS_putE, wS_putT, and_self, if_true, if_false, Bool.false_eq_true, reduceIte, wS_setS, wS_seq, wS_if, wS_asg, wS_exS, wS_retS, wS_nxS, wS_nx, wS_ret, wpM_op2, wpM_op1, wpM_asT, wpM_trt, wpM_notT, wpM_andT, wpM_orT, wpM_andV, wpM_notE, wpM_ifE, wpM_lnil, wpM_lcons, wpM_tupE, wpM_lstF, wpM_frz, wpM_new, wpM_cal, wpM_calB, wpM_calF, wpM_isiE, wpM_vr, wpM_ct, wpM_meth, wpM_chn, wpM_cut, wpM_cutF, wpM_ono, wpM_osm, wpM_revT, wpM_lfE, wS_for, tgN, List.getElem?_cons_zero, List.getElem?_cons_succ, List.set_cons_zero, List.set_cons_succ, List.map_cons, List.map_nil, List.length_cons, List.length_nil, List.replicate_succ, List.replicate_zero, Nat.reduceAdd, Nat.reduceSub, List.cons_append, List.nil_append, len_str (show z.length ≤ 16777216 by omega)]
          rw [scope_pure rfl, wpM_ok, trunc_same, hF, es, show z.cps.toList.drop z.length = [] from by rw [len_eq]; exact List.drop_length]
          exact ⟨rfl, rfl⟩
      · simp only [decide_eq_true (show (6 : Int) < (z.length : Int) by omega), mkR_eq, wpM_rg1, wpM_rg2, wpM_enumA, wpM_iof, wpM_lfS, wS_rai, wS_try, wpM_catF, wpM_revA, wpM_newD, wpM_itemE, wpM_itemT, wpM_hasE, wpM_get1, wpM_get2, wS_putE, wS_putT, and_self, if_true, if_false, Bool.false_eq_true, reduceIte, wS_setS, wS_seq, wS_if, wS_asg, wS_exS, wS_retS, wS_nxS, wS_nx, wS_ret, wpM_op2, wpM_op1, wpM_asT, wpM_trt, wpM_notT, wpM_andT, wpM_orT, wpM_andV, wpM_notE, wpM_ifE, wpM_lnil, wpM_lcons, wpM_tupE, wpM_lstF, wpM_frz, wpM_new, wpM_cal, wpM_calB, wpM_calF, wpM_isiE, wpM_vr, wpM_ct, wpM_meth, wpM_chn, wpM_cut, wpM_cutF, wpM_ono, wpM_osm, wpM_revT, wpM_lfE, wS_for, tgN, List.getElem?_cons_zero, List.getElem?_cons_succ, List.set_cons_zero, List.set_cons_succ, List.map_cons, List.map_nil, List.length_cons, List.length_nil, List.replicate_succ, List.replicate_zero, Nat.reduceAdd, Nat.reduceSub, List.cons_append, List.nil_append, neg_int, le_sz (n := 2) rfl]
        rw [scope_pure rfl, wpM_ok, trunc_same]
        rw [show lettersF (.str z) = some (-1, "limit") from if_neg (by omega)]
        exact ⟨rfl, rfl⟩
    · simp only [show ((z.length : Int) == 0) = true from by simp; omega, mkR_eq, wpM_rg1, wpM_rg2, wpM_enumA, wpM_iof, wpM_lfS, wS_rai, wS_try, wpM_catF, wpM_revA, wpM_newD, wpM_itemE, wpM_itemT, wpM_hasE, wpM_get1, wpM_get2, wS_putE, wS_putT, and_self, if_true, if_false, Bool.false_eq_true, reduceIte, wS_setS, wS_seq, wS_if, wS_asg, wS_exS, wS_retS, wS_nxS, wS_nx, wS_ret, wpM_op2, wpM_op1, wpM_asT, wpM_trt, wpM_notT, wpM_andT, wpM_orT, wpM_andV, wpM_notE, wpM_ifE, wpM_lnil, wpM_lcons, wpM_tupE, wpM_lstF, wpM_frz, wpM_new, wpM_cal, wpM_calB, wpM_calF, wpM_isiE, wpM_vr, wpM_ct, wpM_meth, wpM_chn, wpM_cut, wpM_cutF, wpM_ono, wpM_osm, wpM_revT, wpM_lfE, wS_for, tgN, List.getElem?_cons_zero, List.getElem?_cons_succ, List.set_cons_zero, List.set_cons_succ, List.map_cons, List.map_nil, List.length_cons, List.length_nil, List.replicate_succ, List.replicate_zero, Nat.reduceAdd, Nat.reduceSub, List.cons_append, List.nil_append, neg_int, le_sz (n := 2) rfl]
      rw [scope_pure rfl, wpM_ok, trunc_same]
      rw [show lettersF (.str z) = some (-1, "limit") from if_neg (by omega)]
      exact ⟨rfl, rfl⟩
  | _ =>
    simp only [isS, tru, mkR_eq, wpM_rg1, wpM_rg2, wpM_enumA, wpM_iof, wpM_lfS, wS_rai, wS_try, wpM_catF, wpM_revA, wpM_newD, wpM_itemE, wpM_itemT, wpM_hasE, wpM_get1, wpM_get2, wS_putE, wS_putT, and_self, if_true, if_false, Bool.false_eq_true, reduceIte, wS_setS, wS_seq, wS_if, wS_asg, wS_exS, wS_retS, wS_nxS, wS_nx, wS_ret, wpM_op2, wpM_op1, wpM_asT, wpM_trt, wpM_notT, wpM_andT, wpM_orT, wpM_andV, wpM_notE, wpM_ifE, wpM_lnil, wpM_lcons, wpM_tupE, wpM_lstF, wpM_frz, wpM_new, wpM_cal, wpM_calB, wpM_calF, wpM_isiE, wpM_vr, wpM_ct, wpM_meth, wpM_chn, wpM_cut, wpM_cutF, wpM_ono, wpM_osm, wpM_revT, wpM_lfE, wS_for, tgN, List.getElem?_cons_zero, List.getElem?_cons_succ, List.set_cons_zero, List.set_cons_succ, List.map_cons, List.map_nil, List.length_cons, List.length_nil, List.replicate_succ, List.replicate_zero, Nat.reduceAdd, Nat.reduceSub, List.cons_append, List.nil_append, Bool.not_false, neg_int, le_sz (n := 2) rfl]
    rw [scope_pure rfl, wpM_ok, trunc_same]
    exact ⟨rfl, rfl⟩
/-! texts -/
def scanT (L : Str) : Nat → List Nat → Option (Int × String)
  | _, [] => none
  | n, c :: cs => if inStr ⟨#[c]⟩ L = true then scanT L (n + 1) cs else some ((n : Int), "letter")
def textF (L : Str) : D → Option (Int × String)
  | .str z => if z.length ≤ 300 then scanT L 0 z.cps.toList else some (-1, "limit")
  | _ => some (-1, "shape")
theorem text_fault_eq (hd : fd d = true) : M_text_fault [.str L, d] S = .ok (fltD (textF L d)) S := by
  refine eq_of_wp ?_
  unfold M_text_fault
  refine wpM_fn ?_
  unfold m_text_fault
  simp only [mkR_eq, wpM_rg1, wpM_rg2, wpM_enumA, wpM_iof, wpM_lfS, wS_rai, wS_try, wpM_catF, wpM_revA, wpM_newD, wpM_itemE, wpM_itemT, wpM_hasE, wpM_get1, wpM_get2, wS_putE, wS_putT, and_self, if_true, if_false, Bool.false_eq_true, reduceIte, wS_setS, wS_seq, wS_if, wS_asg, wS_exS, wS_retS, wS_nxS, wS_nx, wS_ret, wpM_op2, wpM_op1, wpM_asT, wpM_trt, wpM_notT, wpM_andT, wpM_orT, wpM_andV, wpM_notE, wpM_ifE, wpM_lnil, wpM_lcons, wpM_tupE, wpM_lstF, wpM_frz, wpM_new, wpM_cal, wpM_calB, wpM_calF, wpM_isiE, wpM_vr, wpM_ct, wpM_meth, wpM_chn, wpM_cut, wpM_cutF, wpM_ono, wpM_osm, wpM_revT, wpM_lfE, wS_for, tgN, List.getElem?_cons_zero, List.getElem?_cons_succ, List.set_cons_zero, List.set_cons_succ, List.map_cons, List.map_nil, List.length_cons, List.length_nil, List.replicate_succ, List.replicate_zero, Nat.reduceAdd, Nat.reduceSub, List.cons_append, List.nil_append, isiS (fd_pure hd)]
  cases d with
  | str z =>
    have hz := okS_len hd
    simp only [isS, tru, mkR_eq, wpM_rg1, wpM_rg2, wpM_enumA, wpM_iof, wpM_lfS, wS_rai, wS_try, wpM_catF, wpM_revA, wpM_newD, wpM_itemE, wpM_itemT, wpM_hasE, wpM_get1, wpM_get2, wS_putE, wS_putT, and_self, if_true, if_false, Bool.false_eq_true, reduceIte, wS_setS, wS_seq, wS_if, wS_asg, wS_exS, wS_retS, wS_nxS, wS_nx, wS_ret, wpM_op2, wpM_op1, wpM_asT, wpM_trt, wpM_notT, wpM_andT, wpM_orT, wpM_andV, wpM_notE, wpM_ifE, wpM_lnil, wpM_lcons, wpM_tupE, wpM_lstF, wpM_frz, wpM_new, wpM_cal, wpM_calB, wpM_calF, wpM_isiE, wpM_vr, wpM_ct, wpM_meth, wpM_chn, wpM_cut, wpM_cutF, wpM_ono, wpM_osm, wpM_revT, wpM_lfE, wS_for, tgN, List.getElem?_cons_zero, List.getElem?_cons_succ, List.set_cons_zero, List.set_cons_succ, List.map_cons, List.map_nil, List.length_cons, List.length_nil, List.replicate_succ, List.replicate_zero, Nat.reduceAdd, Nat.reduceSub, List.cons_append, List.nil_append, Bool.not_true, len_str (show z.length ≤ 16777216 by omega), cmp_int]
    by_cases h1 : z.length ≤ 300
    · have hF : textF L (.str z) = scanT L 0 z.cps.toList := if_pos h1
      simp only [decide_eq_false (show ¬ (300 : Int) < (z.length : Int) by omega), mkR_eq, wpM_rg1, wpM_rg2, wpM_enumA, wpM_iof, wpM_lfS, wS_rai, wS_try, wpM_catF, wpM_revA, wpM_newD, wpM_itemE, wpM_itemT, wpM_hasE, wpM_get1, wpM_get2, wS_putE, wS_putT, and_self, if_true, if_false, Bool.false_eq_true, reduceIte, wS_setS, wS_seq, wS_if, wS_asg, wS_exS, wS_retS, wS_nxS, wS_nx, wS_ret, wpM_op2, wpM_op1, wpM_asT, wpM_trt, wpM_notT, wpM_andT, wpM_orT, wpM_andV, wpM_notE, wpM_ifE, wpM_lnil, wpM_lcons, wpM_tupE, wpM_lstF, wpM_frz, wpM_new, wpM_cal, wpM_calB, wpM_calF, wpM_isiE, wpM_vr, wpM_ct, wpM_meth, wpM_chn, wpM_cut, wpM_cutF, wpM_ono, wpM_osm, wpM_revT, wpM_lfE, wS_for, tgN, List.getElem?_cons_zero, List.getElem?_cons_succ, List.set_cons_zero, List.set_cons_succ, List.map_cons, List.map_nil, List.length_cons, List.length_nil, List.replicate_succ, List.replicate_zero, Nat.reduceAdd, Nat.reduceSub, List.cons_append, List.nil_append, i_enumA, wpM_bdE, enumSrc, wpM_lfS]
      refine wS_loop (fun i env S' => S' = S ∧ ∃ e1 e2, env = [some (.str L), some (.str z), e1, e2] ∧ scanT L 0 z.cps.toList = scanT L i (z.cps.toList.drop i)) _ 0 _ _ ⟨rfl, none, none, rfl, rfl⟩ ?_ ?_
      · rintro j d env S' hj ⟨rfl, e1, e2, rfl, es⟩
        obtain ⟨x, hx, rfl⟩ := enL_get hj
        obtain ⟨c, hc, rfl⟩ := sgns_get hx
        refine ⟨okSrc_nil, _, rfl, ?_⟩
        have hc' : z.cps.toList[j]? = some c := by rw [Array.getElem?_toList]; exact hc
        rw [Nat.zero_add] at es ⊢
        rw [drop_at hc'] at es
        simp only [scanT] at es
        simp only [mkR_eq, wpM_rg1, wpM_rg2, wpM_enumA, wpM_iof, wpM_lfS, wS_rai, wS_try, wpM_catF, wpM_revA, wpM_newD, wpM_itemE, wpM_itemT, wpM_hasE, wpM_get1, wpM_get2, wS_putE, wS_putT, and_self, if_true, if_false, Bool.false_eq_true, reduceIte, wS_setS, wS_seq, wS_if, wS_asg, wS_exS, wS_retS, wS_nxS, wS_nx, wS_ret, wpM_op2, wpM_op1, wpM_asT, wpM_trt, wpM_notT, wpM_andT, wpM_orT, wpM_andV, wpM_notE, wpM_ifE, wpM_lnil, wpM_lcons, wpM_tupE, wpM_lstF, wpM_frz, wpM_new, wpM_cal, wpM_calB, wpM_calF, wpM_isiE, wpM_vr, wpM_ct, wpM_meth, wpM_chn, wpM_cut, wpM_cutF, wpM_ono, wpM_osm, wpM_revT, wpM_lfE, wS_for, tgN, List.getElem?_cons_zero, List.getElem?_cons_succ, List.set_cons_zero, List.set_cons_succ, List.map_cons, List.map_nil, List.length_cons, List.length_nil, List.replicate_succ, List.replicate_zero, Nat.reduceAdd, Nat.reduceSub, List.cons_append, List.nil_append, inS_str, Nat.zero_add]
        rcases Bool.eq_false_or_eq_true (inStr ⟨#[c]⟩ L) with ha | ha
        · rw [if_pos ha] at es
          simp only [ha, mkR_eq, wpM_rg1, wpM_rg2, wpM_enumA, wpM_iof, wpM_lfS, wS_rai, wS_try, wpM_catF, wpM_revA, wpM_newD, wpM_itemE, wpM_itemT, wpM_hasE, wpM_get1, wpM_get2, wS_putE, wS_putT, and_self, if_true, if_false, Bool.false_eq_true, reduceIte, wS_setS, wS_seq, wS_if, wS_asg, wS_exS, wS_retS, wS_nxS, wS_nx, wS_ret, wpM_op2, wpM_op1, wpM_asT, wpM_trt, wpM_notT, wpM_andT, wpM_orT, wpM_andV, wpM_notE, wpM_ifE, wpM_lnil, wpM_lcons, wpM_tupE, wpM_lstF, wpM_frz, wpM_new, wpM_cal, wpM_calB, wpM_calF, wpM_isiE, wpM_vr, wpM_ct, wpM_meth, wpM_chn, wpM_cut, wpM_cutF, wpM_ono, wpM_osm, wpM_revT, wpM_lfE, wS_for, tgN, List.getElem?_cons_zero, List.getElem?_cons_succ, List.set_cons_zero, List.set_cons_succ, List.map_cons, List.map_nil, List.length_cons, List.length_nil, List.replicate_succ, List.replicate_zero, Nat.reduceAdd, Nat.reduceSub, List.cons_append, List.nil_append, Bool.not_true]
          exact ⟨by trivial, _, _, rfl, es⟩
        · rw [if_neg (by rw [ha]; exact Bool.false_ne_true)] at es
          simp only [ha, mkR_eq, wpM_rg1, wpM_rg2, wpM_enumA, wpM_iof, wpM_lfS, wS_rai, wS_try, wpM_catF, wpM_revA, wpM_newD, wpM_itemE, wpM_itemT, wpM_hasE, wpM_get1, wpM_get2, wS_putE, wS_putT, and_self, if_true, if_false, Bool.false_eq_true, reduceIte, wS_setS, wS_seq, wS_if, wS_asg, wS_exS, wS_retS, wS_nxS, wS_nx, wS_ret, wpM_op2, wpM_op1, wpM_asT, wpM_trt, wpM_notT, wpM_andT, wpM_orT, wpM_andV, wpM_notE, wpM_ifE, wpM_lnil, wpM_lcons, wpM_tupE, wpM_lstF, wpM_frz, wpM_new, wpM_cal, wpM_calB, wpM_calF, wpM_isiE, wpM_vr, wpM_ct, wpM_meth, wpM_chn, wpM_cut, wpM_cutF, wpM_ono, wpM_osm, wpM_revT, wpM_lfE, wS_for, tgN, List.getElem?_cons_zero, List.getElem?_cons_succ, List.set_cons_zero, List.set_cons_succ, List.map_cons, List.map_nil, List.length_cons, List.length_nil, List.replicate_succ, List.replicate_zero, Nat.reduceAdd, Nat.reduceSub, List.cons_append, List.nil_append, Bool.not_false, le_sz (n := 2) rfl]
          rw [scope_pure rfl, wpM_ok, trunc_same, hF, es]
          exact ⟨rfl, rfl⟩
      · rintro env S' ⟨rfl, e1, e2, rfl, es⟩
        refine ⟨okSrc_nil, ?_⟩
        rw [enL_length, sgns_len, Nat.zero_add] at es
        simp only [mkR_eq, wpM_rg1, wpM_rg2, wpM_enumA, wpM_iof, wpM_lfS, wS_rai, wS_try, wpM_catF, wpM_revA, wpM_newD, wpM_itemE, wpM_itemT, wpM_hasE, wpM_get1, wpM_get2, wS_putE, wS_putT, and_self, if_true, if_false, Bool.false_eq_true, reduceIte, wS_setS, wS_seq, wS_if, wS_asg, wS_exS, wS_retS, wS_nxS, wS_nx, wS_ret, wpM_op2, wpM_op1, wpM_asT, wpM_trt, wpM_notT, wpM_andT, wpM_orT, wpM_andV, wpM_notE, wpM_ifE, wpM_lnil, wpM_lcons, wpM_tupE, wpM_lstF, wpM_frz, wpM_new, wpM_cal, wpM_calB, wpM_calF, wpM_isiE, wpM_vr, wpM_ct, wpM_meth, wpM_chn, wpM_cut, wpM_cutF, wpM_ono, wpM_osm, wpM_revT, wpM_lfE, wS_for, tgN, List.getElem?_cons_zero, List.getElem?_cons_succ, List.set_cons_zero, List.set_cons_succ, List.map_cons, List.map_nil, List.length_cons, List.length_nil, List.replicate_succ, List.replicate_zero, Nat.reduceAdd, Nat.reduceSub, List.cons_append, List.nil_append]
        rw [scope_pure rfl, wpM_ok, trunc_same, hF, es, show z.cps.toList.drop z.cps.size = [] from by simp]
        exact ⟨rfl, rfl⟩
    · simp only [decide_eq_true (show (300 : Int) < (z.length : Int) by omega), mkR_eq, wpM_rg1, wpM_rg2, wpM_enumA, wpM_iof, wpM_lfS, wS_rai, wS_try, wpM_catF, wpM_revA, wpM_newD, wpM_itemE, wpM_itemT, wpM_hasE, wpM_get1, wpM_get2, wS_putE, wS_putT, and_self, if_true, if_false, Bool.false_eq_true, reduceIte, wS_setS, wS_seq, wS_if, wS_asg, wS_exS, wS_retS, wS_nxS, wS_nx, wS_ret, wpM_op2, wpM_op1, wpM_asT, wpM_trt, wpM_notT, wpM_andT, wpM_orT, wpM_andV, wpM_notE, wpM_ifE, wpM_lnil, wpM_lcons, wpM_tupE, wpM_lstF, wpM_frz, wpM_new, wpM_cal, wpM_calB, wpM_calF, wpM_isiE, wpM_vr, wpM_ct, wpM_meth, wpM_chn, wpM_cut, wpM_cutF, wpM_ono, wpM_osm, wpM_revT, wpM_lfE, wS_for, tgN, List.getElem?_cons_zero, List.getElem?_cons_succ, List.set_cons_zero, List.set_cons_succ, List.map_cons, List.map_nil, List.length_cons, List.length_nil, List.replicate_succ, List.replicate_zero, Nat.reduceAdd, Nat.reduceSub, List.cons_append, List.nil_append, neg_int, le_sz (n := 2) rfl]
      rw [scope_pure rfl, wpM_ok, trunc_same]
      rw [show textF L (.str z) = some (-1, "limit") from if_neg h1]
      exact ⟨rfl, rfl⟩
  | _ =>
    simp only [isS, tru, mkR_eq, wpM_rg1, wpM_rg2, wpM_enumA, wpM_iof, wpM_lfS, wS_rai, wS_try, wpM_catF, wpM_revA, wpM_newD, wpM_itemE, wpM_itemT, wpM_hasE, wpM_get1, wpM_get2, wS_putE, wS_putT, and_self, if_true, if_false, Bool.false_eq_true, reduceIte, wS_setS, wS_seq, wS_if, wS_asg, wS_exS, wS_retS, wS_nxS, wS_nx, wS_ret, wpM_op2, wpM_op1, wpM_asT, wpM_trt, wpM_notT, wpM_andT, wpM_orT, wpM_andV, wpM_notE, wpM_ifE, wpM_lnil, wpM_lcons, wpM_tupE, wpM_lstF, wpM_frz, wpM_new, wpM_cal, wpM_calB, wpM_calF, wpM_isiE, wpM_vr, wpM_ct, wpM_meth, wpM_chn, wpM_cut, wpM_cutF, wpM_ono, wpM_osm, wpM_revT, wpM_lfE, wS_for, tgN, List.getElem?_cons_zero, List.getElem?_cons_succ, List.set_cons_zero, List.set_cons_succ, List.map_cons, List.map_nil, List.length_cons, List.length_nil, List.replicate_succ, List.replicate_zero, Nat.reduceAdd, Nat.reduceSub, List.cons_append, List.nil_append, Bool.not_false, neg_int, le_sz (n := 2) rfl]
    rw [scope_pure rfl, wpM_ok, trunc_same]
    exact ⟨rfl, rfl⟩
theorem text_due_eq (hd : fd d = true) : M__law_text_due [.str L, d] S = .ok (dueD (lenD d) (textF L d)) S := by
  refine eq_of_wp ?_
  unfold M__law_text_due
  refine wpM_fn ?_
  unfold m__law_text_due
  simp only [mkR_eq, wpM_rg1, wpM_rg2, wpM_enumA, wpM_iof, wpM_lfS, wS_rai, wS_try, wpM_catF, wpM_revA, wpM_newD, wpM_itemE, wpM_itemT, wpM_hasE, wpM_get1, wpM_get2, wS_putE, wS_putT, and_self, if_true, if_false, Bool.false_eq_true, reduceIte, wS_setS, wS_seq, wS_if, wS_asg, wS_exS, wS_retS, wS_nxS, wS_nx, wS_ret, wpM_op2, wpM_op1, wpM_asT, wpM_trt, wpM_notT, wpM_andT, wpM_orT, wpM_andV, wpM_notE, wpM_ifE, wpM_lnil, wpM_lcons, wpM_tupE, wpM_lstF, wpM_frz, wpM_new, wpM_cal, wpM_calB, wpM_calF, wpM_isiE, wpM_vr, wpM_ct, wpM_meth, wpM_chn, wpM_cut, wpM_cutF, wpM_ono, wpM_osm, wpM_revT, wpM_lfE, wS_for, tgN, List.getElem?_cons_zero, List.getElem?_cons_succ, List.set_cons_zero, List.set_cons_succ, List.map_cons, List.map_nil, List.length_cons, List.length_nil, List.replicate_succ, List.replicate_zero, Nat.reduceAdd, Nat.reduceSub, List.cons_append, List.nil_append, isiS (fd_pure hd)]
  cases d with
  | str z =>
    have hz := okS_len hd
    simp only [isS, tru, mkR_eq, wpM_rg1, wpM_rg2, wpM_enumA, wpM_iof, wpM_lfS, wS_rai, wS_try, wpM_catF, wpM_revA, wpM_newD, wpM_itemE, wpM_itemT, wpM_hasE, wpM_get1, wpM_get2, wS_putE, wS_putT, and_self, if_true, if_false, Bool.false_eq_true, reduceIte, wS_setS, wS_seq, wS_if, wS_asg, wS_exS, wS_retS, wS_nxS, wS_nx, wS_ret, wpM_op2, wpM_op1, wpM_asT, wpM_trt, wpM_notT, wpM_andT, wpM_orT, wpM_andV, wpM_notE, wpM_ifE, wpM_lnil, wpM_lcons, wpM_tupE, wpM_lstF, wpM_frz, wpM_new, wpM_cal, wpM_calB, wpM_calF, wpM_isiE, wpM_vr, wpM_ct, wpM_meth, wpM_chn, wpM_cut, wpM_cutF, wpM_ono, wpM_osm, wpM_revT, wpM_lfE, wS_for, tgN, List.getElem?_cons_zero, List.getElem?_cons_succ, List.set_cons_zero, List.set_cons_succ, List.map_cons, List.map_nil, List.length_cons, List.length_nil, List.replicate_succ, List.replicate_zero, Nat.reduceAdd, Nat.reduceSub, List.cons_append, List.nil_append, Bool.not_true, len_str (show z.length ≤ 16777216 by omega), cmp_int]
    by_cases h1 : z.length ≤ 300
    · have hF : textF L (.str z) = scanT L 0 z.cps.toList := if_pos h1
      simp only [decide_eq_false (show ¬ (300 : Int) < (z.length : Int) by omega), mkR_eq, wpM_rg1, wpM_rg2, wpM_enumA, wpM_iof, wpM_lfS, wS_rai, wS_try, wpM_catF, wpM_revA, wpM_newD, wpM_itemE, wpM_itemT, wpM_hasE, wpM_get1, wpM_get2, wS_putE, wS_putT, and_self, if_true, if_false, Bool.false_eq_true, reduceIte, wS_setS, wS_seq, wS_if, wS_asg, wS_exS, wS_retS, wS_nxS, wS_nx, wS_ret, wpM_op2, wpM_op1, wpM_asT, wpM_trt, wpM_notT, wpM_andT, wpM_orT, wpM_andV, wpM_notE, wpM_ifE, wpM_lnil, wpM_lcons, wpM_tupE, wpM_lstF, wpM_frz, wpM_new, wpM_cal, wpM_calB, wpM_calF, wpM_isiE, wpM_vr, wpM_ct, wpM_meth, wpM_chn, wpM_cut, wpM_cutF, wpM_ono, wpM_osm, wpM_revT, wpM_lfE, wS_for, tgN, List.getElem?_cons_zero, List.getElem?_cons_succ, List.set_cons_zero, List.set_cons_succ, List.map_cons, List.map_nil, List.length_cons, List.length_nil, List.replicate_succ, List.replicate_zero, Nat.reduceAdd, Nat.reduceSub, List.cons_append, List.nil_append, len_str (show z.length ≤ 16777216 by omega)]
      refine ⟨rgOk_nat (by omega), ?_⟩
      refine wS_loop (fun i env S' => S' = S ∧ ∃ e1, env = [some (.str L), some (.str z), e1] ∧ scanT L 0 z.cps.toList = scanT L i (z.cps.toList.drop i)) _ 0 _ _ ⟨rfl, none, rfl, rfl⟩ ?_ ?_
      · rintro j d env S' hj ⟨rfl, e1, rfl, es⟩
        obtain ⟨rfl, hjn⟩ := rgL_get hj
        have hjl : j < z.cps.toList.length := hjn
        obtain ⟨c, hc'⟩ : ∃ c, z.cps.toList[j]? = some c := ⟨_, List.getElem?_eq_getElem hjl⟩
        have hc : z.cps[j]? = some c := by rw [← Array.getElem?_toList]; exact hc'
        refine ⟨okSrc_nil, _, rfl, ?_⟩
        rw [Nat.zero_add] at es ⊢
        rw [drop_at hc'] at es
        simp only [scanT] at es
        simp only [mkR_eq, wpM_rg1, wpM_rg2, wpM_enumA, wpM_iof, wpM_lfS, wS_rai, wS_try, wpM_catF, wpM_revA, wpM_newD, wpM_itemE, wpM_itemT, wpM_hasE, wpM_get1, wpM_get2, wS_putE, wS_putT, and_self, if_true, if_false, Bool.false_eq_true, reduceIte, wS_setS, wS_seq, wS_if, wS_asg, wS_exS, wS_retS, wS_nxS, wS_nx, wS_ret, wpM_op2, wpM_op1, wpM_asT, wpM_trt, wpM_notT, wpM_andT, wpM_orT, wpM_andV, wpM_notE, wpM_ifE, wpM_lnil, wpM_lcons, wpM_tupE, wpM_lstF, wpM_frz, wpM_new, wpM_cal, wpM_calB, wpM_calF, wpM_isiE, wpM_vr, wpM_ct, wpM_meth, wpM_chn, wpM_cut, wpM_cutF, wpM_ono, wpM_osm, wpM_revT, wpM_lfE, wS_for, tgN, List.getElem?_cons_zero, List.getElem?_cons_succ, List.set_cons_zero, List.set_cons_succ, List.map_cons, List.map_nil, List.length_cons, List.length_nil, List.replicate_succ, List.replicate_zero, Nat.reduceAdd, Nat.reduceSub, List.cons_append, List.nil_append, inS_str, str_at hc (show z.length ≤ 16777216 by omega)]
        rcases Bool.eq_false_or_eq_true (inStr ⟨#[c]⟩ L) with ha | ha
        · rw [if_pos ha] at es
          simp only [ha, mkR_eq, wpM_rg1, wpM_rg2, wpM_enumA, wpM_iof, wpM_lfS, wS_rai, wS_try, wpM_catF, wpM_revA, wpM_newD, wpM_itemE, wpM_itemT, wpM_hasE, wpM_get1, wpM_get2, wS_putE, wS_putT, and_self, if_true, if_false, Bool.false_eq_true, reduceIte, wS_setS, wS_seq, wS_if, wS_asg, wS_exS, wS_retS, wS_nxS, wS_nx, wS_ret, wpM_op2, wpM_op1, wpM_asT, wpM_trt, wpM_notT, wpM_andT, wpM_orT, wpM_andV, wpM_notE, wpM_ifE, wpM_lnil, wpM_lcons, wpM_tupE, wpM_lstF, wpM_frz, wpM_new, wpM_cal, wpM_calB, wpM_calF, wpM_isiE, wpM_vr, wpM_ct, wpM_meth, wpM_chn, wpM_cut, wpM_cutF, wpM_ono, wpM_osm, wpM_revT, wpM_lfE, wS_for, tgN, List.getElem?_cons_zero, List.getElem?_cons_succ, List.set_cons_zero, List.set_cons_succ, List.map_cons, List.map_nil, List.length_cons, List.length_nil, List.replicate_succ, List.replicate_zero, Nat.reduceAdd, Nat.reduceSub, List.cons_append, List.nil_append, Bool.not_true]
          exact ⟨by trivial, _, rfl, es⟩
        · rw [if_neg (by rw [ha]; exact Bool.false_ne_true)] at es
          simp only [ha, mkR_eq, wpM_rg1, wpM_rg2, wpM_enumA, wpM_iof, wpM_lfS, wS_rai, wS_try, wpM_catF, wpM_revA, wpM_newD, wpM_itemE, wpM_itemT, wpM_hasE, wpM_get1, wpM_get2, wS_putE, wS_putT, and_self, if_true, if_false, Bool.false_eq_true, reduceIte, wS_setS, wS_seq, wS_if, wS_asg, wS_exS, wS_retS, wS_nxS, wS_nx, wS_ret, wpM_op2, wpM_op1, wpM_asT, wpM_trt, wpM_notT, wpM_andT, wpM_orT, wpM_andV, wpM_notE, wpM_ifE, wpM_lnil, wpM_lcons, wpM_tupE, wpM_lstF, wpM_frz, wpM_new, wpM_cal, wpM_calB, wpM_calF, wpM_isiE, wpM_vr, wpM_ct, wpM_meth, wpM_chn, wpM_cut, wpM_cutF, wpM_ono, wpM_osm, wpM_revT, wpM_lfE, wS_for, tgN, List.getElem?_cons_zero, List.getElem?_cons_succ, List.set_cons_zero, List.set_cons_succ, List.map_cons, List.map_nil, List.length_cons, List.length_nil, List.replicate_succ, List.replicate_zero, Nat.reduceAdd, Nat.reduceSub, List.cons_append, List.nil_append, Bool.not_false, le_sz (n := 2) rfl]
          rw [scope_pure rfl, wpM_ok, trunc_same, hF, es]
          exact ⟨rfl, rfl⟩
      · rintro env S' ⟨rfl, e1, rfl, es⟩
        refine ⟨okSrc_nil, ?_⟩
        rw [rgL_len, Nat.zero_add] at es
        simp only [mkR_eq, wpM_rg1, wpM_rg2, wpM_enumA, wpM_iof, wpM_lfS, wS_rai, wS_try, wpM_catF, wpM_revA, wpM_newD, wpM_itemE, wpM_itemT, wpM_hasE, wpM_get1, wpM_get2, wS_putE, wS_putT, and_self, if_true, if_false, Bool.false_eq_true, reduceIte, wS_setS, wS_seq, wS_if, wS_asg, wS_exS, wS_retS, wS_nxS, wS_nx, wS_ret, wpM_op2, wpM_op1, wpM_asT, wpM_trt, wpM_notT, wpM_andT, wpM_orT, wpM_andV, wpM_notE, wpM_ifE, wpM_lnil, wpM_lcons, wpM_tupE, wpM_lstF, wpM_frz, wpM_new, wpM_cal, wpM_calB, wpM_calF, wpM_isiE, wpM_vr, wpM_ct, wpM_meth, wpM_chn, wpM_cut, wpM_cutF, wpM_ono, wpM_osm, wpM_revT, wpM_lfE, wS_for, tgN, List.getElem?_cons_zero, List.getElem?_cons_succ, List.set_cons_zero, List.set_cons_succ, List.map_cons, List.map_nil, List.length_cons, List.length_nil, List.replicate_succ, List.replicate_zero, Nat.reduceAdd, Nat.reduceSub, List.cons_append, List.nil_append, len_str (show z.length ≤ 16777216 by omega)]
        rw [scope_pure rfl, wpM_ok, trunc_same, hF, es, show z.cps.toList.drop z.length = [] from by rw [len_eq]; exact List.drop_length]
        exact ⟨rfl, rfl⟩
    · simp only [decide_eq_true (show (300 : Int) < (z.length : Int) by omega), mkR_eq, wpM_rg1, wpM_rg2, wpM_enumA, wpM_iof, wpM_lfS, wS_rai, wS_try, wpM_catF, wpM_revA, wpM_newD, wpM_itemE, wpM_itemT, wpM_hasE, wpM_get1, wpM_get2, wS_putE, wS_putT, and_self, if_true, if_false, Bool.false_eq_true, reduceIte, wS_setS, wS_seq, wS_if, wS_asg, wS_exS, wS_retS, wS_nxS, wS_nx, wS_ret, wpM_op2, wpM_op1, wpM_asT, wpM_trt, wpM_notT, wpM_andT, wpM_orT, wpM_andV, wpM_notE, wpM_ifE, wpM_lnil, wpM_lcons, wpM_tupE, wpM_lstF, wpM_frz, wpM_new, wpM_cal, wpM_calB, wpM_calF, wpM_isiE, wpM_vr, wpM_ct, wpM_meth, wpM_chn, wpM_cut, wpM_cutF, wpM_ono, wpM_osm, wpM_revT, wpM_lfE, wS_for, tgN, List.getElem?_cons_zero, List.getElem?_cons_succ, List.set_cons_zero, List.set_cons_succ, List.map_cons, List.map_nil, List.length_cons, List.length_nil, List.replicate_succ, List.replicate_zero, Nat.reduceAdd, Nat.reduceSub, List.cons_append, List.nil_append, neg_int, le_sz (n := 2) rfl]
      rw [scope_pure rfl, wpM_ok, trunc_same]
      rw [show textF L (.str z) = some (-1, "limit") from if_neg h1]
      exact ⟨rfl, rfl⟩
  | _ =>
    simp only [isS, tru, mkR_eq, wpM_rg1, wpM_rg2, wpM_enumA, wpM_iof, wpM_lfS, wS_rai, wS_try, wpM_catF, wpM_revA, wpM_newD, wpM_itemE, wpM_itemT, wpM_hasE, wpM_get1, wpM_get2, wS_putE, wS_putT, and_self, if_true, if_false, Bool.false_eq_true, reduceIte, wS_setS, wS_seq, wS_if, wS_asg, wS_exS, wS_retS, wS_nxS, wS_nx, wS_ret, wpM_op2, wpM_op1, wpM_asT, wpM_trt, wpM_notT, wpM_andT, wpM_orT, wpM_andV, wpM_notE, wpM_ifE, wpM_lnil, wpM_lcons, wpM_tupE, wpM_lstF, wpM_frz, wpM_new, wpM_cal, wpM_calB, wpM_calF, wpM_isiE, wpM_vr, wpM_ct, wpM_meth, wpM_chn, wpM_cut, wpM_cutF, wpM_ono, wpM_osm, wpM_revT, wpM_lfE, wS_for, tgN, List.getElem?_cons_zero, List.getElem?_cons_succ, List.set_cons_zero, List.set_cons_succ, List.map_cons, List.map_nil, List.length_cons, List.length_nil, List.replicate_succ, List.replicate_zero, Nat.reduceAdd, Nat.reduceSub, List.cons_append, List.nil_append, Bool.not_false, neg_int, le_sz (n := 2) rfl]
    rw [scope_pure rfl, wpM_ok, trunc_same]
    exact ⟨rfl, rfl⟩
/-! a text that an edit may read -/
def allIn (L z : Str) : Bool := z.cps.toList.all fun c => inStr ⟨#[c]⟩ L
theorem alone_eq {z : Str} : M_has_letters_alone [.str L, .str z] S = .ok (.bl (allIn L z)) S := by
  refine eq_of_wp ?_
  unfold M_has_letters_alone
  refine wpM_fn ?_
  unfold m_has_letters_alone
  simp only [mkR_eq, wpM_rg1, wpM_rg2, wpM_enumA, wpM_iof, wpM_lfS, wS_rai, wS_try, wpM_catF, wpM_revA, wpM_newD, wpM_itemE, wpM_itemT, wpM_hasE, wpM_get1, wpM_get2, wS_putE, wS_putT, and_self, if_true, if_false, Bool.false_eq_true, reduceIte, wS_setS, wS_seq, wS_if, wS_asg, wS_exS, wS_retS, wS_nxS, wS_nx, wS_ret, wpM_op2, wpM_op1, wpM_asT, wpM_trt, wpM_notT, wpM_andT, wpM_orT, wpM_andV, wpM_notE, wpM_ifE, wpM_lnil, wpM_lcons, wpM_tupE, wpM_lstF, wpM_frz, wpM_new, wpM_cal, wpM_calB, wpM_calF, wpM_isiE, wpM_vr, wpM_ct, wpM_meth, wpM_chn, wpM_cut, wpM_cutF, wpM_ono, wpM_osm, wpM_revT, wpM_lfE, wS_for, tgN, List.getElem?_cons_zero, List.getElem?_cons_succ, List.set_cons_zero, List.set_cons_succ, List.map_cons, List.map_nil, List.length_cons, List.length_nil, List.replicate_succ, List.replicate_zero, Nat.reduceAdd, Nat.reduceSub, List.cons_append, List.nil_append, i_of, wpM_bdE, srcOf, wpM_lfS]
  refine wS_loop (fun i env S' => S' = S ∧ ∃ e1, env = [some (.str L), some (.str z), e1] ∧ allIn L z = (z.cps.toList.drop i).all fun c => inStr ⟨#[c]⟩ L) _ 0 _ _ ⟨rfl, none, rfl, rfl⟩ ?_ ?_
  · rintro j d env S' hj ⟨rfl, e1, rfl, es⟩
    obtain ⟨c, hc, rfl⟩ := sgns_get hj
    have hc' : z.cps.toList[j]? = some c := by rw [Array.getElem?_toList]; exact hc
    refine ⟨okSrc_nil, _, rfl, ?_⟩
    rw [Nat.zero_add] at es ⊢
    rw [drop_at hc', List.all_cons] at es
    simp only [mkR_eq, wpM_rg1, wpM_rg2, wpM_enumA, wpM_iof, wpM_lfS, wS_rai, wS_try, wpM_catF, wpM_revA, wpM_newD, wpM_itemE, wpM_itemT, wpM_hasE, wpM_get1, wpM_get2, wS_putE, wS_putT, and_self, if_true, if_false, Bool.false_eq_true, reduceIte, wS_setS, wS_seq, wS_if, wS_asg, wS_exS, wS_retS, wS_nxS, wS_nx, wS_ret, wpM_op2, wpM_op1, wpM_asT, wpM_trt, wpM_notT, wpM_andT, wpM_orT, wpM_andV, wpM_notE, wpM_ifE, wpM_lnil, wpM_lcons, wpM_tupE, wpM_lstF, wpM_frz, wpM_new, wpM_cal, wpM_calB, wpM_calF, wpM_isiE, wpM_vr, wpM_ct, wpM_meth, wpM_chn, wpM_cut, wpM_cutF, wpM_ono, wpM_osm, wpM_revT, wpM_lfE, wS_for, tgN, List.getElem?_cons_zero, List.getElem?_cons_succ, List.set_cons_zero, List.set_cons_succ, List.map_cons, List.map_nil, List.length_cons, List.length_nil, List.replicate_succ, List.replicate_zero, Nat.reduceAdd, Nat.reduceSub, List.cons_append, List.nil_append, inS_str]
    rcases Bool.eq_false_or_eq_true (inStr ⟨#[c]⟩ L) with ha | ha
    · simp only [ha, mkR_eq, wpM_rg1, wpM_rg2, wpM_enumA, wpM_iof, wpM_lfS, wS_rai, wS_try, wpM_catF, wpM_revA, wpM_newD, wpM_itemE, wpM_itemT, wpM_hasE, wpM_get1, wpM_get2, wS_putE, wS_putT, and_self, if_true, if_false, Bool.false_eq_true, reduceIte, wS_setS, wS_seq, wS_if, wS_asg, wS_exS, wS_retS, wS_nxS, wS_nx, wS_ret, wpM_op2, wpM_op1, wpM_asT, wpM_trt, wpM_notT, wpM_andT, wpM_orT, wpM_andV, wpM_notE, wpM_ifE, wpM_lnil, wpM_lcons, wpM_tupE, wpM_lstF, wpM_frz, wpM_new, wpM_cal, wpM_calB, wpM_calF, wpM_isiE, wpM_vr, wpM_ct, wpM_meth, wpM_chn, wpM_cut, wpM_cutF, wpM_ono, wpM_osm, wpM_revT, wpM_lfE, wS_for, tgN, List.getElem?_cons_zero, List.getElem?_cons_succ, List.set_cons_zero, List.set_cons_succ, List.map_cons, List.map_nil, List.length_cons, List.length_nil, List.replicate_succ, List.replicate_zero, Nat.reduceAdd, Nat.reduceSub, List.cons_append, List.nil_append, Bool.not_true]
      rw [ha, Bool.true_and] at es
      exact ⟨by trivial, _, rfl, es⟩
    · rw [ha, Bool.false_and] at es
      simp only [ha, mkR_eq, wpM_rg1, wpM_rg2, wpM_enumA, wpM_iof, wpM_lfS, wS_rai, wS_try, wpM_catF, wpM_revA, wpM_newD, wpM_itemE, wpM_itemT, wpM_hasE, wpM_get1, wpM_get2, wS_putE, wS_putT, and_self, if_true, if_false, Bool.false_eq_true, reduceIte, wS_setS, wS_seq, wS_if, wS_asg, wS_exS, wS_retS, wS_nxS, wS_nx, wS_ret, wpM_op2, wpM_op1, wpM_asT, wpM_trt, wpM_notT, wpM_andT, wpM_orT, wpM_andV, wpM_notE, wpM_ifE, wpM_lnil, wpM_lcons, wpM_tupE, wpM_lstF, wpM_frz, wpM_new, wpM_cal, wpM_calB, wpM_calF, wpM_isiE, wpM_vr, wpM_ct, wpM_meth, wpM_chn, wpM_cut, wpM_cutF, wpM_ono, wpM_osm, wpM_revT, wpM_lfE, wS_for, tgN, List.getElem?_cons_zero, List.getElem?_cons_succ, List.set_cons_zero, List.set_cons_succ, List.map_cons, List.map_nil, List.length_cons, List.length_nil, List.replicate_succ, List.replicate_zero, Nat.reduceAdd, Nat.reduceSub, List.cons_append, List.nil_append, Bool.not_false]
      rw [scope_bl, wpM_ok, trunc_same, es]
      exact ⟨rfl, rfl⟩
  · rintro env S' ⟨rfl, e1, rfl, es⟩
    refine ⟨okSrc_nil, ?_⟩
    rw [sgns_len, Nat.zero_add, show z.cps.toList.drop z.cps.size = [] from by simp] at es
    simp only [mkR_eq, wpM_rg1, wpM_rg2, wpM_enumA, wpM_iof, wpM_lfS, wS_rai, wS_try, wpM_catF, wpM_revA, wpM_newD, wpM_itemE, wpM_itemT, wpM_hasE, wpM_get1, wpM_get2, wS_putE, wS_putT, and_self, if_true, if_false, Bool.false_eq_true, reduceIte, wS_setS, wS_seq, wS_if, wS_asg, wS_exS, wS_retS, wS_nxS, wS_nx, wS_ret, wpM_op2, wpM_op1, wpM_asT, wpM_trt, wpM_notT, wpM_andT, wpM_orT, wpM_andV, wpM_notE, wpM_ifE, wpM_lnil, wpM_lcons, wpM_tupE, wpM_lstF, wpM_frz, wpM_new, wpM_cal, wpM_calB, wpM_calF, wpM_isiE, wpM_vr, wpM_ct, wpM_meth, wpM_chn, wpM_cut, wpM_cutF, wpM_ono, wpM_osm, wpM_revT, wpM_lfE, wS_for, tgN, List.getElem?_cons_zero, List.getElem?_cons_succ, List.set_cons_zero, List.set_cons_succ, List.map_cons, List.map_nil, List.length_cons, List.length_nil, List.replicate_succ, List.replicate_zero, Nat.reduceAdd, Nat.reduceSub, List.cons_append, List.nil_append]
    rw [scope_bl, wpM_ok, trunc_same, es]
    exact ⟨rfl, rfl⟩
def etextB (L z : Str) : Bool := decide (z.length ≤ 3) && allIn L z
theorem etext_eq {z : Str} (hz : z.length ≤ 16777216) : M_is_edit_text [.str L, .str z] S = .ok (.bl (etextB L z)) S := by
  refine eq_of_wp ?_
  unfold M_is_edit_text
  refine wpM_fn ?_
  unfold m_is_edit_text etextB
  simp only [mkR_eq, wpM_rg1, wpM_rg2, wpM_enumA, wpM_iof, wpM_lfS, wS_rai, wS_try, wpM_catF, wpM_revA, wpM_newD, wpM_itemE, wpM_itemT, wpM_hasE, wpM_get1, wpM_get2, wS_putE, wS_putT, and_self, if_true, if_false, Bool.false_eq_true, reduceIte, wS_setS, wS_seq, wS_if, wS_asg, wS_exS, wS_retS, wS_nxS, wS_nx, wS_ret, wpM_op2, wpM_op1, wpM_asT, wpM_trt, wpM_notT, wpM_andT, wpM_orT, wpM_andV, wpM_notE, wpM_ifE, wpM_lnil, wpM_lcons, wpM_tupE, wpM_lstF, wpM_frz, wpM_new, wpM_cal, wpM_calB, wpM_calF, wpM_isiE, wpM_vr, wpM_ct, wpM_meth, wpM_chn, wpM_cut, wpM_cutF, wpM_ono, wpM_osm, wpM_revT, wpM_lfE, wS_for, tgN, List.getElem?_cons_zero, List.getElem?_cons_succ, List.set_cons_zero, List.set_cons_succ, List.map_cons, List.map_nil, List.length_cons, List.length_nil, List.replicate_succ, List.replicate_zero, Nat.reduceAdd, Nat.reduceSub, List.cons_append, List.nil_append, len_str hz, o_le, tru]
  by_cases h : z.length ≤ 3
  · rw [decide_eq_true h, decide_eq_true (show (z.length : Int) ≤ 3 by omega)]
    simp only [mkR_eq, wpM_rg1, wpM_rg2, wpM_enumA, wpM_iof, wpM_lfS, wS_rai, wS_try, wpM_catF, wpM_revA, wpM_newD, wpM_itemE, wpM_itemT, wpM_hasE, wpM_get1, wpM_get2, wS_putE, wS_putT, and_self, if_true, if_false, Bool.false_eq_true, reduceIte, wS_setS, wS_seq, wS_if, wS_asg, wS_exS, wS_retS, wS_nxS, wS_nx, wS_ret, wpM_op2, wpM_op1, wpM_asT, wpM_trt, wpM_notT, wpM_andT, wpM_orT, wpM_andV, wpM_notE, wpM_ifE, wpM_lnil, wpM_lcons, wpM_tupE, wpM_lstF, wpM_frz, wpM_new, wpM_cal, wpM_calB, wpM_calF, wpM_isiE, wpM_vr, wpM_ct, wpM_meth, wpM_chn, wpM_cut, wpM_cutF, wpM_ono, wpM_osm, wpM_revT, wpM_lfE, wS_for, tgN, List.getElem?_cons_zero, List.getElem?_cons_succ, List.set_cons_zero, List.set_cons_succ, List.map_cons, List.map_nil, List.length_cons, List.length_nil, List.replicate_succ, List.replicate_zero, Nat.reduceAdd, Nat.reduceSub, List.cons_append, List.nil_append, alone_eq, wpM_ok]
    rw [scope_bl, wpM_ok, trunc_same]
    exact ⟨rfl, rfl⟩
  · rw [decide_eq_false h, decide_eq_false (show ¬ (z.length : Int) ≤ 3 by omega)]
    simp only [mkR_eq, wpM_rg1, wpM_rg2, wpM_enumA, wpM_iof, wpM_lfS, wS_rai, wS_try, wpM_catF, wpM_revA, wpM_newD, wpM_itemE, wpM_itemT, wpM_hasE, wpM_get1, wpM_get2, wS_putE, wS_putT, and_self, if_true, if_false, Bool.false_eq_true, reduceIte, wS_setS, wS_seq, wS_if, wS_asg, wS_exS, wS_retS, wS_nxS, wS_nx, wS_ret, wpM_op2, wpM_op1, wpM_asT, wpM_trt, wpM_notT, wpM_andT, wpM_orT, wpM_andV, wpM_notE, wpM_ifE, wpM_lnil, wpM_lcons, wpM_tupE, wpM_lstF, wpM_frz, wpM_new, wpM_cal, wpM_calB, wpM_calF, wpM_isiE, wpM_vr, wpM_ct, wpM_meth, wpM_chn, wpM_cut, wpM_cutF, wpM_ono, wpM_osm, wpM_revT, wpM_lfE, wS_for, tgN, List.getElem?_cons_zero, List.getElem?_cons_succ, List.set_cons_zero, List.set_cons_succ, List.map_cons, List.map_nil, List.length_cons, List.length_nil, List.replicate_succ, List.replicate_zero, Nat.reduceAdd, Nat.reduceSub, List.cons_append, List.nil_append]
    rw [scope_bl, wpM_ok, trunc_same]
    exact ⟨rfl, rfl⟩
end
end Z

end
section
set_option Elab.async false
set_option linter.all false
set_option maxRecDepth 100000
set_option maxHeartbeats 4000000
set_option autoImplicit false
namespace Z
open PySem PySem.Spec L2 Y PySem.W
section
variable {S : Sto} {Q : D → Sto → Prop} {E : Str → List (Str × D) → Sto → Prop} {d a : D} {L : Str}
theorem shape3 (d : D) : (∃ a b c, d = .tup [a, b, c]) ∨ isT d = false ∨ ∃ ds, d = .tup ds ∧ ds.length ≠ 3 := by
  cases d with
  | tup ds =>
    match ds with
    | [a, b, c] => exact .inl ⟨a, b, c, rfl⟩
    | [] => exact .inr (.inr ⟨_, rfl, by simp⟩)
    | [_] => exact .inr (.inr ⟨_, rfl, by simp⟩)
    | [_, _] => exact .inr (.inr ⟨_, rfl, by simp⟩)
    | _ :: _ :: _ :: _ :: _ => exact .inr (.inr ⟨_, rfl, by simp⟩)
  | _ => exact .inr (.inl rfl)
theorem shape2 (d : D) : (∃ a b, d = .tup [a, b]) ∨ isT d = false ∨ ∃ ds, d = .tup ds ∧ ds.length ≠ 2 := by
  cases d with
  | tup ds =>
    match ds with
    | [a, b] => exact .inl ⟨a, b, rfl⟩
    | [] => exact .inr (.inr ⟨_, rfl, by simp⟩)
    | [_] => exact .inr (.inr ⟨_, rfl, by simp⟩)
    | _ :: _ :: _ :: _ => exact .inr (.inr ⟨_, rfl, by simp⟩)
  | _ => exact .inr (.inl rfl)
/-- the edits ahead: none, or one that is right -/
inductive Ahd : D → Prop where
  | no : Ahd .non
  | ed {r w : Str} {c : Int} (h1 : okS r = true) (h2 : okS w = true) : Ahd (.tup [.str r, .str w, .int c])
def leP (r w r' w' : Str) : Bool := if (r == r') = true then (if (w == w') = true then true else strLe w w') else strLe r r'
def ordF (r w : Str) : D → Option String
  | .tup [.str r', .str w', .int _] => if leP r w r' w' = true then some "order" else none
  | _ => none
def edit3 (L : Str) (a : D) : D → D → D → Option String
  | .str r, .str w, .int c => if (etextB L r && etextB L w) = true then (if (r == w) = true then some "like" else if (decide (1 ≤ c) && decide (c ≤ 1000)) = true then ordF r w a else some "cost") else some "text"
  | _, _, _ => some "shape"
def editF (L : Str) (a : D) : D → Option String
  | .tup [x, y, z] => edit3 L a x y z
  | _ => some "shape"
theorem editF_notT (h : isT d = false) : editF L a d = some "shape" := by
  cases d <;> first | rfl | cases h
theorem editF_len {ds : List D} (h : ds.length ≠ 3) : editF L a (.tup ds) = some "shape" := by
  match ds, h with
  | [], _ => rfl
  | [_], _ => rfl
  | [_, _], _ => rfl
  | [a, b, c], h => exact absurd rfl h
  | _ :: _ :: _ :: _ :: _, _ => rfl
def wD : Option String → D
  | none => .non
  | some w => .str (Str.ofString w)
def wE : Option String → D
  | none => .str (Str.ofString "")
  | some w => .str (Str.ofString w)
theorem cut2_3 {x y z : D} : cutL [x, y, z] none (some 2) = [x, y] := rfl
theorem edit_word_eq (hd : fd d = true) (ha : Ahd a) : M_edit_word [.str L, d, a] S = .ok (wD (editF L a d)) S := by
  refine eq_of_wp ?_
  unfold M_edit_word
  refine wpM_fn ?_
  unfold m_edit_word
  simp only [mkR_eq, wpM_rg1, wpM_rg2, wpM_enumA, wpM_iof, wpM_lfS, wS_rai, wS_try, wpM_catF, wpM_revA, wpM_newD, wpM_itemE, wpM_itemT, wpM_hasE, wpM_get1, wpM_get2, wS_putE, wS_putT, and_self, if_true, if_false, Bool.false_eq_true, reduceIte, wS_setS, wS_seq, wS_if, wS_asg, wS_exS, wS_retS, wS_nxS, wS_nx, wS_ret, wpM_op2, wpM_op1, wpM_asT, wpM_trt, wpM_notT, wpM_andT, wpM_orT, wpM_andV, wpM_notE, wpM_ifE, wpM_lnil, wpM_lcons, wpM_tupE, wpM_lstF, wpM_frz, wpM_new, wpM_cal, wpM_calB, wpM_calF, wpM_isiE, wpM_vr, wpM_ct, wpM_meth, wpM_chn, wpM_cut, wpM_cutF, wpM_ono, wpM_osm, wpM_revT, wpM_lfE, wS_for, tgN, List.getElem?_cons_zero, List.getElem?_cons_succ, List.set_cons_zero, List.set_cons_succ, List.map_cons, List.map_nil, List.length_cons, List.length_nil, List.replicate_succ, List.replicate_zero, Nat.reduceAdd, Nat.reduceSub, List.cons_append, List.nil_append, isiT (fd_pure hd)]
  rcases shape3 d with ⟨r, w, c, rfl⟩ | h | ⟨ds, rfl, h⟩
  · have hp : (fd r && (fd w && (fd c && true))) = true := hd
    simp only [Bool.and_eq_true] at hp
    obtain ⟨hr, hw, hc, _⟩ := hp
    simp only [isT, tru, mkR_eq, wpM_rg1, wpM_rg2, wpM_enumA, wpM_iof, wpM_lfS, wS_rai, wS_try, wpM_catF, wpM_revA, wpM_newD, wpM_itemE, wpM_itemT, wpM_hasE, wpM_get1, wpM_get2, wS_putE, wS_putT, and_self, if_true, if_false, Bool.false_eq_true, reduceIte, wS_setS, wS_seq, wS_if, wS_asg, wS_exS, wS_retS, wS_nxS, wS_nx, wS_ret, wpM_op2, wpM_op1, wpM_asT, wpM_trt, wpM_notT, wpM_andT, wpM_orT, wpM_andV, wpM_notE, wpM_ifE, wpM_lnil, wpM_lcons, wpM_tupE, wpM_lstF, wpM_frz, wpM_new, wpM_cal, wpM_calB, wpM_calF, wpM_isiE, wpM_vr, wpM_ct, wpM_meth, wpM_chn, wpM_cut, wpM_cutF, wpM_ono, wpM_osm, wpM_revT, wpM_lfE, wS_for, tgN, List.getElem?_cons_zero, List.getElem?_cons_succ, List.set_cons_zero, List.set_cons_succ, List.map_cons, List.map_nil, List.length_cons, List.length_nil, List.replicate_succ, List.replicate_zero, Nat.reduceAdd, Nat.reduceSub, List.cons_append, List.nil_append, Bool.not_true, len_tup, ne_int, show (((3 : Nat) : Int) == 3) = true from rfl, tgT, tgs, Option.bind_some, isiS (fd_pure hr)]
    have sh : ∀ {o : Option String}, editF L a (.tup [r, w, c]) = o → edit3 L a r w c = o := fun h => h
    cases r with
    | str r =>
      simp only [isS, tru, mkR_eq, wpM_rg1, wpM_rg2, wpM_enumA, wpM_iof, wpM_lfS, wS_rai, wS_try, wpM_catF, wpM_revA, wpM_newD, wpM_itemE, wpM_itemT, wpM_hasE, wpM_get1, wpM_get2, wS_putE, wS_putT, and_self, if_true, if_false, Bool.false_eq_true, reduceIte, wS_setS, wS_seq, wS_if, wS_asg, wS_exS, wS_retS, wS_nxS, wS_nx, wS_ret, wpM_op2, wpM_op1, wpM_asT, wpM_trt, wpM_notT, wpM_andT, wpM_orT, wpM_andV, wpM_notE, wpM_ifE, wpM_lnil, wpM_lcons, wpM_tupE, wpM_lstF, wpM_frz, wpM_new, wpM_cal, wpM_calB, wpM_calF, wpM_isiE, wpM_vr, wpM_ct, wpM_meth, wpM_chn, wpM_cut, wpM_cutF, wpM_ono, wpM_osm, wpM_revT, wpM_lfE, wS_for, tgN, List.getElem?_cons_zero, List.getElem?_cons_succ, List.set_cons_zero, List.set_cons_succ, List.map_cons, List.map_nil, List.length_cons, List.length_nil, List.replicate_succ, List.replicate_zero, Nat.reduceAdd, Nat.reduceSub, List.cons_append, List.nil_append, Bool.not_true, isiS (fd_pure hw)]
      cases w with
      | str w =>
        simp only [isS, tru, mkR_eq, wpM_rg1, wpM_rg2, wpM_enumA, wpM_iof, wpM_lfS, wS_rai, wS_try, wpM_catF, wpM_revA, wpM_newD, wpM_itemE, wpM_itemT, wpM_hasE, wpM_get1, wpM_get2, wS_putE, wS_putT, and_self, if_true, if_false, Bool.false_eq_true, reduceIte, wS_setS, wS_seq, wS_if, wS_asg, wS_exS, wS_retS, wS_nxS, wS_nx, wS_ret, wpM_op2, wpM_op1, wpM_asT, wpM_trt, wpM_notT, wpM_andT, wpM_orT, wpM_andV, wpM_notE, wpM_ifE, wpM_lnil, wpM_lcons, wpM_tupE, wpM_lstF, wpM_frz, wpM_new, wpM_cal, wpM_calB, wpM_calF, wpM_isiE, wpM_vr, wpM_ct, wpM_meth, wpM_chn, wpM_cut, wpM_cutF, wpM_ono, wpM_osm, wpM_revT, wpM_lfE, wS_for, tgN, List.getElem?_cons_zero, List.getElem?_cons_succ, List.set_cons_zero, List.set_cons_succ, List.map_cons, List.map_nil, List.length_cons, List.length_nil, List.replicate_succ, List.replicate_zero, Nat.reduceAdd, Nat.reduceSub, List.cons_append, List.nil_append, Bool.not_true, is_whole_eq (fd_pure hc), wpM_ok]
        cases c with
        | int c =>
          have lr := okS_len (show okS r = true from hr)
          have lw := okS_len (show okS w = true from hw)
          simp only [isI, tru, mkR_eq, wpM_rg1, wpM_rg2, wpM_enumA, wpM_iof, wpM_lfS, wS_rai, wS_try, wpM_catF, wpM_revA, wpM_newD, wpM_itemE, wpM_itemT, wpM_hasE, wpM_get1, wpM_get2, wS_putE, wS_putT, and_self, if_true, if_false, Bool.false_eq_true, reduceIte, wS_setS, wS_seq, wS_if, wS_asg, wS_exS, wS_retS, wS_nxS, wS_nx, wS_ret, wpM_op2, wpM_op1, wpM_asT, wpM_trt, wpM_notT, wpM_andT, wpM_orT, wpM_andV, wpM_notE, wpM_ifE, wpM_lnil, wpM_lcons, wpM_tupE, wpM_lstF, wpM_frz, wpM_new, wpM_cal, wpM_calB, wpM_calF, wpM_isiE, wpM_vr, wpM_ct, wpM_meth, wpM_chn, wpM_cut, wpM_cutF, wpM_ono, wpM_osm, wpM_revT, wpM_lfE, wS_for, tgN, List.getElem?_cons_zero, List.getElem?_cons_succ, List.set_cons_zero, List.set_cons_succ, List.map_cons, List.map_nil, List.length_cons, List.length_nil, List.replicate_succ, List.replicate_zero, Nat.reduceAdd, Nat.reduceSub, List.cons_append, List.nil_append, Bool.not_true, etext_eq (L := L) (S := S) (show r.length ≤ 16777216 by omega), etext_eq (L := L) (S := S) (show w.length ≤ 16777216 by omega), wpM_ok]
          have hF : editF L a (.tup [.str r, .str w, .int c]) = if (etextB L r && etextB L w) = true then (if (r == w) = true then some "like" else if (decide (1 ≤ c) && decide (c ≤ 1000)) = true then ordF r w a else some "cost") else some "text" := rfl
          generalize editF L a (.tup [.str r, .str w, .int c]) = F at hF
          subst hF
          rcases Bool.eq_false_or_eq_true (etextB L r) with h1 | h1 <;> simp only [h1, tru, mkR_eq, wpM_rg1, wpM_rg2, wpM_enumA, wpM_iof, wpM_lfS, wS_rai, wS_try, wpM_catF, wpM_revA, wpM_newD, wpM_itemE, wpM_itemT, wpM_hasE, wpM_get1, wpM_get2, wS_putE, wS_putT, and_self, if_true, if_false, Bool.false_eq_true, reduceIte, wS_setS, wS_seq, wS_if, wS_asg, wS_exS, wS_retS, wS_nxS, wS_nx, wS_ret, wpM_op2, wpM_op1, wpM_asT, wpM_trt, wpM_notT, wpM_andT, wpM_orT, wpM_andV, wpM_notE, wpM_ifE, wpM_lnil, wpM_lcons, wpM_tupE, wpM_lstF, wpM_frz, wpM_new, wpM_cal, wpM_calB, wpM_calF, wpM_isiE, wpM_vr, wpM_ct, wpM_meth, wpM_chn, wpM_cut, wpM_cutF, wpM_ono, wpM_osm, wpM_revT, wpM_lfE, wS_for, tgN, List.getElem?_cons_zero, List.getElem?_cons_succ, List.set_cons_zero, List.set_cons_succ, List.map_cons, List.map_nil, List.length_cons, List.length_nil, List.replicate_succ, List.replicate_zero, Nat.reduceAdd, Nat.reduceSub, List.cons_append, List.nil_append, Bool.not_true, Bool.not_false, Bool.true_and, Bool.false_and] <;> try (rw [scope_pure rfl, wpM_ok, trunc_same]; exact ⟨rfl, rfl⟩)
          rcases Bool.eq_false_or_eq_true (etextB L w) with h2 | h2 <;> simp only [h2, tru, mkR_eq, wpM_rg1, wpM_rg2, wpM_enumA, wpM_iof, wpM_lfS, wS_rai, wS_try, wpM_catF, wpM_revA, wpM_newD, wpM_itemE, wpM_itemT, wpM_hasE, wpM_get1, wpM_get2, wS_putE, wS_putT, and_self, if_true, if_false, Bool.false_eq_true, reduceIte, wS_setS, wS_seq, wS_if, wS_asg, wS_exS, wS_retS, wS_nxS, wS_nx, wS_ret, wpM_op2, wpM_op1, wpM_asT, wpM_trt, wpM_notT, wpM_andT, wpM_orT, wpM_andV, wpM_notE, wpM_ifE, wpM_lnil, wpM_lcons, wpM_tupE, wpM_lstF, wpM_frz, wpM_new, wpM_cal, wpM_calB, wpM_calF, wpM_isiE, wpM_vr, wpM_ct, wpM_meth, wpM_chn, wpM_cut, wpM_cutF, wpM_ono, wpM_osm, wpM_revT, wpM_lfE, wS_for, tgN, List.getElem?_cons_zero, List.getElem?_cons_succ, List.set_cons_zero, List.set_cons_succ, List.map_cons, List.map_nil, List.length_cons, List.length_nil, List.replicate_succ, List.replicate_zero, Nat.reduceAdd, Nat.reduceSub, List.cons_append, List.nil_append, Bool.not_true, Bool.not_false] <;> try (rw [scope_pure rfl, wpM_ok, trunc_same]; exact ⟨rfl, rfl⟩)
          simp only [eq_str (okS_ok (show okS r = true from hr)) (okS_ok (show okS w = true from hw))]
          rcases Bool.eq_false_or_eq_true (r == w) with h3 | h3 <;> simp only [h3, tru, mkR_eq, wpM_rg1, wpM_rg2, wpM_enumA, wpM_iof, wpM_lfS, wS_rai, wS_try, wpM_catF, wpM_revA, wpM_newD, wpM_itemE, wpM_itemT, wpM_hasE, wpM_get1, wpM_get2, wS_putE, wS_putT, and_self, if_true, if_false, Bool.false_eq_true, reduceIte, wS_setS, wS_seq, wS_if, wS_asg, wS_exS, wS_retS, wS_nxS, wS_nx, wS_ret, wpM_op2, wpM_op1, wpM_asT, wpM_trt, wpM_notT, wpM_andT, wpM_orT, wpM_andV, wpM_notE, wpM_ifE, wpM_lnil, wpM_lcons, wpM_tupE, wpM_lstF, wpM_frz, wpM_new, wpM_cal, wpM_calB, wpM_calF, wpM_isiE, wpM_vr, wpM_ct, wpM_meth, wpM_chn, wpM_cut, wpM_cutF, wpM_ono, wpM_osm, wpM_revT, wpM_lfE, wS_for, tgN, List.getElem?_cons_zero, List.getElem?_cons_succ, List.set_cons_zero, List.set_cons_succ, List.map_cons, List.map_nil, List.length_cons, List.length_nil, List.replicate_succ, List.replicate_zero, Nat.reduceAdd, Nat.reduceSub, List.cons_append, List.nil_append, Bool.not_true, Bool.not_false] <;> try (rw [scope_pure rfl, wpM_ok, trunc_same]; exact ⟨rfl, rfl⟩)
          simp only [leI_int]
          rcases Bool.eq_false_or_eq_true (decide ((1 : Int) ≤ c)) with h4 | h4 <;> simp only [h4, tru, mkR_eq, wpM_rg1, wpM_rg2, wpM_enumA, wpM_iof, wpM_lfS, wS_rai, wS_try, wpM_catF, wpM_revA, wpM_newD, wpM_itemE, wpM_itemT, wpM_hasE, wpM_get1, wpM_get2, wS_putE, wS_putT, and_self, if_true, if_false, Bool.false_eq_true, reduceIte, wS_setS, wS_seq, wS_if, wS_asg, wS_exS, wS_retS, wS_nxS, wS_nx, wS_ret, wpM_op2, wpM_op1, wpM_asT, wpM_trt, wpM_notT, wpM_andT, wpM_orT, wpM_andV, wpM_notE, wpM_ifE, wpM_lnil, wpM_lcons, wpM_tupE, wpM_lstF, wpM_frz, wpM_new, wpM_cal, wpM_calB, wpM_calF, wpM_isiE, wpM_vr, wpM_ct, wpM_meth, wpM_chn, wpM_cut, wpM_cutF, wpM_ono, wpM_osm, wpM_revT, wpM_lfE, wS_for, tgN, List.getElem?_cons_zero, List.getElem?_cons_succ, List.set_cons_zero, List.set_cons_succ, List.map_cons, List.map_nil, List.length_cons, List.length_nil, List.replicate_succ, List.replicate_zero, Nat.reduceAdd, Nat.reduceSub, List.cons_append, List.nil_append, Bool.not_true, Bool.not_false, Bool.true_and, Bool.false_and, leI_int] <;> try (rw [scope_pure rfl, wpM_ok, trunc_same]; exact ⟨rfl, rfl⟩)
          rcases Bool.eq_false_or_eq_true (decide (c ≤ (1000 : Int))) with h5 | h5 <;> simp only [h5, tru, mkR_eq, wpM_rg1, wpM_rg2, wpM_enumA, wpM_iof, wpM_lfS, wS_rai, wS_try, wpM_catF, wpM_revA, wpM_newD, wpM_itemE, wpM_itemT, wpM_hasE, wpM_get1, wpM_get2, wS_putE, wS_putT, and_self, if_true, if_false, Bool.false_eq_true, reduceIte, wS_setS, wS_seq, wS_if, wS_asg, wS_exS, wS_retS, wS_nxS, wS_nx, wS_ret, wpM_op2, wpM_op1, wpM_asT, wpM_trt, wpM_notT, wpM_andT, wpM_orT, wpM_andV, wpM_notE, wpM_ifE, wpM_lnil, wpM_lcons, wpM_tupE, wpM_lstF, wpM_frz, wpM_new, wpM_cal, wpM_calB, wpM_calF, wpM_isiE, wpM_vr, wpM_ct, wpM_meth, wpM_chn, wpM_cut, wpM_cutF, wpM_ono, wpM_osm, wpM_revT, wpM_lfE, wS_for, tgN, List.getElem?_cons_zero, List.getElem?_cons_succ, List.set_cons_zero, List.set_cons_succ, List.map_cons, List.map_nil, List.length_cons, List.length_nil, List.replicate_succ, List.replicate_zero, Nat.reduceAdd, Nat.reduceSub, List.cons_append, List.nil_append, Bool.not_true, Bool.not_false, Bool.true_and, Bool.false_and, notN_non] <;> try (rw [scope_pure rfl, wpM_ok, trunc_same]; exact ⟨rfl, rfl⟩)
          cases ha with
          | no =>
            simp only [D.isN, mkR_eq, wpM_rg1, wpM_rg2, wpM_enumA, wpM_iof, wpM_lfS, wS_rai, wS_try, wpM_catF, wpM_revA, wpM_newD, wpM_itemE, wpM_itemT, wpM_hasE, wpM_get1, wpM_get2, wS_putE, wS_putT, and_self, if_true, if_false, Bool.false_eq_true, reduceIte, wS_setS, wS_seq, wS_if, wS_asg, wS_exS, wS_retS, wS_nxS, wS_nx, wS_ret, wpM_op2, wpM_op1, wpM_asT, wpM_trt, wpM_notT, wpM_andT, wpM_orT, wpM_andV, wpM_notE, wpM_ifE, wpM_lnil, wpM_lcons, wpM_tupE, wpM_lstF, wpM_frz, wpM_new, wpM_cal, wpM_calB, wpM_calF, wpM_isiE, wpM_vr, wpM_ct, wpM_meth, wpM_chn, wpM_cut, wpM_cutF, wpM_ono, wpM_osm, wpM_revT, wpM_lfE, wS_for, tgN, List.getElem?_cons_zero, List.getElem?_cons_succ, List.set_cons_zero, List.set_cons_succ, List.map_cons, List.map_nil, List.length_cons, List.length_nil, List.replicate_succ, List.replicate_zero, Nat.reduceAdd, Nat.reduceSub, List.cons_append, List.nil_append, Bool.not_true]
            rw [scope_pure rfl, wpM_ok, trunc_same]; exact ⟨rfl, rfl⟩
          | @ed r' w' c' e1 e2 =>
            simp only [D.isN, mkR_eq, wpM_rg1, wpM_rg2, wpM_enumA, wpM_iof, wpM_lfS, wS_rai, wS_try, wpM_catF, wpM_revA, wpM_newD, wpM_itemE, wpM_itemT, wpM_hasE, wpM_get1, wpM_get2, wS_putE, wS_putT, and_self, if_true, if_false, Bool.false_eq_true, reduceIte, wS_setS, wS_seq, wS_if, wS_asg, wS_exS, wS_retS, wS_nxS, wS_nx, wS_ret, wpM_op2, wpM_op1, wpM_asT, wpM_trt, wpM_notT, wpM_andT, wpM_orT, wpM_andV, wpM_notE, wpM_ifE, wpM_lnil, wpM_lcons, wpM_tupE, wpM_lstF, wpM_frz, wpM_new, wpM_cal, wpM_calB, wpM_calF, wpM_isiE, wpM_vr, wpM_ct, wpM_meth, wpM_chn, wpM_cut, wpM_cutF, wpM_ono, wpM_osm, wpM_revT, wpM_lfE, wS_for, tgN, List.getElem?_cons_zero, List.getElem?_cons_succ, List.set_cons_zero, List.set_cons_succ, List.map_cons, List.map_nil, List.length_cons, List.length_nil, List.replicate_succ, List.replicate_zero, Nat.reduceAdd, Nat.reduceSub, List.cons_append, List.nil_append, Bool.not_false, le_sz (n := 2) rfl, cut_tup, cut2_3, le_tup2]
            have ho : ordF r w (.tup [.str r', .str w', .int c']) = if leP r w r' w' = true then some "order" else none := rfl
            rw [ho]
            unfold leP
            generalize (if (r == r') = true then (if (w == w') = true then true else strLe w w') else strLe r r') = B
            cases B <;> simp only [mkR_eq, wpM_rg1, wpM_rg2, wpM_enumA, wpM_iof, wpM_lfS, wS_rai, wS_try, wpM_catF, wpM_revA, wpM_newD, wpM_itemE, wpM_itemT, wpM_hasE, wpM_get1, wpM_get2, wS_putE, wS_putT, and_self, if_true, if_false, Bool.false_eq_true, reduceIte, wS_setS, wS_seq, wS_if, wS_asg, wS_exS, wS_retS, wS_nxS, wS_nx, wS_ret, wpM_op2, wpM_op1, wpM_asT, wpM_trt, wpM_notT, wpM_andT, wpM_orT, wpM_andV, wpM_notE, wpM_ifE, wpM_lnil, wpM_lcons, wpM_tupE, wpM_lstF, wpM_frz, wpM_new, wpM_cal, wpM_calB, wpM_calF, wpM_isiE, wpM_vr, wpM_ct, wpM_meth, wpM_chn, wpM_cut, wpM_cutF, wpM_ono, wpM_osm, wpM_revT, wpM_lfE, wS_for, tgN, List.getElem?_cons_zero, List.getElem?_cons_succ, List.set_cons_zero, List.set_cons_succ, List.map_cons, List.map_nil, List.length_cons, List.length_nil, List.replicate_succ, List.replicate_zero, Nat.reduceAdd, Nat.reduceSub, List.cons_append, List.nil_append] <;> (rw [scope_pure rfl, wpM_ok, trunc_same]; exact ⟨rfl, rfl⟩)
        | _ =>
          simp only [isI, tru, mkR_eq, wpM_rg1, wpM_rg2, wpM_enumA, wpM_iof, wpM_lfS, wS_rai, wS_try, wpM_catF, wpM_revA, wpM_newD, wpM_itemE, wpM_itemT, wpM_hasE, wpM_get1, wpM_get2, wS_putE, wS_putT, and_self, if_true, if_false, Bool.false_eq_true, reduceIte, wS_setS, wS_seq, wS_if, wS_asg, wS_exS, wS_retS, wS_nxS, wS_nx, wS_ret, wpM_op2, wpM_op1, wpM_asT, wpM_trt, wpM_notT, wpM_andT, wpM_orT, wpM_andV, wpM_notE, wpM_ifE, wpM_lnil, wpM_lcons, wpM_tupE, wpM_lstF, wpM_frz, wpM_new, wpM_cal, wpM_calB, wpM_calF, wpM_isiE, wpM_vr, wpM_ct, wpM_meth, wpM_chn, wpM_cut, wpM_cutF, wpM_ono, wpM_osm, wpM_revT, wpM_lfE, wS_for, tgN, List.getElem?_cons_zero, List.getElem?_cons_succ, List.set_cons_zero, List.set_cons_succ, List.map_cons, List.map_nil, List.length_cons, List.length_nil, List.replicate_succ, List.replicate_zero, Nat.reduceAdd, Nat.reduceSub, List.cons_append, List.nil_append, Bool.not_false]
          rw [scope_pure rfl, wpM_ok, trunc_same]; exact ⟨rfl, rfl⟩
      | _ =>
        simp only [isS, tru, mkR_eq, wpM_rg1, wpM_rg2, wpM_enumA, wpM_iof, wpM_lfS, wS_rai, wS_try, wpM_catF, wpM_revA, wpM_newD, wpM_itemE, wpM_itemT, wpM_hasE, wpM_get1, wpM_get2, wS_putE, wS_putT, and_self, if_true, if_false, Bool.false_eq_true, reduceIte, wS_setS, wS_seq, wS_if, wS_asg, wS_exS, wS_retS, wS_nxS, wS_nx, wS_ret, wpM_op2, wpM_op1, wpM_asT, wpM_trt, wpM_notT, wpM_andT, wpM_orT, wpM_andV, wpM_notE, wpM_ifE, wpM_lnil, wpM_lcons, wpM_tupE, wpM_lstF, wpM_frz, wpM_new, wpM_cal, wpM_calB, wpM_calF, wpM_isiE, wpM_vr, wpM_ct, wpM_meth, wpM_chn, wpM_cut, wpM_cutF, wpM_ono, wpM_osm, wpM_revT, wpM_lfE, wS_for, tgN, List.getElem?_cons_zero, List.getElem?_cons_succ, List.set_cons_zero, List.set_cons_succ, List.map_cons, List.map_nil, List.length_cons, List.length_nil, List.replicate_succ, List.replicate_zero, Nat.reduceAdd, Nat.reduceSub, List.cons_append, List.nil_append, Bool.not_false]
        rw [scope_pure rfl, wpM_ok, trunc_same]; exact ⟨rfl, rfl⟩
    | _ =>
      simp only [isS, tru, mkR_eq, wpM_rg1, wpM_rg2, wpM_enumA, wpM_iof, wpM_lfS, wS_rai, wS_try, wpM_catF, wpM_revA, wpM_newD, wpM_itemE, wpM_itemT, wpM_hasE, wpM_get1, wpM_get2, wS_putE, wS_putT, and_self, if_true, if_false, Bool.false_eq_true, reduceIte, wS_setS, wS_seq, wS_if, wS_asg, wS_exS, wS_retS, wS_nxS, wS_nx, wS_ret, wpM_op2, wpM_op1, wpM_asT, wpM_trt, wpM_notT, wpM_andT, wpM_orT, wpM_andV, wpM_notE, wpM_ifE, wpM_lnil, wpM_lcons, wpM_tupE, wpM_lstF, wpM_frz, wpM_new, wpM_cal, wpM_calB, wpM_calF, wpM_isiE, wpM_vr, wpM_ct, wpM_meth, wpM_chn, wpM_cut, wpM_cutF, wpM_ono, wpM_osm, wpM_revT, wpM_lfE, wS_for, tgN, List.getElem?_cons_zero, List.getElem?_cons_succ, List.set_cons_zero, List.set_cons_succ, List.map_cons, List.map_nil, List.length_cons, List.length_nil, List.replicate_succ, List.replicate_zero, Nat.reduceAdd, Nat.reduceSub, List.cons_append, List.nil_append, Bool.not_false]
      rw [scope_pure rfl, wpM_ok, trunc_same]; exact ⟨rfl, rfl⟩
  · simp only [h, tru, mkR_eq, wpM_rg1, wpM_rg2, wpM_enumA, wpM_iof, wpM_lfS, wS_rai, wS_try, wpM_catF, wpM_revA, wpM_newD, wpM_itemE, wpM_itemT, wpM_hasE, wpM_get1, wpM_get2, wS_putE, wS_putT, and_self, if_true, if_false, Bool.false_eq_true, reduceIte, wS_setS, wS_seq, wS_if, wS_asg, wS_exS, wS_retS, wS_nxS, wS_nx, wS_ret, wpM_op2, wpM_op1, wpM_asT, wpM_trt, wpM_notT, wpM_andT, wpM_orT, wpM_andV, wpM_notE, wpM_ifE, wpM_lnil, wpM_lcons, wpM_tupE, wpM_lstF, wpM_frz, wpM_new, wpM_cal, wpM_calB, wpM_calF, wpM_isiE, wpM_vr, wpM_ct, wpM_meth, wpM_chn, wpM_cut, wpM_cutF, wpM_ono, wpM_osm, wpM_revT, wpM_lfE, wS_for, tgN, List.getElem?_cons_zero, List.getElem?_cons_succ, List.set_cons_zero, List.set_cons_succ, List.map_cons, List.map_nil, List.length_cons, List.length_nil, List.replicate_succ, List.replicate_zero, Nat.reduceAdd, Nat.reduceSub, List.cons_append, List.nil_append, Bool.not_false]
    rw [scope_pure rfl, wpM_ok, trunc_same, editF_notT h]; exact ⟨rfl, rfl⟩
  · simp only [isT, tru, mkR_eq, wpM_rg1, wpM_rg2, wpM_enumA, wpM_iof, wpM_lfS, wS_rai, wS_try, wpM_catF, wpM_revA, wpM_newD, wpM_itemE, wpM_itemT, wpM_hasE, wpM_get1, wpM_get2, wS_putE, wS_putT, and_self, if_true, if_false, Bool.false_eq_true, reduceIte, wS_setS, wS_seq, wS_if, wS_asg, wS_exS, wS_retS, wS_nxS, wS_nx, wS_ret, wpM_op2, wpM_op1, wpM_asT, wpM_trt, wpM_notT, wpM_andT, wpM_orT, wpM_andV, wpM_notE, wpM_ifE, wpM_lnil, wpM_lcons, wpM_tupE, wpM_lstF, wpM_frz, wpM_new, wpM_cal, wpM_calB, wpM_calF, wpM_isiE, wpM_vr, wpM_ct, wpM_meth, wpM_chn, wpM_cut, wpM_cutF, wpM_ono, wpM_osm, wpM_revT, wpM_lfE, wS_for, tgN, List.getElem?_cons_zero, List.getElem?_cons_succ, List.set_cons_zero, List.set_cons_succ, List.map_cons, List.map_nil, List.length_cons, List.length_nil, List.replicate_succ, List.replicate_zero, Nat.reduceAdd, Nat.reduceSub, List.cons_append, List.nil_append, Bool.not_true, len_tup, ne_int, show ((ds.length : Int) == 3) = false from by simp; omega, Bool.not_false]
    rw [scope_pure rfl, wpM_ok, trunc_same, editF_len h]; exact ⟨rfl, rfl⟩
/-- the law's own look at an edit -/
theorem bad_len {z : Str} : (((sgns z).filter fun d => match d with | .str y => !inStr y L | _ => false).map id).length = 0 ↔ allIn L z = true := by
  rw [List.map_id, List.length_eq_zero_iff, List.filter_eq_nil_iff]
  unfold allIn sgns
  rw [List.all_eq_true]
  constructor
  · intro h c hc
    have := h _ (List.mem_map_of_mem hc)
    simpa using this
  · intro h x hx
    obtain ⟨c, hc, rfl⟩ := List.mem_map.mp hx
    simp [h c hc]
theorem bad_comp {env : En} {z : Str} (hz : z.length ≤ 16777216) (h0 : env[0]? = some (some (.str L))) (h3 : env[3]? = some (some (.str z))) (hl : env.length = 5) :
    compF (i_of (vr 3)) (tgN 4) (asT (op2 (o_inS true) (vr 4) (vr 0))) (vr 4) [4] env S = .ok (.lst (((sgns z).filter fun d => match d with | .str y => !inStr y L | _ => false).map id)) S := by
  refine comp_mf (src := []) (by unfold i_of vr; rw [h3]; rfl) (fun X => okSrc_nilX X) (by rw [sgns_len]; exact hz) (fun d hd => ?_) (fun d hd X => ?_)
  · obtain ⟨c, _, rfl⟩ := sgns_mem hd; rfl
  · obtain ⟨c, _, rfl⟩ := sgns_mem hd
    refine ⟨_, rfl, ?_, fun _ => ?_⟩
    · have e0 : ((wipeE env [4]).set 4 (some (.str ⟨#[c]⟩)))[0]? = some (some (.str L)) := by
        simp [wipeE, h0]
      have e4 : ((wipeE env [4]).set 4 (some (.str ⟨#[c]⟩)))[4]? = some (some (.str ⟨#[c]⟩)) := by
        simp [wipeE, hl]
      unfold asT op2 vr
      rw [e4]
      simp only [bd]
      rw [e0]
      rfl
    · have e4 : ((wipeE env [4]).set 4 (some (.str ⟨#[c]⟩)))[4]? = some (some (.str ⟨#[c]⟩)) := by
        simp [wipeE, hl]
      unfold vr
      rw [e4]; rfl
end
end Z

end
section
set_option Elab.async false
set_option linter.all false
set_option maxRecDepth 100000
set_option maxHeartbeats 4000000
set_option autoImplicit false
namespace Z
open PySem PySem.Spec L2 Y PySem.W
section
variable {S : Sto} {Q : D → Sto → Prop} {E : Str → List (Str × D) → Sto → Prop} {d a : D} {L : Str}
theorem leP_iff {r w r' w' : Str} : leP r w r' w' = ((r == r') && (w == w') || (if (r == r') = true then (if (w == w') = true then false else strLe w w') else strLe r r')) := by
  unfold leP
  rcases Bool.eq_false_or_eq_true (r == r') with h1 | h1 <;> rcases Bool.eq_false_or_eq_true (w == w') with h2 | h2 <;> simp [h1, h2]
theorem le3_or {r w r' w' : Str} {c c' : Int} : ((if (r == r') = true then (if (w == w') = true then (if (c == c') = true then true else decide (c ≤ c')) else strLe w w') else strLe r r') || ((r == r') && (w == w'))) = leP r w r' w' := by
  unfold leP
  rcases Bool.eq_false_or_eq_true (r == r') with h1 | h1 <;> rcases Bool.eq_false_or_eq_true (w == w') with h2 | h2 <;> simp [h1, h2]
theorem edit_fault_eq (hd : fd d = true) (ha : Ahd a) : M__law_edit_fault [.str L, d, a] S = .ok (wE (editF L a d)) S := by
  refine eq_of_wp ?_
  unfold M__law_edit_fault
  refine wpM_fn ?_
  unfold m__law_edit_fault
  simp only [mkR_eq, wpM_rg1, wpM_rg2, wpM_enumA, wpM_iof, wpM_lfS, wS_rai, wS_try, wpM_catF, wpM_revA, wpM_newD, wpM_itemE, wpM_itemT, wpM_hasE, wpM_get1, wpM_get2, wS_putE, wS_putT, and_self, if_true, if_false, Bool.false_eq_true, reduceIte, wS_setS, wS_seq, wS_if, wS_asg, wS_exS, wS_retS, wS_nxS, wS_nx, wS_ret, wpM_op2, wpM_op1, wpM_asT, wpM_trt, wpM_notT, wpM_andT, wpM_orT, wpM_andV, wpM_notE, wpM_ifE, wpM_lnil, wpM_lcons, wpM_tupE, wpM_lstF, wpM_frz, wpM_new, wpM_cal, wpM_calB, wpM_calF, wpM_isiE, wpM_vr, wpM_ct, wpM_meth, wpM_chn, wpM_cut, wpM_cutF, wpM_ono, wpM_osm, wpM_revT, wpM_lfE, wS_for, tgN, List.getElem?_cons_zero, List.getElem?_cons_succ, List.set_cons_zero, List.set_cons_succ, List.map_cons, List.map_nil, List.length_cons, List.length_nil, List.replicate_succ, List.replicate_zero, Nat.reduceAdd, Nat.reduceSub, List.cons_append, List.nil_append, isiT (fd_pure hd)]
  rcases shape3 d with ⟨r, w, c, rfl⟩ | h | ⟨ds, rfl, h⟩
  · have hp : (fd r && (fd w && (fd c && true))) = true := hd
    simp only [Bool.and_eq_true] at hp
    obtain ⟨hr, hw, hc, _⟩ := hp
    simp only [isT, tru, mkR_eq, wpM_rg1, wpM_rg2, wpM_enumA, wpM_iof, wpM_lfS, wS_rai, wS_try, wpM_catF, wpM_revA, wpM_newD, wpM_itemE, wpM_itemT, wpM_hasE, wpM_get1, wpM_get2, wS_putE, wS_putT, and_self, if_true, if_false, Bool.false_eq_true, reduceIte, wS_setS, wS_seq, wS_if, wS_asg, wS_exS, wS_retS, wS_nxS, wS_nx, wS_ret, wpM_op2, wpM_op1, wpM_asT, wpM_trt, wpM_notT, wpM_andT, wpM_orT, wpM_andV, wpM_notE, wpM_ifE, wpM_lnil, wpM_lcons, wpM_tupE, wpM_lstF, wpM_frz, wpM_new, wpM_cal, wpM_calB, wpM_calF, wpM_isiE, wpM_vr, wpM_ct, wpM_meth, wpM_chn, wpM_cut, wpM_cutF, wpM_ono, wpM_osm, wpM_revT, wpM_lfE, wS_for, tgN, List.getElem?_cons_zero, List.getElem?_cons_succ, List.set_cons_zero, List.set_cons_succ, List.map_cons, List.map_nil, List.length_cons, List.length_nil, List.replicate_succ, List.replicate_zero, Nat.reduceAdd, Nat.reduceSub, List.cons_append, List.nil_append, Bool.not_true, len_tup, ne_int, show (((3 : Nat) : Int) == 3) = true from rfl, ixT0, ixT1, ixT2, isiS (fd_pure hr)]
    cases r with
    | str r =>
      simp only [isS, tru, mkR_eq, wpM_rg1, wpM_rg2, wpM_enumA, wpM_iof, wpM_lfS, wS_rai, wS_try, wpM_catF, wpM_revA, wpM_newD, wpM_itemE, wpM_itemT, wpM_hasE, wpM_get1, wpM_get2, wS_putE, wS_putT, and_self, if_true, if_false, Bool.false_eq_true, reduceIte, wS_setS, wS_seq, wS_if, wS_asg, wS_exS, wS_retS, wS_nxS, wS_nx, wS_ret, wpM_op2, wpM_op1, wpM_asT, wpM_trt, wpM_notT, wpM_andT, wpM_orT, wpM_andV, wpM_notE, wpM_ifE, wpM_lnil, wpM_lcons, wpM_tupE, wpM_lstF, wpM_frz, wpM_new, wpM_cal, wpM_calB, wpM_calF, wpM_isiE, wpM_vr, wpM_ct, wpM_meth, wpM_chn, wpM_cut, wpM_cutF, wpM_ono, wpM_osm, wpM_revT, wpM_lfE, wS_for, tgN, List.getElem?_cons_zero, List.getElem?_cons_succ, List.set_cons_zero, List.set_cons_succ, List.map_cons, List.map_nil, List.length_cons, List.length_nil, List.replicate_succ, List.replicate_zero, Nat.reduceAdd, Nat.reduceSub, List.cons_append, List.nil_append, Bool.not_true, ixT1, isiS (fd_pure hw)]
      cases w with
      | str w =>
        simp only [isS, tru, mkR_eq, wpM_rg1, wpM_rg2, wpM_enumA, wpM_iof, wpM_lfS, wS_rai, wS_try, wpM_catF, wpM_revA, wpM_newD, wpM_itemE, wpM_itemT, wpM_hasE, wpM_get1, wpM_get2, wS_putE, wS_putT, and_self, if_true, if_false, Bool.false_eq_true, reduceIte, wS_setS, wS_seq, wS_if, wS_asg, wS_exS, wS_retS, wS_nxS, wS_nx, wS_ret, wpM_op2, wpM_op1, wpM_asT, wpM_trt, wpM_notT, wpM_andT, wpM_orT, wpM_andV, wpM_notE, wpM_ifE, wpM_lnil, wpM_lcons, wpM_tupE, wpM_lstF, wpM_frz, wpM_new, wpM_cal, wpM_calB, wpM_calF, wpM_isiE, wpM_vr, wpM_ct, wpM_meth, wpM_chn, wpM_cut, wpM_cutF, wpM_ono, wpM_osm, wpM_revT, wpM_lfE, wS_for, tgN, List.getElem?_cons_zero, List.getElem?_cons_succ, List.set_cons_zero, List.set_cons_succ, List.map_cons, List.map_nil, List.length_cons, List.length_nil, List.replicate_succ, List.replicate_zero, Nat.reduceAdd, Nat.reduceSub, List.cons_append, List.nil_append, Bool.not_true, ixT2, lwhole_eq (fd_pure hc), wpM_ok]
        cases c with
        | int c =>
          have lr := okS_len (show okS r = true from hr)
          have lw := okS_len (show okS w = true from hw)
          simp only [isI, tru, mkR_eq, wpM_rg1, wpM_rg2, wpM_enumA, wpM_iof, wpM_lfS, wS_rai, wS_try, wpM_catF, wpM_revA, wpM_newD, wpM_itemE, wpM_itemT, wpM_hasE, wpM_get1, wpM_get2, wS_putE, wS_putT, and_self, if_true, if_false, Bool.false_eq_true, reduceIte, wS_setS, wS_seq, wS_if, wS_asg, wS_exS, wS_retS, wS_nxS, wS_nx, wS_ret, wpM_op2, wpM_op1, wpM_asT, wpM_trt, wpM_notT, wpM_andT, wpM_orT, wpM_andV, wpM_notE, wpM_ifE, wpM_lnil, wpM_lcons, wpM_tupE, wpM_lstF, wpM_frz, wpM_new, wpM_cal, wpM_calB, wpM_calF, wpM_isiE, wpM_vr, wpM_ct, wpM_meth, wpM_chn, wpM_cut, wpM_cutF, wpM_ono, wpM_osm, wpM_revT, wpM_lfE, wS_for, tgN, List.getElem?_cons_zero, List.getElem?_cons_succ, List.set_cons_zero, List.set_cons_succ, List.map_cons, List.map_nil, List.length_cons, List.length_nil, List.replicate_succ, List.replicate_zero, Nat.reduceAdd, Nat.reduceSub, List.cons_append, List.nil_append, Bool.not_true]
          have hF : editF L a (.tup [.str r, .str w, .int c]) = if (etextB L r && etextB L w) = true then (if (r == w) = true then some "like" else if (decide (1 ≤ c) && decide (c ≤ 1000)) = true then ordF r w a else some "cost") else some "text" := rfl
          generalize editF L a (.tup [.str r, .str w, .int c]) = F at hF
          -- the two texts
          have one : ∀ (z : Str) (e4 : Option D) (k : SK), z.length ≤ 1000000 → (etextB L z = true → ∀ e4, k.nx [some (.str L), some (.tup [.str r, .str w, .int c]), some a, some (.str z), e4] S) → (etextB L z = false → k.rt (.str (Str.ofString "text")) S) →
              wS (ifS (orT (asT (op2 o_gt (calB o_len (lcons (vr 3) lnil)) (ct (.int 3)))) (asT (op2 o_gt (calB o_len (lcons (compF (i_of (vr 3)) (tgN 4) (asT (op2 (o_inS true) (vr 4) (vr 0))) (vr 4) [4]) lnil)) (ct (.int 0))))) (retS (ct (.str (Str.ofString "text")))) nxS
                [some (.str L), some (.tup [.str r, .str w, .int c]), some a, some (.str z), e4] S) k := by
            intro z e4 k hz k1 k2
            simp only [mkR_eq, wpM_rg1, wpM_rg2, wpM_enumA, wpM_iof, wpM_lfS, wS_rai, wS_try, wpM_catF, wpM_revA, wpM_newD, wpM_itemE, wpM_itemT, wpM_hasE, wpM_get1, wpM_get2, wS_putE, wS_putT, and_self, if_true, if_false, Bool.false_eq_true, reduceIte, wS_setS, wS_seq, wS_if, wS_asg, wS_exS, wS_retS, wS_nxS, wS_nx, wS_ret, wpM_op2, wpM_op1, wpM_asT, wpM_trt, wpM_notT, wpM_andT, wpM_orT, wpM_andV, wpM_notE, wpM_ifE, wpM_lnil, wpM_lcons, wpM_tupE, wpM_lstF, wpM_frz, wpM_new, wpM_cal, wpM_calB, wpM_calF, wpM_isiE, wpM_vr, wpM_ct, wpM_meth, wpM_chn, wpM_cut, wpM_cutF, wpM_ono, wpM_osm, wpM_revT, wpM_lfE, wS_for, tgN, List.getElem?_cons_zero, List.getElem?_cons_succ, List.set_cons_zero, List.set_cons_succ, List.map_cons, List.map_nil, List.length_cons, List.length_nil, List.replicate_succ, List.replicate_zero, Nat.reduceAdd, Nat.reduceSub, List.cons_append, List.nil_append, len_str (show z.length ≤ 16777216 by omega), cmp_int]
            unfold etextB at k1 k2
            by_cases h : z.length ≤ 3
            · rw [decide_eq_true h] at k1 k2
              simp only [decide_eq_false (show ¬ (3 : Int) < (z.length : Int) by omega), mkR_eq, wpM_rg1, wpM_rg2, wpM_enumA, wpM_iof, wpM_lfS, wS_rai, wS_try, wpM_catF, wpM_revA, wpM_newD, wpM_itemE, wpM_itemT, wpM_hasE, wpM_get1, wpM_get2, wS_putE, wS_putT, and_self, if_true, if_false, Bool.false_eq_true, reduceIte, wS_setS, wS_seq, wS_if, wS_asg, wS_exS, wS_retS, wS_nxS, wS_nx, wS_ret, wpM_op2, wpM_op1, wpM_asT, wpM_trt, wpM_notT, wpM_andT, wpM_orT, wpM_andV, wpM_notE, wpM_ifE, wpM_lnil, wpM_lcons, wpM_tupE, wpM_lstF, wpM_frz, wpM_new, wpM_cal, wpM_calB, wpM_calF, wpM_isiE, wpM_vr, wpM_ct, wpM_meth, wpM_chn, wpM_cut, wpM_cutF, wpM_ono, wpM_osm, wpM_revT, wpM_lfE, wS_for, tgN, List.getElem?_cons_zero, List.getElem?_cons_succ, List.set_cons_zero, List.set_cons_succ, List.map_cons, List.map_nil, List.length_cons, List.length_nil, List.replicate_succ, List.replicate_zero, Nat.reduceAdd, Nat.reduceSub, List.cons_append, List.nil_append, bad_comp (L := L) (z := z) (env := [some (.str L), some (.tup [.str r, .str w, .int c]), some a, some (.str z), e4]) (S := S) (show z.length ≤ 16777216 by omega) rfl rfl rfl, wpM_ok, len_lst, cmp_int]
              rcases Bool.eq_false_or_eq_true (allIn L z) with h2 | h2
              · rw [bad_len.mpr h2]
                simp only [show decide ((0 : Int) < ((0 : Nat) : Int)) = false from rfl, mkR_eq, wpM_rg1, wpM_rg2, wpM_enumA, wpM_iof, wpM_lfS, wS_rai, wS_try, wpM_catF, wpM_revA, wpM_newD, wpM_itemE, wpM_itemT, wpM_hasE, wpM_get1, wpM_get2, wS_putE, wS_putT, and_self, if_true, if_false, Bool.false_eq_true, reduceIte, wS_setS, wS_seq, wS_if, wS_asg, wS_exS, wS_retS, wS_nxS, wS_nx, wS_ret, wpM_op2, wpM_op1, wpM_asT, wpM_trt, wpM_notT, wpM_andT, wpM_orT, wpM_andV, wpM_notE, wpM_ifE, wpM_lnil, wpM_lcons, wpM_tupE, wpM_lstF, wpM_frz, wpM_new, wpM_cal, wpM_calB, wpM_calF, wpM_isiE, wpM_vr, wpM_ct, wpM_meth, wpM_chn, wpM_cut, wpM_cutF, wpM_ono, wpM_osm, wpM_revT, wpM_lfE, wS_for, tgN, List.getElem?_cons_zero, List.getElem?_cons_succ, List.set_cons_zero, List.set_cons_succ, List.map_cons, List.map_nil, List.length_cons, List.length_nil, List.replicate_succ, List.replicate_zero, Nat.reduceAdd, Nat.reduceSub, List.cons_append, List.nil_append]
                exact k1 (by rw [h2]; rfl) _
              · have hne := mt bad_len.mp (show ¬ allIn L z = true by rw [h2]; exact Bool.false_ne_true)
                rw [decide_eq_true (show (0 : Int) < _ by omega)]
                simp only [mkR_eq, wpM_rg1, wpM_rg2, wpM_enumA, wpM_iof, wpM_lfS, wS_rai, wS_try, wpM_catF, wpM_revA, wpM_newD, wpM_itemE, wpM_itemT, wpM_hasE, wpM_get1, wpM_get2, wS_putE, wS_putT, and_self, if_true, if_false, Bool.false_eq_true, reduceIte, wS_setS, wS_seq, wS_if, wS_asg, wS_exS, wS_retS, wS_nxS, wS_nx, wS_ret, wpM_op2, wpM_op1, wpM_asT, wpM_trt, wpM_notT, wpM_andT, wpM_orT, wpM_andV, wpM_notE, wpM_ifE, wpM_lnil, wpM_lcons, wpM_tupE, wpM_lstF, wpM_frz, wpM_new, wpM_cal, wpM_calB, wpM_calF, wpM_isiE, wpM_vr, wpM_ct, wpM_meth, wpM_chn, wpM_cut, wpM_cutF, wpM_ono, wpM_osm, wpM_revT, wpM_lfE, wS_for, tgN, List.getElem?_cons_zero, List.getElem?_cons_succ, List.set_cons_zero, List.set_cons_succ, List.map_cons, List.map_nil, List.length_cons, List.length_nil, List.replicate_succ, List.replicate_zero, Nat.reduceAdd, Nat.reduceSub, List.cons_append, List.nil_append]
                exact k2 (by rw [h2]; rfl)
            · rw [decide_eq_false h] at k2
              simp only [decide_eq_true (show (3 : Int) < (z.length : Int) by omega), mkR_eq, wpM_rg1, wpM_rg2, wpM_enumA, wpM_iof, wpM_lfS, wS_rai, wS_try, wpM_catF, wpM_revA, wpM_newD, wpM_itemE, wpM_itemT, wpM_hasE, wpM_get1, wpM_get2, wS_putE, wS_putT, and_self, if_true, if_false, Bool.false_eq_true, reduceIte, wS_setS, wS_seq, wS_if, wS_asg, wS_exS, wS_retS, wS_nxS, wS_nx, wS_ret, wpM_op2, wpM_op1, wpM_asT, wpM_trt, wpM_notT, wpM_andT, wpM_orT, wpM_andV, wpM_notE, wpM_ifE, wpM_lnil, wpM_lcons, wpM_tupE, wpM_lstF, wpM_frz, wpM_new, wpM_cal, wpM_calB, wpM_calF, wpM_isiE, wpM_vr, wpM_ct, wpM_meth, wpM_chn, wpM_cut, wpM_cutF, wpM_ono, wpM_osm, wpM_revT, wpM_lfE, wS_for, tgN, List.getElem?_cons_zero, List.getElem?_cons_succ, List.set_cons_zero, List.set_cons_succ, List.map_cons, List.map_nil, List.length_cons, List.length_nil, List.replicate_succ, List.replicate_zero, Nat.reduceAdd, Nat.reduceSub, List.cons_append, List.nil_append]
              exact k2 rfl
          simp only [i_of, mkR_eq, wpM_rg1, wpM_rg2, wpM_enumA, wpM_iof, wpM_lfS, wS_rai, wS_try, wpM_catF, wpM_revA, wpM_newD, wpM_itemE, wpM_itemT, wpM_hasE, wpM_get1, wpM_get2, wS_putE, wS_putT, and_self, if_true, if_false, Bool.false_eq_true, reduceIte, wS_setS, wS_seq, wS_if, wS_asg, wS_exS, wS_retS, wS_nxS, wS_nx, wS_ret, wpM_op2, wpM_op1, wpM_asT, wpM_trt, wpM_notT, wpM_andT, wpM_orT, wpM_andV, wpM_notE, wpM_ifE, wpM_lnil, wpM_lcons, wpM_tupE, wpM_lstF, wpM_frz, wpM_new, wpM_cal, wpM_calB, wpM_calF, wpM_isiE, wpM_vr, wpM_ct, wpM_meth, wpM_chn, wpM_cut, wpM_cutF, wpM_ono, wpM_osm, wpM_revT, wpM_lfE, wS_for, tgN, List.getElem?_cons_zero, List.getElem?_cons_succ, List.set_cons_zero, List.set_cons_succ, List.map_cons, List.map_nil, List.length_cons, List.length_nil, List.replicate_succ, List.replicate_zero, Nat.reduceAdd, Nat.reduceSub, List.cons_append, List.nil_append, wpM_bdE, cut_tup, cut2_3, srcOf, wpM_lfS]
          have fin : ∀ {w : String} {F : Option String}, F = some w → wpM (scope S (.ok (.str (Str.ofString w)) S)) (fun x S1 => x = wE F ∧ S1 = S) (fun _ _ _ => False) := fun {w F} h => by
            rw [scope_pure rfl, wpM_ok, trunc_same, h]; exact ⟨rfl, rfl⟩
          refine wS_loop (fun i env S' => S' = S ∧ ∃ e3 e4, env = [some (.str L), some (.tup [.str r, .str w, .int c]), some a, e3, e4] ∧ (1 ≤ i → etextB L r = true) ∧ (2 ≤ i → etextB L w = true)) _ 0 _ _ ⟨rfl, none, none, rfl, fun h => absurd h (by omega), fun h => absurd h (by omega)⟩ ?_ ?_
          · rintro j d env S' hj ⟨rfl, e3, e4, rfl, q1, q2⟩
            refine ⟨okSrc_nil, _, rfl, ?_⟩
            match j, hj with
            | 0, hj =>
              cases hj
              refine one r _ _ lr (fun h1 e4 => ⟨rfl, _, _, rfl, fun _ => h1, fun h => absurd h (by omega)⟩) (fun h1 => ?_)
              exact fin (by rw [hF, h1]; rfl)
            | 1, hj =>
              cases hj
              have h1 := q1 (by omega)
              refine one w _ _ lw (fun h2 e4 => ⟨rfl, _, _, rfl, fun _ => h1, fun _ => h2⟩) (fun h2 => ?_)
              exact fin (by rw [hF, h1, h2]; rfl)
            | j + 2, hj => simp at hj
          · rintro env S' ⟨rfl, e3, e4, rfl, q1, q2⟩
            have h1 := q1 (by simp)
            have h2 := q2 (by simp)
            refine ⟨okSrc_nil, ?_⟩
            rw [h1, h2] at hF
            simp only [Bool.and_self, if_true] at hF
            simp only [mkR_eq, wpM_rg1, wpM_rg2, wpM_enumA, wpM_iof, wpM_lfS, wS_rai, wS_try, wpM_catF, wpM_revA, wpM_newD, wpM_itemE, wpM_itemT, wpM_hasE, wpM_get1, wpM_get2, wS_putE, wS_putT, and_self, if_true, if_false, Bool.false_eq_true, reduceIte, wS_setS, wS_seq, wS_if, wS_asg, wS_exS, wS_retS, wS_nxS, wS_nx, wS_ret, wpM_op2, wpM_op1, wpM_asT, wpM_trt, wpM_notT, wpM_andT, wpM_orT, wpM_andV, wpM_notE, wpM_ifE, wpM_lnil, wpM_lcons, wpM_tupE, wpM_lstF, wpM_frz, wpM_new, wpM_cal, wpM_calB, wpM_calF, wpM_isiE, wpM_vr, wpM_ct, wpM_meth, wpM_chn, wpM_cut, wpM_cutF, wpM_ono, wpM_osm, wpM_revT, wpM_lfE, wS_for, tgN, List.getElem?_cons_zero, List.getElem?_cons_succ, List.set_cons_zero, List.set_cons_succ, List.map_cons, List.map_nil, List.length_cons, List.length_nil, List.replicate_succ, List.replicate_zero, Nat.reduceAdd, Nat.reduceSub, List.cons_append, List.nil_append, ixT0, ixT1, ixT2, eq_str (okS_ok (show okS r = true from hr)) (okS_ok (show okS w = true from hw))]
            rcases Bool.eq_false_or_eq_true (r == w) with h3 | h3
            · simp only [h3, mkR_eq, wpM_rg1, wpM_rg2, wpM_enumA, wpM_iof, wpM_lfS, wS_rai, wS_try, wpM_catF, wpM_revA, wpM_newD, wpM_itemE, wpM_itemT, wpM_hasE, wpM_get1, wpM_get2, wS_putE, wS_putT, and_self, if_true, if_false, Bool.false_eq_true, reduceIte, wS_setS, wS_seq, wS_if, wS_asg, wS_exS, wS_retS, wS_nxS, wS_nx, wS_ret, wpM_op2, wpM_op1, wpM_asT, wpM_trt, wpM_notT, wpM_andT, wpM_orT, wpM_andV, wpM_notE, wpM_ifE, wpM_lnil, wpM_lcons, wpM_tupE, wpM_lstF, wpM_frz, wpM_new, wpM_cal, wpM_calB, wpM_calF, wpM_isiE, wpM_vr, wpM_ct, wpM_meth, wpM_chn, wpM_cut, wpM_cutF, wpM_ono, wpM_osm, wpM_revT, wpM_lfE, wS_for, tgN, List.getElem?_cons_zero, List.getElem?_cons_succ, List.set_cons_zero, List.set_cons_succ, List.map_cons, List.map_nil, List.length_cons, List.length_nil, List.replicate_succ, List.replicate_zero, Nat.reduceAdd, Nat.reduceSub, List.cons_append, List.nil_append]
              exact fin (by rw [hF, h3]; rfl)
            · rw [h3] at hF
              simp only [Bool.false_eq_true, if_false] at hF
              simp only [h3, mkR_eq, wpM_rg1, wpM_rg2, wpM_enumA, wpM_iof, wpM_lfS, wS_rai, wS_try, wpM_catF, wpM_revA, wpM_newD, wpM_itemE, wpM_itemT, wpM_hasE, wpM_get1, wpM_get2, wS_putE, wS_putT, and_self, if_true, if_false, Bool.false_eq_true, reduceIte, wS_setS, wS_seq, wS_if, wS_asg, wS_exS, wS_retS, wS_nxS, wS_nx, wS_ret, wpM_op2, wpM_op1, wpM_asT, wpM_trt, wpM_notT, wpM_andT, wpM_orT, wpM_andV, wpM_notE, wpM_ifE, wpM_lnil, wpM_lcons, wpM_tupE, wpM_lstF, wpM_frz, wpM_new, wpM_cal, wpM_calB, wpM_calF, wpM_isiE, wpM_vr, wpM_ct, wpM_meth, wpM_chn, wpM_cut, wpM_cutF, wpM_ono, wpM_osm, wpM_revT, wpM_lfE, wS_for, tgN, List.getElem?_cons_zero, List.getElem?_cons_succ, List.set_cons_zero, List.set_cons_succ, List.map_cons, List.map_nil, List.length_cons, List.length_nil, List.replicate_succ, List.replicate_zero, Nat.reduceAdd, Nat.reduceSub, List.cons_append, List.nil_append, ixT2, cmp_int]
              rcases Bool.eq_false_or_eq_true (decide ((1 : Int) ≤ c)) with h4 | h4
              · have h4' := of_decide_eq_true h4
                simp only [decide_eq_false (show ¬ c < 1 by omega), mkR_eq, wpM_rg1, wpM_rg2, wpM_enumA, wpM_iof, wpM_lfS, wS_rai, wS_try, wpM_catF, wpM_revA, wpM_newD, wpM_itemE, wpM_itemT, wpM_hasE, wpM_get1, wpM_get2, wS_putE, wS_putT, and_self, if_true, if_false, Bool.false_eq_true, reduceIte, wS_setS, wS_seq, wS_if, wS_asg, wS_exS, wS_retS, wS_nxS, wS_nx, wS_ret, wpM_op2, wpM_op1, wpM_asT, wpM_trt, wpM_notT, wpM_andT, wpM_orT, wpM_andV, wpM_notE, wpM_ifE, wpM_lnil, wpM_lcons, wpM_tupE, wpM_lstF, wpM_frz, wpM_new, wpM_cal, wpM_calB, wpM_calF, wpM_isiE, wpM_vr, wpM_ct, wpM_meth, wpM_chn, wpM_cut, wpM_cutF, wpM_ono, wpM_osm, wpM_revT, wpM_lfE, wS_for, tgN, List.getElem?_cons_zero, List.getElem?_cons_succ, List.set_cons_zero, List.set_cons_succ, List.map_cons, List.map_nil, List.length_cons, List.length_nil, List.replicate_succ, List.replicate_zero, Nat.reduceAdd, Nat.reduceSub, List.cons_append, List.nil_append, ixT2, cmp_int]
                rcases Bool.eq_false_or_eq_true (decide (c ≤ (1000 : Int))) with h5 | h5
                · have h5' := of_decide_eq_true h5
                  rw [h4, h5] at hF
                  simp only [Bool.and_self, if_true] at hF
                  simp only [decide_eq_false (show ¬ (1000 : Int) < c by omega), mkR_eq, wpM_rg1, wpM_rg2, wpM_enumA, wpM_iof, wpM_lfS, wS_rai, wS_try, wpM_catF, wpM_revA, wpM_newD, wpM_itemE, wpM_itemT, wpM_hasE, wpM_get1, wpM_get2, wS_putE, wS_putT, and_self, if_true, if_false, Bool.false_eq_true, reduceIte, wS_setS, wS_seq, wS_if, wS_asg, wS_exS, wS_retS, wS_nxS, wS_nx, wS_ret, wpM_op2, wpM_op1, wpM_asT, wpM_trt, wpM_notT, wpM_andT, wpM_orT, wpM_andV, wpM_notE, wpM_ifE, wpM_lnil, wpM_lcons, wpM_tupE, wpM_lstF, wpM_frz, wpM_new, wpM_cal, wpM_calB, wpM_calF, wpM_isiE, wpM_vr, wpM_ct, wpM_meth, wpM_chn, wpM_cut, wpM_cutF, wpM_ono, wpM_osm, wpM_revT, wpM_lfE, wS_for, tgN, List.getElem?_cons_zero, List.getElem?_cons_succ, List.set_cons_zero, List.set_cons_succ, List.map_cons, List.map_nil, List.length_cons, List.length_nil, List.replicate_succ, List.replicate_zero, Nat.reduceAdd, Nat.reduceSub, List.cons_append, List.nil_append, notN_non]
                  cases ha with
                  | no =>
                    simp only [D.isN, mkR_eq, wpM_rg1, wpM_rg2, wpM_enumA, wpM_iof, wpM_lfS, wS_rai, wS_try, wpM_catF, wpM_revA, wpM_newD, wpM_itemE, wpM_itemT, wpM_hasE, wpM_get1, wpM_get2, wS_putE, wS_putT, and_self, if_true, if_false, Bool.false_eq_true, reduceIte, wS_setS, wS_seq, wS_if, wS_asg, wS_exS, wS_retS, wS_nxS, wS_nx, wS_ret, wpM_op2, wpM_op1, wpM_asT, wpM_trt, wpM_notT, wpM_andT, wpM_orT, wpM_andV, wpM_notE, wpM_ifE, wpM_lnil, wpM_lcons, wpM_tupE, wpM_lstF, wpM_frz, wpM_new, wpM_cal, wpM_calB, wpM_calF, wpM_isiE, wpM_vr, wpM_ct, wpM_meth, wpM_chn, wpM_cut, wpM_cutF, wpM_ono, wpM_osm, wpM_revT, wpM_lfE, wS_for, tgN, List.getElem?_cons_zero, List.getElem?_cons_succ, List.set_cons_zero, List.set_cons_succ, List.map_cons, List.map_nil, List.length_cons, List.length_nil, List.replicate_succ, List.replicate_zero, Nat.reduceAdd, Nat.reduceSub, List.cons_append, List.nil_append, Bool.not_true]
                    rw [scope_pure rfl, wpM_ok, trunc_same, hF]; exact ⟨rfl, rfl⟩
                  | @ed r' w' c' g1 g2 =>
                    have ho : F = if leP r w r' w' = true then some "order" else none := hF
                    rw [← le3_or (c := c) (c' := c')] at ho
                    simp only [D.isN, mkR_eq, wpM_rg1, wpM_rg2, wpM_enumA, wpM_iof, wpM_lfS, wS_rai, wS_try, wpM_catF, wpM_revA, wpM_newD, wpM_itemE, wpM_itemT, wpM_hasE, wpM_get1, wpM_get2, wS_putE, wS_putT, and_self, if_true, if_false, Bool.false_eq_true, reduceIte, wS_setS, wS_seq, wS_if, wS_asg, wS_exS, wS_retS, wS_nxS, wS_nx, wS_ret, wpM_op2, wpM_op1, wpM_asT, wpM_trt, wpM_notT, wpM_andT, wpM_orT, wpM_andV, wpM_notE, wpM_ifE, wpM_lnil, wpM_lcons, wpM_tupE, wpM_lstF, wpM_frz, wpM_new, wpM_cal, wpM_calB, wpM_calF, wpM_isiE, wpM_vr, wpM_ct, wpM_meth, wpM_chn, wpM_cut, wpM_cutF, wpM_ono, wpM_osm, wpM_revT, wpM_lfE, wS_for, tgN, List.getElem?_cons_zero, List.getElem?_cons_succ, List.set_cons_zero, List.set_cons_succ, List.map_cons, List.map_nil, List.length_cons, List.length_nil, List.replicate_succ, List.replicate_zero, Nat.reduceAdd, Nat.reduceSub, List.cons_append, List.nil_append, Bool.not_false, cut_tup, cut2_3, le_tup3]
                    generalize (if (r == r') = true then (if (w == w') = true then (if (c == c') = true then true else decide (c ≤ c')) else strLe w w') else strLe r r') = B at ho ⊢
                    cases B with
                    | true =>
                      simp only [mkR_eq, wpM_rg1, wpM_rg2, wpM_enumA, wpM_iof, wpM_lfS, wS_rai, wS_try, wpM_catF, wpM_revA, wpM_newD, wpM_itemE, wpM_itemT, wpM_hasE, wpM_get1, wpM_get2, wS_putE, wS_putT, and_self, if_true, if_false, Bool.false_eq_true, reduceIte, wS_setS, wS_seq, wS_if, wS_asg, wS_exS, wS_retS, wS_nxS, wS_nx, wS_ret, wpM_op2, wpM_op1, wpM_asT, wpM_trt, wpM_notT, wpM_andT, wpM_orT, wpM_andV, wpM_notE, wpM_ifE, wpM_lnil, wpM_lcons, wpM_tupE, wpM_lstF, wpM_frz, wpM_new, wpM_cal, wpM_calB, wpM_calF, wpM_isiE, wpM_vr, wpM_ct, wpM_meth, wpM_chn, wpM_cut, wpM_cutF, wpM_ono, wpM_osm, wpM_revT, wpM_lfE, wS_for, tgN, List.getElem?_cons_zero, List.getElem?_cons_succ, List.set_cons_zero, List.set_cons_succ, List.map_cons, List.map_nil, List.length_cons, List.length_nil, List.replicate_succ, List.replicate_zero, Nat.reduceAdd, Nat.reduceSub, List.cons_append, List.nil_append]
                      exact fin (by rw [ho]; rfl)
                    | false =>
                      simp only [mkR_eq, wpM_rg1, wpM_rg2, wpM_enumA, wpM_iof, wpM_lfS, wS_rai, wS_try, wpM_catF, wpM_revA, wpM_newD, wpM_itemE, wpM_itemT, wpM_hasE, wpM_get1, wpM_get2, wS_putE, wS_putT, and_self, if_true, if_false, Bool.false_eq_true, reduceIte, wS_setS, wS_seq, wS_if, wS_asg, wS_exS, wS_retS, wS_nxS, wS_nx, wS_ret, wpM_op2, wpM_op1, wpM_asT, wpM_trt, wpM_notT, wpM_andT, wpM_orT, wpM_andV, wpM_notE, wpM_ifE, wpM_lnil, wpM_lcons, wpM_tupE, wpM_lstF, wpM_frz, wpM_new, wpM_cal, wpM_calB, wpM_calF, wpM_isiE, wpM_vr, wpM_ct, wpM_meth, wpM_chn, wpM_cut, wpM_cutF, wpM_ono, wpM_osm, wpM_revT, wpM_lfE, wS_for, tgN, List.getElem?_cons_zero, List.getElem?_cons_succ, List.set_cons_zero, List.set_cons_succ, List.map_cons, List.map_nil, List.length_cons, List.length_nil, List.replicate_succ, List.replicate_zero, Nat.reduceAdd, Nat.reduceSub, List.cons_append, List.nil_append, cut_tup, cut2_3, eq_tup2 (okS_ok (show okS r = true from hr)) (okS_ok (show okS w = true from hw)) (okS_ok g1) (okS_ok g2)]
                      rw [Bool.false_or] at ho
                      generalize (r == r' && w == w') = B at ho ⊢
                      cases B with
                      | true =>
                        simp only [mkR_eq, wpM_rg1, wpM_rg2, wpM_enumA, wpM_iof, wpM_lfS, wS_rai, wS_try, wpM_catF, wpM_revA, wpM_newD, wpM_itemE, wpM_itemT, wpM_hasE, wpM_get1, wpM_get2, wS_putE, wS_putT, and_self, if_true, if_false, Bool.false_eq_true, reduceIte, wS_setS, wS_seq, wS_if, wS_asg, wS_exS, wS_retS, wS_nxS, wS_nx, wS_ret, wpM_op2, wpM_op1, wpM_asT, wpM_trt, wpM_notT, wpM_andT, wpM_orT, wpM_andV, wpM_notE, wpM_ifE, wpM_lnil, wpM_lcons, wpM_tupE, wpM_lstF, wpM_frz, wpM_new, wpM_cal, wpM_calB, wpM_calF, wpM_isiE, wpM_vr, wpM_ct, wpM_meth, wpM_chn, wpM_cut, wpM_cutF, wpM_ono, wpM_osm, wpM_revT, wpM_lfE, wS_for, tgN, List.getElem?_cons_zero, List.getElem?_cons_succ, List.set_cons_zero, List.set_cons_succ, List.map_cons, List.map_nil, List.length_cons, List.length_nil, List.replicate_succ, List.replicate_zero, Nat.reduceAdd, Nat.reduceSub, List.cons_append, List.nil_append]
                        exact fin (by rw [ho]; rfl)
                      | false =>
                        simp only [mkR_eq, wpM_rg1, wpM_rg2, wpM_enumA, wpM_iof, wpM_lfS, wS_rai, wS_try, wpM_catF, wpM_revA, wpM_newD, wpM_itemE, wpM_itemT, wpM_hasE, wpM_get1, wpM_get2, wS_putE, wS_putT, and_self, if_true, if_false, Bool.false_eq_true, reduceIte, wS_setS, wS_seq, wS_if, wS_asg, wS_exS, wS_retS, wS_nxS, wS_nx, wS_ret, wpM_op2, wpM_op1, wpM_asT, wpM_trt, wpM_notT, wpM_andT, wpM_orT, wpM_andV, wpM_notE, wpM_ifE, wpM_lnil, wpM_lcons, wpM_tupE, wpM_lstF, wpM_frz, wpM_new, wpM_cal, wpM_calB, wpM_calF, wpM_isiE, wpM_vr, wpM_ct, wpM_meth, wpM_chn, wpM_cut, wpM_cutF, wpM_ono, wpM_osm, wpM_revT, wpM_lfE, wS_for, tgN, List.getElem?_cons_zero, List.getElem?_cons_succ, List.set_cons_zero, List.set_cons_succ, List.map_cons, List.map_nil, List.length_cons, List.length_nil, List.replicate_succ, List.replicate_zero, Nat.reduceAdd, Nat.reduceSub, List.cons_append, List.nil_append]
                        rw [scope_pure rfl, wpM_ok, trunc_same, ho]; exact ⟨rfl, rfl⟩
                · have h5' := of_decide_eq_false h5
                  simp only [decide_eq_true (show (1000 : Int) < c by omega), mkR_eq, wpM_rg1, wpM_rg2, wpM_enumA, wpM_iof, wpM_lfS, wS_rai, wS_try, wpM_catF, wpM_revA, wpM_newD, wpM_itemE, wpM_itemT, wpM_hasE, wpM_get1, wpM_get2, wS_putE, wS_putT, and_self, if_true, if_false, Bool.false_eq_true, reduceIte, wS_setS, wS_seq, wS_if, wS_asg, wS_exS, wS_retS, wS_nxS, wS_nx, wS_ret, wpM_op2, wpM_op1, wpM_asT, wpM_trt, wpM_notT, wpM_andT, wpM_orT, wpM_andV, wpM_notE, wpM_ifE, wpM_lnil, wpM_lcons, wpM_tupE, wpM_lstF, wpM_frz, wpM_new, wpM_cal, wpM_calB, wpM_calF, wpM_isiE, wpM_vr, wpM_ct, wpM_meth, wpM_chn, wpM_cut, wpM_cutF, wpM_ono, wpM_osm, wpM_revT, wpM_lfE, wS_for, tgN, List.getElem?_cons_zero, List.getElem?_cons_succ, List.set_cons_zero, List.set_cons_succ, List.map_cons, List.map_nil, List.length_cons, List.length_nil, List.replicate_succ, List.replicate_zero, Nat.reduceAdd, Nat.reduceSub, List.cons_append, List.nil_append]
                  exact fin (by rw [hF, h4, h5]; rfl)
              · have h4' := of_decide_eq_false h4
                simp only [decide_eq_true (show c < 1 by omega), mkR_eq, wpM_rg1, wpM_rg2, wpM_enumA, wpM_iof, wpM_lfS, wS_rai, wS_try, wpM_catF, wpM_revA, wpM_newD, wpM_itemE, wpM_itemT, wpM_hasE, wpM_get1, wpM_get2, wS_putE, wS_putT, and_self, if_true, if_false, Bool.false_eq_true, reduceIte, wS_setS, wS_seq, wS_if, wS_asg, wS_exS, wS_retS, wS_nxS, wS_nx, wS_ret, wpM_op2, wpM_op1, wpM_asT, wpM_trt, wpM_notT, wpM_andT, wpM_orT, wpM_andV, wpM_notE, wpM_ifE, wpM_lnil, wpM_lcons, wpM_tupE, wpM_lstF, wpM_frz, wpM_new, wpM_cal, wpM_calB, wpM_calF, wpM_isiE, wpM_vr, wpM_ct, wpM_meth, wpM_chn, wpM_cut, wpM_cutF, wpM_ono, wpM_osm, wpM_revT, wpM_lfE, wS_for, tgN, List.getElem?_cons_zero, List.getElem?_cons_succ, List.set_cons_zero, List.set_cons_succ, List.map_cons, List.map_nil, List.length_cons, List.length_nil, List.replicate_succ, List.replicate_zero, Nat.reduceAdd, Nat.reduceSub, List.cons_append, List.nil_append]
                exact fin (by rw [hF, h4]; rfl)
        | _ =>
          simp only [isI, tru, mkR_eq, wpM_rg1, wpM_rg2, wpM_enumA, wpM_iof, wpM_lfS, wS_rai, wS_try, wpM_catF, wpM_revA, wpM_newD, wpM_itemE, wpM_itemT, wpM_hasE, wpM_get1, wpM_get2, wS_putE, wS_putT, and_self, if_true, if_false, Bool.false_eq_true, reduceIte, wS_setS, wS_seq, wS_if, wS_asg, wS_exS, wS_retS, wS_nxS, wS_nx, wS_ret, wpM_op2, wpM_op1, wpM_asT, wpM_trt, wpM_notT, wpM_andT, wpM_orT, wpM_andV, wpM_notE, wpM_ifE, wpM_lnil, wpM_lcons, wpM_tupE, wpM_lstF, wpM_frz, wpM_new, wpM_cal, wpM_calB, wpM_calF, wpM_isiE, wpM_vr, wpM_ct, wpM_meth, wpM_chn, wpM_cut, wpM_cutF, wpM_ono, wpM_osm, wpM_revT, wpM_lfE, wS_for, tgN, List.getElem?_cons_zero, List.getElem?_cons_succ, List.set_cons_zero, List.set_cons_succ, List.map_cons, List.map_nil, List.length_cons, List.length_nil, List.replicate_succ, List.replicate_zero, Nat.reduceAdd, Nat.reduceSub, List.cons_append, List.nil_append, Bool.not_false]
          rw [scope_pure rfl, wpM_ok, trunc_same]; exact ⟨rfl, rfl⟩
      | _ =>
        simp only [isS, tru, mkR_eq, wpM_rg1, wpM_rg2, wpM_enumA, wpM_iof, wpM_lfS, wS_rai, wS_try, wpM_catF, wpM_revA, wpM_newD, wpM_itemE, wpM_itemT, wpM_hasE, wpM_get1, wpM_get2, wS_putE, wS_putT, and_self, if_true, if_false, Bool.false_eq_true, reduceIte, wS_setS, wS_seq, wS_if, wS_asg, wS_exS, wS_retS, wS_nxS, wS_nx, wS_ret, wpM_op2, wpM_op1, wpM_asT, wpM_trt, wpM_notT, wpM_andT, wpM_orT, wpM_andV, wpM_notE, wpM_ifE, wpM_lnil, wpM_lcons, wpM_tupE, wpM_lstF, wpM_frz, wpM_new, wpM_cal, wpM_calB, wpM_calF, wpM_isiE, wpM_vr, wpM_ct, wpM_meth, wpM_chn, wpM_cut, wpM_cutF, wpM_ono, wpM_osm, wpM_revT, wpM_lfE, wS_for, tgN, List.getElem?_cons_zero, List.getElem?_cons_succ, List.set_cons_zero, List.set_cons_succ, List.map_cons, List.map_nil, List.length_cons, List.length_nil, List.replicate_succ, List.replicate_zero, Nat.reduceAdd, Nat.reduceSub, List.cons_append, List.nil_append, Bool.not_false]
        rw [scope_pure rfl, wpM_ok, trunc_same]; exact ⟨rfl, rfl⟩
    | _ =>
      simp only [isS, tru, mkR_eq, wpM_rg1, wpM_rg2, wpM_enumA, wpM_iof, wpM_lfS, wS_rai, wS_try, wpM_catF, wpM_revA, wpM_newD, wpM_itemE, wpM_itemT, wpM_hasE, wpM_get1, wpM_get2, wS_putE, wS_putT, and_self, if_true, if_false, Bool.false_eq_true, reduceIte, wS_setS, wS_seq, wS_if, wS_asg, wS_exS, wS_retS, wS_nxS, wS_nx, wS_ret, wpM_op2, wpM_op1, wpM_asT, wpM_trt, wpM_notT, wpM_andT, wpM_orT, wpM_andV, wpM_notE, wpM_ifE, wpM_lnil, wpM_lcons, wpM_tupE, wpM_lstF, wpM_frz, wpM_new, wpM_cal, wpM_calB, wpM_calF, wpM_isiE, wpM_vr, wpM_ct, wpM_meth, wpM_chn, wpM_cut, wpM_cutF, wpM_ono, wpM_osm, wpM_revT, wpM_lfE, wS_for, tgN, List.getElem?_cons_zero, List.getElem?_cons_succ, List.set_cons_zero, List.set_cons_succ, List.map_cons, List.map_nil, List.length_cons, List.length_nil, List.replicate_succ, List.replicate_zero, Nat.reduceAdd, Nat.reduceSub, List.cons_append, List.nil_append, Bool.not_false]
      rw [scope_pure rfl, wpM_ok, trunc_same]; exact ⟨rfl, rfl⟩
  · simp only [h, tru, mkR_eq, wpM_rg1, wpM_rg2, wpM_enumA, wpM_iof, wpM_lfS, wS_rai, wS_try, wpM_catF, wpM_revA, wpM_newD, wpM_itemE, wpM_itemT, wpM_hasE, wpM_get1, wpM_get2, wS_putE, wS_putT, and_self, if_true, if_false, Bool.false_eq_true, reduceIte, wS_setS, wS_seq, wS_if, wS_asg, wS_exS, wS_retS, wS_nxS, wS_nx, wS_ret, wpM_op2, wpM_op1, wpM_asT, wpM_trt, wpM_notT, wpM_andT, wpM_orT, wpM_andV, wpM_notE, wpM_ifE, wpM_lnil, wpM_lcons, wpM_tupE, wpM_lstF, wpM_frz, wpM_new, wpM_cal, wpM_calB, wpM_calF, wpM_isiE, wpM_vr, wpM_ct, wpM_meth, wpM_chn, wpM_cut, wpM_cutF, wpM_ono, wpM_osm, wpM_revT, wpM_lfE, wS_for, tgN, List.getElem?_cons_zero, List.getElem?_cons_succ, List.set_cons_zero, List.set_cons_succ, List.map_cons, List.map_nil, List.length_cons, List.length_nil, List.replicate_succ, List.replicate_zero, Nat.reduceAdd, Nat.reduceSub, List.cons_append, List.nil_append, Bool.not_false]
    rw [scope_pure rfl, wpM_ok, trunc_same, editF_notT h]; exact ⟨rfl, rfl⟩
  · simp only [isT, tru, mkR_eq, wpM_rg1, wpM_rg2, wpM_enumA, wpM_iof, wpM_lfS, wS_rai, wS_try, wpM_catF, wpM_revA, wpM_newD, wpM_itemE, wpM_itemT, wpM_hasE, wpM_get1, wpM_get2, wS_putE, wS_putT, and_self, if_true, if_false, Bool.false_eq_true, reduceIte, wS_setS, wS_seq, wS_if, wS_asg, wS_exS, wS_retS, wS_nxS, wS_nx, wS_ret, wpM_op2, wpM_op1, wpM_asT, wpM_trt, wpM_notT, wpM_andT, wpM_orT, wpM_andV, wpM_notE, wpM_ifE, wpM_lnil, wpM_lcons, wpM_tupE, wpM_lstF, wpM_frz, wpM_new, wpM_cal, wpM_calB, wpM_calF, wpM_isiE, wpM_vr, wpM_ct, wpM_meth, wpM_chn, wpM_cut, wpM_cutF, wpM_ono, wpM_osm, wpM_revT, wpM_lfE, wS_for, tgN, List.getElem?_cons_zero, List.getElem?_cons_succ, List.set_cons_zero, List.set_cons_succ, List.map_cons, List.map_nil, List.length_cons, List.length_nil, List.replicate_succ, List.replicate_zero, Nat.reduceAdd, Nat.reduceSub, List.cons_append, List.nil_append, Bool.not_true, len_tup, ne_int, show ((ds.length : Int) == 3) = false from by simp; omega, Bool.not_false]
    rw [scope_pure rfl, wpM_ok, trunc_same, editF_len h]; exact ⟨rfl, rfl⟩
end
end Z

end
section
set_option Elab.async false
set_option linter.all false
set_option maxRecDepth 100000
set_option maxHeartbeats 4000000
set_option autoImplicit false
namespace Z
open PySem PySem.Spec L2 Y PySem.W
section
variable {S : Sto} {Q : D → Sto → Prop} {E : Str → List (Str × D) → Sto → Prop} {d a : D} {L : Str}
def editsF (L : Str) : D → Nat → List D → Option (Int × String)
  | _, _, [] => none
  | a, n, e :: es => match editF L a e with
    | some w => some ((n : Int), w)
    | none => editsF L e (n + 1) es
theorem editsF_cons {n : Nat} {e : D} {es : List D} : editsF L a n (e :: es) = (match editF L a e with | some w => some ((n : Int), w) | none => editsF L e (n + 1) es) := rfl
def book2 : D → D → Option (Int × String)
  | .str L, .tup edits => match lettersF (.str L) with
    | some _ => some (-1, "letters")
    | none => if edits.length ≤ 60 then editsF L .non 0 edits else some (-1, "limit")
  | _, _ => some (-1, "shape")
def bookF : D → Option (Int × String)
  | .tup [x, y] => book2 x y
  | _ => some (-1, "shape")
def bookLen : D → Int
  | .tup [_, .tup edits] => edits.length
  | _ => 0
theorem bookF_notT (h : isT d = false) : bookF d = some (-1, "shape") := by
  cases d <;> first | rfl | cases h
theorem bookF_len {ds : List D} (h : ds.length ≠ 2) : bookF (.tup ds) = some (-1, "shape") := by
  match ds, h with
  | [], _ => rfl
  | [_], _ => rfl
  | [a, b], h => exact absurd rfl h
  | _ :: _ :: _ :: _, _ => rfl
theorem ahd_of {e : D} (he : fd e = true) (h : editF L a e = none) : Ahd e := by
  rcases shape3 e with ⟨r, w, c, rfl⟩ | h' | ⟨ds, rfl, h'⟩
  · have hp : (fd r && (fd w && (fd c && true))) = true := he
    simp only [Bool.and_eq_true] at hp
    have h : edit3 L a r w c = none := h
    cases r <;> cases w <;> cases c <;> first | (cases h; done) | exact .ed hp.1 hp.2.1
  · rw [editF_notT h'] at h; cases h
  · rw [editF_len h'] at h; cases h
theorem book_fault_eq (hd : fd d = true) : M_book_fault [d] S = .ok (fltD (bookF d)) S := by
  refine eq_of_wp ?_
  unfold M_book_fault
  refine wpM_fn ?_
  unfold m_book_fault
  simp only [mkR_eq, wpM_rg1, wpM_rg2, wpM_enumA, wpM_iof, wpM_lfS, wS_rai, wS_try, wpM_catF, wpM_revA, wpM_newD, wpM_itemE, wpM_itemT, wpM_hasE, wpM_get1, wpM_get2, wS_putE, wS_putT, and_self, if_true, if_false, Bool.false_eq_true, reduceIte, wS_setS, wS_seq, wS_if, wS_asg, wS_exS, wS_retS, wS_nxS, wS_nx, wS_ret, wpM_op2, wpM_op1, wpM_asT, wpM_trt, wpM_notT, wpM_andT, wpM_orT, wpM_andV, wpM_notE, wpM_ifE, wpM_lnil, wpM_lcons, wpM_tupE, wpM_lstF, wpM_frz, wpM_new, wpM_cal, wpM_calB, wpM_calF, wpM_isiE, wpM_vr, wpM_ct, wpM_meth, wpM_chn, wpM_cut, wpM_cutF, wpM_ono, wpM_osm, wpM_revT, wpM_lfE, wS_for, tgN, List.getElem?_cons_zero, List.getElem?_cons_succ, List.set_cons_zero, List.set_cons_succ, List.map_cons, List.map_nil, List.length_cons, List.length_nil, List.replicate_succ, List.replicate_zero, Nat.reduceAdd, Nat.reduceSub, List.cons_append, List.nil_append, isiT (fd_pure hd)]
  rcases shape2 d with ⟨x, y, rfl⟩ | h | ⟨ds, rfl, h⟩
  · have hp : (fd x && (fd y && true)) = true := hd
    simp only [Bool.and_eq_true] at hp
    obtain ⟨hx, hy, _⟩ := hp
    have hF : bookF (.tup [x, y]) = book2 x y := rfl
    simp only [isT, tru, mkR_eq, wpM_rg1, wpM_rg2, wpM_enumA, wpM_iof, wpM_lfS, wS_rai, wS_try, wpM_catF, wpM_revA, wpM_newD, wpM_itemE, wpM_itemT, wpM_hasE, wpM_get1, wpM_get2, wS_putE, wS_putT, and_self, if_true, if_false, Bool.false_eq_true, reduceIte, wS_setS, wS_seq, wS_if, wS_asg, wS_exS, wS_retS, wS_nxS, wS_nx, wS_ret, wpM_op2, wpM_op1, wpM_asT, wpM_trt, wpM_notT, wpM_andT, wpM_orT, wpM_andV, wpM_notE, wpM_ifE, wpM_lnil, wpM_lcons, wpM_tupE, wpM_lstF, wpM_frz, wpM_new, wpM_cal, wpM_calB, wpM_calF, wpM_isiE, wpM_vr, wpM_ct, wpM_meth, wpM_chn, wpM_cut, wpM_cutF, wpM_ono, wpM_osm, wpM_revT, wpM_lfE, wS_for, tgN, List.getElem?_cons_zero, List.getElem?_cons_succ, List.set_cons_zero, List.set_cons_succ, List.map_cons, List.map_nil, List.length_cons, List.length_nil, List.replicate_succ, List.replicate_zero, Nat.reduceAdd, Nat.reduceSub, List.cons_append, List.nil_append, Bool.not_true, len_tup, ne_int, show (((2 : Nat) : Int) == 2) = true from rfl, tgT, tgs, Option.bind_some, isiS (fd_pure hx)]
    rw [hF]
    cases x with
    | str L =>
      simp only [isS, tru, mkR_eq, wpM_rg1, wpM_rg2, wpM_enumA, wpM_iof, wpM_lfS, wS_rai, wS_try, wpM_catF, wpM_revA, wpM_newD, wpM_itemE, wpM_itemT, wpM_hasE, wpM_get1, wpM_get2, wS_putE, wS_putT, and_self, if_true, if_false, Bool.false_eq_true, reduceIte, wS_setS, wS_seq, wS_if, wS_asg, wS_exS, wS_retS, wS_nxS, wS_nx, wS_ret, wpM_op2, wpM_op1, wpM_asT, wpM_trt, wpM_notT, wpM_andT, wpM_orT, wpM_andV, wpM_notE, wpM_ifE, wpM_lnil, wpM_lcons, wpM_tupE, wpM_lstF, wpM_frz, wpM_new, wpM_cal, wpM_calB, wpM_calF, wpM_isiE, wpM_vr, wpM_ct, wpM_meth, wpM_chn, wpM_cut, wpM_cutF, wpM_ono, wpM_osm, wpM_revT, wpM_lfE, wS_for, tgN, List.getElem?_cons_zero, List.getElem?_cons_succ, List.set_cons_zero, List.set_cons_succ, List.map_cons, List.map_nil, List.length_cons, List.length_nil, List.replicate_succ, List.replicate_zero, Nat.reduceAdd, Nat.reduceSub, List.cons_append, List.nil_append, Bool.not_true, isiT (fd_pure hy)]
      cases y with
      | tup edits =>
        have hes : fdL edits = true := hy
        simp only [isT, tru, mkR_eq, wpM_rg1, wpM_rg2, wpM_enumA, wpM_iof, wpM_lfS, wS_rai, wS_try, wpM_catF, wpM_revA, wpM_newD, wpM_itemE, wpM_itemT, wpM_hasE, wpM_get1, wpM_get2, wS_putE, wS_putT, and_self, if_true, if_false, Bool.false_eq_true, reduceIte, wS_setS, wS_seq, wS_if, wS_asg, wS_exS, wS_retS, wS_nxS, wS_nx, wS_ret, wpM_op2, wpM_op1, wpM_asT, wpM_trt, wpM_notT, wpM_andT, wpM_orT, wpM_andV, wpM_notE, wpM_ifE, wpM_lnil, wpM_lcons, wpM_tupE, wpM_lstF, wpM_frz, wpM_new, wpM_cal, wpM_calB, wpM_calF, wpM_isiE, wpM_vr, wpM_ct, wpM_meth, wpM_chn, wpM_cut, wpM_cutF, wpM_ono, wpM_osm, wpM_revT, wpM_lfE, wS_for, tgN, List.getElem?_cons_zero, List.getElem?_cons_succ, List.set_cons_zero, List.set_cons_succ, List.map_cons, List.map_nil, List.length_cons, List.length_nil, List.replicate_succ, List.replicate_zero, Nat.reduceAdd, Nat.reduceSub, List.cons_append, List.nil_append, Bool.not_true, letters_fault_eq hx, wpM_ok, notN_non]
        cases eL : lettersF (.str L) with
        | some p =>
          have hB : book2 (.str L) (.tup edits) = some (-1, "letters") := by simp only [book2, eL]
          obtain ⟨n, w⟩ := p
          simp only [fltD, D.isN, mkR_eq, wpM_rg1, wpM_rg2, wpM_enumA, wpM_iof, wpM_lfS, wS_rai, wS_try, wpM_catF, wpM_revA, wpM_newD, wpM_itemE, wpM_itemT, wpM_hasE, wpM_get1, wpM_get2, wS_putE, wS_putT, and_self, if_true, if_false, Bool.false_eq_true, reduceIte, wS_setS, wS_seq, wS_if, wS_asg, wS_exS, wS_retS, wS_nxS, wS_nx, wS_ret, wpM_op2, wpM_op1, wpM_asT, wpM_trt, wpM_notT, wpM_andT, wpM_orT, wpM_andV, wpM_notE, wpM_ifE, wpM_lnil, wpM_lcons, wpM_tupE, wpM_lstF, wpM_frz, wpM_new, wpM_cal, wpM_calB, wpM_calF, wpM_isiE, wpM_vr, wpM_ct, wpM_meth, wpM_chn, wpM_cut, wpM_cutF, wpM_ono, wpM_osm, wpM_revT, wpM_lfE, wS_for, tgN, List.getElem?_cons_zero, List.getElem?_cons_succ, List.set_cons_zero, List.set_cons_succ, List.map_cons, List.map_nil, List.length_cons, List.length_nil, List.replicate_succ, List.replicate_zero, Nat.reduceAdd, Nat.reduceSub, List.cons_append, List.nil_append, Bool.not_false, neg_int, le_sz (n := 2) rfl]
          rw [scope_pure rfl, wpM_ok, trunc_same, hB]; exact ⟨rfl, rfl⟩
        | none =>
          have hB : book2 (.str L) (.tup edits) = if edits.length ≤ 60 then editsF L .non 0 edits else some (-1, "limit") := by simp only [book2, eL]
          simp only [fltD, D.isN, mkR_eq, wpM_rg1, wpM_rg2, wpM_enumA, wpM_iof, wpM_lfS, wS_rai, wS_try, wpM_catF, wpM_revA, wpM_newD, wpM_itemE, wpM_itemT, wpM_hasE, wpM_get1, wpM_get2, wS_putE, wS_putT, and_self, if_true, if_false, Bool.false_eq_true, reduceIte, wS_setS, wS_seq, wS_if, wS_asg, wS_exS, wS_retS, wS_nxS, wS_nx, wS_ret, wpM_op2, wpM_op1, wpM_asT, wpM_trt, wpM_notT, wpM_andT, wpM_orT, wpM_andV, wpM_notE, wpM_ifE, wpM_lnil, wpM_lcons, wpM_tupE, wpM_lstF, wpM_frz, wpM_new, wpM_cal, wpM_calB, wpM_calF, wpM_isiE, wpM_vr, wpM_ct, wpM_meth, wpM_chn, wpM_cut, wpM_cutF, wpM_ono, wpM_osm, wpM_revT, wpM_lfE, wS_for, tgN, List.getElem?_cons_zero, List.getElem?_cons_succ, List.set_cons_zero, List.set_cons_succ, List.map_cons, List.map_nil, List.length_cons, List.length_nil, List.replicate_succ, List.replicate_zero, Nat.reduceAdd, Nat.reduceSub, List.cons_append, List.nil_append, Bool.not_true, len_tup, cmp_int]
          by_cases h6 : edits.length ≤ 60
          · rw [if_pos h6] at hB
            simp only [decide_eq_false (show ¬ (60 : Int) < (edits.length : Int) by omega), mkR_eq, wpM_rg1, wpM_rg2, wpM_enumA, wpM_iof, wpM_lfS, wS_rai, wS_try, wpM_catF, wpM_revA, wpM_newD, wpM_itemE, wpM_itemT, wpM_hasE, wpM_get1, wpM_get2, wS_putE, wS_putT, and_self, if_true, if_false, Bool.false_eq_true, reduceIte, wS_setS, wS_seq, wS_if, wS_asg, wS_exS, wS_retS, wS_nxS, wS_nx, wS_ret, wpM_op2, wpM_op1, wpM_asT, wpM_trt, wpM_notT, wpM_andT, wpM_orT, wpM_andV, wpM_notE, wpM_ifE, wpM_lnil, wpM_lcons, wpM_tupE, wpM_lstF, wpM_frz, wpM_new, wpM_cal, wpM_calB, wpM_calF, wpM_isiE, wpM_vr, wpM_ct, wpM_meth, wpM_chn, wpM_cut, wpM_cutF, wpM_ono, wpM_osm, wpM_revT, wpM_lfE, wS_for, tgN, List.getElem?_cons_zero, List.getElem?_cons_succ, List.set_cons_zero, List.set_cons_succ, List.map_cons, List.map_nil, List.length_cons, List.length_nil, List.replicate_succ, List.replicate_zero, Nat.reduceAdd, Nat.reduceSub, List.cons_append, List.nil_append, i_enumA, wpM_bdE, enumSrc, seqSrc, Option.map_some, wpM_lfS]
            refine wS_loop (fun i env S' => S' = S ∧ ∃ a e4 e5 e6, env = [some (.tup [.str L, .tup edits]), some (.str L), some (.tup edits), some a, e4, e5, e6] ∧ Ahd a ∧ editsF L .non 0 edits = editsF L a i (edits.drop i)) _ 0 _ _ ⟨rfl, _, none, none, none, rfl, .no, rfl⟩ ?_ ?_
            · rintro j d env S' hj ⟨rfl, a, e4, e5, e6, rfl, ha, es⟩
              obtain ⟨x, hx', rfl⟩ := enL_get hj
              have hxf := fdL_mem.mp hes x (List.mem_of_getElem? hx')
              refine ⟨okSrc_nil, _, rfl, ?_⟩
              rw [Nat.zero_add] at es ⊢
              rw [drop_at hx', editsF_cons] at es
              simp only [mkR_eq, wpM_rg1, wpM_rg2, wpM_enumA, wpM_iof, wpM_lfS, wS_rai, wS_try, wpM_catF, wpM_revA, wpM_newD, wpM_itemE, wpM_itemT, wpM_hasE, wpM_get1, wpM_get2, wS_putE, wS_putT, and_self, if_true, if_false, Bool.false_eq_true, reduceIte, wS_setS, wS_seq, wS_if, wS_asg, wS_exS, wS_retS, wS_nxS, wS_nx, wS_ret, wpM_op2, wpM_op1, wpM_asT, wpM_trt, wpM_notT, wpM_andT, wpM_orT, wpM_andV, wpM_notE, wpM_ifE, wpM_lnil, wpM_lcons, wpM_tupE, wpM_lstF, wpM_frz, wpM_new, wpM_cal, wpM_calB, wpM_calF, wpM_isiE, wpM_vr, wpM_ct, wpM_meth, wpM_chn, wpM_cut, wpM_cutF, wpM_ono, wpM_osm, wpM_revT, wpM_lfE, wS_for, tgN, List.getElem?_cons_zero, List.getElem?_cons_succ, List.set_cons_zero, List.set_cons_succ, List.map_cons, List.map_nil, List.length_cons, List.length_nil, List.replicate_succ, List.replicate_zero, Nat.reduceAdd, Nat.reduceSub, List.cons_append, List.nil_append, edit_word_eq hxf ha, wpM_ok, notN_non, Nat.zero_add]
              cases eE : editF L a x with
              | some w =>
                rw [eE] at es
                simp only [wD, D.isN, mkR_eq, wpM_rg1, wpM_rg2, wpM_enumA, wpM_iof, wpM_lfS, wS_rai, wS_try, wpM_catF, wpM_revA, wpM_newD, wpM_itemE, wpM_itemT, wpM_hasE, wpM_get1, wpM_get2, wS_putE, wS_putT, and_self, if_true, if_false, Bool.false_eq_true, reduceIte, wS_setS, wS_seq, wS_if, wS_asg, wS_exS, wS_retS, wS_nxS, wS_nx, wS_ret, wpM_op2, wpM_op1, wpM_asT, wpM_trt, wpM_notT, wpM_andT, wpM_orT, wpM_andV, wpM_notE, wpM_ifE, wpM_lnil, wpM_lcons, wpM_tupE, wpM_lstF, wpM_frz, wpM_new, wpM_cal, wpM_calB, wpM_calF, wpM_isiE, wpM_vr, wpM_ct, wpM_meth, wpM_chn, wpM_cut, wpM_cutF, wpM_ono, wpM_osm, wpM_revT, wpM_lfE, wS_for, tgN, List.getElem?_cons_zero, List.getElem?_cons_succ, List.set_cons_zero, List.set_cons_succ, List.map_cons, List.map_nil, List.length_cons, List.length_nil, List.replicate_succ, List.replicate_zero, Nat.reduceAdd, Nat.reduceSub, List.cons_append, List.nil_append, Bool.not_false, le_sz (n := 2) rfl]
                rw [scope_pure rfl, wpM_ok, trunc_same, hB, es]; exact ⟨rfl, rfl⟩
              | none =>
                rw [eE] at es
                simp only [wD, D.isN, mkR_eq, wpM_rg1, wpM_rg2, wpM_enumA, wpM_iof, wpM_lfS, wS_rai, wS_try, wpM_catF, wpM_revA, wpM_newD, wpM_itemE, wpM_itemT, wpM_hasE, wpM_get1, wpM_get2, wS_putE, wS_putT, and_self, if_true, if_false, Bool.false_eq_true, reduceIte, wS_setS, wS_seq, wS_if, wS_asg, wS_exS, wS_retS, wS_nxS, wS_nx, wS_ret, wpM_op2, wpM_op1, wpM_asT, wpM_trt, wpM_notT, wpM_andT, wpM_orT, wpM_andV, wpM_notE, wpM_ifE, wpM_lnil, wpM_lcons, wpM_tupE, wpM_lstF, wpM_frz, wpM_new, wpM_cal, wpM_calB, wpM_calF, wpM_isiE, wpM_vr, wpM_ct, wpM_meth, wpM_chn, wpM_cut, wpM_cutF, wpM_ono, wpM_osm, wpM_revT, wpM_lfE, wS_for, tgN, List.getElem?_cons_zero, List.getElem?_cons_succ, List.set_cons_zero, List.set_cons_succ, List.map_cons, List.map_nil, List.length_cons, List.length_nil, List.replicate_succ, List.replicate_zero, Nat.reduceAdd, Nat.reduceSub, List.cons_append, List.nil_append, Bool.not_true]
                exact ⟨by trivial, _, _, _, _, rfl, ahd_of hxf eE, es⟩
            · rintro env S' ⟨rfl, a, e4, e5, e6, rfl, ha, es⟩
              refine ⟨okSrc_nil, ?_⟩
              rw [enL_length, Nat.zero_add, List.drop_length] at es
              simp only [mkR_eq, wpM_rg1, wpM_rg2, wpM_enumA, wpM_iof, wpM_lfS, wS_rai, wS_try, wpM_catF, wpM_revA, wpM_newD, wpM_itemE, wpM_itemT, wpM_hasE, wpM_get1, wpM_get2, wS_putE, wS_putT, and_self, if_true, if_false, Bool.false_eq_true, reduceIte, wS_setS, wS_seq, wS_if, wS_asg, wS_exS, wS_retS, wS_nxS, wS_nx, wS_ret, wpM_op2, wpM_op1, wpM_asT, wpM_trt, wpM_notT, wpM_andT, wpM_orT, wpM_andV, wpM_notE, wpM_ifE, wpM_lnil, wpM_lcons, wpM_tupE, wpM_lstF, wpM_frz, wpM_new, wpM_cal, wpM_calB, wpM_calF, wpM_isiE, wpM_vr, wpM_ct, wpM_meth, wpM_chn, wpM_cut, wpM_cutF, wpM_ono, wpM_osm, wpM_revT, wpM_lfE, wS_for, tgN, List.getElem?_cons_zero, List.getElem?_cons_succ, List.set_cons_zero, List.set_cons_succ, List.map_cons, List.map_nil, List.length_cons, List.length_nil, List.replicate_succ, List.replicate_zero, Nat.reduceAdd, Nat.reduceSub, List.cons_append, List.nil_append]
              rw [scope_pure rfl, wpM_ok, trunc_same, hB, es]; exact ⟨rfl, rfl⟩
          · rw [if_neg h6] at hB
            simp only [decide_eq_true (show (60 : Int) < (edits.length : Int) by omega), mkR_eq, wpM_rg1, wpM_rg2, wpM_enumA, wpM_iof, wpM_lfS, wS_rai, wS_try, wpM_catF, wpM_revA, wpM_newD, wpM_itemE, wpM_itemT, wpM_hasE, wpM_get1, wpM_get2, wS_putE, wS_putT, and_self, if_true, if_false, Bool.false_eq_true, reduceIte, wS_setS, wS_seq, wS_if, wS_asg, wS_exS, wS_retS, wS_nxS, wS_nx, wS_ret, wpM_op2, wpM_op1, wpM_asT, wpM_trt, wpM_notT, wpM_andT, wpM_orT, wpM_andV, wpM_notE, wpM_ifE, wpM_lnil, wpM_lcons, wpM_tupE, wpM_lstF, wpM_frz, wpM_new, wpM_cal, wpM_calB, wpM_calF, wpM_isiE, wpM_vr, wpM_ct, wpM_meth, wpM_chn, wpM_cut, wpM_cutF, wpM_ono, wpM_osm, wpM_revT, wpM_lfE, wS_for, tgN, List.getElem?_cons_zero, List.getElem?_cons_succ, List.set_cons_zero, List.set_cons_succ, List.map_cons, List.map_nil, List.length_cons, List.length_nil, List.replicate_succ, List.replicate_zero, Nat.reduceAdd, Nat.reduceSub, List.cons_append, List.nil_append, neg_int, le_sz (n := 2) rfl]
            rw [scope_pure rfl, wpM_ok, trunc_same, hB]; exact ⟨rfl, rfl⟩
      | _ =>
        simp only [isT, tru, mkR_eq, wpM_rg1, wpM_rg2, wpM_enumA, wpM_iof, wpM_lfS, wS_rai, wS_try, wpM_catF, wpM_revA, wpM_newD, wpM_itemE, wpM_itemT, wpM_hasE, wpM_get1, wpM_get2, wS_putE, wS_putT, and_self, if_true, if_false, Bool.false_eq_true, reduceIte, wS_setS, wS_seq, wS_if, wS_asg, wS_exS, wS_retS, wS_nxS, wS_nx, wS_ret, wpM_op2, wpM_op1, wpM_asT, wpM_trt, wpM_notT, wpM_andT, wpM_orT, wpM_andV, wpM_notE, wpM_ifE, wpM_lnil, wpM_lcons, wpM_tupE, wpM_lstF, wpM_frz, wpM_new, wpM_cal, wpM_calB, wpM_calF, wpM_isiE, wpM_vr, wpM_ct, wpM_meth, wpM_chn, wpM_cut, wpM_cutF, wpM_ono, wpM_osm, wpM_revT, wpM_lfE, wS_for, tgN, List.getElem?_cons_zero, List.getElem?_cons_succ, List.set_cons_zero, List.set_cons_succ, List.map_cons, List.map_nil, List.length_cons, List.length_nil, List.replicate_succ, List.replicate_zero, Nat.reduceAdd, Nat.reduceSub, List.cons_append, List.nil_append, Bool.not_false, neg_int, le_sz (n := 2) rfl]
        rw [scope_pure rfl, wpM_ok, trunc_same]; exact ⟨rfl, rfl⟩
    | _ =>
      simp only [isS, tru, mkR_eq, wpM_rg1, wpM_rg2, wpM_enumA, wpM_iof, wpM_lfS, wS_rai, wS_try, wpM_catF, wpM_revA, wpM_newD, wpM_itemE, wpM_itemT, wpM_hasE, wpM_get1, wpM_get2, wS_putE, wS_putT, and_self, if_true, if_false, Bool.false_eq_true, reduceIte, wS_setS, wS_seq, wS_if, wS_asg, wS_exS, wS_retS, wS_nxS, wS_nx, wS_ret, wpM_op2, wpM_op1, wpM_asT, wpM_trt, wpM_notT, wpM_andT, wpM_orT, wpM_andV, wpM_notE, wpM_ifE, wpM_lnil, wpM_lcons, wpM_tupE, wpM_lstF, wpM_frz, wpM_new, wpM_cal, wpM_calB, wpM_calF, wpM_isiE, wpM_vr, wpM_ct, wpM_meth, wpM_chn, wpM_cut, wpM_cutF, wpM_ono, wpM_osm, wpM_revT, wpM_lfE, wS_for, tgN, List.getElem?_cons_zero, List.getElem?_cons_succ, List.set_cons_zero, List.set_cons_succ, List.map_cons, List.map_nil, List.length_cons, List.length_nil, List.replicate_succ, List.replicate_zero, Nat.reduceAdd, Nat.reduceSub, List.cons_append, List.nil_append, Bool.not_false, neg_int, le_sz (n := 2) rfl]
      rw [scope_pure rfl, wpM_ok, trunc_same]; exact ⟨rfl, rfl⟩
  · simp only [h, tru, mkR_eq, wpM_rg1, wpM_rg2, wpM_enumA, wpM_iof, wpM_lfS, wS_rai, wS_try, wpM_catF, wpM_revA, wpM_newD, wpM_itemE, wpM_itemT, wpM_hasE, wpM_get1, wpM_get2, wS_putE, wS_putT, and_self, if_true, if_false, Bool.false_eq_true, reduceIte, wS_setS, wS_seq, wS_if, wS_asg, wS_exS, wS_retS, wS_nxS, wS_nx, wS_ret, wpM_op2, wpM_op1, wpM_asT, wpM_trt, wpM_notT, wpM_andT, wpM_orT, wpM_andV, wpM_notE, wpM_ifE, wpM_lnil, wpM_lcons, wpM_tupE, wpM_lstF, wpM_frz, wpM_new, wpM_cal, wpM_calB, wpM_calF, wpM_isiE, wpM_vr, wpM_ct, wpM_meth, wpM_chn, wpM_cut, wpM_cutF, wpM_ono, wpM_osm, wpM_revT, wpM_lfE, wS_for, tgN, List.getElem?_cons_zero, List.getElem?_cons_succ, List.set_cons_zero, List.set_cons_succ, List.map_cons, List.map_nil, List.length_cons, List.length_nil, List.replicate_succ, List.replicate_zero, Nat.reduceAdd, Nat.reduceSub, List.cons_append, List.nil_append, Bool.not_false, neg_int, le_sz (n := 2) rfl]
    rw [scope_pure rfl, wpM_ok, trunc_same, bookF_notT h]; exact ⟨rfl, rfl⟩
  · simp only [isT, tru, mkR_eq, wpM_rg1, wpM_rg2, wpM_enumA, wpM_iof, wpM_lfS, wS_rai, wS_try, wpM_catF, wpM_revA, wpM_newD, wpM_itemE, wpM_itemT, wpM_hasE, wpM_get1, wpM_get2, wS_putE, wS_putT, and_self, if_true, if_false, Bool.false_eq_true, reduceIte, wS_setS, wS_seq, wS_if, wS_asg, wS_exS, wS_retS, wS_nxS, wS_nx, wS_ret, wpM_op2, wpM_op1, wpM_asT, wpM_trt, wpM_notT, wpM_andT, wpM_orT, wpM_andV, wpM_notE, wpM_ifE, wpM_lnil, wpM_lcons, wpM_tupE, wpM_lstF, wpM_frz, wpM_new, wpM_cal, wpM_calB, wpM_calF, wpM_isiE, wpM_vr, wpM_ct, wpM_meth, wpM_chn, wpM_cut, wpM_cutF, wpM_ono, wpM_osm, wpM_revT, wpM_lfE, wS_for, tgN, List.getElem?_cons_zero, List.getElem?_cons_succ, List.set_cons_zero, List.set_cons_succ, List.map_cons, List.map_nil, List.length_cons, List.length_nil, List.replicate_succ, List.replicate_zero, Nat.reduceAdd, Nat.reduceSub, List.cons_append, List.nil_append, Bool.not_true, len_tup, ne_int, show ((ds.length : Int) == 2) = false from by simp; omega, Bool.not_false, neg_int, le_sz (n := 2) rfl]
    rw [scope_pure rfl, wpM_ok, trunc_same, bookF_len h]; exact ⟨rfl, rfl⟩
theorem dueD_isI {n : Int} {f : Option (Int × String)} : isI (dueD n f) = f.isNone := by
  cases f <;> rfl
theorem dueD_pure {n : Int} {f : Option (Int × String)} : (dueD n f).pure = true := by
  cases f <;> rfl
theorem editF_word {w : String} (h : editF L a d = some w) : (Str.ofString w == Str.ofString "") = false := by
  have key : w = "shape" ∨ w = "text" ∨ w = "like" ∨ w = "cost" ∨ w = "order" := by
    have s0 : ∀ {o : Option String}, o = some "shape" → o = some w → w = "shape" := fun a b => by rw [a] at b; cases b; rfl
    rcases shape3 d with ⟨r, u, c, rfl⟩ | h' | ⟨ds, rfl, h'⟩
    · have h : edit3 L a r u c = some w := h
      cases r <;> cases u <;> cases c <;> first | (cases h; exact .inl rfl) | skip
      simp only [edit3] at h
      split at h
      · split at h
        · cases h; simp
        · split at h
          · unfold ordF at h
            split at h
            · split at h
              · cases h; simp
              · cases h
            · cases h
          · cases h; simp
      · cases h; simp
    · exact .inl (s0 (editF_notT h') h)
    · exact .inl (s0 (editF_len h') h)
  rcases key with rfl | rfl | rfl | rfl | rfl <;> decide +kernel
theorem wE_ne : o_ne S (wE (editF L a d)) (.str (Str.ofString "")) = some (.bl (editF L a d).isSome) := by
  cases h : editF L a d with
  | none => rw [wE, ne_str (strOk_of _) (strOk_of _), beq_self_eq_true]; rfl
  | some w => rw [wE, ne_str (strOk_of _) (strOk_of _), editF_word h]; rfl
theorem book_due_eq (hd : fd d = true) : M__law_book_due [d] S = .ok (dueD (bookLen d) (bookF d)) S := by
  refine eq_of_wp ?_
  unfold M__law_book_due
  refine wpM_fn ?_
  unfold m__law_book_due
  simp only [mkR_eq, wpM_rg1, wpM_rg2, wpM_enumA, wpM_iof, wpM_lfS, wS_rai, wS_try, wpM_catF, wpM_revA, wpM_newD, wpM_itemE, wpM_itemT, wpM_hasE, wpM_get1, wpM_get2, wS_putE, wS_putT, and_self, if_true, if_false, Bool.false_eq_true, reduceIte, wS_setS, wS_seq, wS_if, wS_asg, wS_exS, wS_retS, wS_nxS, wS_nx, wS_ret, wpM_op2, wpM_op1, wpM_asT, wpM_trt, wpM_notT, wpM_andT, wpM_orT, wpM_andV, wpM_notE, wpM_ifE, wpM_lnil, wpM_lcons, wpM_tupE, wpM_lstF, wpM_frz, wpM_new, wpM_cal, wpM_calB, wpM_calF, wpM_isiE, wpM_vr, wpM_ct, wpM_meth, wpM_chn, wpM_cut, wpM_cutF, wpM_ono, wpM_osm, wpM_revT, wpM_lfE, wS_for, tgN, List.getElem?_cons_zero, List.getElem?_cons_succ, List.set_cons_zero, List.set_cons_succ, List.map_cons, List.map_nil, List.length_cons, List.length_nil, List.replicate_succ, List.replicate_zero, Nat.reduceAdd, Nat.reduceSub, List.cons_append, List.nil_append, isiT (fd_pure hd)]
  rcases shape2 d with ⟨x, y, rfl⟩ | h | ⟨ds, rfl, h⟩
  · have hp : (fd x && (fd y && true)) = true := hd
    simp only [Bool.and_eq_true] at hp
    obtain ⟨hx, hy, _⟩ := hp
    have hF : bookF (.tup [x, y]) = book2 x y := rfl
    simp only [isT, tru, mkR_eq, wpM_rg1, wpM_rg2, wpM_enumA, wpM_iof, wpM_lfS, wS_rai, wS_try, wpM_catF, wpM_revA, wpM_newD, wpM_itemE, wpM_itemT, wpM_hasE, wpM_get1, wpM_get2, wS_putE, wS_putT, and_self, if_true, if_false, Bool.false_eq_true, reduceIte, wS_setS, wS_seq, wS_if, wS_asg, wS_exS, wS_retS, wS_nxS, wS_nx, wS_ret, wpM_op2, wpM_op1, wpM_asT, wpM_trt, wpM_notT, wpM_andT, wpM_orT, wpM_andV, wpM_notE, wpM_ifE, wpM_lnil, wpM_lcons, wpM_tupE, wpM_lstF, wpM_frz, wpM_new, wpM_cal, wpM_calB, wpM_calF, wpM_isiE, wpM_vr, wpM_ct, wpM_meth, wpM_chn, wpM_cut, wpM_cutF, wpM_ono, wpM_osm, wpM_revT, wpM_lfE, wS_for, tgN, List.getElem?_cons_zero, List.getElem?_cons_succ, List.set_cons_zero, List.set_cons_succ, List.map_cons, List.map_nil, List.length_cons, List.length_nil, List.replicate_succ, List.replicate_zero, Nat.reduceAdd, Nat.reduceSub, List.cons_append, List.nil_append, Bool.not_true, len_tup, ne_int, show (((2 : Nat) : Int) == 2) = true from rfl, ixT0, ixT1, isiS (fd_pure hx)]
    rw [hF]
    cases x with
    | str L =>
      simp only [isS, tru, mkR_eq, wpM_rg1, wpM_rg2, wpM_enumA, wpM_iof, wpM_lfS, wS_rai, wS_try, wpM_catF, wpM_revA, wpM_newD, wpM_itemE, wpM_itemT, wpM_hasE, wpM_get1, wpM_get2, wS_putE, wS_putT, and_self, if_true, if_false, Bool.false_eq_true, reduceIte, wS_setS, wS_seq, wS_if, wS_asg, wS_exS, wS_retS, wS_nxS, wS_nx, wS_ret, wpM_op2, wpM_op1, wpM_asT, wpM_trt, wpM_notT, wpM_andT, wpM_orT, wpM_andV, wpM_notE, wpM_ifE, wpM_lnil, wpM_lcons, wpM_tupE, wpM_lstF, wpM_frz, wpM_new, wpM_cal, wpM_calB, wpM_calF, wpM_isiE, wpM_vr, wpM_ct, wpM_meth, wpM_chn, wpM_cut, wpM_cutF, wpM_ono, wpM_osm, wpM_revT, wpM_lfE, wS_for, tgN, List.getElem?_cons_zero, List.getElem?_cons_succ, List.set_cons_zero, List.set_cons_succ, List.map_cons, List.map_nil, List.length_cons, List.length_nil, List.replicate_succ, List.replicate_zero, Nat.reduceAdd, Nat.reduceSub, List.cons_append, List.nil_append, Bool.not_true, ixT1, isiT (fd_pure hy)]
      cases y with
      | tup edits =>
        have hes : fdL edits = true := hy
        simp only [isT, tru, mkR_eq, wpM_rg1, wpM_rg2, wpM_enumA, wpM_iof, wpM_lfS, wS_rai, wS_try, wpM_catF, wpM_revA, wpM_newD, wpM_itemE, wpM_itemT, wpM_hasE, wpM_get1, wpM_get2, wS_putE, wS_putT, and_self, if_true, if_false, Bool.false_eq_true, reduceIte, wS_setS, wS_seq, wS_if, wS_asg, wS_exS, wS_retS, wS_nxS, wS_nx, wS_ret, wpM_op2, wpM_op1, wpM_asT, wpM_trt, wpM_notT, wpM_andT, wpM_orT, wpM_andV, wpM_notE, wpM_ifE, wpM_lnil, wpM_lcons, wpM_tupE, wpM_lstF, wpM_frz, wpM_new, wpM_cal, wpM_calB, wpM_calF, wpM_isiE, wpM_vr, wpM_ct, wpM_meth, wpM_chn, wpM_cut, wpM_cutF, wpM_ono, wpM_osm, wpM_revT, wpM_lfE, wS_for, tgN, List.getElem?_cons_zero, List.getElem?_cons_succ, List.set_cons_zero, List.set_cons_succ, List.map_cons, List.map_nil, List.length_cons, List.length_nil, List.replicate_succ, List.replicate_zero, Nat.reduceAdd, Nat.reduceSub, List.cons_append, List.nil_append, Bool.not_true, ixT0, letters_due_eq hx, wpM_ok, lwhole_eq (dueD_pure (n := lenD (.str L)) (f := lettersF (.str L))), dueD_isI]
        cases eL : lettersF (.str L) with
        | some p =>
          have hB : book2 (.str L) (.tup edits) = some (-1, "letters") := by simp only [book2, eL]
          simp only [Option.isNone_some, mkR_eq, wpM_rg1, wpM_rg2, wpM_enumA, wpM_iof, wpM_lfS, wS_rai, wS_try, wpM_catF, wpM_revA, wpM_newD, wpM_itemE, wpM_itemT, wpM_hasE, wpM_get1, wpM_get2, wS_putE, wS_putT, and_self, if_true, if_false, Bool.false_eq_true, reduceIte, wS_setS, wS_seq, wS_if, wS_asg, wS_exS, wS_retS, wS_nxS, wS_nx, wS_ret, wpM_op2, wpM_op1, wpM_asT, wpM_trt, wpM_notT, wpM_andT, wpM_orT, wpM_andV, wpM_notE, wpM_ifE, wpM_lnil, wpM_lcons, wpM_tupE, wpM_lstF, wpM_frz, wpM_new, wpM_cal, wpM_calB, wpM_calF, wpM_isiE, wpM_vr, wpM_ct, wpM_meth, wpM_chn, wpM_cut, wpM_cutF, wpM_ono, wpM_osm, wpM_revT, wpM_lfE, wS_for, tgN, List.getElem?_cons_zero, List.getElem?_cons_succ, List.set_cons_zero, List.set_cons_succ, List.map_cons, List.map_nil, List.length_cons, List.length_nil, List.replicate_succ, List.replicate_zero, Nat.reduceAdd, Nat.reduceSub, List.cons_append, List.nil_append, Bool.not_false, neg_int, le_sz (n := 2) rfl]
          rw [scope_pure rfl, wpM_ok, trunc_same, hB]; exact ⟨rfl, rfl⟩
        | none =>
          have hB : book2 (.str L) (.tup edits) = if edits.length ≤ 60 then editsF L .non 0 edits else some (-1, "limit") := by simp only [book2, eL]
          simp only [Option.isNone_none, mkR_eq, wpM_rg1, wpM_rg2, wpM_enumA, wpM_iof, wpM_lfS, wS_rai, wS_try, wpM_catF, wpM_revA, wpM_newD, wpM_itemE, wpM_itemT, wpM_hasE, wpM_get1, wpM_get2, wS_putE, wS_putT, and_self, if_true, if_false, Bool.false_eq_true, reduceIte, wS_setS, wS_seq, wS_if, wS_asg, wS_exS, wS_retS, wS_nxS, wS_nx, wS_ret, wpM_op2, wpM_op1, wpM_asT, wpM_trt, wpM_notT, wpM_andT, wpM_orT, wpM_andV, wpM_notE, wpM_ifE, wpM_lnil, wpM_lcons, wpM_tupE, wpM_lstF, wpM_frz, wpM_new, wpM_cal, wpM_calB, wpM_calF, wpM_isiE, wpM_vr, wpM_ct, wpM_meth, wpM_chn, wpM_cut, wpM_cutF, wpM_ono, wpM_osm, wpM_revT, wpM_lfE, wS_for, tgN, List.getElem?_cons_zero, List.getElem?_cons_succ, List.set_cons_zero, List.set_cons_succ, List.map_cons, List.map_nil, List.length_cons, List.length_nil, List.replicate_succ, List.replicate_zero, Nat.reduceAdd, Nat.reduceSub, List.cons_append, List.nil_append, Bool.not_true, ixT1, len_tup, cmp_int]
          by_cases h6 : edits.length ≤ 60
          · rw [if_pos h6] at hB
            simp only [decide_eq_false (show ¬ (60 : Int) < (edits.length : Int) by omega), mkR_eq, wpM_rg1, wpM_rg2, wpM_enumA, wpM_iof, wpM_lfS, wS_rai, wS_try, wpM_catF, wpM_revA, wpM_newD, wpM_itemE, wpM_itemT, wpM_hasE, wpM_get1, wpM_get2, wS_putE, wS_putT, and_self, if_true, if_false, Bool.false_eq_true, reduceIte, wS_setS, wS_seq, wS_if, wS_asg, wS_exS, wS_retS, wS_nxS, wS_nx, wS_ret, wpM_op2, wpM_op1, wpM_asT, wpM_trt, wpM_notT, wpM_andT, wpM_orT, wpM_andV, wpM_notE, wpM_ifE, wpM_lnil, wpM_lcons, wpM_tupE, wpM_lstF, wpM_frz, wpM_new, wpM_cal, wpM_calB, wpM_calF, wpM_isiE, wpM_vr, wpM_ct, wpM_meth, wpM_chn, wpM_cut, wpM_cutF, wpM_ono, wpM_osm, wpM_revT, wpM_lfE, wS_for, tgN, List.getElem?_cons_zero, List.getElem?_cons_succ, List.set_cons_zero, List.set_cons_succ, List.map_cons, List.map_nil, List.length_cons, List.length_nil, List.replicate_succ, List.replicate_zero, Nat.reduceAdd, Nat.reduceSub, List.cons_append, List.nil_append, ixT1, len_tup]
            refine ⟨rgOk_nat (by omega), ?_⟩
            refine wS_loop (fun i env S' => S' = S ∧ ∃ a e4 e5, env = [some (.tup [.str L, .tup edits]), some a, e4, e5] ∧ Ahd a ∧ editsF L .non 0 edits = editsF L a i (edits.drop i)) _ 0 _ _ ⟨rfl, _, none, none, rfl, .no, rfl⟩ ?_ ?_
            · rintro j d env S' hj ⟨rfl, a, e4, e5, rfl, ha, es⟩
              obtain ⟨rfl, hjn⟩ := rgL_get hj
              obtain ⟨x, hx'⟩ : ∃ x, edits[j]? = some x := ⟨_, List.getElem?_eq_getElem hjn⟩
              have hxf := fdL_mem.mp hes x (List.mem_of_getElem? hx')
              refine ⟨okSrc_nil, _, rfl, ?_⟩
              rw [Nat.zero_add] at es ⊢
              rw [drop_at hx', editsF_cons] at es
              simp only [mkR_eq, wpM_rg1, wpM_rg2, wpM_enumA, wpM_iof, wpM_lfS, wS_rai, wS_try, wpM_catF, wpM_revA, wpM_newD, wpM_itemE, wpM_itemT, wpM_hasE, wpM_get1, wpM_get2, wS_putE, wS_putT, and_self, if_true, if_false, Bool.false_eq_true, reduceIte, wS_setS, wS_seq, wS_if, wS_asg, wS_exS, wS_retS, wS_nxS, wS_nx, wS_ret, wpM_op2, wpM_op1, wpM_asT, wpM_trt, wpM_notT, wpM_andT, wpM_orT, wpM_andV, wpM_notE, wpM_ifE, wpM_lnil, wpM_lcons, wpM_tupE, wpM_lstF, wpM_frz, wpM_new, wpM_cal, wpM_calB, wpM_calF, wpM_isiE, wpM_vr, wpM_ct, wpM_meth, wpM_chn, wpM_cut, wpM_cutF, wpM_ono, wpM_osm, wpM_revT, wpM_lfE, wS_for, tgN, List.getElem?_cons_zero, List.getElem?_cons_succ, List.set_cons_zero, List.set_cons_succ, List.map_cons, List.map_nil, List.length_cons, List.length_nil, List.replicate_succ, List.replicate_zero, Nat.reduceAdd, Nat.reduceSub, List.cons_append, List.nil_append, ixT0, ixT1, ixT hx', edit_fault_eq hxf ha, wpM_ok, wE_ne]
              cases eE : editF L a x with
              | some w =>
                rw [eE] at es
                simp only [wE, Option.isSome_some, mkR_eq, wpM_rg1, wpM_rg2, wpM_enumA, wpM_iof, wpM_lfS, wS_rai, wS_try, wpM_catF, wpM_revA, wpM_newD, wpM_itemE, wpM_itemT, wpM_hasE, wpM_get1, wpM_get2, wS_putE, wS_putT, and_self, if_true, if_false, Bool.false_eq_true, reduceIte, wS_setS, wS_seq, wS_if, wS_asg, wS_exS, wS_retS, wS_nxS, wS_nx, wS_ret, wpM_op2, wpM_op1, wpM_asT, wpM_trt, wpM_notT, wpM_andT, wpM_orT, wpM_andV, wpM_notE, wpM_ifE, wpM_lnil, wpM_lcons, wpM_tupE, wpM_lstF, wpM_frz, wpM_new, wpM_cal, wpM_calB, wpM_calF, wpM_isiE, wpM_vr, wpM_ct, wpM_meth, wpM_chn, wpM_cut, wpM_cutF, wpM_ono, wpM_osm, wpM_revT, wpM_lfE, wS_for, tgN, List.getElem?_cons_zero, List.getElem?_cons_succ, List.set_cons_zero, List.set_cons_succ, List.map_cons, List.map_nil, List.length_cons, List.length_nil, List.replicate_succ, List.replicate_zero, Nat.reduceAdd, Nat.reduceSub, List.cons_append, List.nil_append, le_sz (n := 2) rfl]
                rw [scope_pure rfl, wpM_ok, trunc_same, hB, es]; exact ⟨rfl, rfl⟩
              | none =>
                rw [eE] at es
                simp only [wE, Option.isSome_none, mkR_eq, wpM_rg1, wpM_rg2, wpM_enumA, wpM_iof, wpM_lfS, wS_rai, wS_try, wpM_catF, wpM_revA, wpM_newD, wpM_itemE, wpM_itemT, wpM_hasE, wpM_get1, wpM_get2, wS_putE, wS_putT, and_self, if_true, if_false, Bool.false_eq_true, reduceIte, wS_setS, wS_seq, wS_if, wS_asg, wS_exS, wS_retS, wS_nxS, wS_nx, wS_ret, wpM_op2, wpM_op1, wpM_asT, wpM_trt, wpM_notT, wpM_andT, wpM_orT, wpM_andV, wpM_notE, wpM_ifE, wpM_lnil, wpM_lcons, wpM_tupE, wpM_lstF, wpM_frz, wpM_new, wpM_cal, wpM_calB, wpM_calF, wpM_isiE, wpM_vr, wpM_ct, wpM_meth, wpM_chn, wpM_cut, wpM_cutF, wpM_ono, wpM_osm, wpM_revT, wpM_lfE, wS_for, tgN, List.getElem?_cons_zero, List.getElem?_cons_succ, List.set_cons_zero, List.set_cons_succ, List.map_cons, List.map_nil, List.length_cons, List.length_nil, List.replicate_succ, List.replicate_zero, Nat.reduceAdd, Nat.reduceSub, List.cons_append, List.nil_append, ixT1, ixT hx']
                exact ⟨by trivial, _, _, _, rfl, ahd_of hxf eE, es⟩
            · rintro env S' ⟨rfl, a, e4, e5, rfl, ha, es⟩
              refine ⟨okSrc_nil, ?_⟩
              rw [rgL_len, Nat.zero_add, List.drop_length] at es
              simp only [mkR_eq, wpM_rg1, wpM_rg2, wpM_enumA, wpM_iof, wpM_lfS, wS_rai, wS_try, wpM_catF, wpM_revA, wpM_newD, wpM_itemE, wpM_itemT, wpM_hasE, wpM_get1, wpM_get2, wS_putE, wS_putT, and_self, if_true, if_false, Bool.false_eq_true, reduceIte, wS_setS, wS_seq, wS_if, wS_asg, wS_exS, wS_retS, wS_nxS, wS_nx, wS_ret, wpM_op2, wpM_op1, wpM_asT, wpM_trt, wpM_notT, wpM_andT, wpM_orT, wpM_andV, wpM_notE, wpM_ifE, wpM_lnil, wpM_lcons, wpM_tupE, wpM_lstF, wpM_frz, wpM_new, wpM_cal, wpM_calB, wpM_calF, wpM_isiE, wpM_vr, wpM_ct, wpM_meth, wpM_chn, wpM_cut, wpM_cutF, wpM_ono, wpM_osm, wpM_revT, wpM_lfE, wS_for, tgN, List.getElem?_cons_zero, List.getElem?_cons_succ, List.set_cons_zero, List.set_cons_succ, List.map_cons, List.map_nil, List.length_cons, List.length_nil, List.replicate_succ, List.replicate_zero, Nat.reduceAdd, Nat.reduceSub, List.cons_append, List.nil_append, ixT1, len_tup]
              rw [scope_pure rfl, wpM_ok, trunc_same, hB, es]; exact ⟨rfl, rfl⟩
          · rw [if_neg h6] at hB
            simp only [decide_eq_true (show (60 : Int) < (edits.length : Int) by omega), mkR_eq, wpM_rg1, wpM_rg2, wpM_enumA, wpM_iof, wpM_lfS, wS_rai, wS_try, wpM_catF, wpM_revA, wpM_newD, wpM_itemE, wpM_itemT, wpM_hasE, wpM_get1, wpM_get2, wS_putE, wS_putT, and_self, if_true, if_false, Bool.false_eq_true, reduceIte, wS_setS, wS_seq, wS_if, wS_asg, wS_exS, wS_retS, wS_nxS, wS_nx, wS_ret, wpM_op2, wpM_op1, wpM_asT, wpM_trt, wpM_notT, wpM_andT, wpM_orT, wpM_andV, wpM_notE, wpM_ifE, wpM_lnil, wpM_lcons, wpM_tupE, wpM_lstF, wpM_frz, wpM_new, wpM_cal, wpM_calB, wpM_calF, wpM_isiE, wpM_vr, wpM_ct, wpM_meth, wpM_chn, wpM_cut, wpM_cutF, wpM_ono, wpM_osm, wpM_revT, wpM_lfE, wS_for, tgN, List.getElem?_cons_zero, List.getElem?_cons_succ, List.set_cons_zero, List.set_cons_succ, List.map_cons, List.map_nil, List.length_cons, List.length_nil, List.replicate_succ, List.replicate_zero, Nat.reduceAdd, Nat.reduceSub, List.cons_append, List.nil_append, neg_int, le_sz (n := 2) rfl]
            rw [scope_pure rfl, wpM_ok, trunc_same, hB]; exact ⟨rfl, rfl⟩
      | _ =>
        simp only [isT, tru, mkR_eq, wpM_rg1, wpM_rg2, wpM_enumA, wpM_iof, wpM_lfS, wS_rai, wS_try, wpM_catF, wpM_revA, wpM_newD, wpM_itemE, wpM_itemT, wpM_hasE, wpM_get1, wpM_get2, wS_putE, wS_putT, and_self, if_true, if_false, Bool.false_eq_true, reduceIte, wS_setS, wS_seq, wS_if, wS_asg, wS_exS, wS_retS, wS_nxS, wS_nx, wS_ret, wpM_op2, wpM_op1, wpM_asT, wpM_trt, wpM_notT, wpM_andT, wpM_orT, wpM_andV, wpM_notE, wpM_ifE, wpM_lnil, wpM_lcons, wpM_tupE, wpM_lstF, wpM_frz, wpM_new, wpM_cal, wpM_calB, wpM_calF, wpM_isiE, wpM_vr, wpM_ct, wpM_meth, wpM_chn, wpM_cut, wpM_cutF, wpM_ono, wpM_osm, wpM_revT, wpM_lfE, wS_for, tgN, List.getElem?_cons_zero, List.getElem?_cons_succ, List.set_cons_zero, List.set_cons_succ, List.map_cons, List.map_nil, List.length_cons, List.length_nil, List.replicate_succ, List.replicate_zero, Nat.reduceAdd, Nat.reduceSub, List.cons_append, List.nil_append, Bool.not_false, neg_int, le_sz (n := 2) rfl]
        rw [scope_pure rfl, wpM_ok, trunc_same]; exact ⟨rfl, rfl⟩
    | _ =>
      simp only [isS, tru, mkR_eq, wpM_rg1, wpM_rg2, wpM_enumA, wpM_iof, wpM_lfS, wS_rai, wS_try, wpM_catF, wpM_revA, wpM_newD, wpM_itemE, wpM_itemT, wpM_hasE, wpM_get1, wpM_get2, wS_putE, wS_putT, and_self, if_true, if_false, Bool.false_eq_true, reduceIte, wS_setS, wS_seq, wS_if, wS_asg, wS_exS, wS_retS, wS_nxS, wS_nx, wS_ret, wpM_op2, wpM_op1, wpM_asT, wpM_trt, wpM_notT, wpM_andT, wpM_orT, wpM_andV, wpM_notE, wpM_ifE, wpM_lnil, wpM_lcons, wpM_tupE, wpM_lstF, wpM_frz, wpM_new, wpM_cal, wpM_calB, wpM_calF, wpM_isiE, wpM_vr, wpM_ct, wpM_meth, wpM_chn, wpM_cut, wpM_cutF, wpM_ono, wpM_osm, wpM_revT, wpM_lfE, wS_for, tgN, List.getElem?_cons_zero, List.getElem?_cons_succ, List.set_cons_zero, List.set_cons_succ, List.map_cons, List.map_nil, List.length_cons, List.length_nil, List.replicate_succ, List.replicate_zero, Nat.reduceAdd, Nat.reduceSub, List.cons_append, List.nil_append, Bool.not_false, neg_int, le_sz (n := 2) rfl]
      rw [scope_pure rfl, wpM_ok, trunc_same]; exact ⟨rfl, rfl⟩
  · simp only [h, tru, mkR_eq, wpM_rg1, wpM_rg2, wpM_enumA, wpM_iof, wpM_lfS, wS_rai, wS_try, wpM_catF, wpM_revA, wpM_newD, wpM_itemE, wpM_itemT, wpM_hasE, wpM_get1, wpM_get2, wS_putE, wS_putT, and_self, if_true, if_false, Bool.false_eq_true, reduceIte, wS_setS, wS_seq, wS_if, wS_asg, wS_exS, wS_retS, wS_nxS, wS_nx, wS_ret, wpM_op2, wpM_op1, wpM_asT, wpM_trt, wpM_notT, wpM_andT, wpM_orT, wpM_andV, wpM_notE, wpM_ifE, wpM_lnil, wpM_lcons, wpM_tupE, wpM_lstF, wpM_frz, wpM_new, wpM_cal, wpM_calB, wpM_calF, wpM_isiE, wpM_vr, wpM_ct, wpM_meth, wpM_chn, wpM_cut, wpM_cutF, wpM_ono, wpM_osm, wpM_revT, wpM_lfE, wS_for, tgN, List.getElem?_cons_zero, List.getElem?_cons_succ, List.set_cons_zero, List.set_cons_succ, List.map_cons, List.map_nil, List.length_cons, List.length_nil, List.replicate_succ, List.replicate_zero, Nat.reduceAdd, Nat.reduceSub, List.cons_append, List.nil_append, Bool.not_false, neg_int, le_sz (n := 2) rfl]
    rw [scope_pure rfl, wpM_ok, trunc_same, bookF_notT h]; exact ⟨rfl, rfl⟩
  · simp only [isT, tru, mkR_eq, wpM_rg1, wpM_rg2, wpM_enumA, wpM_iof, wpM_lfS, wS_rai, wS_try, wpM_catF, wpM_revA, wpM_newD, wpM_itemE, wpM_itemT, wpM_hasE, wpM_get1, wpM_get2, wS_putE, wS_putT, and_self, if_true, if_false, Bool.false_eq_true, reduceIte, wS_setS, wS_seq, wS_if, wS_asg, wS_exS, wS_retS, wS_nxS, wS_nx, wS_ret, wpM_op2, wpM_op1, wpM_asT, wpM_trt, wpM_notT, wpM_andT, wpM_orT, wpM_andV, wpM_notE, wpM_ifE, wpM_lnil, wpM_lcons, wpM_tupE, wpM_lstF, wpM_frz, wpM_new, wpM_cal, wpM_calB, wpM_calF, wpM_isiE, wpM_vr, wpM_ct, wpM_meth, wpM_chn, wpM_cut, wpM_cutF, wpM_ono, wpM_osm, wpM_revT, wpM_lfE, wS_for, tgN, List.getElem?_cons_zero, List.getElem?_cons_succ, List.set_cons_zero, List.set_cons_succ, List.map_cons, List.map_nil, List.length_cons, List.length_nil, List.replicate_succ, List.replicate_zero, Nat.reduceAdd, Nat.reduceSub, List.cons_append, List.nil_append, Bool.not_true, len_tup, ne_int, show ((ds.length : Int) == 2) = false from by simp; omega, Bool.not_false, neg_int, le_sz (n := 2) rfl]
    rw [scope_pure rfl, wpM_ok, trunc_same, bookF_len h]; exact ⟨rfl, rfl⟩
end
end Z

end
section
set_option Elab.async false
set_option linter.all false
set_option maxRecDepth 100000
set_option maxHeartbeats 4000000
set_option autoImplicit false
namespace Z
open PySem PySem.Spec L2 Y PySem.W
section
variable {S : Sto} {Q : D → Sto → Prop} {E : Str → List (Str × D) → Sto → Prop} {d a : D} {L : Str}
def errA (c : Str) (n : Int) (w : String) (S : Sto) : Res D := .exc c [("at", .int n), ("word", .str (Str.ofString w))] S
theorem eq_of_wpX {r : Res D} {c : Str} {fs : List (Str × D)} {S' : Sto} (h : wpM r (fun _ _ => False) (fun c1 f1 S1 => c1 = c ∧ f1 = fs ∧ S1 = S')) : r = .exc c fs S' := by
  cases r with
  | ok x S1 => exact h.elim
  | exc c fs S1 => obtain ⟨rfl, rfl, rfl⟩ := h; rfl
  | err => exact h.elim
theorem lettersF_str {n : Option (Int × String)} (h : lettersF d = none) : ∃ z, d = .str z := by
  cases d <;> first | exact ⟨_, rfl⟩ | cases h
theorem textF_str (h : textF L d = none) : ∃ z, d = .str z := by
  cases d <;> first | exact ⟨_, rfl⟩ | cases h
theorem bookF_tup (h : bookF d = none) : ∃ x es, d = .tup [x, .tup es] := by
  rcases shape2 d with ⟨x, y, rfl⟩ | h' | ⟨ds, rfl, h'⟩
  · have h : book2 x y = none := h
    cases x <;> cases y <;> first | exact ⟨_, _, rfl⟩ | cases h
  · rw [bookF_notT h'] at h; cases h
  · rw [bookF_len h'] at h; cases h
theorem ck_letters (hd : fd d = true) : M_check_letters [d] S = match lettersF d with | none => .ok (.int (lenD d)) S | some (n, w) => errA "BadLetters" n w S := by
  cases e : lettersF d with
  | none =>
    obtain ⟨z, rfl⟩ := lettersF_str (n := none) e
    refine eq_of_wp ?_
    unfold M_check_letters
    refine wpM_fn ?_
    unfold m_check_letters
    simp only [mkR_eq, wpM_rg1, wpM_rg2, wpM_enumA, wpM_iof, wpM_lfS, wS_rai, wS_try, wpM_catF, wpM_revA, wpM_newD, wpM_itemE, wpM_itemT, wpM_hasE, wpM_get1, wpM_get2, wS_putE, wS_putT, and_self, if_true, if_false, Bool.false_eq_true, reduceIte, wS_setS, wS_seq, wS_if, wS_asg, wS_exS, wS_retS, wS_nxS, wS_nx, wS_ret, wpM_op2, wpM_op1, wpM_asT, wpM_trt, wpM_notT, wpM_andT, wpM_orT, wpM_andV, wpM_notE, wpM_ifE, wpM_lnil, wpM_lcons, wpM_tupE, wpM_lstF, wpM_frz, wpM_new, wpM_cal, wpM_calB, wpM_calF, wpM_isiE, wpM_vr, wpM_ct, wpM_meth, wpM_chn, wpM_cut, wpM_cutF, wpM_ono, wpM_osm, wpM_revT, wpM_lfE, wS_for, tgN, List.getElem?_cons_zero, List.getElem?_cons_succ, List.set_cons_zero, List.set_cons_succ, List.map_cons, List.map_nil, List.length_cons, List.length_nil, List.replicate_succ, List.replicate_zero, Nat.reduceAdd, Nat.reduceSub, List.cons_append, List.nil_append, letters_fault_eq hd, wpM_ok, e, fltD, notN_non, D.isN, Bool.not_true, len_str (show z.length ≤ 16777216 by have := okS_len hd; omega)]
    rw [scope_int, wpM_ok, trunc_same]; exact ⟨rfl, rfl⟩
  | some p =>
    obtain ⟨n, w⟩ := p
    refine eq_of_wpX ?_
    unfold M_check_letters
    refine wpM_fn ?_
    unfold m_check_letters
    simp only [mkR_eq, wpM_rg1, wpM_rg2, wpM_enumA, wpM_iof, wpM_lfS, wS_rai, wS_try, wpM_catF, wpM_revA, wpM_newD, wpM_itemE, wpM_itemT, wpM_hasE, wpM_get1, wpM_get2, wS_putE, wS_putT, and_self, if_true, if_false, Bool.false_eq_true, reduceIte, wS_setS, wS_seq, wS_if, wS_asg, wS_exS, wS_retS, wS_nxS, wS_nx, wS_ret, wpM_op2, wpM_op1, wpM_asT, wpM_trt, wpM_notT, wpM_andT, wpM_orT, wpM_andV, wpM_notE, wpM_ifE, wpM_lnil, wpM_lcons, wpM_tupE, wpM_lstF, wpM_frz, wpM_new, wpM_cal, wpM_calB, wpM_calF, wpM_isiE, wpM_vr, wpM_ct, wpM_meth, wpM_chn, wpM_cut, wpM_cutF, wpM_ono, wpM_osm, wpM_revT, wpM_lfE, wS_for, tgN, List.getElem?_cons_zero, List.getElem?_cons_succ, List.set_cons_zero, List.set_cons_succ, List.map_cons, List.map_nil, List.length_cons, List.length_nil, List.replicate_succ, List.replicate_zero, Nat.reduceAdd, Nat.reduceSub, List.cons_append, List.nil_append, letters_fault_eq hd, wpM_ok, e, fltD, notN_non, D.isN, Bool.not_false, ixT0, ixT1, List.zip_cons_cons, List.zip_nil_right]
    rw [scope_exc rfl, trunc_same]; exact ⟨rfl, rfl, rfl⟩
theorem ck_text (hd : fd d = true) : M_check_text [.str L, d] S = match textF L d with | none => .ok (.int (lenD d)) S | some (n, w) => errA "BadText" n w S := by
  cases e : textF L d with
  | none =>
    obtain ⟨z, rfl⟩ := textF_str e
    refine eq_of_wp ?_
    unfold M_check_text
    refine wpM_fn ?_
    unfold m_check_text
    simp only [mkR_eq, wpM_rg1, wpM_rg2, wpM_enumA, wpM_iof, wpM_lfS, wS_rai, wS_try, wpM_catF, wpM_revA, wpM_newD, wpM_itemE, wpM_itemT, wpM_hasE, wpM_get1, wpM_get2, wS_putE, wS_putT, and_self, if_true, if_false, Bool.false_eq_true, reduceIte, wS_setS, wS_seq, wS_if, wS_asg, wS_exS, wS_retS, wS_nxS, wS_nx, wS_ret, wpM_op2, wpM_op1, wpM_asT, wpM_trt, wpM_notT, wpM_andT, wpM_orT, wpM_andV, wpM_notE, wpM_ifE, wpM_lnil, wpM_lcons, wpM_tupE, wpM_lstF, wpM_frz, wpM_new, wpM_cal, wpM_calB, wpM_calF, wpM_isiE, wpM_vr, wpM_ct, wpM_meth, wpM_chn, wpM_cut, wpM_cutF, wpM_ono, wpM_osm, wpM_revT, wpM_lfE, wS_for, tgN, List.getElem?_cons_zero, List.getElem?_cons_succ, List.set_cons_zero, List.set_cons_succ, List.map_cons, List.map_nil, List.length_cons, List.length_nil, List.replicate_succ, List.replicate_zero, Nat.reduceAdd, Nat.reduceSub, List.cons_append, List.nil_append, text_fault_eq hd, wpM_ok, e, fltD, notN_non, D.isN, Bool.not_true, len_str (show z.length ≤ 16777216 by have := okS_len hd; omega)]
    rw [scope_int, wpM_ok, trunc_same]; exact ⟨rfl, rfl⟩
  | some p =>
    obtain ⟨n, w⟩ := p
    refine eq_of_wpX ?_
    unfold M_check_text
    refine wpM_fn ?_
    unfold m_check_text
    simp only [mkR_eq, wpM_rg1, wpM_rg2, wpM_enumA, wpM_iof, wpM_lfS, wS_rai, wS_try, wpM_catF, wpM_revA, wpM_newD, wpM_itemE, wpM_itemT, wpM_hasE, wpM_get1, wpM_get2, wS_putE, wS_putT, and_self, if_true, if_false, Bool.false_eq_true, reduceIte, wS_setS, wS_seq, wS_if, wS_asg, wS_exS, wS_retS, wS_nxS, wS_nx, wS_ret, wpM_op2, wpM_op1, wpM_asT, wpM_trt, wpM_notT, wpM_andT, wpM_orT, wpM_andV, wpM_notE, wpM_ifE, wpM_lnil, wpM_lcons, wpM_tupE, wpM_lstF, wpM_frz, wpM_new, wpM_cal, wpM_calB, wpM_calF, wpM_isiE, wpM_vr, wpM_ct, wpM_meth, wpM_chn, wpM_cut, wpM_cutF, wpM_ono, wpM_osm, wpM_revT, wpM_lfE, wS_for, tgN, List.getElem?_cons_zero, List.getElem?_cons_succ, List.set_cons_zero, List.set_cons_succ, List.map_cons, List.map_nil, List.length_cons, List.length_nil, List.replicate_succ, List.replicate_zero, Nat.reduceAdd, Nat.reduceSub, List.cons_append, List.nil_append, text_fault_eq hd, wpM_ok, e, fltD, notN_non, D.isN, Bool.not_false, ixT0, ixT1, List.zip_cons_cons, List.zip_nil_right]
    rw [scope_exc rfl, trunc_same]; exact ⟨rfl, rfl, rfl⟩
theorem ck_book (hd : fd d = true) : M_check_book [d] S = match bookF d with | none => .ok (.int (bookLen d)) S | some (n, w) => errA "BadBook" n w S := by
  cases e : bookF d with
  | none =>
    obtain ⟨x, es, rfl⟩ := bookF_tup e
    refine eq_of_wp ?_
    unfold M_check_book
    refine wpM_fn ?_
    unfold m_check_book
    simp only [mkR_eq, wpM_rg1, wpM_rg2, wpM_enumA, wpM_iof, wpM_lfS, wS_rai, wS_try, wpM_catF, wpM_revA, wpM_newD, wpM_itemE, wpM_itemT, wpM_hasE, wpM_get1, wpM_get2, wS_putE, wS_putT, and_self, if_true, if_false, Bool.false_eq_true, reduceIte, wS_setS, wS_seq, wS_if, wS_asg, wS_exS, wS_retS, wS_nxS, wS_nx, wS_ret, wpM_op2, wpM_op1, wpM_asT, wpM_trt, wpM_notT, wpM_andT, wpM_orT, wpM_andV, wpM_notE, wpM_ifE, wpM_lnil, wpM_lcons, wpM_tupE, wpM_lstF, wpM_frz, wpM_new, wpM_cal, wpM_calB, wpM_calF, wpM_isiE, wpM_vr, wpM_ct, wpM_meth, wpM_chn, wpM_cut, wpM_cutF, wpM_ono, wpM_osm, wpM_revT, wpM_lfE, wS_for, tgN, List.getElem?_cons_zero, List.getElem?_cons_succ, List.set_cons_zero, List.set_cons_succ, List.map_cons, List.map_nil, List.length_cons, List.length_nil, List.replicate_succ, List.replicate_zero, Nat.reduceAdd, Nat.reduceSub, List.cons_append, List.nil_append, book_fault_eq hd, wpM_ok, e, fltD, notN_non, D.isN, Bool.not_true, ixT1, len_tup]
    rw [scope_int, wpM_ok, trunc_same]; exact ⟨rfl, rfl⟩
  | some p =>
    obtain ⟨n, w⟩ := p
    refine eq_of_wpX ?_
    unfold M_check_book
    refine wpM_fn ?_
    unfold m_check_book
    simp only [mkR_eq, wpM_rg1, wpM_rg2, wpM_enumA, wpM_iof, wpM_lfS, wS_rai, wS_try, wpM_catF, wpM_revA, wpM_newD, wpM_itemE, wpM_itemT, wpM_hasE, wpM_get1, wpM_get2, wS_putE, wS_putT, and_self, if_true, if_false, Bool.false_eq_true, reduceIte, wS_setS, wS_seq, wS_if, wS_asg, wS_exS, wS_retS, wS_nxS, wS_nx, wS_ret, wpM_op2, wpM_op1, wpM_asT, wpM_trt, wpM_notT, wpM_andT, wpM_orT, wpM_andV, wpM_notE, wpM_ifE, wpM_lnil, wpM_lcons, wpM_tupE, wpM_lstF, wpM_frz, wpM_new, wpM_cal, wpM_calB, wpM_calF, wpM_isiE, wpM_vr, wpM_ct, wpM_meth, wpM_chn, wpM_cut, wpM_cutF, wpM_ono, wpM_osm, wpM_revT, wpM_lfE, wS_for, tgN, List.getElem?_cons_zero, List.getElem?_cons_succ, List.set_cons_zero, List.set_cons_succ, List.map_cons, List.map_nil, List.length_cons, List.length_nil, List.replicate_succ, List.replicate_zero, Nat.reduceAdd, Nat.reduceSub, List.cons_append, List.nil_append, book_fault_eq hd, wpM_ok, e, fltD, notN_non, D.isN, Bool.not_false, ixT0, ixT1, List.zip_cons_cons, List.zip_nil_right]
    rw [scope_exc rfl, trunc_same]; exact ⟨rfl, rfl, rfl⟩
/-! what the law is told -/
theorem eqvB {a b : Bool} : PyData.eqv (.bool a) (.bool b) = (a == b) := by simp [PyData.eqv]
theorem cnt3 (b1 b2 b3 : Bool) : m_count S (.lst [.bl b1, .bl b2, .bl b3]) [.bl true] = some (.int ((if b1 then 1 else 0) + (if b2 then 1 else 0) + (if b3 then 1 else 0) : Int), S) := by
  have e : toPS S (.lst [.bl b1, .bl b2, .bl b3]) = some (.list [.bool b1, .bool b2, .bool b3]) := rfl
  have e2 : toP (.bl true) = some (.bool true) := rfl
  simp only [m_count, e, e2, Option.bind_some]
  rw [if_pos (by simp [SeqAt.shaped, PyData.canLay0, PyData.canLayAll0, PyData.depth, PyData.depthAll])]
  rw [List.countP_cons, List.countP_cons, List.countP_cons, List.countP_nil, eqvB, eqvB, eqvB]
  cases b1 <;> cases b2 <;> cases b3 <;> rfl
theorem ixL0 {x : D} {ds : List D} : o_ix S (.lst (x :: ds)) (.int 0) = some x := atI_nat (j := 0) rfl
theorem ixL1 {x y : D} {ds : List D} : o_ix S (.lst (x :: y :: ds)) (.int 1) = some y := atI_nat (j := 1) rfl
theorem ixL2 {x y z : D} {ds : List D} : o_ix S (.lst (x :: y :: z :: ds)) (.int 2) = some z := atI_nat (j := 2) rfl
theorem yes1 : yes_MendError "BadLetters" = some true := by decide
theorem yes2 : yes_MendError "BadText" = some true := by decide
theorem yes3 : yes_MendError "BadBook" = some true := by decide
theorem isEr {l : List (Str × Bool)} {c : Str} {fs : List (Str × D)} {env : En} {b : Bool} (h : l.lookup c = some b) {Q : D → Sto → Prop} : wpM (isErr l c fs env S) Q E = Q (.bl b) S := by
  unfold isErr
  rw [h]; rfl
theorem fld_at {cs : List Str} {c : Str} {n : Int} {w : D} {env : En} (h : c ∈ cs) {Q : D → Sto → Prop} : wpM (fldE cs "at" c [("at", .int n), ("word", w)] env S) Q E = Q (.int n) S := by
  unfold fldE
  rw [if_pos h]; rfl
theorem fld_word {cs : List Str} {c : Str} {n w : D} {env : En} (h : c ∈ cs) {Q : D → Sto → Prop} : wpM (fldE cs "word" c [("at", n), ("word", w)] env S) Q E = Q w S := by
  unfold fldE
  rw [if_pos h]
  rfl
theorem told0 (hd : fd d = true) (t : D) : M__law_told [.int 0, t, d] S = .ok (dueD (lenD d) (lettersF d)) S := by
  refine eq_of_wp ?_
  unfold M__law_told
  refine wpM_fn ?_
  unfold m__law_told
  simp only [mkR_eq, wpM_rg1, wpM_rg2, wpM_enumA, wpM_iof, wpM_lfS, wS_rai, wS_try, wpM_catF, wpM_revA, wpM_newD, wpM_itemE, wpM_itemT, wpM_hasE, wpM_get1, wpM_get2, wS_putE, wS_putT, and_self, if_true, if_false, Bool.false_eq_true, reduceIte, wS_setS, wS_seq, wS_if, wS_asg, wS_exS, wS_retS, wS_nxS, wS_nx, wS_ret, wpM_op2, wpM_op1, wpM_asT, wpM_trt, wpM_notT, wpM_andT, wpM_orT, wpM_andV, wpM_notE, wpM_ifE, wpM_lnil, wpM_lcons, wpM_tupE, wpM_lstF, wpM_frz, wpM_new, wpM_cal, wpM_calB, wpM_calF, wpM_isiE, wpM_vr, wpM_ct, wpM_meth, wpM_chn, wpM_cut, wpM_cutF, wpM_ono, wpM_osm, wpM_revT, wpM_lfE, wS_for, tgN, List.getElem?_cons_zero, List.getElem?_cons_succ, List.set_cons_zero, List.set_cons_succ, List.map_cons, List.map_nil, List.length_cons, List.length_nil, List.replicate_succ, List.replicate_zero, Nat.reduceAdd, Nat.reduceSub, List.cons_append, List.nil_append, eq_int, show ((0 : Int) == 0) = true from rfl, ck_letters hd]
  cases e : lettersF d with
  | none =>
    simp only [mkR_eq, wpM_rg1, wpM_rg2, wpM_enumA, wpM_iof, wpM_lfS, wS_rai, wS_try, wpM_catF, wpM_revA, wpM_newD, wpM_itemE, wpM_itemT, wpM_hasE, wpM_get1, wpM_get2, wS_putE, wS_putT, and_self, if_true, if_false, Bool.false_eq_true, reduceIte, wS_setS, wS_seq, wS_if, wS_asg, wS_exS, wS_retS, wS_nxS, wS_nx, wS_ret, wpM_op2, wpM_op1, wpM_asT, wpM_trt, wpM_notT, wpM_andT, wpM_orT, wpM_andV, wpM_notE, wpM_ifE, wpM_lnil, wpM_lcons, wpM_tupE, wpM_lstF, wpM_frz, wpM_new, wpM_cal, wpM_calB, wpM_calF, wpM_isiE, wpM_vr, wpM_ct, wpM_meth, wpM_chn, wpM_cut, wpM_cutF, wpM_ono, wpM_osm, wpM_revT, wpM_lfE, wS_for, tgN, List.getElem?_cons_zero, List.getElem?_cons_succ, List.set_cons_zero, List.set_cons_succ, List.map_cons, List.map_nil, List.length_cons, List.length_nil, List.replicate_succ, List.replicate_zero, Nat.reduceAdd, Nat.reduceSub, List.cons_append, List.nil_append, wpM_ok]
    rw [scope_int, wpM_ok, trunc_same]; exact ⟨rfl, rfl⟩
  | some p =>
    obtain ⟨n, w⟩ := p
    simp only [errA, wpM_exc, yes1, mkR_eq, wpM_rg1, wpM_rg2, wpM_enumA, wpM_iof, wpM_lfS, wS_rai, wS_try, wpM_catF, wpM_revA, wpM_newD, wpM_itemE, wpM_itemT, wpM_hasE, wpM_get1, wpM_get2, wS_putE, wS_putT, and_self, if_true, if_false, Bool.false_eq_true, reduceIte, wS_setS, wS_seq, wS_if, wS_asg, wS_exS, wS_retS, wS_nxS, wS_nx, wS_ret, wpM_op2, wpM_op1, wpM_asT, wpM_trt, wpM_notT, wpM_andT, wpM_orT, wpM_andV, wpM_notE, wpM_ifE, wpM_lnil, wpM_lcons, wpM_tupE, wpM_lstF, wpM_frz, wpM_new, wpM_cal, wpM_calB, wpM_calF, wpM_isiE, wpM_vr, wpM_ct, wpM_meth, wpM_chn, wpM_cut, wpM_cutF, wpM_ono, wpM_osm, wpM_revT, wpM_lfE, wS_for, tgN, List.getElem?_cons_zero, List.getElem?_cons_succ, List.set_cons_zero, List.set_cons_succ, List.map_cons, List.map_nil, List.length_cons, List.length_nil, List.replicate_succ, List.replicate_zero, Nat.reduceAdd, Nat.reduceSub, List.cons_append, List.nil_append, Nat.reduceLT, isEr (l := is_MendError_BadLetters) (c := "BadLetters") (b := true) (by decide), isEr (l := is_MendError_BadText) (c := "BadLetters") (b := false) (by decide), isEr (l := is_MendError_BadBook) (c := "BadLetters") (b := false) (by decide), le_sz (n := 3) rfl,
      show tyD "list" S (.lst [.bl true, .bl false, .bl false]) = true from rfl, cnt3, ne_int, show (((1 : Int) + 0 + 0) == 1) = true from rfl, Bool.not_true, ixL0, tru, fld_at (cs := ["BadBook", "BadLetters", "BadText"]) (c := "BadLetters") (by decide), fld_word (cs := ["BadBook", "BadLetters", "BadText"]) (c := "BadLetters") (by decide), le_sz (n := 2) rfl]
    rw [scope_pure rfl, wpM_ok, trunc_same]; exact ⟨rfl, rfl⟩
theorem told1 (hd : fd d = true) : M__law_told [.int 1, .str L, d] S = .ok (dueD (lenD d) (textF L d)) S := by
  refine eq_of_wp ?_
  unfold M__law_told
  refine wpM_fn ?_
  unfold m__law_told
  simp only [mkR_eq, wpM_rg1, wpM_rg2, wpM_enumA, wpM_iof, wpM_lfS, wS_rai, wS_try, wpM_catF, wpM_revA, wpM_newD, wpM_itemE, wpM_itemT, wpM_hasE, wpM_get1, wpM_get2, wS_putE, wS_putT, and_self, if_true, if_false, Bool.false_eq_true, reduceIte, wS_setS, wS_seq, wS_if, wS_asg, wS_exS, wS_retS, wS_nxS, wS_nx, wS_ret, wpM_op2, wpM_op1, wpM_asT, wpM_trt, wpM_notT, wpM_andT, wpM_orT, wpM_andV, wpM_notE, wpM_ifE, wpM_lnil, wpM_lcons, wpM_tupE, wpM_lstF, wpM_frz, wpM_new, wpM_cal, wpM_calB, wpM_calF, wpM_isiE, wpM_vr, wpM_ct, wpM_meth, wpM_chn, wpM_cut, wpM_cutF, wpM_ono, wpM_osm, wpM_revT, wpM_lfE, wS_for, tgN, List.getElem?_cons_zero, List.getElem?_cons_succ, List.set_cons_zero, List.set_cons_succ, List.map_cons, List.map_nil, List.length_cons, List.length_nil, List.replicate_succ, List.replicate_zero, Nat.reduceAdd, Nat.reduceSub, List.cons_append, List.nil_append, eq_int, show ((1 : Int) == 0) = false from rfl, show ((1 : Int) == 1) = true from rfl, ck_text hd]
  cases e : textF L d with
  | none =>
    simp only [mkR_eq, wpM_rg1, wpM_rg2, wpM_enumA, wpM_iof, wpM_lfS, wS_rai, wS_try, wpM_catF, wpM_revA, wpM_newD, wpM_itemE, wpM_itemT, wpM_hasE, wpM_get1, wpM_get2, wS_putE, wS_putT, and_self, if_true, if_false, Bool.false_eq_true, reduceIte, wS_setS, wS_seq, wS_if, wS_asg, wS_exS, wS_retS, wS_nxS, wS_nx, wS_ret, wpM_op2, wpM_op1, wpM_asT, wpM_trt, wpM_notT, wpM_andT, wpM_orT, wpM_andV, wpM_notE, wpM_ifE, wpM_lnil, wpM_lcons, wpM_tupE, wpM_lstF, wpM_frz, wpM_new, wpM_cal, wpM_calB, wpM_calF, wpM_isiE, wpM_vr, wpM_ct, wpM_meth, wpM_chn, wpM_cut, wpM_cutF, wpM_ono, wpM_osm, wpM_revT, wpM_lfE, wS_for, tgN, List.getElem?_cons_zero, List.getElem?_cons_succ, List.set_cons_zero, List.set_cons_succ, List.map_cons, List.map_nil, List.length_cons, List.length_nil, List.replicate_succ, List.replicate_zero, Nat.reduceAdd, Nat.reduceSub, List.cons_append, List.nil_append, wpM_ok]
    rw [scope_int, wpM_ok, trunc_same]; exact ⟨rfl, rfl⟩
  | some p =>
    obtain ⟨n, w⟩ := p
    simp only [errA, wpM_exc, yes2, mkR_eq, wpM_rg1, wpM_rg2, wpM_enumA, wpM_iof, wpM_lfS, wS_rai, wS_try, wpM_catF, wpM_revA, wpM_newD, wpM_itemE, wpM_itemT, wpM_hasE, wpM_get1, wpM_get2, wS_putE, wS_putT, and_self, if_true, if_false, Bool.false_eq_true, reduceIte, wS_setS, wS_seq, wS_if, wS_asg, wS_exS, wS_retS, wS_nxS, wS_nx, wS_ret, wpM_op2, wpM_op1, wpM_asT, wpM_trt, wpM_notT, wpM_andT, wpM_orT, wpM_andV, wpM_notE, wpM_ifE, wpM_lnil, wpM_lcons, wpM_tupE, wpM_lstF, wpM_frz, wpM_new, wpM_cal, wpM_calB, wpM_calF, wpM_isiE, wpM_vr, wpM_ct, wpM_meth, wpM_chn, wpM_cut, wpM_cutF, wpM_ono, wpM_osm, wpM_revT, wpM_lfE, wS_for, tgN, List.getElem?_cons_zero, List.getElem?_cons_succ, List.set_cons_zero, List.set_cons_succ, List.map_cons, List.map_nil, List.length_cons, List.length_nil, List.replicate_succ, List.replicate_zero, Nat.reduceAdd, Nat.reduceSub, List.cons_append, List.nil_append, Nat.reduceLT, isEr (l := is_MendError_BadLetters) (c := "BadText") (b := false) (by decide), isEr (l := is_MendError_BadText) (c := "BadText") (b := true) (by decide), isEr (l := is_MendError_BadBook) (c := "BadText") (b := false) (by decide), le_sz (n := 3) rfl,
      show tyD "list" S (.lst [.bl false, .bl true, .bl false]) = true from rfl, cnt3, ne_int, show (((0 : Int) + 1 + 0) == 1) = true from rfl, Bool.not_true, ixL1, tru, fld_at (cs := ["BadBook", "BadLetters", "BadText"]) (c := "BadText") (by decide), fld_word (cs := ["BadBook", "BadLetters", "BadText"]) (c := "BadText") (by decide), le_sz (n := 2) rfl]
    rw [scope_pure rfl, wpM_ok, trunc_same]; exact ⟨rfl, rfl⟩
theorem told2 (hd : fd d = true) (t : D) : M__law_told [.int 2, t, d] S = .ok (dueD (bookLen d) (bookF d)) S := by
  refine eq_of_wp ?_
  unfold M__law_told
  refine wpM_fn ?_
  unfold m__law_told
  simp only [mkR_eq, wpM_rg1, wpM_rg2, wpM_enumA, wpM_iof, wpM_lfS, wS_rai, wS_try, wpM_catF, wpM_revA, wpM_newD, wpM_itemE, wpM_itemT, wpM_hasE, wpM_get1, wpM_get2, wS_putE, wS_putT, and_self, if_true, if_false, Bool.false_eq_true, reduceIte, wS_setS, wS_seq, wS_if, wS_asg, wS_exS, wS_retS, wS_nxS, wS_nx, wS_ret, wpM_op2, wpM_op1, wpM_asT, wpM_trt, wpM_notT, wpM_andT, wpM_orT, wpM_andV, wpM_notE, wpM_ifE, wpM_lnil, wpM_lcons, wpM_tupE, wpM_lstF, wpM_frz, wpM_new, wpM_cal, wpM_calB, wpM_calF, wpM_isiE, wpM_vr, wpM_ct, wpM_meth, wpM_chn, wpM_cut, wpM_cutF, wpM_ono, wpM_osm, wpM_revT, wpM_lfE, wS_for, tgN, List.getElem?_cons_zero, List.getElem?_cons_succ, List.set_cons_zero, List.set_cons_succ, List.map_cons, List.map_nil, List.length_cons, List.length_nil, List.replicate_succ, List.replicate_zero, Nat.reduceAdd, Nat.reduceSub, List.cons_append, List.nil_append, eq_int, show ((2 : Int) == 0) = false from rfl, show ((2 : Int) == 1) = false from rfl, ck_book hd]
  cases e : bookF d with
  | none =>
    simp only [mkR_eq, wpM_rg1, wpM_rg2, wpM_enumA, wpM_iof, wpM_lfS, wS_rai, wS_try, wpM_catF, wpM_revA, wpM_newD, wpM_itemE, wpM_itemT, wpM_hasE, wpM_get1, wpM_get2, wS_putE, wS_putT, and_self, if_true, if_false, Bool.false_eq_true, reduceIte, wS_setS, wS_seq, wS_if, wS_asg, wS_exS, wS_retS, wS_nxS, wS_nx, wS_ret, wpM_op2, wpM_op1, wpM_asT, wpM_trt, wpM_notT, wpM_andT, wpM_orT, wpM_andV, wpM_notE, wpM_ifE, wpM_lnil, wpM_lcons, wpM_tupE, wpM_lstF, wpM_frz, wpM_new, wpM_cal, wpM_calB, wpM_calF, wpM_isiE, wpM_vr, wpM_ct, wpM_meth, wpM_chn, wpM_cut, wpM_cutF, wpM_ono, wpM_osm, wpM_revT, wpM_lfE, wS_for, tgN, List.getElem?_cons_zero, List.getElem?_cons_succ, List.set_cons_zero, List.set_cons_succ, List.map_cons, List.map_nil, List.length_cons, List.length_nil, List.replicate_succ, List.replicate_zero, Nat.reduceAdd, Nat.reduceSub, List.cons_append, List.nil_append, wpM_ok]
    rw [scope_int, wpM_ok, trunc_same]; exact ⟨rfl, rfl⟩
  | some p =>
    obtain ⟨n, w⟩ := p
    simp only [errA, wpM_exc, yes3, mkR_eq, wpM_rg1, wpM_rg2, wpM_enumA, wpM_iof, wpM_lfS, wS_rai, wS_try, wpM_catF, wpM_revA, wpM_newD, wpM_itemE, wpM_itemT, wpM_hasE, wpM_get1, wpM_get2, wS_putE, wS_putT, and_self, if_true, if_false, Bool.false_eq_true, reduceIte, wS_setS, wS_seq, wS_if, wS_asg, wS_exS, wS_retS, wS_nxS, wS_nx, wS_ret, wpM_op2, wpM_op1, wpM_asT, wpM_trt, wpM_notT, wpM_andT, wpM_orT, wpM_andV, wpM_notE, wpM_ifE, wpM_lnil, wpM_lcons, wpM_tupE, wpM_lstF, wpM_frz, wpM_new, wpM_cal, wpM_calB, wpM_calF, wpM_isiE, wpM_vr, wpM_ct, wpM_meth, wpM_chn, wpM_cut, wpM_cutF, wpM_ono, wpM_osm, wpM_revT, wpM_lfE, wS_for, tgN, List.getElem?_cons_zero, List.getElem?_cons_succ, List.set_cons_zero, List.set_cons_succ, List.map_cons, List.map_nil, List.length_cons, List.length_nil, List.replicate_succ, List.replicate_zero, Nat.reduceAdd, Nat.reduceSub, List.cons_append, List.nil_append, Nat.reduceLT, isEr (l := is_MendError_BadLetters) (c := "BadBook") (b := false) (by decide), isEr (l := is_MendError_BadText) (c := "BadBook") (b := false) (by decide), isEr (l := is_MendError_BadBook) (c := "BadBook") (b := true) (by decide), le_sz (n := 3) rfl,
      show tyD "list" S (.lst [.bl false, .bl false, .bl true]) = true from rfl, cnt3, ne_int, show (((0 : Int) + 0 + 1) == 1) = true from rfl, Bool.not_true, ixL2, tru, fld_at (cs := ["BadBook", "BadLetters", "BadText"]) (c := "BadBook") (by decide), fld_word (cs := ["BadBook", "BadLetters", "BadText"]) (c := "BadBook") (by decide), le_sz (n := 2) rfl]
    rw [scope_pure rfl, wpM_ok, trunc_same]; exact ⟨rfl, rfl⟩
theorem same_eq {n : Int} {f : Option (Int × String)} : M__law_same [dueD n f, dueD n f] S = .ok (.bl true) S := by
  refine eq_of_wp ?_
  unfold M__law_same
  refine wpM_fn ?_
  unfold m__law_same
  cases f with
  | none =>
    simp only [dueD, mkR_eq, wpM_rg1, wpM_rg2, wpM_enumA, wpM_iof, wpM_lfS, wS_rai, wS_try, wpM_catF, wpM_revA, wpM_newD, wpM_itemE, wpM_itemT, wpM_hasE, wpM_get1, wpM_get2, wS_putE, wS_putT, and_self, if_true, if_false, Bool.false_eq_true, reduceIte, wS_setS, wS_seq, wS_if, wS_asg, wS_exS, wS_retS, wS_nxS, wS_nx, wS_ret, wpM_op2, wpM_op1, wpM_asT, wpM_trt, wpM_notT, wpM_andT, wpM_orT, wpM_andV, wpM_notE, wpM_ifE, wpM_lnil, wpM_lcons, wpM_tupE, wpM_lstF, wpM_frz, wpM_new, wpM_cal, wpM_calB, wpM_calF, wpM_isiE, wpM_vr, wpM_ct, wpM_meth, wpM_chn, wpM_cut, wpM_cutF, wpM_ono, wpM_osm, wpM_revT, wpM_lfE, wS_for, tgN, List.getElem?_cons_zero, List.getElem?_cons_succ, List.set_cons_zero, List.set_cons_succ, List.map_cons, List.map_nil, List.length_cons, List.length_nil, List.replicate_succ, List.replicate_zero, Nat.reduceAdd, Nat.reduceSub, List.cons_append, List.nil_append, lwhole_eq (show (D.int n).pure = true from rfl), wpM_ok, isI, tru, eq_int, beq_self_eq_true]
    rw [scope_bl, wpM_ok, trunc_same]; exact ⟨rfl, rfl⟩
  | some p =>
    obtain ⟨k, w⟩ := p
    have hp : (D.tup [.int k, .str (Str.ofString w)]).pure = true := rfl
    simp only [dueD, mkR_eq, wpM_rg1, wpM_rg2, wpM_enumA, wpM_iof, wpM_lfS, wS_rai, wS_try, wpM_catF, wpM_revA, wpM_newD, wpM_itemE, wpM_itemT, wpM_hasE, wpM_get1, wpM_get2, wS_putE, wS_putT, and_self, if_true, if_false, Bool.false_eq_true, reduceIte, wS_setS, wS_seq, wS_if, wS_asg, wS_exS, wS_retS, wS_nxS, wS_nx, wS_ret, wpM_op2, wpM_op1, wpM_asT, wpM_trt, wpM_notT, wpM_andT, wpM_orT, wpM_andV, wpM_notE, wpM_ifE, wpM_lnil, wpM_lcons, wpM_tupE, wpM_lstF, wpM_frz, wpM_new, wpM_cal, wpM_calB, wpM_calF, wpM_isiE, wpM_vr, wpM_ct, wpM_meth, wpM_chn, wpM_cut, wpM_cutF, wpM_ono, wpM_osm, wpM_revT, wpM_lfE, wS_for, tgN, List.getElem?_cons_zero, List.getElem?_cons_succ, List.set_cons_zero, List.set_cons_succ, List.map_cons, List.map_nil, List.length_cons, List.length_nil, List.replicate_succ, List.replicate_zero, Nat.reduceAdd, Nat.reduceSub, List.cons_append, List.nil_append, lwhole_eq hp, lwhole_eq (show (D.int k).pure = true from rfl), wpM_ok, isI, isT, isS, tru, isiT hp, isiS (show (D.str (Str.ofString w)).pure = true from rfl), Bool.not_true, len_tup, ne_int, show (((2 : Nat) : Int) == 2) = true from rfl, ixT0, ixT1, eq_int, eq_str (strOk_of w) (strOk_of w), beq_self_eq_true]
    rw [scope_bl, wpM_ok, trunc_same]; exact ⟨rfl, rfl⟩
end
end Z

end
section
set_option Elab.async false
set_option linter.all false
set_option maxRecDepth 100000
set_option maxHeartbeats 4000000
set_option autoImplicit false
namespace Z
open PySem PySem.Spec L2 Y PySem.W
section
variable {rest S : Sto} {Q : D → Sto → Prop} {E : Str → List (Str × D) → Sto → Prop} {L : Str}
theorem shuf_wp {z : Str} (hS : PP rest S) (hz : z.length ≤ 1000) (k : ∀ out S', PP rest S' → out.length = z.length → (∀ d ∈ out, d ∈ sgns z) → Q (.lst out) S') : wpM (M__law_shuffled [.ref 1, .str z] S) Q E := by
  have hzl : (sgns z).length = z.length := sgns_len
  unfold M__law_shuffled
  refine wpM_fn ?_
  unfold m__law_shuffled
  have hlen := hS.len
  simp only [mkR_eq, wpM_rg1, wpM_rg2, wpM_enumA, wpM_iof, wpM_lfS, wS_rai, wS_try, wpM_catF, wpM_revA, wpM_newD, wpM_itemE, wpM_itemT, wpM_hasE, wpM_get1, wpM_get2, wS_putE, wS_putT, and_self, if_true, if_false, Bool.false_eq_true, reduceIte, wS_setS, wS_seq, wS_if, wS_asg, wS_exS, wS_retS, wS_nxS, wS_nx, wS_ret, wpM_op2, wpM_op1, wpM_asT, wpM_trt, wpM_notT, wpM_andT, wpM_orT, wpM_andV, wpM_notE, wpM_ifE, wpM_lnil, wpM_lcons, wpM_tupE, wpM_lstF, wpM_frz, wpM_new, wpM_cal, wpM_calB, wpM_calF, wpM_isiE, wpM_vr, wpM_ct, wpM_meth, wpM_chn, wpM_cut, wpM_cutF, wpM_ono, wpM_osm, wpM_revT, wpM_lfE, wS_for, tgN, List.getElem?_cons_zero, List.getElem?_cons_succ, List.set_cons_zero, List.set_cons_succ, List.map_cons, List.map_nil, List.length_cons, List.length_nil, List.replicate_succ, List.replicate_zero, Nat.reduceAdd, Nat.reduceSub, List.cons_append, List.nil_append, listA_str (le_szL (show z.cps.size ≤ 16777216 from Nat.le_trans hz (by decide))), le_sz (n := 0) rfl, len_str (show z.length ≤ 16777216 by omega)]
  refine ⟨rgOk_nat (by omega), ?_⟩
  have h1 : PP (rest ++ [some (.lst (sgns z)), some (.lst [])]) (S ++ [some (.lst (sgns z))] ++ [some (.lst [])]) := by
    have := (hS.app (o := some (.lst (sgns z)))).app (o := some (.lst []))
    simpa using this
  rw [show (S ++ [some (Ob.lst (sgns z))]).length = rest.length + 2 + 1 by rw [List.length_append, hlen]; rfl, hlen]
  refine wS_loop (fun i env S' => ∃ t left out, env = [some (.ref 1), some (.str z), some (.ref (rest.length + 2)), some (.ref (rest.length + 2 + 1)), t] ∧ PP (rest ++ [some (.lst left), some (.lst out)]) S' ∧ left.length + i = z.length ∧ out.length = i ∧ (∀ d ∈ left, d ∈ sgns z) ∧ ∀ d ∈ out, d ∈ sgns z) _ 0 _ _
    ⟨none, sgns z, [], rfl, h1, by rw [hzl, Nat.add_zero], rfl, fun d h => h, fun d h => by cases h⟩ ?_ ?_
  · rintro j d env S1 hj ⟨t, left, out, rfl, hS1, hl, ho, q1, q2⟩
    obtain ⟨rfl, hjn⟩ := rgL_get hj
    rw [Nat.zero_add] at hl ho ⊢
    refine ⟨okSrc_nil, _, rfl, ?_⟩
    have g0 : S1[rest.length + 2]? = some (some (.lst left)) := hS1.getX (j := 0)
    have g1 : S1[rest.length + 2 + 1]? = some (some (.lst out)) := hS1.getX (j := 1)
    simp only [mkR_eq, wpM_rg1, wpM_rg2, wpM_enumA, wpM_iof, wpM_lfS, wS_rai, wS_try, wpM_catF, wpM_revA, wpM_newD, wpM_itemE, wpM_itemT, wpM_hasE, wpM_get1, wpM_get2, wS_putE, wS_putT, and_self, if_true, if_false, Bool.false_eq_true, reduceIte, wS_setS, wS_seq, wS_if, wS_asg, wS_exS, wS_retS, wS_nxS, wS_nx, wS_ret, wpM_op2, wpM_op1, wpM_asT, wpM_trt, wpM_notT, wpM_andT, wpM_orT, wpM_andV, wpM_notE, wpM_ifE, wpM_lnil, wpM_lcons, wpM_tupE, wpM_lstF, wpM_frz, wpM_new, wpM_cal, wpM_calB, wpM_calF, wpM_isiE, wpM_vr, wpM_ct, wpM_meth, wpM_chn, wpM_cut, wpM_cutF, wpM_ono, wpM_osm, wpM_revT, wpM_lfE, wS_for, tgN, List.getElem?_cons_zero, List.getElem?_cons_succ, List.set_cons_zero, List.set_cons_succ, List.map_cons, List.map_nil, List.length_cons, List.length_nil, List.replicate_succ, List.replicate_zero, Nat.reduceAdd, Nat.reduceSub, List.cons_append, List.nil_append, tyL g0, tyL g1, len_at g0]
    have a0 : (0 : Int) < (left.length : Int) := by omega
    have a1 : (left.length : Int) < 1073741824 := by omega
    refine draw_wp hS1 a0 a1 ?_
    intro v S2 hS2 v0 v1
    obtain ⟨i, hvi⟩ := Int.eq_ofNat_of_zero_le v0
    have hi : i < left.length := by omega
    have g0' : S2[rest.length + 2]? = some (some (.lst left)) := hS2.getX (j := 0)
    have hS3 : PP (rest ++ [some (.lst (left.eraseIdx i)), some (.lst out)]) (S2.set (rest.length + 2) (some (.lst (left.eraseIdx i)))) := hS2.setX (j := 0)
    have g1' : (S2.set (rest.length + 2) (some (.lst (left.eraseIdx i))))[rest.length + 2 + 1]? = some (some (.lst out)) := hS3.getX (j := 1)
    simp only [popAt_at g0' hvi hi (by omega), mkR_eq, wpM_rg1, wpM_rg2, wpM_enumA, wpM_iof, wpM_lfS, wS_rai, wS_try, wpM_catF, wpM_revA, wpM_newD, wpM_itemE, wpM_itemT, wpM_hasE, wpM_get1, wpM_get2, wS_putE, wS_putT, and_self, if_true, if_false, Bool.false_eq_true, reduceIte, wS_setS, wS_seq, wS_if, wS_asg, wS_exS, wS_retS, wS_nxS, wS_nx, wS_ret, wpM_op2, wpM_op1, wpM_asT, wpM_trt, wpM_notT, wpM_andT, wpM_orT, wpM_andV, wpM_notE, wpM_ifE, wpM_lnil, wpM_lcons, wpM_tupE, wpM_lstF, wpM_frz, wpM_new, wpM_cal, wpM_calB, wpM_calF, wpM_isiE, wpM_vr, wpM_ct, wpM_meth, wpM_chn, wpM_cut, wpM_cutF, wpM_ono, wpM_osm, wpM_revT, wpM_lfE, wS_for, tgN, List.getElem?_cons_zero, List.getElem?_cons_succ, List.set_cons_zero, List.set_cons_succ, List.map_cons, List.map_nil, List.length_cons, List.length_nil, List.replicate_succ, List.replicate_zero, Nat.reduceAdd, Nat.reduceSub, List.cons_append, List.nil_append, app_at g1' (Nat.lt_of_lt_of_le (show out.length < 1001 by omega) (le_sz rfl))]
    refine ⟨_, left.eraseIdx i, out ++ [left[i]], rfl, hS3.setX (j := 1), ?_, ?_, fun d hd => q1 d (List.mem_of_mem_eraseIdx hd), fun d hd => ?_⟩
    · rw [List.length_eraseIdx_of_lt hi]; omega
    · simp [ho]
    · rcases List.mem_append.mp hd with hd | hd
      · exact q2 d hd
      · rw [List.mem_singleton.mp hd]; exact q1 _ (List.getElem_mem hi)
  · rintro env S1 ⟨t, left, out, rfl, hS1, hl, ho, q1, q2⟩
    refine ⟨okSrc_nil, ?_⟩
    rw [rgL_len, Nat.zero_add] at hl ho
    have g1 : S1[rest.length + 2 + 1]? = some (some (.lst out)) := hS1.getX (j := 1)
    simp only [mkR_eq, wpM_rg1, wpM_rg2, wpM_enumA, wpM_iof, wpM_lfS, wS_rai, wS_try, wpM_catF, wpM_revA, wpM_newD, wpM_itemE, wpM_itemT, wpM_hasE, wpM_get1, wpM_get2, wS_putE, wS_putT, and_self, if_true, if_false, Bool.false_eq_true, reduceIte, wS_setS, wS_seq, wS_if, wS_asg, wS_exS, wS_retS, wS_nxS, wS_nx, wS_ret, wpM_op2, wpM_op1, wpM_asT, wpM_trt, wpM_notT, wpM_andT, wpM_orT, wpM_andV, wpM_notE, wpM_ifE, wpM_lnil, wpM_lcons, wpM_tupE, wpM_lstF, wpM_frz, wpM_new, wpM_cal, wpM_calB, wpM_calF, wpM_isiE, wpM_vr, wpM_ct, wpM_meth, wpM_chn, wpM_cut, wpM_cutF, wpM_ono, wpM_osm, wpM_revT, wpM_lfE, wS_for, tgN, List.getElem?_cons_zero, List.getElem?_cons_succ, List.set_cons_zero, List.set_cons_succ, List.map_cons, List.map_nil, List.length_cons, List.length_nil, List.replicate_succ, List.replicate_zero, Nat.reduceAdd, Nat.reduceSub, List.cons_append, List.nil_append]
    rw [scope_ref (by omega) g1 (pureL_mem fun d hd => by
      obtain ⟨c, _, rfl⟩ := sgns_mem (q2 d hd); rfl), wpM_ok]
    exact k out _ (hS.trunc (hS1.setX (j := 1))) (by omega) q2
/-- n small letters -/
structure LOk (n : Nat) (L : Str) : Prop where
  len : L.length = n
  az : ∀ c ∈ L.cps.toList, c ∈ az.cps.toList
theorem az_len : az.length = 26 := by decide +kernel
theorem az_lt : ∀ c ∈ az.cps.toList, 97 ≤ c ∧ c < 123 := by decide +kernel
theorem LOk.fs {n : Nat} (h : LOk n L) : FS n L := ⟨Nat.le_of_eq h.len, strOk_iff.mpr fun c hc => by have := az_lt c (h.az c hc); omega⟩
theorem letters_wp {many : Int} {n : Nat} (hS : PP rest S) (hn : many = (n : Int)) (h26 : n ≤ 26) (k : ∀ L S', PP rest S' → LOk n L → Q (.str L) S') : wpM (M__law_letters [.ref 1, .int many] S) Q E := by
  subst hn
  unfold M__law_letters
  refine wpM_fn ?_
  unfold m__law_letters
  simp only [mkR_eq, wpM_rg1, wpM_rg2, wpM_enumA, wpM_iof, wpM_lfS, wS_rai, wS_try, wpM_catF, wpM_revA, wpM_newD, wpM_itemE, wpM_itemT, wpM_hasE, wpM_get1, wpM_get2, wS_putE, wS_putT, and_self, if_true, if_false, Bool.false_eq_true, reduceIte, wS_setS, wS_seq, wS_if, wS_asg, wS_exS, wS_retS, wS_nxS, wS_nx, wS_ret, wpM_op2, wpM_op1, wpM_asT, wpM_trt, wpM_notT, wpM_andT, wpM_orT, wpM_andV, wpM_notE, wpM_ifE, wpM_lnil, wpM_lcons, wpM_tupE, wpM_lstF, wpM_frz, wpM_new, wpM_cal, wpM_calB, wpM_calF, wpM_isiE, wpM_vr, wpM_ct, wpM_meth, wpM_chn, wpM_cut, wpM_cutF, wpM_ono, wpM_osm, wpM_revT, wpM_lfE, wS_for, tgN, List.getElem?_cons_zero, List.getElem?_cons_succ, List.set_cons_zero, List.set_cons_succ, List.map_cons, List.map_nil, List.length_cons, List.length_nil, List.replicate_succ, List.replicate_zero, Nat.reduceAdd, Nat.reduceSub, List.cons_append, List.nil_append, show Str.ofString "abcdefghijklmnopqrstuvwxyz" = az from rfl]
  rw [if_pos (show tyD "str" _ _ = true from rfl)]
  refine shuf_wp hS (by rw [az_len]; omega) ?_
  intro out S1 hS1 hl hm
  rw [az_len] at hl
  have hcut : cutL out none (some (n : Int)) = out.take n := by
    unfold cutL
    rw [HT.sIx_none, HT.sIx_nat, Nat.min_eq_left (by omega)]
    simp
  simp only [mkR_eq, wpM_rg1, wpM_rg2, wpM_enumA, wpM_iof, wpM_lfS, wS_rai, wS_try, wpM_catF, wpM_revA, wpM_newD, wpM_itemE, wpM_itemT, wpM_hasE, wpM_get1, wpM_get2, wS_putE, wS_putT, and_self, if_true, if_false, Bool.false_eq_true, reduceIte, wS_setS, wS_seq, wS_if, wS_asg, wS_exS, wS_retS, wS_nxS, wS_nx, wS_ret, wpM_op2, wpM_op1, wpM_asT, wpM_trt, wpM_notT, wpM_andT, wpM_orT, wpM_andV, wpM_notE, wpM_ifE, wpM_lnil, wpM_lcons, wpM_tupE, wpM_lstF, wpM_frz, wpM_new, wpM_cal, wpM_calB, wpM_calF, wpM_isiE, wpM_vr, wpM_ct, wpM_meth, wpM_chn, wpM_cut, wpM_cutF, wpM_ono, wpM_osm, wpM_revT, wpM_lfE, wS_for, tgN, List.getElem?_cons_zero, List.getElem?_cons_succ, List.set_cons_zero, List.set_cons_succ, List.map_cons, List.map_nil, List.length_cons, List.length_nil, List.replicate_succ, List.replicate_zero, Nat.reduceAdd, Nat.reduceSub, List.cons_append, List.nil_append, lstOf, Option.map_some, hcut]
  have hsg : ∀ d ∈ out.take n, ∃ c, d = .str ⟨#[c]⟩ := fun d hd => by
    obtain ⟨c, _, e⟩ := sgns_mem (hm d (List.mem_of_mem_take hd)); exact ⟨c, e⟩
  obtain ⟨ys, hy, _⟩ := strs_of_mem hsg
  rw [sorted_strs hy]
  simp only [mkR_eq, wpM_rg1, wpM_rg2, wpM_enumA, wpM_iof, wpM_lfS, wS_rai, wS_try, wpM_catF, wpM_revA, wpM_newD, wpM_itemE, wpM_itemT, wpM_hasE, wpM_get1, wpM_get2, wS_putE, wS_putT, and_self, if_true, if_false, Bool.false_eq_true, reduceIte, wS_setS, wS_seq, wS_if, wS_asg, wS_exS, wS_retS, wS_nxS, wS_nx, wS_ret, wpM_op2, wpM_op1, wpM_asT, wpM_trt, wpM_notT, wpM_andT, wpM_orT, wpM_andV, wpM_notE, wpM_ifE, wpM_lnil, wpM_lcons, wpM_tupE, wpM_lstF, wpM_frz, wpM_new, wpM_cal, wpM_calB, wpM_calF, wpM_isiE, wpM_vr, wpM_ct, wpM_meth, wpM_chn, wpM_cut, wpM_cutF, wpM_ono, wpM_osm, wpM_revT, wpM_lfE, wS_for, tgN, List.getElem?_cons_zero, List.getElem?_cons_succ, List.set_cons_zero, List.set_cons_succ, List.map_cons, List.map_nil, List.length_cons, List.length_nil, List.replicate_succ, List.replicate_zero, Nat.reduceAdd, Nat.reduceSub, List.cons_append, List.nil_append]
  obtain ⟨z, e1, e2, e3⟩ := join_signs (S := S1) (x := .lst ((out.take n).mergeSort leD)) rfl (fun d hd => hsg d (List.mem_mergeSort.mp hd)) (by rw [List.length_mergeSort, List.length_take]; omega)
  rw [e1]
  simp only [mkR_eq, wpM_rg1, wpM_rg2, wpM_enumA, wpM_iof, wpM_lfS, wS_rai, wS_try, wpM_catF, wpM_revA, wpM_newD, wpM_itemE, wpM_itemT, wpM_hasE, wpM_get1, wpM_get2, wS_putE, wS_putT, and_self, if_true, if_false, Bool.false_eq_true, reduceIte, wS_setS, wS_seq, wS_if, wS_asg, wS_exS, wS_retS, wS_nxS, wS_nx, wS_ret, wpM_op2, wpM_op1, wpM_asT, wpM_trt, wpM_notT, wpM_andT, wpM_orT, wpM_andV, wpM_notE, wpM_ifE, wpM_lnil, wpM_lcons, wpM_tupE, wpM_lstF, wpM_frz, wpM_new, wpM_cal, wpM_calB, wpM_calF, wpM_isiE, wpM_vr, wpM_ct, wpM_meth, wpM_chn, wpM_cut, wpM_cutF, wpM_ono, wpM_osm, wpM_revT, wpM_lfE, wS_for, tgN, List.getElem?_cons_zero, List.getElem?_cons_succ, List.set_cons_zero, List.set_cons_succ, List.map_cons, List.map_nil, List.length_cons, List.length_nil, List.replicate_succ, List.replicate_zero, Nat.reduceAdd, Nat.reduceSub, List.cons_append, List.nil_append]
  rw [scope_str, wpM_ok]
  refine k z _ (hS.trunc0 hS1) ⟨by rw [e2, List.length_mergeSort, List.length_take]; omega, fun c hc => ?_⟩
  obtain ⟨c', h1, h2⟩ := sgns_mem (hm _ (List.mem_of_mem_take (List.mem_mergeSort.mp (e3 c hc))))
  cases h2
  exact h1
/-- a text of the letters -/
structure TOk (n : Nat) (L z : Str) : Prop where
  len : z.length ≤ n
  mem : ∀ c ∈ z.cps.toList, c ∈ L.cps.toList
theorem TOk.fs {n m : Nat} {z : Str} (h : LOk m L) (t : TOk n L z) : FS n z := ⟨t.len, strOk_iff.mpr fun c hc => strOk_iff.mp h.fs.ok c (t.mem c hc)⟩
theorem letter_at {j : Nat} (hl : L.length ≤ 16777216) (hj : j < L.length) : ∃ c, c ∈ L.cps.toList ∧ ∀ S, o_ix S (.str L) (.int (j : Int)) = some (.str ⟨#[c]⟩) := by
  have hj' : j < L.cps.toList.length := hj
  refine ⟨L.cps.toList[j], List.getElem_mem hj', fun S => str_at (z := L) ?_ hl⟩
  rw [← Array.getElem?_toList, List.getElem?_eq_getElem hj']
theorem text_wp {most : Int} {n m : Nat} (hS : PP rest S) (hL : LOk m L) (hm0 : 0 < m) (hm1 : m ≤ 1000) (hn : most = (n : Int)) (hn1 : n ≤ 1000) (k : ∀ z S', PP rest S' → TOk n L z → Q (.str z) S') : wpM (M__law_text [.ref 1, .str L, .int most] S) Q E := by
  subst hn
  have hll := hL.len
  unfold M__law_text
  refine wpM_fn ?_
  unfold m__law_text
  simp only [mkR_eq, wpM_rg1, wpM_rg2, wpM_enumA, wpM_iof, wpM_lfS, wS_rai, wS_try, wpM_catF, wpM_revA, wpM_newD, wpM_itemE, wpM_itemT, wpM_hasE, wpM_get1, wpM_get2, wS_putE, wS_putT, and_self, if_true, if_false, Bool.false_eq_true, reduceIte, wS_setS, wS_seq, wS_if, wS_asg, wS_exS, wS_retS, wS_nxS, wS_nx, wS_ret, wpM_op2, wpM_op1, wpM_asT, wpM_trt, wpM_notT, wpM_andT, wpM_orT, wpM_andV, wpM_notE, wpM_ifE, wpM_lnil, wpM_lcons, wpM_tupE, wpM_lstF, wpM_frz, wpM_new, wpM_cal, wpM_calB, wpM_calF, wpM_isiE, wpM_vr, wpM_ct, wpM_meth, wpM_chn, wpM_cut, wpM_cutF, wpM_ono, wpM_osm, wpM_revT, wpM_lfE, wS_for, tgN, List.getElem?_cons_zero, List.getElem?_cons_succ, List.set_cons_zero, List.set_cons_succ, List.map_cons, List.map_nil, List.length_cons, List.length_nil, List.replicate_succ, List.replicate_zero, Nat.reduceAdd, Nat.reduceSub, List.cons_append, List.nil_append]
  refine comp_pool (A := fun all => all.length ≤ n) (R := fun d => ∃ c, c ∈ L.cps.toList ∧ d = .str ⟨#[c]⟩) (rest := rest) ?_ ?_ ?_
  · simp only [mkR_eq, wpM_rg1, wpM_rg2, wpM_enumA, wpM_iof, wpM_lfS, wS_rai, wS_try, wpM_catF, wpM_revA, wpM_newD, wpM_itemE, wpM_itemT, wpM_hasE, wpM_get1, wpM_get2, wS_putE, wS_putT, and_self, if_true, if_false, Bool.false_eq_true, reduceIte, wS_setS, wS_seq, wS_if, wS_asg, wS_exS, wS_retS, wS_nxS, wS_nx, wS_ret, wpM_op2, wpM_op1, wpM_asT, wpM_trt, wpM_notT, wpM_andT, wpM_orT, wpM_andV, wpM_notE, wpM_ifE, wpM_lnil, wpM_lcons, wpM_tupE, wpM_lstF, wpM_frz, wpM_new, wpM_cal, wpM_calB, wpM_calF, wpM_isiE, wpM_vr, wpM_ct, wpM_meth, wpM_chn, wpM_cut, wpM_cutF, wpM_ono, wpM_osm, wpM_revT, wpM_lfE, wS_for, tgN, List.getElem?_cons_zero, List.getElem?_cons_succ, List.set_cons_zero, List.set_cons_succ, List.map_cons, List.map_nil, List.length_cons, List.length_nil, List.replicate_succ, List.replicate_zero, Nat.reduceAdd, Nat.reduceSub, List.cons_append, List.nil_append, add_int]
    refine draw_wp hS (by omega) (by omega) ?_
    intro v S1 hS1 v0 v1
    obtain ⟨i, rfl⟩ := Int.eq_ofNat_of_zero_le v0
    simp only [mkR_eq, wpM_rg1, wpM_rg2, wpM_enumA, wpM_iof, wpM_lfS, wS_rai, wS_try, wpM_catF, wpM_revA, wpM_newD, wpM_itemE, wpM_itemT, wpM_hasE, wpM_get1, wpM_get2, wS_putE, wS_putT, and_self, if_true, if_false, Bool.false_eq_true, reduceIte, wS_setS, wS_seq, wS_if, wS_asg, wS_exS, wS_retS, wS_nxS, wS_nx, wS_ret, wpM_op2, wpM_op1, wpM_asT, wpM_trt, wpM_notT, wpM_andT, wpM_orT, wpM_andV, wpM_notE, wpM_ifE, wpM_lnil, wpM_lcons, wpM_tupE, wpM_lstF, wpM_frz, wpM_new, wpM_cal, wpM_calB, wpM_calF, wpM_isiE, wpM_vr, wpM_ct, wpM_meth, wpM_chn, wpM_cut, wpM_cutF, wpM_ono, wpM_osm, wpM_revT, wpM_lfE, wS_for, tgN, List.getElem?_cons_zero, List.getElem?_cons_succ, List.set_cons_zero, List.set_cons_succ, List.map_cons, List.map_nil, List.length_cons, List.length_nil, List.replicate_succ, List.replicate_zero, Nat.reduceAdd, Nat.reduceSub, List.cons_append, List.nil_append]
    refine ⟨rgOk_nat (by omega), ?_⟩
    exact ⟨by trivial, hS1, by rw [rgL_len]; omega, by rw [rgL_len]; omega⟩
  · intro all hA d hd X S1 hS1
    refine ⟨_, rfl, ?_⟩
    simp only [mkR_eq, wpM_rg1, wpM_rg2, wpM_enumA, wpM_iof, wpM_lfS, wS_rai, wS_try, wpM_catF, wpM_revA, wpM_newD, wpM_itemE, wpM_itemT, wpM_hasE, wpM_get1, wpM_get2, wS_putE, wS_putT, and_self, if_true, if_false, Bool.false_eq_true, reduceIte, wS_setS, wS_seq, wS_if, wS_asg, wS_exS, wS_retS, wS_nxS, wS_nx, wS_ret, wpM_op2, wpM_op1, wpM_asT, wpM_trt, wpM_notT, wpM_andT, wpM_orT, wpM_andV, wpM_notE, wpM_ifE, wpM_lnil, wpM_lcons, wpM_tupE, wpM_lstF, wpM_frz, wpM_new, wpM_cal, wpM_calB, wpM_calF, wpM_isiE, wpM_vr, wpM_ct, wpM_meth, wpM_chn, wpM_cut, wpM_cutF, wpM_ono, wpM_osm, wpM_revT, wpM_lfE, wS_for, tgN, List.getElem?_cons_zero, List.getElem?_cons_succ, List.set_cons_zero, List.set_cons_succ, List.map_cons, List.map_nil, List.length_cons, List.length_nil, List.replicate_succ, List.replicate_zero, Nat.reduceAdd, Nat.reduceSub, List.cons_append, List.nil_append, wipeE, len_str (show L.length ≤ 16777216 by omega)]
    refine draw_wp hS1 (by omega) (by omega) ?_
    intro v S2 hS2 v0 v1
    obtain ⟨i, rfl⟩ := Int.eq_ofNat_of_zero_le v0
    obtain ⟨c, hc, e⟩ := letter_at (L := L) (j := i) (by omega) (by omega)
    simp only [e, mkR_eq, wpM_rg1, wpM_rg2, wpM_enumA, wpM_iof, wpM_lfS, wS_rai, wS_try, wpM_catF, wpM_revA, wpM_newD, wpM_itemE, wpM_itemT, wpM_hasE, wpM_get1, wpM_get2, wS_putE, wS_putT, and_self, if_true, if_false, Bool.false_eq_true, reduceIte, wS_setS, wS_seq, wS_if, wS_asg, wS_exS, wS_retS, wS_nxS, wS_nx, wS_ret, wpM_op2, wpM_op1, wpM_asT, wpM_trt, wpM_notT, wpM_andT, wpM_orT, wpM_andV, wpM_notE, wpM_ifE, wpM_lnil, wpM_lcons, wpM_tupE, wpM_lstF, wpM_frz, wpM_new, wpM_cal, wpM_calB, wpM_calF, wpM_isiE, wpM_vr, wpM_ct, wpM_meth, wpM_chn, wpM_cut, wpM_cutF, wpM_ono, wpM_osm, wpM_revT, wpM_lfE, wS_for, tgN, List.getElem?_cons_zero, List.getElem?_cons_succ, List.set_cons_zero, List.set_cons_succ, List.map_cons, List.map_nil, List.length_cons, List.length_nil, List.replicate_succ, List.replicate_zero, Nat.reduceAdd, Nat.reduceSub, List.cons_append, List.nil_append]
    exact ⟨⟨c, hc, rfl⟩, rfl, hS2⟩
  · intro all acc S1 hA hS1 hl hR
    obtain ⟨z, e1, e2, e3⟩ := join_signs (S := S1) (x := .lst acc) rfl (fun d hd => by obtain ⟨c, _, e⟩ := hR d hd; exact ⟨c, e⟩) (by omega)
    rw [if_pos (show tyD "str" _ _ = true from rfl), e1]
    simp only [mkR_eq, wpM_rg1, wpM_rg2, wpM_enumA, wpM_iof, wpM_lfS, wS_rai, wS_try, wpM_catF, wpM_revA, wpM_newD, wpM_itemE, wpM_itemT, wpM_hasE, wpM_get1, wpM_get2, wS_putE, wS_putT, and_self, if_true, if_false, Bool.false_eq_true, reduceIte, wS_setS, wS_seq, wS_if, wS_asg, wS_exS, wS_retS, wS_nxS, wS_nx, wS_ret, wpM_op2, wpM_op1, wpM_asT, wpM_trt, wpM_notT, wpM_andT, wpM_orT, wpM_andV, wpM_notE, wpM_ifE, wpM_lnil, wpM_lcons, wpM_tupE, wpM_lstF, wpM_frz, wpM_new, wpM_cal, wpM_calB, wpM_calF, wpM_isiE, wpM_vr, wpM_ct, wpM_meth, wpM_chn, wpM_cut, wpM_cutF, wpM_ono, wpM_osm, wpM_revT, wpM_lfE, wS_for, tgN, List.getElem?_cons_zero, List.getElem?_cons_succ, List.set_cons_zero, List.set_cons_succ, List.map_cons, List.map_nil, List.length_cons, List.length_nil, List.replicate_succ, List.replicate_zero, Nat.reduceAdd, Nat.reduceSub, List.cons_append, List.nil_append]
    rw [scope_str, wpM_ok]
    refine k z _ (hS.trunc0 hS1) ⟨by omega, fun c hc => ?_⟩
    obtain ⟨c', h1, h2⟩ := hR _ (e3 c hc)
    cases h2
    exact h1
end
end Z

end
section
set_option Elab.async false
set_option linter.all false
set_option maxRecDepth 100000
set_option maxHeartbeats 4000000
set_option autoImplicit false
namespace Z
open PySem PySem.Spec L2 Y PySem.W
section
variable {rest S : Sto} {Q : D → Sto → Prop} {E : Str → List (Str × D) → Sto → Prop} {L : Str} {env : En} {m : EM} {P : D → Prop}
theorem J_draw {n : Int} (h0 : env[0]? = some (some (.ref 1))) (hm : J (PP rest) env m (fun d => d = .int n)) (h1 : 0 < n) (h2 : n < 1073741824) : J (PP rest) env (cal M__law_draw (lcons (vr 0) (lcons m lnil))) (IsI 0 (n - 1)) := fun S hS => by
  simp only [wpM_cal, wpM_lcons, wpM_lnil, wpM_vr, h0]
  refine wpM_mono' (hm S hS) ?_
  rintro d S1 ⟨rfl, hS1⟩
  refine draw_wp hS1 h1 h2 ?_
  intro v S2 hS2 v0 v1
  exact ⟨⟨v, rfl, v0, by omega⟩, hS2⟩
theorem J_lenS {I : Sto → Prop} {i : Nat} {z : Str} (h : env[i]? = some (some (.str z))) (hz : z.length ≤ 1000000) : J I env (calB o_len (lcons (vr i) lnil)) (fun d => d = .int z.length) := fun S hS => by
  simp only [wpM_calB, wpM_lcons, wpM_lnil, wpM_vr, h, len_str (show z.length ≤ 16777216 by omega), wpM_lfS]
  exact ⟨by trivial, hS⟩
theorem J_lenL {I : Sto → Prop} {i : Nat} {ds : List D} (h : env[i]? = some (some (.lst ds))) : J I env (calB o_len (lcons (vr i) lnil)) (fun d => d = .int ds.length) := fun S hS => by
  simp only [wpM_calB, wpM_lcons, wpM_lnil, wpM_vr, h, len_lst, wpM_lfS]
  exact ⟨by trivial, hS⟩
/-- one of a list, drawn -/
theorem J_pickF {I : Sto → Prop} {n : Int} {l : LM} {k : Nat} (hl : JL I env l (fun ds => fdL ds = true ∧ ds.length = k)) (hk : k ≤ 1000) (hm : J I env m (IsI 0 n)) (hn : n < k) : J I env (op2 o_ix (frz (lstF l)) m) Fd := by
  refine J_op2 (A := fun d => ∃ ds, d = .lst ds ∧ fdL ds = true ∧ ds.length = k) (fun S hS => ?_) hm fun S x y ⟨ds, e1, p, q⟩ ⟨v, e2, v0, v1⟩ => ?_
  · rw [wpM_frz, wpM_lstF]
    refine wpM_mono' (hl S hS) ?_
    rintro ds S1 ⟨⟨h1, h2⟩, h3⟩
    rw [if_pos (le_szL (by omega))]
    exact ⟨⟨ds, rfl, h1, h2⟩, h3⟩
  · subst e1 e2
    obtain ⟨d, hd, e⟩ := ix_lst (ds := ds) v0 (by omega)
    exact ⟨d, e S, fdL_mem.mp p d hd⟩
theorem J_pickS {I : Sto → Prop} {n : Int} {l : LM} {k : Nat} (hl : JL I env l (fun ds => (∀ d ∈ ds, IsS 1 d) ∧ ds.length = k)) (hk : k ≤ 1000) (hm : J I env m (IsI 0 n)) (hn : n < k) : J I env (op2 o_ix (frz (lstF l)) m) (IsS 1) := by
  refine J_op2 (A := fun d => ∃ ds, d = .lst ds ∧ (∀ d ∈ ds, IsS 1 d) ∧ ds.length = k) (fun S hS => ?_) hm fun S x y ⟨ds, e1, p, q⟩ ⟨v, e2, v0, v1⟩ => ?_
  · rw [wpM_frz, wpM_lstF]
    refine wpM_mono' (hl S hS) ?_
    rintro ds S1 ⟨⟨h1, h2⟩, h3⟩
    rw [if_pos (le_szL (by omega))]
    exact ⟨⟨ds, rfl, h1, h2⟩, h3⟩
  · subst e1 e2
    obtain ⟨d, hd, e⟩ := ix_lst (ds := ds) v0 (by omega)
    exact ⟨d, e S, p d hd⟩
theorem S1_nil {I : Sto → Prop} : JL I env lnil (fun ds => (∀ d ∈ ds, IsS 1 d) ∧ ds.length = 0) := JL_nil ⟨fun d hd => (nomatch hd), rfl⟩
theorem S1_cons {I : Sto → Prop} {l : LM} {k : Nat} (ha : J I env m (IsS 1)) (hr : JL I env l (fun ds => (∀ d ∈ ds, IsS 1 d) ∧ ds.length = k)) : JL I env (lcons m l) (fun ds => (∀ d ∈ ds, IsS 1 d) ∧ ds.length = k + 1) := JL_cons ha hr fun x xs hx hr => ⟨fun d hd => by
  rcases List.mem_cons.mp hd with e | hd
  · rw [e]; exact hx
  · exact hr.1 d hd, by rw [List.length_cons, hr.2]⟩
theorem FE_nil {I : Sto → Prop} : JL I env lnil (fun ds => fdL ds = true ∧ ds.length = 0) := JL_nil ⟨rfl, rfl⟩
theorem FE_cons {I : Sto → Prop} {l : LM} {k : Nat} (ha : J I env m Fd) (hr : JL I env l (fun ds => fdL ds = true ∧ ds.length = k)) : JL I env (lcons m l) (fun ds => fdL ds = true ∧ ds.length = k + 1) := JL_cons ha hr fun x xs hx hr => ⟨by rw [fdL_cons, show fd x = true from hx, hr.1]; rfl, by rw [List.length_cons, hr.2]⟩
theorem Fd_of {I : Sto → Prop} {d : D} {n : Nat} (h : n ≤ 1000000) (hd : IsS n d) : ∃ z, d = .str z ∧ FS n z := hd
/-- a sign of a text, at a place -/
theorem ixS_at {n : Nat} {v : Int} (hz : FS n L) (hn : n ≤ 1000000) (h0 : 0 ≤ v) (h1 : v < (L.length : Int)) : ∃ c, c ∈ L.cps.toList ∧ FS 1 ⟨#[c]⟩ ∧ ∀ S, o_ix S (.str L) (.int v) = some (.str ⟨#[c]⟩) := by
  obtain ⟨i, rfl⟩ := Int.eq_ofNat_of_zero_le h0
  obtain ⟨c, hc, e⟩ := letter_at (L := L) (j := i) (Nat.le_trans hz.len (by omega)) (by omega)
  exact ⟨c, hc, FS.one (strOk_iff.mp hz.ok c hc), e⟩
theorem ixS_neg {n : Nat} (hz : FS n L) (hn : n ≤ 1000000) (h1 : 0 < L.length) : ∃ c, c ∈ L.cps.toList ∧ FS 1 ⟨#[c]⟩ ∧ ∀ S, o_ix S (.str L) (.int (-1)) = some (.str ⟨#[c]⟩) := by
  have hl := hz.len
  have hj : L.length - 1 < L.cps.toList.length := by rw [← len_eq]; omega
  refine ⟨L.cps.toList[L.length - 1], List.getElem_mem hj, FS.one (strOk_iff.mp hz.ok _ (List.getElem_mem hj)), fun S => ?_⟩
  have e : atI L.cps.toList (-1) = some L.cps.toList[L.length - 1] := by
    have hs : ixN L.cps.toList.length (-1) = some (L.length - 1) := by
      unfold ixN
      rw [← len_eq]
      simp
      omega
    unfold atI
    rw [hs]
    exact List.getElem?_eq_getElem hj
  simp only [o_ix]
  rw [if_pos (le_szL (by omega)), e]; rfl
theorem odd_wp {z : Str} {n : Nat} (hS : PP rest S) (hz : FS n z) (hn : n ≤ 1000) (k : ∀ ds S', PP rest S' → fdL ds = true → ds.length ≤ 11 → Q (.lst ds) S') : wpM (M__law_odd_things [.ref 1, .str z] S) Q E := by
  unfold M__law_odd_things
  refine wpM_fn ?_
  unfold m__law_odd_things
  have hl := hz.len
  refine asg_J (P := Fd) (I := PP rest) ?_ hS ?_
  · refine J_pickF (k := 5) (n := 5 - 1) ?_ (by decide) (J_draw rfl (J_ct rfl) (by decide) (by decide)) (by decide)
    refine FE_cons (J_ct rfl) (FE_cons (J_ct rfl) (FE_cons (Fd_int (JI_neg JI_ct)) (FE_cons ?_ (FE_cons (J_ct rfl) FE_nil))))
    exact J_op2 (J_ct (P := fun d => d = .int 10) rfl) (J_ct (P := fun d => d = .int 59) rfl) fun S x y e1 e2 => by
      subst e1 e2
      exact ⟨.int (10 ^ (59 : Int).toNat), by simp only [o_pow]; rw [if_pos (by decide)], rfl⟩
  · intro d S1 hd hS1
    simp only [mkR_eq, wpM_rg1, wpM_rg2, wpM_enumA, wpM_iof, wpM_lfS, wS_rai, wS_try, wpM_catF, wpM_revA, wpM_newD, wpM_itemE, wpM_itemT, wpM_hasE, wpM_get1, wpM_get2, wS_putE, wS_putT, and_self, if_true, if_false, Bool.false_eq_true, reduceIte, wS_setS, wS_seq, wS_if, wS_asg, wS_exS, wS_retS, wS_nxS, wS_nx, wS_ret, wpM_op2, wpM_op1, wpM_asT, wpM_trt, wpM_notT, wpM_andT, wpM_orT, wpM_andV, wpM_notE, wpM_ifE, wpM_lnil, wpM_lcons, wpM_tupE, wpM_lstF, wpM_frz, wpM_new, wpM_cal, wpM_calB, wpM_calF, wpM_isiE, wpM_vr, wpM_ct, wpM_meth, wpM_chn, wpM_cut, wpM_cutF, wpM_ono, wpM_osm, wpM_revT, wpM_lfE, wS_for, tgN, List.getElem?_cons_zero, List.getElem?_cons_succ, List.set_cons_zero, List.set_cons_succ, List.map_cons, List.map_nil, List.length_cons, List.length_nil, List.replicate_succ, List.replicate_zero, Nat.reduceAdd, Nat.reduceSub, List.cons_append, List.nil_append, listA_str (le_szL (show z.cps.size ≤ 16777216 from Nat.le_trans hl (by omega))), o_tupleA, if_pos (le_szL (show z.cps.size ≤ 16777216 from Nat.le_trans hl (by omega))), le_sz (n := 0) rfl, le_sz (n := 1) rfl, le_sz (n := 2) rfl, le_sz (n := 11) rfl]
    have e : fdL [.non, .bl true, .bl false, d, .tup [], .lst [], .lst (sgns z), .tup (sgns z), .tup [.str z], .lst [.str z], .tup [.str z, .str z]] = true := by
      simp only [fdL_cons, fdL_nil, fd_tup, fd_lst, fd_str, fd_non, fd_bl, hz.okS (show n ≤ 1000000 by omega), sgns_fd hz.ok, show fd d = true from hd, Bool.and_self]
    rw [scope_pure (show (D.lst _).pure = true from fdL_pure e), wpM_ok]
    exact k _ _ (hS.trunc0 hS1) e (Nat.le_refl 11)
end
end Z

end
section
set_option Elab.async false
set_option linter.all false
set_option maxRecDepth 100000
set_option maxHeartbeats 4000000
set_option autoImplicit false
namespace Z
open PySem PySem.Spec L2 Y PySem.W
section
variable {rest S : Sto} {Q : D → Sto → Prop} {E : Str → List (Str × D) → Sto → Prop} {L : Str}
theorem J_letters {env : En} {m : EM} {x y : Int} (h0 : env[0]? = some (some (.ref 1))) (hm : J (PP rest) env m (IsI x y)) (h1 : 0 ≤ x) (h2 : y ≤ 26) : J (PP rest) env (cal M__law_letters (lcons (vr 0) (lcons m lnil))) (fun d => ∃ L n, d = .str L ∧ LOk n L ∧ x.toNat ≤ n ∧ n ≤ y.toNat) := fun S hS => by
  simp only [mkR_eq, wpM_cal, wpM_lcons, wpM_lnil, wpM_vr, h0]
  refine wpM_mono' (hm S hS) ?_
  rintro d S1 ⟨⟨v, rfl, v0, v1⟩, hS1⟩
  obtain ⟨n, rfl⟩ := Int.eq_ofNat_of_zero_le (show 0 ≤ v by omega)
  refine letters_wp hS1 rfl (by omega) ?_
  intro L S2 hS2 hL
  exact ⟨⟨L, n, rfl, hL, by omega, by omega⟩, hS2⟩
/-- things + odd + [one], each checked -/
theorem J_odd {env : En} {i : Nat} {z : Str} {n : Nat} (h0 : env[0]? = some (some (.ref 1))) (hi : env[i]? = some (some (.str z))) (hz : FS n z) (hn : n ≤ 1000) : J (PP rest) env (cal M__law_odd_things (lcons (vr 0) (lcons (vr i) lnil))) (FdL 11) := fun S hS => by
  simp only [wpM_cal, wpM_lcons, wpM_lnil, wpM_vr, h0, hi]
  exact odd_wp hS hz hn fun ds S1 hS1 h1 h2 => ⟨⟨ds, rfl, h1, h2⟩, hS1⟩
theorem loop_agree {all : List D} {j : Nat} {due tld : EM} {env : En} {K : SK} (hS : PP rest S) (hall : fdL all = true) (hj : j < env.length)
    (hb : ∀ x, fd x = true → ∀ S, ∃ r, tld (env.set j (some x)) S = .ok r S ∧ due (env.set j (some x)) S = .ok r S ∧ M__law_same [r, r] S = .ok (.bl true) S)
    (hd : ∀ (e : Option D) x, (env.set j e).set j (some x) = env.set j (some x))
    (k : ∀ e, K.nx (env.set j e) S) :
    wS (loop [] (tgN j) (ifS (notT (trt (cal M__law_same (lcons tld (lcons due lnil))))) (retS (ct (.bl false))) nxS) all env S) K := by
  have he : env = env.set j (env[j]?.getD none) := by
    apply List.ext_getElem?
    intro i
    by_cases h : j = i
    · subst h
      rw [List.getElem?_set_self hj, List.getElem?_eq_getElem hj]; rfl
    · rw [List.getElem?_set_ne h]
  refine wS_loop (fun i e S' => S' = S ∧ ∃ x, e = env.set j x) _ 0 _ _ ⟨rfl, _, he⟩ ?_ ?_
  · rintro i d e S' hi ⟨rfl, x, rfl⟩
    refine ⟨okSrc_nil, _, rfl, ?_⟩
    rw [hd]
    obtain ⟨r, e1, e2, e3⟩ := hb d (fdL_mem.mp hall d (List.mem_of_getElem? hi)) S'
    simp only [mkR_eq, wpM_rg1, wpM_rg2, wpM_enumA, wpM_iof, wpM_lfS, wS_rai, wS_try, wpM_catF, wpM_revA, wpM_newD, wpM_itemE, wpM_itemT, wpM_hasE, wpM_get1, wpM_get2, wS_putE, wS_putT, and_self, if_true, if_false, Bool.false_eq_true, reduceIte, wS_setS, wS_seq, wS_if, wS_asg, wS_exS, wS_retS, wS_nxS, wS_nx, wS_ret, wpM_op2, wpM_op1, wpM_asT, wpM_trt, wpM_notT, wpM_andT, wpM_orT, wpM_andV, wpM_notE, wpM_ifE, wpM_lnil, wpM_lcons, wpM_tupE, wpM_lstF, wpM_frz, wpM_new, wpM_cal, wpM_calB, wpM_calF, wpM_isiE, wpM_vr, wpM_ct, wpM_meth, wpM_chn, wpM_cut, wpM_cutF, wpM_ono, wpM_osm, wpM_revT, wpM_lfE, wS_for, tgN, List.getElem?_cons_zero, List.getElem?_cons_succ, List.set_cons_zero, List.set_cons_succ, List.map_cons, List.map_nil, List.length_cons, List.length_nil, List.replicate_succ, List.replicate_zero, Nat.reduceAdd, Nat.reduceSub, List.cons_append, List.nil_append, e1, e2, e3, wpM_ok, tru, Bool.not_true]
    exact ⟨by trivial, _, rfl⟩
  · rintro e S' ⟨rfl, x, rfl⟩
    exact ⟨okSrc_nil, k x⟩
theorem forL_J {env : En} {m : EM} {tg : TgM} {body r : SM} {I : Sto → Prop} {n : Nat} {K : SK} (h : J I env m (FdL n)) (hS : I S) (k : ∀ ds S', fdL ds = true → I S' → wS (loop [] tg body ds env S') ⟨fun e S => wS (r e S) K, K.bk, K.ct, K.rt, K.ex⟩) : wS (seqS (forS (i_of m) tg body) r env S) K := by
  rw [wS_seq, wS_for, wpM_iof]
  refine h.use hS ?_
  rintro d S' ⟨ds, rfl, h1, h2⟩ hS'
  exact k ds S' h1 hS'
theorem J_shufjoin {env : En} {m : EM} {n : Nat} (h0 : env[0]? = some (some (.ref 1))) (hm : J (PP rest) env m (IsS n)) (hn : n ≤ 1000) : J (PP rest) env (meth "str" m_join (ct (.str (Str.ofString ""))) (lcons (cal M__law_shuffled (lcons (vr 0) (lcons m lnil))) lnil)) (IsS n) := fun S hS => by
  simp only [mkR_eq, wpM_meth, wpM_ct, wpM_cal, wpM_lcons, wpM_lnil, wpM_vr, h0]
  rw [if_pos (show tyD "str" _ _ = true from rfl)]
  refine wpM_mono' (hm S hS) ?_
  rintro d S1 ⟨⟨z, rfl, hz⟩, hS1⟩
  have hl := hz.len
  refine shuf_wp hS1 (by omega) ?_
  intro out S2 hS2 ho hm2
  obtain ⟨y, e1, e2, e3⟩ := join_signs (S := S2) (x := .lst out) rfl (fun d hd => by obtain ⟨c, _, e⟩ := sgns_mem (hm2 d hd); exact ⟨c, e⟩) (by omega)
  simp only [mkR_eq, wpM_lnil, e1]
  refine ⟨⟨y, rfl, by omega, strOk_iff.mpr fun c hc => ?_⟩, hS2⟩
  obtain ⟨c', h1, h2⟩ := sgns_mem (hm2 _ (e3 c hc))
  cases h2
  exact strOk_iff.mp hz.ok c h1
theorem FS.len_le {n : Nat} {z : Str} (h : FS n z) : z.length ≤ n := h.len
theorem lholds_wp (hS : PP rest S) (k : ∀ S', PP rest S' → Q (.bl true) S') : wpM (M__law_letters_holds [.ref 1] S) Q E := by
  unfold M__law_letters_holds
  refine wpM_fn ?_
  unfold m__law_letters_holds
  simp only [mkR_eq, List.map_cons, List.map_nil, List.length_cons, List.length_nil, Nat.reduceAdd, Nat.reduceSub, List.replicate_succ, List.replicate_zero, List.cons_append, List.nil_append]
  refine asg_J (P := fun d => ∃ L n, d = .str L ∧ LOk n L ∧ 1 ≤ n ∧ n ≤ 6) (I := PP rest) ?_ hS ?_
  · exact J_letters (x := 1 + 0) (y := 1 + (6 - 1)) rfl (JI_add JI_ct (J_draw rfl (J_ct rfl) (by decide) (by decide))) (by decide) (by decide)
  rintro d S2 ⟨L, n, rfl, hL, hn1, hn6⟩ hS2
  have hLl := hL.len
  have hL6 : FS 6 L := hL.fs.mono hn6
  dsimp only [List.set_cons_zero, List.set_cons_succ]
  refine asg_J (P := IsI 0 ((L.length : Int) - 1)) (I := PP rest) ?_ hS2 ?_
  · exact J_draw rfl (J_lenS rfl (by omega)) (by omega) (by omega)
  rintro d S3 ⟨at', rfl, a0, a1⟩ hS3
  dsimp only [List.set_cons_zero, List.set_cons_succ]
  refine asg_J (P := IsS 1) (I := PP rest) ?_ hS3 ?_
  · refine J_pickS (k := 10) (n := 10 - 1) ?_ (by decide) (J_draw rfl (J_ct rfl) (by decide) (by decide)) (by decide)
    obtain ⟨c0, _, f0, e0⟩ := ixS_at (v := 0) hL6 (by omega) (by omega) (by omega)
    obtain ⟨c1, _, f1, e1⟩ := ixS_neg hL6 (by omega) (by omega)
    obtain ⟨c2, _, f2, e2⟩ := ixS_at (v := at') hL6 (by omega) a0 (by omega)
    refine S1_cons (JS_ct (by decide)) (S1_cons (JS_ct (by decide)) (S1_cons (JS_ct (by decide)) (S1_cons (JS_ct (by decide)) (S1_cons (JS_ct (by decide)) (S1_cons (JS_ct (by decide)) (S1_cons ?_ (S1_cons ?_ (S1_cons ?_ (S1_cons (JS_ct (by decide)) S1_nil)))))))))
    · intro S hS; simp only [mkR_eq, wpM_rg1, wpM_rg2, wpM_enumA, wpM_iof, wpM_lfS, wS_rai, wS_try, wpM_catF, wpM_revA, wpM_newD, wpM_itemE, wpM_itemT, wpM_hasE, wpM_get1, wpM_get2, wS_putE, wS_putT, and_self, if_true, if_false, Bool.false_eq_true, reduceIte, wS_setS, wS_seq, wS_if, wS_asg, wS_exS, wS_retS, wS_nxS, wS_nx, wS_ret, wpM_op2, wpM_op1, wpM_asT, wpM_trt, wpM_notT, wpM_andT, wpM_orT, wpM_andV, wpM_notE, wpM_ifE, wpM_lnil, wpM_lcons, wpM_tupE, wpM_lstF, wpM_frz, wpM_new, wpM_cal, wpM_calB, wpM_calF, wpM_isiE, wpM_vr, wpM_ct, wpM_meth, wpM_chn, wpM_cut, wpM_cutF, wpM_ono, wpM_osm, wpM_revT, wpM_lfE, wS_for, tgN, List.getElem?_cons_zero, List.getElem?_cons_succ, List.set_cons_zero, List.set_cons_succ, List.map_cons, List.map_nil, List.length_cons, List.length_nil, List.replicate_succ, List.replicate_zero, Nat.reduceAdd, Nat.reduceSub, List.cons_append, List.nil_append, e0]; exact ⟨⟨_, rfl, f0⟩, hS⟩
    · intro S hS; simp only [mkR_eq, wpM_rg1, wpM_rg2, wpM_enumA, wpM_iof, wpM_lfS, wS_rai, wS_try, wpM_catF, wpM_revA, wpM_newD, wpM_itemE, wpM_itemT, wpM_hasE, wpM_get1, wpM_get2, wS_putE, wS_putT, and_self, if_true, if_false, Bool.false_eq_true, reduceIte, wS_setS, wS_seq, wS_if, wS_asg, wS_exS, wS_retS, wS_nxS, wS_nx, wS_ret, wpM_op2, wpM_op1, wpM_asT, wpM_trt, wpM_notT, wpM_andT, wpM_orT, wpM_andV, wpM_notE, wpM_ifE, wpM_lnil, wpM_lcons, wpM_tupE, wpM_lstF, wpM_frz, wpM_new, wpM_cal, wpM_calB, wpM_calF, wpM_isiE, wpM_vr, wpM_ct, wpM_meth, wpM_chn, wpM_cut, wpM_cutF, wpM_ono, wpM_osm, wpM_revT, wpM_lfE, wS_for, tgN, List.getElem?_cons_zero, List.getElem?_cons_succ, List.set_cons_zero, List.set_cons_succ, List.map_cons, List.map_nil, List.length_cons, List.length_nil, List.replicate_succ, List.replicate_zero, Nat.reduceAdd, Nat.reduceSub, List.cons_append, List.nil_append, neg_int, e1]; exact ⟨⟨_, rfl, f1⟩, hS⟩
    · intro S hS; simp only [mkR_eq, wpM_rg1, wpM_rg2, wpM_enumA, wpM_iof, wpM_lfS, wS_rai, wS_try, wpM_catF, wpM_revA, wpM_newD, wpM_itemE, wpM_itemT, wpM_hasE, wpM_get1, wpM_get2, wS_putE, wS_putT, and_self, if_true, if_false, Bool.false_eq_true, reduceIte, wS_setS, wS_seq, wS_if, wS_asg, wS_exS, wS_retS, wS_nxS, wS_nx, wS_ret, wpM_op2, wpM_op1, wpM_asT, wpM_trt, wpM_notT, wpM_andT, wpM_orT, wpM_andV, wpM_notE, wpM_ifE, wpM_lnil, wpM_lcons, wpM_tupE, wpM_lstF, wpM_frz, wpM_new, wpM_cal, wpM_calB, wpM_calF, wpM_isiE, wpM_vr, wpM_ct, wpM_meth, wpM_chn, wpM_cut, wpM_cutF, wpM_ono, wpM_osm, wpM_revT, wpM_lfE, wS_for, tgN, List.getElem?_cons_zero, List.getElem?_cons_succ, List.set_cons_zero, List.set_cons_succ, List.map_cons, List.map_nil, List.length_cons, List.length_nil, List.replicate_succ, List.replicate_zero, Nat.reduceAdd, Nat.reduceSub, List.cons_append, List.nil_append, e2]; exact ⟨⟨_, rfl, f2⟩, hS⟩
  rintro d S4 ⟨sg, rfl, hsg⟩ hS4
  dsimp only [List.set_cons_zero, List.set_cons_succ]
  refine asg_J (P := IsS 1) (I := PP rest) ?_ hS4 ?_
  · refine J_pickS (k := 5) (n := 5 - 1) ?_ (by decide) (J_draw rfl (J_ct rfl) (by decide) (by decide)) (by decide)
    exact S1_cons (JS_ct (by decide)) (S1_cons (JS_ct (by decide)) (S1_cons (JS_ct (by decide)) (S1_cons (JS_ct (by decide)) (S1_cons (JS_ct (by decide)) S1_nil))))
  rintro d S5 ⟨ot, rfl, hot⟩ hS5
  dsimp only [List.set_cons_zero, List.set_cons_succ]
  refine asg_J (P := FdL 6) (I := PP rest) ?_ hS5 ?_
  · (repeat' (first | exact FL_nil | apply FL_cons | exact JO_ono | apply JO_osm | apply JI_add | apply JI_sub | apply JI_neg | exact JI_ct | (apply JI_vr (by exact rfl) <;> omega) | exact JI_vr (by exact rfl) (Int.le_refl _) (Int.le_refl _) | apply JS_add | apply JS_cut | apply JS_rev | (refine JS_mul ?_ (by decide) (by decide) ?_) | apply JS_mul | (apply JS_vr (by exact rfl); assumption) | (apply JS_ct; exact Nat.le_refl _) | exact J_ct rfl | apply J_tupF | exact J_vr rfl (by assumption) | (apply Fd_lst; apply J_lstF) | apply J_lstF | apply J_cat | (apply Fd_int; first | exact JI_ct | apply JI_neg | (apply JI_vr (by exact rfl) (Int.le_refl _) (Int.le_refl _))) | apply Fd_str | decide))
  rintro d S6 ⟨t1, rfl, f1, l1⟩ hS6
  dsimp only [List.set_cons_zero, List.set_cons_succ]
  refine asg_J (P := FdL 14) (I := PP rest) ?_ hS6 ?_
  · refine J_cat (n := 6) (k := 8) (J_vr rfl ⟨_, rfl, f1, l1⟩) ?_ (by decide)
    (repeat' (first | exact FL_nil | apply FL_cons | exact JO_ono | apply JO_osm | apply JI_add | apply JI_sub | apply JI_neg | exact JI_ct | (apply JI_vr (by exact rfl) <;> omega) | exact JI_vr (by exact rfl) (Int.le_refl _) (Int.le_refl _) | apply JS_add | apply JS_cut | apply JS_rev | (refine JS_mul ?_ (by decide) (by decide) ?_) | apply JS_mul | (apply JS_vr (by exact rfl); assumption) | (apply JS_ct; exact Nat.le_refl _) | exact J_ct rfl | apply J_tupF | exact J_vr rfl (by assumption) | (apply Fd_lst; apply J_lstF) | apply J_lstF | apply J_cat | (apply Fd_int; first | exact JI_ct | apply JI_neg | (apply JI_vr (by exact rfl) (Int.le_refl _) (Int.le_refl _))) | apply Fd_str | decide))
  rintro d S7 ⟨t2, rfl, f2, l2⟩ hS7
  dsimp only [List.set_cons_zero, List.set_cons_succ]
  refine asg_J (P := FdL 18) (I := PP rest) ?_ hS7 ?_
  · refine J_cat (n := 14) (k := 4) (J_vr rfl ⟨_, rfl, f2, l2⟩) ?_ (by decide)
    refine J_lstF (FL_cons ?_ (FL_cons ?_ (FL_cons ?_ (FL_cons ?_ FL_nil)))) (by decide)
    · exact Fd_str (J_shufjoin (n := 6 + 1) rfl (by (repeat' (first | exact FL_nil | apply FL_cons | exact JO_ono | apply JO_osm | apply JI_add | apply JI_sub | apply JI_neg | exact JI_ct | (apply JI_vr (by exact rfl) <;> omega) | exact JI_vr (by exact rfl) (Int.le_refl _) (Int.le_refl _) | apply JS_add | apply JS_cut | apply JS_rev | (refine JS_mul ?_ (by decide) (by decide) ?_) | apply JS_mul | (apply JS_vr (by exact rfl); assumption) | (apply JS_ct; exact Nat.le_refl _) | exact J_ct rfl | apply J_tupF | exact J_vr rfl (by assumption) | (apply Fd_lst; apply J_lstF) | apply J_lstF | apply J_cat | (apply Fd_int; first | exact JI_ct | apply JI_neg | (apply JI_vr (by exact rfl) (Int.le_refl _) (Int.le_refl _))) | apply Fd_str | decide))) (by decide)) (by decide)
    · (repeat' (first | exact FL_nil | apply FL_cons | exact JO_ono | apply JO_osm | apply JI_add | apply JI_sub | apply JI_neg | exact JI_ct | (apply JI_vr (by exact rfl) <;> omega) | exact JI_vr (by exact rfl) (Int.le_refl _) (Int.le_refl _) | apply JS_add | apply JS_cut | apply JS_rev | (refine JS_mul ?_ (by decide) (by decide) ?_) | apply JS_mul | (apply JS_vr (by exact rfl); assumption) | (apply JS_ct; exact Nat.le_refl _) | exact J_ct rfl | apply J_tupF | exact J_vr rfl (by assumption) | (apply Fd_lst; apply J_lstF) | apply J_lstF | apply J_cat | (apply Fd_int; first | exact JI_ct | apply JI_neg | (apply JI_vr (by exact rfl) (Int.le_refl _) (Int.le_refl _))) | apply Fd_str | decide))
    · (repeat' (first | exact FL_nil | apply FL_cons | exact JO_ono | apply JO_osm | apply JI_add | apply JI_sub | apply JI_neg | exact JI_ct | (apply JI_vr (by exact rfl) <;> omega) | exact JI_vr (by exact rfl) (Int.le_refl _) (Int.le_refl _) | apply JS_add | apply JS_cut | apply JS_rev | (refine JS_mul ?_ (by decide) (by decide) ?_) | apply JS_mul | (apply JS_vr (by exact rfl); assumption) | (apply JS_ct; exact Nat.le_refl _) | exact J_ct rfl | apply J_tupF | exact J_vr rfl (by assumption) | (apply Fd_lst; apply J_lstF) | apply J_lstF | apply J_cat | (apply Fd_int; first | exact JI_ct | apply JI_neg | (apply JI_vr (by exact rfl) (Int.le_refl _) (Int.le_refl _))) | apply Fd_str | decide))
    · (repeat' (first | exact FL_nil | apply FL_cons | exact JO_ono | apply JO_osm | apply JI_add | apply JI_sub | apply JI_neg | exact JI_ct | (apply JI_vr (by exact rfl) <;> omega) | exact JI_vr (by exact rfl) (Int.le_refl _) (Int.le_refl _) | apply JS_add | apply JS_cut | apply JS_rev | (refine JS_mul ?_ (by decide) (by decide) ?_) | apply JS_mul | (apply JS_vr (by exact rfl); assumption) | (apply JS_ct; exact Nat.le_refl _) | exact J_ct rfl | apply J_tupF | exact J_vr rfl (by assumption) | (apply Fd_lst; apply J_lstF) | apply J_lstF | apply J_cat | (apply Fd_int; first | exact JI_ct | apply JI_neg | (apply JI_vr (by exact rfl) (Int.le_refl _) (Int.le_refl _))) | apply Fd_str | decide))
  rintro d S8 ⟨t3, rfl, f3, l3⟩ hS8
  dsimp only [List.set_cons_zero, List.set_cons_succ]
  refine forL_J (I := PP rest) (n := 18 + 11 + 1) ?_ hS8 ?_
  · refine J_cat (J_cat (J_vr rfl ⟨_, rfl, f3, l3⟩) (J_odd rfl rfl hL6 (by decide)) (by decide)) ?_ (by decide)
    (repeat' (first | exact FL_nil | apply FL_cons | exact JO_ono | apply JO_osm | apply JI_add | apply JI_sub | apply JI_neg | exact JI_ct | (apply JI_vr (by exact rfl) <;> omega) | exact JI_vr (by exact rfl) (Int.le_refl _) (Int.le_refl _) | apply JS_add | apply JS_cut | apply JS_rev | (refine JS_mul ?_ (by decide) (by decide) ?_) | apply JS_mul | (apply JS_vr (by exact rfl); assumption) | (apply JS_ct; exact Nat.le_refl _) | exact J_ct rfl | apply J_tupF | exact J_vr rfl (by assumption) | (apply Fd_lst; apply J_lstF) | apply J_lstF | apply J_cat | (apply Fd_int; first | exact JI_ct | apply JI_neg | (apply JI_vr (by exact rfl) (Int.le_refl _) (Int.le_refl _))) | apply Fd_str | decide))
  intro ds S9 hds hS9
  refine loop_agree hS9 hds (show 6 < 7 by decide) ?_ (fun e x => rfl) ?_
  · intro x hx S
    exact ⟨_, told0 hx _, letters_due_eq hx, same_eq⟩
  · intro e
    simp only [mkR_eq, wpM_rg1, wpM_rg2, wpM_enumA, wpM_iof, wpM_lfS, wS_rai, wS_try, wpM_catF, wpM_revA, wpM_newD, wpM_itemE, wpM_itemT, wpM_hasE, wpM_get1, wpM_get2, wS_putE, wS_putT, and_self, if_true, if_false, Bool.false_eq_true, reduceIte, wS_setS, wS_seq, wS_if, wS_asg, wS_exS, wS_retS, wS_nxS, wS_nx, wS_ret, wpM_op2, wpM_op1, wpM_asT, wpM_trt, wpM_notT, wpM_andT, wpM_orT, wpM_andV, wpM_notE, wpM_ifE, wpM_lnil, wpM_lcons, wpM_tupE, wpM_lstF, wpM_frz, wpM_new, wpM_cal, wpM_calB, wpM_calF, wpM_isiE, wpM_vr, wpM_ct, wpM_meth, wpM_chn, wpM_cut, wpM_cutF, wpM_ono, wpM_osm, wpM_revT, wpM_lfE, wS_for, tgN, List.getElem?_cons_zero, List.getElem?_cons_succ, List.set_cons_zero, List.set_cons_succ, List.map_cons, List.map_nil, List.length_cons, List.length_nil, List.replicate_succ, List.replicate_zero, Nat.reduceAdd, Nat.reduceSub, List.cons_append, List.nil_append]
    rw [scope_bl, wpM_ok]
    exact k _ (hS.trunc0 hS9)
end
end Z

end
section
set_option Elab.async false
set_option linter.all false
set_option maxRecDepth 100000
set_option maxHeartbeats 4000000
set_option autoImplicit false
namespace Z
open PySem PySem.Spec L2 Y PySem.W
section
variable {rest S : Sto} {Q : D → Sto → Prop} {E : Str → List (Str × D) → Sto → Prop} {L : Str}
theorem J_text {env : En} {m : EM} {i n k : Nat} (h0 : env[0]? = some (some (.ref 1))) (h1 : env[i]? = some (some (.str L))) (hL : LOk k L) (hk : 0 < k) (hk1 : k ≤ 26) (hm : J (PP rest) env m (fun d => ∃ j : Nat, d = .int (j : Int) ∧ j ≤ n)) (hn : n ≤ 1000) : J (PP rest) env (cal M__law_text (lcons (vr 0) (lcons (vr i) (lcons m lnil)))) (IsS n) := fun S hS => by
  simp only [mkR_eq, wpM_cal, wpM_lcons, wpM_lnil, wpM_vr, h0, h1]
  refine wpM_mono' (hm S hS) ?_
  rintro d S1 ⟨⟨j, rfl, hj⟩, hS1⟩
  refine text_wp hS1 hL hk (by omega) rfl (by omega) ?_
  intro z S2 hS2 hz
  exact ⟨⟨z, rfl, (hz.fs hL).mono hj⟩, hS2⟩
theorem hd_sign {n : Nat} {I : Sto → Prop} {env : En} {i : Nat} (h : env[i]? = some (some (.str L))) (hL : FS n L) (hn : n ≤ 1000000) (hp : 0 < L.length) : J I env (op2 o_ix (vr i) (ct (.int 0))) (IsS 1) := fun S hS => by
  obtain ⟨c, _, f, e⟩ := ixS_at (v := 0) hL hn (by omega) (by omega)
  simp only [mkR_eq, wpM_op2, wpM_vr, wpM_ct, h, e, wpM_lfS]
  exact ⟨⟨_, rfl, f⟩, hS⟩
/-- the signs of w that are no letters -/
def strF (L : Str) : D → Bool := fun d => match d with | .str y => !inStr y L | _ => false
theorem str_comp {env : En} {w : Str} {i j : Nat} (hw : w.length ≤ 16777216) (h0 : env[i]? = some (some (.str L))) (hij : j ≠ i) (hl : j < env.length) :
    compF (i_of (ct (.str w))) (tgN j) (asT (op2 (o_inS true) (vr j) (vr i))) (vr j) [j] env S = .ok (.lst (((sgns w).filter (strF L)).map id)) S := by
  refine comp_mf (src := []) rfl (fun X => okSrc_nilX X) (by rw [sgns_len]; exact hw) (fun d hd => ?_) (fun d hd X => ?_)
  · obtain ⟨c, _, rfl⟩ := sgns_mem hd; rfl
  · obtain ⟨c, _, rfl⟩ := sgns_mem hd
    have e0 : ((wipeE env [j]).set j (some (.str ⟨#[c]⟩)))[i]? = some (some (.str L)) := by
      simp only [wipeE]
      rw [List.getElem?_set_ne hij, List.getElem?_set_ne hij]; exact h0
    have e4 : ((wipeE env [j]).set j (some (.str ⟨#[c]⟩)))[j]? = some (some (.str ⟨#[c]⟩)) := by
      simp only [wipeE]
      rw [List.getElem?_set_self (by rw [List.length_set]; exact hl)]
    refine ⟨_, rfl, ?_, fun _ => ?_⟩
    · unfold asT op2 vr
      rw [e4]
      simp only [bd]
      rw [e0]
      rfl
    · unfold vr
      rw [e4]; rfl
theorem str_pos {w : Str} (h : ∃ c ∈ w.cps.toList, c ∉ az.cps.toList) {n : Nat} (hL : LOk n L) : 0 < (((sgns w).filter (strF L)).map id).length := by
  obtain ⟨c, h1, h2⟩ := h
  rw [List.map_id]
  refine List.length_pos_of_mem (a := .str ⟨#[c]⟩) (List.mem_filter.mpr ⟨List.mem_map_of_mem h1, ?_⟩)
  show (!inStr ⟨#[c]⟩ L) = true
  rw [inStr_one, decide_eq_false fun h => h2 (hL.az c h)]; rfl
theorem str_sg {w : Str} (hw : PyData.strOk w = true) : ∀ d ∈ ((sgns w).filter (strF L)).map id, IsS 1 d := fun d hd => by
  rw [List.map_id] at hd
  obtain ⟨c, hc, rfl⟩ := sgns_mem (List.mem_filter.mp hd).1
  exact ⟨_, rfl, FS.one (strOk_iff.mp hw c hc)⟩
theorem J_pickV {I : Sto → Prop} {env : En} {m : EM} {i : Nat} {ds : List D} {P : D → Prop} (h : env[i]? = some (some (.lst ds))) (hm : J I env m (IsI 0 ((ds.length : Int) - 1))) (hp : ∀ d ∈ ds, P d) : J I env (op2 o_ix (vr i) m) P :=
  J_op2 (J_vr (P := fun d => d = .lst ds) h rfl) hm fun S x y e1 ⟨v, e2, v0, v1⟩ => by
    subst e1 e2
    obtain ⟨d, hd, e⟩ := ix_lst (ds := ds) v0 (by omega)
    exact ⟨d, e S, hp d hd⟩
theorem tholds_wp (hS : PP rest S) (k : ∀ S', PP rest S' → Q (.bl true) S') : wpM (M__law_text_holds [.ref 1] S) Q E := by
  unfold M__law_text_holds
  refine wpM_fn ?_
  unfold m__law_text_holds
  simp only [mkR_eq, List.map_cons, List.map_nil, List.length_cons, List.length_nil, Nat.reduceAdd, Nat.reduceSub, List.replicate_succ, List.replicate_zero, List.cons_append, List.nil_append]
  refine asg_J (P := fun d => ∃ L n, d = .str L ∧ LOk n L ∧ 1 ≤ n ∧ n ≤ 6) (I := PP rest) ?_ hS ?_
  · exact J_letters (x := 1 + 0) (y := 1 + (6 - 1)) rfl (JI_add JI_ct (J_draw rfl (J_ct rfl) (by decide) (by decide))) (by decide) (by decide)
  rintro d S2 ⟨L, n, rfl, hL, hn1, hn6⟩ hS2
  have hLl := hL.len
  have hL6 : FS 6 L := hL.fs.mono hn6
  dsimp only [List.set_cons_zero, List.set_cons_succ]
  refine asg_J (P := fun d => ∃ z, d = .str z ∧ FS 13 z ∧ 0 < z.length) (I := PP rest) ?_ hS2 ?_
  · refine J_op2 (A := IsS 12) (B := fun d => ∃ c, d = .str ⟨#[c]⟩ ∧ FS 1 ⟨#[c]⟩) ?_ ?_ ?_
    · exact J_text (n := 12) rfl rfl hL (by omega) (by omega) (J_ct ⟨12, rfl, Nat.le_refl _⟩) (by decide)
    · intro S hS
      obtain ⟨c, _, f, e⟩ := ixS_at (v := 0) hL6 (by omega) (by omega) (by omega)
      simp only [mkR_eq, wpM_rg1, wpM_rg2, wpM_enumA, wpM_iof, wpM_lfS, wS_rai, wS_try, wpM_catF, wpM_revA, wpM_newD, wpM_itemE, wpM_itemT, wpM_hasE, wpM_get1, wpM_get2, wS_putE, wS_putT, and_self, if_true, if_false, Bool.false_eq_true, reduceIte, wS_setS, wS_seq, wS_if, wS_asg, wS_exS, wS_retS, wS_nxS, wS_nx, wS_ret, wpM_op2, wpM_op1, wpM_asT, wpM_trt, wpM_notT, wpM_andT, wpM_orT, wpM_andV, wpM_notE, wpM_ifE, wpM_lnil, wpM_lcons, wpM_tupE, wpM_lstF, wpM_frz, wpM_new, wpM_cal, wpM_calB, wpM_calF, wpM_isiE, wpM_vr, wpM_ct, wpM_meth, wpM_chn, wpM_cut, wpM_cutF, wpM_ono, wpM_osm, wpM_revT, wpM_lfE, wS_for, tgN, List.getElem?_cons_zero, List.getElem?_cons_succ, List.set_cons_zero, List.set_cons_succ, List.map_cons, List.map_nil, List.length_cons, List.length_nil, List.replicate_succ, List.replicate_zero, Nat.reduceAdd, Nat.reduceSub, List.cons_append, List.nil_append, e]
      exact ⟨⟨c, rfl, f⟩, hS⟩
    · rintro S x y ⟨z, rfl, hz⟩ ⟨c, rfl, hc⟩
      refine ⟨_, add_str hz hc (by omega), _, rfl, hz.app hc, ?_⟩
      rw [len_eq, app_cps, List.length_append]
      show 0 < _ + 1
      omega
  rintro d S3 ⟨right, rfl, hr, hrp⟩ hS3
  dsimp only [List.set_cons_zero, List.set_cons_succ]
  have hw : (Str.ofString "abcdefghijklmnopqrstuvwxyzAB0 ~-").length ≤ 16777216 := by decide +kernel
  have hwp := str_pos (w := Str.ofString "abcdefghijklmnopqrstuvwxyzAB0 ~-") ⟨65, by decide +kernel, by decide +kernel⟩ hL
  have hws := str_sg (L := L) (strOk_of "abcdefghijklmnopqrstuvwxyzAB0 ~-")
  have hwl : (((sgns (Str.ofString "abcdefghijklmnopqrstuvwxyzAB0 ~-")).filter (strF L)).map id).length ≤ 32 := by
    rw [List.map_id]
    refine Nat.le_trans (List.length_filter_le _ _) ?_
    rw [sgns_len]
    exact Nat.le_of_eq (by decide +kernel)
  refine asg_J (P := fun d => d = .lst (((sgns (Str.ofString "abcdefghijklmnopqrstuvwxyzAB0 ~-")).filter (strF L)).map id)) (I := PP rest) ?_ hS3 ?_
  · intro S hS
    rw [str_comp (L := L) (i := 1) (j := 4) hw rfl (by decide) (by simp only [List.length_cons]; omega), wpM_ok]
    exact ⟨rfl, hS⟩
  generalize ((sgns (Str.ofString "abcdefghijklmnopqrstuvwxyzAB0 ~-")).filter (strF L)).map id = strange at hwp hws hwl
  rintro d S4 rfl hS4
  dsimp only [List.set_cons_zero, List.set_cons_succ]
  refine asg_J (P := IsS 1) (I := PP rest) ?_ hS4 ?_
  · exact J_pickV rfl (J_draw rfl (J_lenL rfl) (by omega) (by omega)) hws
  rintro d S5 ⟨sg, rfl, hsg⟩ hS5
  dsimp only [List.set_cons_zero, List.set_cons_succ]
  refine asg_J (P := IsI 0 ((right.length : Int) - 1)) (I := PP rest) ?_ hS5 ?_
  · have := hr.len
    exact J_draw rfl (J_lenS rfl (by omega)) (by omega) (by omega)
  rintro d S6 ⟨at', rfl, a0, a1⟩ hS6
  dsimp only [List.set_cons_zero, List.set_cons_succ]
  refine asg_J (P := IsS (13 * (300 : Int).toNat)) (I := PP rest) ?_ hS6 ?_
  · exact JS_cut (JS_mul (JS_vr rfl hr) (by decide) (by decide) (by decide)) JO_ono (JO_osm JI_ct) (by decide)
  rintro d S7 ⟨full, rfl, hf⟩ hS7
  dsimp only [List.set_cons_zero, List.set_cons_succ]
  have hf : FS 3900 full := hf
  refine asg_J (P := IsS (3900 + 1)) (I := PP rest) ?_ hS7 ?_
  · exact JS_add (JS_cut (JS_vr rfl hf) JO_ono (JO_osm (JI_sub JI_ct (J_draw rfl (J_ct rfl) (by decide) (by decide)))) (by decide)) (JS_vr rfl hsg) (by decide)
  rintro d S8 ⟨late, rfl, hlt⟩ hS8
  dsimp only [List.set_cons_zero, List.set_cons_succ]
  refine asg_J (P := FdL 8) (I := PP rest) ?_ hS8 ?_
  · refine J_lstF (FL_cons ?_ (FL_cons ?_ (FL_cons ?_ (FL_cons ?_ (FL_cons ?_ (FL_cons ?_ (FL_cons ?_ (FL_cons ?_ FL_nil)))))))) (by decide)
    all_goals first | ((repeat' (first | exact FL_nil | apply FL_cons | exact JO_ono | apply JO_osm | apply JI_add | apply JI_sub | apply JI_neg | exact JI_ct | (apply JI_vr (by exact rfl) <;> omega) | exact JI_vr (by exact rfl) (Int.le_refl _) (Int.le_refl _) | apply JS_add | apply JS_cut | apply JS_rev | (refine JS_mul ?_ (by decide) (by decide) ?_) | apply JS_mul | (apply JS_vr (by exact rfl); assumption) | (apply JS_ct; exact Nat.le_refl _) | exact J_ct rfl | apply J_tupF | exact J_vr rfl (by assumption) | (apply Fd_lst; apply J_lstF) | apply J_lstF | apply J_cat | (apply Fd_int; first | exact JI_ct | apply JI_neg | (apply JI_vr (by exact rfl) (Int.le_refl _) (Int.le_refl _))) | apply Fd_str | decide)); done) | exact Fd_str (JS_add (JS_vr rfl hf) (hd_sign rfl hL6 (by decide) (by omega)) (by decide)) (by decide)
  rintro d S9 ⟨t1, rfl, f1, l1⟩ hS9
  dsimp only [List.set_cons_zero, List.set_cons_succ]
  refine asg_J (P := FdL 15) (I := PP rest) ?_ hS9 ?_
  · refine J_cat (n := 8) (k := 7) (J_vr rfl ⟨_, rfl, f1, l1⟩) ?_ (by decide)
    (repeat' (first | exact FL_nil | apply FL_cons | exact JO_ono | apply JO_osm | apply JI_add | apply JI_sub | apply JI_neg | exact JI_ct | (apply JI_vr (by exact rfl) <;> omega) | exact JI_vr (by exact rfl) (Int.le_refl _) (Int.le_refl _) | apply JS_add | apply JS_cut | apply JS_rev | (refine JS_mul ?_ (by decide) (by decide) ?_) | apply JS_mul | (apply JS_vr (by exact rfl); assumption) | (apply JS_ct; exact Nat.le_refl _) | exact J_ct rfl | apply J_tupF | exact J_vr rfl (by assumption) | (apply Fd_lst; apply J_lstF) | apply J_lstF | apply J_cat | (apply Fd_int; first | exact JI_ct | apply JI_neg | (apply JI_vr (by exact rfl) (Int.le_refl _) (Int.le_refl _))) | apply Fd_str | decide))
  rintro d S10 ⟨t2, rfl, f2, l2⟩ hS10
  dsimp only [List.set_cons_zero, List.set_cons_succ]
  refine asg_J (P := FdL 16) (I := PP rest) ?_ hS10 ?_
  · refine J_cat (n := 15) (k := 1) (J_vr rfl ⟨_, rfl, f2, l2⟩) ?_ (by decide)
    (repeat' (first | exact FL_nil | apply FL_cons | exact JO_ono | apply JO_osm | apply JI_add | apply JI_sub | apply JI_neg | exact JI_ct | (apply JI_vr (by exact rfl) <;> omega) | exact JI_vr (by exact rfl) (Int.le_refl _) (Int.le_refl _) | apply JS_add | apply JS_cut | apply JS_rev | (refine JS_mul ?_ (by decide) (by decide) ?_) | apply JS_mul | (apply JS_vr (by exact rfl); assumption) | (apply JS_ct; exact Nat.le_refl _) | exact J_ct rfl | apply J_tupF | exact J_vr rfl (by assumption) | (apply Fd_lst; apply J_lstF) | apply J_lstF | apply J_cat | (apply Fd_int; first | exact JI_ct | apply JI_neg | (apply JI_vr (by exact rfl) (Int.le_refl _) (Int.le_refl _))) | apply Fd_str | decide))
  rintro d S11 ⟨t3, rfl, f3, l3⟩ hS11
  dsimp only [List.set_cons_zero, List.set_cons_succ]
  refine forL_J (I := PP rest) (n := 16 + 11 + 1) ?_ hS11 ?_
  · refine J_cat (J_cat (J_vr rfl ⟨_, rfl, f3, l3⟩) (J_odd rfl rfl hr (by decide)) (by decide)) ?_ (by decide)
    (repeat' (first | exact FL_nil | apply FL_cons | exact JO_ono | apply JO_osm | apply JI_add | apply JI_sub | apply JI_neg | exact JI_ct | (apply JI_vr (by exact rfl) <;> omega) | exact JI_vr (by exact rfl) (Int.le_refl _) (Int.le_refl _) | apply JS_add | apply JS_cut | apply JS_rev | (refine JS_mul ?_ (by decide) (by decide) ?_) | apply JS_mul | (apply JS_vr (by exact rfl); assumption) | (apply JS_ct; exact Nat.le_refl _) | exact J_ct rfl | apply J_tupF | exact J_vr rfl (by assumption) | (apply Fd_lst; apply J_lstF) | apply J_lstF | apply J_cat | (apply Fd_int; first | exact JI_ct | apply JI_neg | (apply JI_vr (by exact rfl) (Int.le_refl _) (Int.le_refl _))) | apply Fd_str | decide))
  intro ds S12 hds hS12
  refine loop_agree hS12 hds (show 9 < 10 by decide) ?_ (fun e x => rfl) ?_
  · intro x hx S
    exact ⟨_, told1 hx, text_due_eq hx, same_eq⟩
  · intro e
    simp only [mkR_eq, wpM_rg1, wpM_rg2, wpM_enumA, wpM_iof, wpM_lfS, wS_rai, wS_try, wpM_catF, wpM_revA, wpM_newD, wpM_itemE, wpM_itemT, wpM_hasE, wpM_get1, wpM_get2, wS_putE, wS_putT, and_self, if_true, if_false, Bool.false_eq_true, reduceIte, wS_setS, wS_seq, wS_if, wS_asg, wS_exS, wS_retS, wS_nxS, wS_nx, wS_ret, wpM_op2, wpM_op1, wpM_asT, wpM_trt, wpM_notT, wpM_andT, wpM_orT, wpM_andV, wpM_notE, wpM_ifE, wpM_lnil, wpM_lcons, wpM_tupE, wpM_lstF, wpM_frz, wpM_new, wpM_cal, wpM_calB, wpM_calF, wpM_isiE, wpM_vr, wpM_ct, wpM_meth, wpM_chn, wpM_cut, wpM_cutF, wpM_ono, wpM_osm, wpM_revT, wpM_lfE, wS_for, tgN, List.getElem?_cons_zero, List.getElem?_cons_succ, List.set_cons_zero, List.set_cons_succ, List.map_cons, List.map_nil, List.length_cons, List.length_nil, List.replicate_succ, List.replicate_zero, Nat.reduceAdd, Nat.reduceSub, List.cons_append, List.nil_append]
    rw [scope_bl, wpM_ok]
    exact k _ (hS.trunc0 hS12)
end
end Z

end
section
set_option Elab.async false
set_option linter.all false
set_option maxRecDepth 100000
set_option maxHeartbeats 4000000
set_option autoImplicit false
namespace Z
open PySem PySem.Spec L2 Y PySem.W
section
variable {rest S : Sto} {Q : D → Sto → Prop} {E : Str → List (Str × D) → Sto → Prop} {L : Str}
/-- a table of edits -/
def CB (c : Int) : Prop := 0 ≤ c ∧ c ≤ 1000000
def KV3 (kvs : List (List Key × D)) : Prop := ∀ p ∈ kvs, ∃ r w c, p = ([.inr r, .inr w], .int c) ∧ FS 3 r ∧ FS 3 w ∧ CB c
theorem KV3.put {kvs : List (List Key × D)} {r w : Str} {c : Int} (h : KV3 kvs) (hr : FS 3 r) (hw : FS 3 w) (hc : CB c) : KV3 (putD kvs [.inr r, .inr w] (.int c)) := by
  unfold putD
  split
  · intro p hp
    obtain ⟨q, hq, rfl⟩ := List.mem_map.mp hp
    split
    · rename_i e
      exact ⟨r, w, c, by rw [e], hr, hw, hc⟩
    · exact h q hq
  · intro p hp
    rcases List.mem_append.mp hp with hp | hp
    · exact h p hp
    · rw [List.mem_singleton.mp hp]; exact ⟨r, w, c, rfl, hr, hw, hc⟩
theorem put_len {κ : Type} [DecidableEq κ] {kvs : List (κ × D)} {k : κ} {d : D} : (putD kvs k d).length ≤ kvs.length + 1 := by
  unfold putD
  split
  · rw [List.length_map]; omega
  · rw [List.length_append]; exact Nat.le_refl _
theorem KV3.get {kvs : List (List Key × D)} {p : List Key × D} (h : KV3 kvs) (hp : p ∈ kvs) : ∃ c, valD kvs p.1 = some (.int c) ∧ CB c := by
  unfold valD
  cases e : kvs.find? fun kv => decide (kv.1 = p.1) with
  | none =>
    have := List.find?_eq_none.mp e p hp
    simp at this
  | some q =>
    obtain ⟨r, w, c, e2, _, _, hc⟩ := h q (List.mem_of_find?_eq_some e)
    exact ⟨c, by rw [e2]; rfl, hc⟩
theorem KV3.keys {kvs : List (List Key × D)} (h : KV3 kvs) {d : D} (hd : d ∈ ksT kvs) : ∃ r w c, d = .tup [.str r, .str w] ∧ FS 3 r ∧ FS 3 w ∧ valD kvs [.inr r, .inr w] = some (.int c) ∧ CB c := by
  obtain ⟨p, hp, rfl⟩ := List.mem_map.mp hd
  obtain ⟨c, e, hc⟩ := h.get hp
  obtain ⟨r, w, c', e2, hr, hw, _⟩ := h p hp
  subst e2
  exact ⟨r, w, c, rfl, hr, hw, e, hc⟩
def prP (p : Str × Str) : PyData := .tuple [.str p.1, .str p.2]
theorem toPL_pairs : ∀ {ds : List D}, (∀ d ∈ ds, ∃ r w, d = .tup [.str r, .str w]) → ∃ ps : List (Str × Str), toPL ds = some (ps.map prP)
  | [], _ => ⟨[], rfl⟩
  | d :: ds, h => by
    obtain ⟨r, w, rfl⟩ := h d List.mem_cons_self
    obtain ⟨ps, e⟩ := toPL_pairs fun x hx => h x (List.mem_cons_of_mem _ hx)
    refine ⟨(r, w) :: ps, ?_⟩
    show (toP (.tup [.str r, .str w])).bind (fun p => (toPL ds).map fun ps => p :: ps) = _
    rw [e]; rfl
theorem sortK_pairs {ds : List D} (h : ∀ d ∈ ds, ∃ r w, d = .tup [.str r, .str w]) : sortK ds = some (ds.mergeSort leD) := by
  obtain ⟨ps, e⟩ := toPL_pairs h
  unfold sortK
  rw [e, Option.bind_some, if_pos]
  refine ⟨AllAlike.of (enc := prP) fun a b => by simp [prP, alike, alikeAll], Sortable.tuples (enc := prP) fun b => ⟨_, _, rfl⟩, fun p hp => ?_⟩
  obtain ⟨t, _, rfl⟩ := List.mem_map.mp hp
  simp [prP, PyData.depth, PyData.depthAll]
def fB (kvs : List (List Key × D)) : D → D
  | .tup [.str r, .str w] => .tup [.str r, .str w, (valD kvs [.inr r, .inr w]).getD .non]
  | _ => .non
/-- an edit -/
def EdOk (e : D) : Prop := ∃ r w c, e = .tup [.str r, .str w, .int c] ∧ FS 3 r ∧ FS 3 w ∧ CB c
theorem EdOk.fd {e : D} (h : EdOk e) : fd e = true := by
  obtain ⟨r, w, c, rfl, hr, hw, _⟩ := h
  simp only [fd_tup, fdL_cons, fdL_nil, fd_str, fd_int, hr.okS (show 3 ≤ 1000000 by omega), hw.okS (show 3 ≤ 1000000 by omega), Bool.and_self]
theorem comp_eds {n0 : Nat} {kvs : List (List Key × D)} {ks : List D} {env : En} (hk : KV3 kvs) (hks : ∀ d ∈ ks, d ∈ ksT kvs) (hl : ks.length ≤ 100000) (hS : S[n0]? = some (some (.dT kvs))) (h4 : env[4]? = some (some (.ref n0))) (he : env.length = 8) {it : IM} (hit : it env S = .ok (ks, []) S) :
    compF it (tgT [(tgN 6), (tgN 7)]) yesT (tupE (lcons (vr 6) (lcons (vr 7) (lcons (itemT (vr 4) (lcons (vr 6) (lcons (vr 7) lnil))) lnil)))) [6, 7] env S = .ok (.lst ((ks.filter fun _ => true).map (fB kvs))) S := by
  refine comp_mf (src := []) hit (fun X => okSrc_nilX X) (by omega) (fun d hd => ?_) (fun d hd X => ?_)
  · obtain ⟨r, w, c, rfl, hr, hw, e, hcb⟩ := hk.keys (hks d hd)
    simp only [fB, e]; rfl
  · obtain ⟨r, w, c, rfl, hr, hw, e, hcb⟩ := hk.keys (hks d hd)
    have n0l := (List.getElem?_eq_some_iff.mp hS).1
    have hSX : (S ++ X)[n0]? = some (some (.dT kvs)) := by rw [List.getElem?_append_left n0l]; exact hS
    refine ⟨_, rfl, rfl, fun _ => ?_⟩
    have g4 : (((wipeE env [6, 7]).set 6 (some (.str r))).set 7 (some (.str w)))[4]? = some (some (.ref n0)) := by simp [wipeE, h4]
    have g6 : (((wipeE env [6, 7]).set 6 (some (.str r))).set 7 (some (.str w)))[6]? = some (some (.str r)) := by simp [wipeE, he]
    have g7 : (((wipeE env [6, 7]).set 6 (some (.str r))).set 7 (some (.str w)))[7]? = some (some (.str w)) := by simp [wipeE, he]
    refine eq_of_wp ?_
    have gd : dGetT (S ++ X) (.ref n0) [.str r, .str w] = some (some (.int c)) := by
      simp only [dGetT, hSX]
      show ((keysD [.str r, .str w]).map (valD kvs)) = _
      show some (valD kvs [.inr r, .inr w]) = _
      rw [e]
    simp only [mkR_eq, wpM_tupE, wpM_lcons, wpM_lnil, wpM_vr, g6, g7, wpM_itemT, g4, gd, List.length_cons, List.length_nil, Nat.reduceAdd, le_sz (n := 2) rfl, le_sz (n := 3) rfl, if_true, true_and]
    simp only [fB, e]
    exact ⟨by trivial, by trivial⟩
/-- a drawn length of an edit's text -/
theorem J_elen {env : En} (h0 : env[0]? = some (some (.ref 1))) : J (PP rest) env (op2 o_ix (frz (lstF (lcons (ct (.int 1)) (lcons (ct (.int 1)) (lcons (ct (.int 2)) (lcons (ct (.int 3)) lnil)))))) (cal M__law_draw (lcons (vr 0) (lcons (ct (.int 4)) lnil)))) (fun d => ∃ j : Nat, d = .int (j : Int) ∧ j ≤ 3) := by
  refine J_op2 (A := fun d => d = .lst [.int 1, .int 1, .int 2, .int 3]) (B := IsI 0 (4 - 1)) (fun S hS => ?_) (J_draw h0 (J_ct rfl) (by decide) (by decide)) ?_
  · simp only [mkR_eq, wpM_rg1, wpM_rg2, wpM_enumA, wpM_iof, wpM_lfS, wS_rai, wS_try, wpM_catF, wpM_revA, wpM_newD, wpM_itemE, wpM_itemT, wpM_hasE, wpM_get1, wpM_get2, wS_putE, wS_putT, and_self, if_true, if_false, Bool.false_eq_true, reduceIte, wS_setS, wS_seq, wS_if, wS_asg, wS_exS, wS_retS, wS_nxS, wS_nx, wS_ret, wpM_op2, wpM_op1, wpM_asT, wpM_trt, wpM_notT, wpM_andT, wpM_orT, wpM_andV, wpM_notE, wpM_ifE, wpM_lnil, wpM_lcons, wpM_tupE, wpM_lstF, wpM_frz, wpM_new, wpM_cal, wpM_calB, wpM_calF, wpM_isiE, wpM_vr, wpM_ct, wpM_meth, wpM_chn, wpM_cut, wpM_cutF, wpM_ono, wpM_osm, wpM_revT, wpM_lfE, wS_for, tgN, List.getElem?_cons_zero, List.getElem?_cons_succ, List.set_cons_zero, List.set_cons_succ, List.map_cons, List.map_nil, List.length_cons, List.length_nil, List.replicate_succ, List.replicate_zero, Nat.reduceAdd, Nat.reduceSub, List.cons_append, List.nil_append, le_sz (n := 4) rfl]
    exact ⟨by trivial, hS⟩
  · rintro S x y rfl ⟨v, rfl, v0, v1⟩
    obtain ⟨d, hd, e⟩ := ix_lst (ds := [.int 1, .int 1, .int 2, .int 3]) v0 (by simp; omega)
    refine ⟨d, e S, ?_⟩
    simp only [List.mem_cons, List.not_mem_nil, or_false] at hd
    rcases hd with rfl | rfl | rfl | rfl
    · exact ⟨1, rfl, by omega⟩
    · exact ⟨1, rfl, by omega⟩
    · exact ⟨2, rfl, by omega⟩
    · exact ⟨3, rfl, by omega⟩
theorem book_wp {many most : Int} {n k : Nat} (hS : PP rest S) (hL : LOk k L) (hk : 0 < k) (hk1 : k ≤ 26) (hn : many = (n : Int)) (hn1 : n ≤ 1000) (hm : 0 < most) (hm1 : most ≤ 100000)
    (K : ∀ es S', PP rest S' → es.length ≤ n → (∀ e ∈ es, EdOk e) → Q (.tup [.str L, .tup es]) S') : wpM (M__law_book [.ref 1, .str L, .int many, .int most] S) Q E := by
  unfold M__law_book
  refine wpM_fn ?_
  unfold m__law_book
  have hlen := hS.len
  simp only [mkR_eq, List.map_cons, List.map_nil, List.length_cons, List.length_nil, Nat.reduceAdd, Nat.reduceSub, List.replicate_succ, List.replicate_zero, List.cons_append, List.nil_append]
  rw [wS_seq]
  simp only [mkR_eq, wS_asg, wpM_newD, tgN, List.set_cons_succ, List.set_cons_zero]
  rw [wS_seq, hlen]
  simp only [mkR_eq, wS_for, wpM_rg1, wpM_lcons, wpM_vr, wpM_lnil, List.getElem?_cons_succ, List.getElem?_cons_zero]
  have ern : rgL 0 many = rgL 0 (n : Int) := by rw [hn]
  rw [ern]
  refine ⟨rgOk_of (by omega) (by omega), ?_⟩
  refine wS_loop (fun i e S' => ∃ kvs e5 e6 e7, e = [some (.ref 1), some (.str L), some (.int many), some (.int most), some (.ref (rest.length + 2)), e5, e6, e7] ∧ PP (rest ++ [some (.dT kvs)]) S' ∧ KV3 kvs ∧ kvs.length ≤ i) _ 0 _ _ ⟨[], none, none, none, rfl, hS.app, (fun p hp => by cases hp), Nat.le_refl _⟩ ?_ ?_
  · rintro j d e S1 hj ⟨kvs, e5, e6, e7, rfl, hS1, hkv, hkl⟩
    obtain ⟨rfl, hjn⟩ := rgL_get hj
    rw [Nat.zero_add] at hkl ⊢
    refine ⟨okSrc_nil, _, rfl, ?_⟩
    dsimp only [List.set_cons_zero, List.set_cons_succ]
    refine asg_J (P := IsS 3) (I := PP (rest ++ [some (.dT kvs)])) ?_ hS1 ?_
    · exact J_text rfl rfl hL hk hk1 (J_elen rfl) (by decide)
    rintro d S2 ⟨r, rfl, hr⟩ hS2
    dsimp only [List.set_cons_zero, List.set_cons_succ]
    refine asg_J (P := IsS 3) (I := PP (rest ++ [some (.dT kvs)])) ?_ hS2 ?_
    · exact J_text rfl rfl hL hk hk1 (J_elen rfl) (by decide)
    rintro d S3 ⟨w, rfl, hw⟩ hS3
    simp only [mkR_eq, wpM_rg1, wpM_rg2, wpM_enumA, wpM_iof, wpM_lfS, wS_rai, wS_try, wpM_catF, wpM_revA, wpM_newD, wpM_itemE, wpM_itemT, wpM_hasE, wpM_get1, wpM_get2, wS_putE, wS_putT, and_self, if_true, if_false, Bool.false_eq_true, reduceIte, wS_setS, wS_seq, wS_if, wS_asg, wS_exS, wS_retS, wS_nxS, wS_nx, wS_ret, wpM_op2, wpM_op1, wpM_asT, wpM_trt, wpM_notT, wpM_andT, wpM_orT, wpM_andV, wpM_notE, wpM_ifE, wpM_lnil, wpM_lcons, wpM_tupE, wpM_lstF, wpM_frz, wpM_new, wpM_cal, wpM_calB, wpM_calF, wpM_isiE, wpM_vr, wpM_ct, wpM_meth, wpM_chn, wpM_cut, wpM_cutF, wpM_ono, wpM_osm, wpM_revT, wpM_lfE, wS_for, tgN, List.getElem?_cons_zero, List.getElem?_cons_succ, List.set_cons_zero, List.set_cons_succ, List.map_cons, List.map_nil, List.length_cons, List.length_nil, List.replicate_succ, List.replicate_zero, Nat.reduceAdd, Nat.reduceSub, List.cons_append, List.nil_append, ne_str hr.ok hw.ok]
    rcases Bool.eq_false_or_eq_true (r == w) with hrw | hrw
    · simp only [hrw, Bool.not_true, mkR_eq, wpM_rg1, wpM_rg2, wpM_enumA, wpM_iof, wpM_lfS, wS_rai, wS_try, wpM_catF, wpM_revA, wpM_newD, wpM_itemE, wpM_itemT, wpM_hasE, wpM_get1, wpM_get2, wS_putE, wS_putT, and_self, if_true, if_false, Bool.false_eq_true, reduceIte, wS_setS, wS_seq, wS_if, wS_asg, wS_exS, wS_retS, wS_nxS, wS_nx, wS_ret, wpM_op2, wpM_op1, wpM_asT, wpM_trt, wpM_notT, wpM_andT, wpM_orT, wpM_andV, wpM_notE, wpM_ifE, wpM_lnil, wpM_lcons, wpM_tupE, wpM_lstF, wpM_frz, wpM_new, wpM_cal, wpM_calB, wpM_calF, wpM_isiE, wpM_vr, wpM_ct, wpM_meth, wpM_chn, wpM_cut, wpM_cutF, wpM_ono, wpM_osm, wpM_revT, wpM_lfE, wS_for, tgN, List.getElem?_cons_zero, List.getElem?_cons_succ, List.set_cons_zero, List.set_cons_succ, List.map_cons, List.map_nil, List.length_cons, List.length_nil, List.replicate_succ, List.replicate_zero, Nat.reduceAdd, Nat.reduceSub, List.cons_append, List.nil_append]
      exact ⟨kvs, _, _, _, rfl, hS3, hkv, by omega⟩
    · simp only [hrw, Bool.not_false, mkR_eq, wpM_rg1, wpM_rg2, wpM_enumA, wpM_iof, wpM_lfS, wS_rai, wS_try, wpM_catF, wpM_revA, wpM_newD, wpM_itemE, wpM_itemT, wpM_hasE, wpM_get1, wpM_get2, wS_putE, wS_putT, and_self, if_true, if_false, Bool.false_eq_true, reduceIte, wS_setS, wS_seq, wS_if, wS_asg, wS_exS, wS_retS, wS_nxS, wS_nx, wS_ret, wpM_op2, wpM_op1, wpM_asT, wpM_trt, wpM_notT, wpM_andT, wpM_orT, wpM_andV, wpM_notE, wpM_ifE, wpM_lnil, wpM_lcons, wpM_tupE, wpM_lstF, wpM_frz, wpM_new, wpM_cal, wpM_calB, wpM_calF, wpM_isiE, wpM_vr, wpM_ct, wpM_meth, wpM_chn, wpM_cut, wpM_cutF, wpM_ono, wpM_osm, wpM_revT, wpM_lfE, wS_for, tgN, List.getElem?_cons_zero, List.getElem?_cons_succ, List.set_cons_zero, List.set_cons_succ, List.map_cons, List.map_nil, List.length_cons, List.length_nil, List.replicate_succ, List.replicate_zero, Nat.reduceAdd, Nat.reduceSub, List.cons_append, List.nil_append]
      refine draw_wp hS3 hm (by omega) ?_
      intro v S4 hS4 v0 v1
      have g0 : S4[rest.length + 2]? = some (some (.dT kvs)) := hS4.getX (j := 0)
      have hput : dPutT S4 (.ref (rest.length + 2)) [.str r, .str w] (.int (1 + v)) = some (S4.set (rest.length + 2) (some (.dT (putD kvs [.inr r, .inr w] (.int (1 + v)))))) := by
        simp only [dPutT, g0]
        show (some ([.inr r, .inr w] : List Key)).bind _ = _
        rw [Option.bind_some, if_pos (Nat.lt_of_lt_of_le (show kvs.length < 1002 by omega) (le_sz rfl))]
      simp only [add_int, mkR_eq, wpM_rg1, wpM_rg2, wpM_enumA, wpM_iof, wpM_lfS, wS_rai, wS_try, wpM_catF, wpM_revA, wpM_newD, wpM_itemE, wpM_itemT, wpM_hasE, wpM_get1, wpM_get2, wS_putE, wS_putT, and_self, if_true, if_false, Bool.false_eq_true, reduceIte, wS_setS, wS_seq, wS_if, wS_asg, wS_exS, wS_retS, wS_nxS, wS_nx, wS_ret, wpM_op2, wpM_op1, wpM_asT, wpM_trt, wpM_notT, wpM_andT, wpM_orT, wpM_andV, wpM_notE, wpM_ifE, wpM_lnil, wpM_lcons, wpM_tupE, wpM_lstF, wpM_frz, wpM_new, wpM_cal, wpM_calB, wpM_calF, wpM_isiE, wpM_vr, wpM_ct, wpM_meth, wpM_chn, wpM_cut, wpM_cutF, wpM_ono, wpM_osm, wpM_revT, wpM_lfE, wS_for, tgN, List.getElem?_cons_zero, List.getElem?_cons_succ, List.set_cons_zero, List.set_cons_succ, List.map_cons, List.map_nil, List.length_cons, List.length_nil, List.replicate_succ, List.replicate_zero, Nat.reduceAdd, Nat.reduceSub, List.cons_append, List.nil_append, hput, le_sz (n := 2) rfl, true_and]
      refine ⟨_, _, _, _, rfl, hS4.setX (j := 0), hkv.put hr hw ⟨by omega, by omega⟩, ?_⟩
      have := @put_len _ _ kvs [.inr r, .inr w] (.int (1 + v))
      omega
  · rintro e S1 ⟨kvs, e5, e6, e7, rfl, hS1, hkv, hkl⟩
    refine ⟨okSrc_nil, ?_⟩
    rw [rgL_len, Nat.zero_add] at hkl
    have g0 : S1[rest.length + 2]? = some (some (.dT kvs)) := hS1.getX (j := 0)
    have hks : ∀ d ∈ (ksT kvs).mergeSort leD, d ∈ ksT kvs := fun d hd => List.mem_mergeSort.mp hd
    have hsl : ((ksT kvs).mergeSort leD).length = kvs.length := by rw [List.length_mergeSort]; exact List.length_map _
    have hso : o_sortedT S1 [.ref (rest.length + 2)] = some ((ksT kvs).mergeSort leD) := by
      simp only [o_sortedT, g0]
      exact sortK_pairs fun d hd => by obtain ⟨r, w, c, e, _⟩ := hkv.keys hd; exact ⟨r, w, e⟩
    have hc := comp_eds (S := S1) (env := [some (.ref 1), some (.str L), some (.int many), some (.int most), some (.ref (rest.length + 2)), e5, e6, e7]) (it := i_of (frz (calF o_sortedT (lcons (vr 4) lnil)))) hkv hks (by omega) g0 rfl rfl (by
      unfold i_of frz calF lcons lnil vr
      simp only [bd, lf, hso, List.getElem?_cons_succ, List.getElem?_cons_zero, srcOf])
    simp only [mkR_eq, wpM_rg1, wpM_rg2, wpM_enumA, wpM_iof, wpM_lfS, wS_rai, wS_try, wpM_catF, wpM_revA, wpM_newD, wpM_itemE, wpM_itemT, wpM_hasE, wpM_get1, wpM_get2, wS_putE, wS_putT, and_self, if_true, if_false, Bool.false_eq_true, reduceIte, wS_setS, wS_seq, wS_if, wS_asg, wS_exS, wS_retS, wS_nxS, wS_nx, wS_ret, wpM_op2, wpM_op1, wpM_asT, wpM_trt, wpM_notT, wpM_andT, wpM_orT, wpM_andV, wpM_notE, wpM_ifE, wpM_lnil, wpM_lcons, wpM_tupE, wpM_lstF, wpM_frz, wpM_new, wpM_cal, wpM_calB, wpM_calF, wpM_isiE, wpM_vr, wpM_ct, wpM_meth, wpM_chn, wpM_cut, wpM_cutF, wpM_ono, wpM_osm, wpM_revT, wpM_lfE, wS_for, tgN, List.getElem?_cons_zero, List.getElem?_cons_succ, List.set_cons_zero, List.set_cons_succ, List.map_cons, List.map_nil, List.length_cons, List.length_nil, List.replicate_succ, List.replicate_zero, Nat.reduceAdd, Nat.reduceSub, List.cons_append, List.nil_append, hc, wpM_ok, o_tupleA, o_tuple, seqOf, Option.map_some, le_sz (n := 2) rfl]
    have hed : ∀ e ∈ (((ksT kvs).mergeSort leD).filter fun _ => true).map (fB kvs), EdOk e := fun e he => by
      obtain ⟨d, hd, rfl⟩ := List.mem_map.mp he
      obtain ⟨r, w, c, rfl, hr, hw, e, hcb⟩ := hkv.keys (hks d (List.mem_filter.mp hd).1)
      exact ⟨r, w, c, by simp only [fB, e]; rfl, hr, hw, hcb⟩
    have hel : ((((ksT kvs).mergeSort leD).filter fun _ => true).map (fB kvs)).length ≤ n := by
      rw [List.length_map]
      have := List.length_filter_le (fun _ => true) ((ksT kvs).mergeSort leD)
      omega
    generalize (((ksT kvs).mergeSort leD).filter fun _ => true).map (fB kvs) = es at hed hel ⊢
    have hp : (D.tup [.str L, .tup es]).pure = true := by
      show (true && (pureL es && true)) = true
      rw [pureL_mem fun e he => fd_pure (hed e he).fd]; rfl
    rw [scope_pure hp, wpM_ok]
    exact K es _ (hS.trunc hS1) hel hed
end
end Z

end
section
set_option Elab.async false
set_option linter.all false
set_option maxRecDepth 100000
set_option maxHeartbeats 4000000
set_option autoImplicit false
set_option exponentiation.threshold 4000
namespace Z
open PySem PySem.Spec L2 Y PySem.W
section
variable {rest S : Sto} {Q : D → Sto → Prop} {E : Str → List (Str × D) → Sto → Prop} {L : Str} {env : En}
theorem pow30 {I : Sto → Prop} : J I env (op2 o_pow (ct (.int 10)) (ct (.int 30))) Fd :=
  J_op2 (J_ct (P := fun d => d = .int 10) rfl) (J_ct (P := fun d => d = .int 30) rfl) fun S x y e1 e2 => by
    subst e1 e2
    exact ⟨.int (10 ^ (30 : Int).toNat), by simp only [o_pow]; rw [if_pos (by decide)], rfl⟩
theorem cb_log {c : Int} (h : CB c) : c.natAbs.log2 < 1920 := by
  obtain ⟨h0, h1⟩ := h
  by_cases z : c.natAbs = 0
  · rw [z]; decide
  · rw [Nat.log2_lt z]
    have h2 : c.natAbs < 2 ^ 20 := by omega
    exact Nat.lt_of_lt_of_le h2 (Nat.pow_le_pow_right (by decide) (by decide))
theorem J_strI {I : Sto → Prop} {i : Nat} {c : Int} (h : env[i]? = some (some (.int c))) (hc : CB c) : J I env (calB o_str (lcons (vr i) lnil)) (IsS 1921) := fun S hS => by
  simp only [mkR_eq, wpM_calB, wpM_lcons, wpM_lnil, wpM_vr, h, o_str, cb_log hc, if_true, wpM_lfS]
  exact ⟨⟨_, rfl, PyProof.Rows.int_text_len_1921 (cb_log hc), strOk_of _⟩, hS⟩
theorem J_pickI {I : Sto → Prop} {m : EM} {i : Nat} {ds : List D} {n : Int} (h : env[i]? = some (some (.lst ds))) (hd : fdL ds = true) (hm : J I env m (IsI 0 n)) (hn : n < (ds.length : Int)) : J I env (op2 o_ix (vr i) m) Fd :=
  J_op2 (J_vr (P := fun d => d = .lst ds) h rfl) hm fun S x y e1 ⟨v, e2, v0, v1⟩ => by
    subst e1 e2
    obtain ⟨d, hd', e⟩ := ix_lst (ds := ds) v0 (by omega)
    exact ⟨d, e S, fdL_mem.mp hd d hd'⟩
theorem J_lstE {I : Sto → Prop} {l : LM} {k : Nat} (h : JL I env l (fun ds => fdL ds = true ∧ ds.length = k)) (hk : k ≤ 1000) : J I env (frz (lstF l)) (fun d => ∃ ds, d = .lst ds ∧ fdL ds = true ∧ ds.length = k) := fun S hS => by
  rw [wpM_frz, wpM_lstF]
  refine wpM_mono' (h S hS) ?_
  rintro ds S1 ⟨⟨h1, h2⟩, h3⟩
  rw [if_pos (le_szL (by omega))]
  exact ⟨⟨ds, rfl, h1, h2⟩, h3⟩
theorem J_catP {I : Sto → Prop} {a b : EM} {n k : Nat} (ha : J I env a (FdL n)) (hb : J I env b (fun d => ∃ ds, d = .lst ds ∧ fdL ds = true ∧ ds.length = k)) (hk : n + k ≤ 1000000) : J I env (frz (catF a b)) (fun d => ∃ ds, d = .lst ds ∧ fdL ds = true ∧ k ≤ ds.length ∧ ds.length ≤ n + k) := fun S hS => by
  rw [wpM_frz, wpM_catF]
  refine wpM_mono' (ha S hS) ?_
  rintro x S1 ⟨⟨ds, rfl, q1, q2⟩, h1⟩
  refine wpM_mono' (hb S1 h1) ?_
  rintro y S2 ⟨⟨es, rfl, q3, q4⟩, h2⟩
  simp only [mkR_eq, lstOf, Option.bind_some]
  rw [if_pos (le_szL (by omega))]
  exact ⟨⟨_, rfl, by rw [fdL_app, q1, q3]; rfl, by rw [List.length_append]; omega, by rw [List.length_append]; omega⟩, h2⟩
theorem bent_wp {k : Nat} {e : D} (hS : PP rest S) (hL : LOk k L) (hk : k ≤ 26) (he : EdOk e) (q : ∀ d S', PP rest S' → fd d = true → Q d S') : wpM (M__law_bent_edit [.ref 1, .str L, e] S) Q E := by
  obtain ⟨r, w, c, rfl, hr, hw, hc⟩ := he
  have hLf : FS 26 L := hL.fs.mono hk
  unfold M__law_bent_edit
  refine wpM_fn ?_
  unfold m__law_bent_edit
  simp only [mkR_eq, List.map_cons, List.map_nil, List.length_cons, List.length_nil, Nat.reduceAdd, Nat.reduceSub, List.replicate_succ, List.replicate_zero, List.cons_append, List.nil_append]
  rw [wS_seq]
  simp only [wS_asg, wpM_vr, List.getElem?_cons_succ, List.getElem?_cons_zero, tgT, tgs, tgN, Option.bind_some, List.set_cons_zero, List.set_cons_succ]
  have hwz : (Str.ofString "azmkAQ9 ").length ≤ 16777216 := by decide +kernel
  have hwp := str_pos (w := Str.ofString "azmkAQ9 ") ⟨65, by decide +kernel, by decide +kernel⟩ hL
  have hws := str_sg (L := L) (strOk_of "azmkAQ9 ")
  refine asg_J (P := IsS 1) (I := PP rest) ?_ hS ?_
  · refine J_op2 (A := fun d => d = .lst (((sgns (Str.ofString "azmkAQ9 ")).filter (strF L)).map id)) (B := fun d => d = .int 0) (fun S hS => ?_) (J_ct rfl) ?_
    · rw [str_comp (L := L) (i := 1) (j := 9) hwz rfl (by decide) (by simp only [List.length_cons]; omega), wpM_ok]
      exact ⟨rfl, hS⟩
    · rintro S x y rfl rfl
      obtain ⟨d, hd, e⟩ := ix_lst (ds := ((sgns (Str.ofString "azmkAQ9 ")).filter (strF L)).map id) (v := 0) (by omega) (by omega)
      exact ⟨d, e S, hws d hd⟩
  rintro d S1 ⟨sg, rfl, hsg⟩ hS1
  dsimp only [List.set_cons_zero, List.set_cons_succ]
  refine asg_J (P := IsS (26 * (4 : Int).toNat)) (I := PP rest) ?_ hS1 ?_
  · exact JS_cut (JS_mul (JS_vr rfl hLf) (by decide) (by decide) (by decide)) JO_ono (JO_osm JI_ct) (by decide)
  rintro d S2 ⟨lg, rfl, hlg⟩ hS2
  have hlg : FS 104 lg := hlg
  dsimp only [List.set_cons_zero, List.set_cons_succ]
  have hi : ∀ {I : Sto → Prop} {env : En} {i : Nat}, env[i]? = some (some (.int c)) → J I env (vr i) Fd := fun h => J_vr h rfl
  refine asg_J (P := FdL 5) (I := PP rest) ?_ hS2 ?_
  · (repeat' (first | exact FL_nil | apply FL_cons | exact JO_ono | apply JO_osm | apply JI_add | apply JI_sub | apply JI_neg | exact JI_ct | (apply JI_vr (by exact rfl) <;> omega) | exact JI_vr (by exact rfl) (Int.le_refl _) (Int.le_refl _) | apply JS_add | apply JS_cut | apply JS_rev | (refine JS_mul ?_ (by decide) (by decide) ?_) | apply JS_mul | (apply JS_vr (by exact rfl); assumption) | (apply JS_ct; exact Nat.le_refl _) | exact J_ct rfl | apply J_tupF | exact J_vr rfl (by assumption) | (apply Fd_lst; apply J_lstF) | apply J_lstF | apply J_cat | (apply Fd_int; first | exact JI_ct | apply JI_neg | (apply JI_vr (by exact rfl) (Int.le_refl _) (Int.le_refl _))) | apply Fd_str | decide))
  rintro d S3 ⟨t1, rfl, f1, l1⟩ hS3
  dsimp only [List.set_cons_zero, List.set_cons_succ]
  refine asg_J (P := FdL 12) (I := PP rest) ?_ hS3 ?_
  · refine J_cat (n := 5) (k := 7) (J_vr rfl ⟨_, rfl, f1, l1⟩) ?_ (by decide)
    refine J_lstF (FL_cons ?_ (FL_cons ?_ (FL_cons ?_ (FL_cons ?_ (FL_cons ?_ (FL_cons ?_ (FL_cons ?_ FL_nil))))))) (by decide)
    · (repeat' (first | exact FL_nil | apply FL_cons | exact JO_ono | apply JO_osm | apply JI_add | apply JI_sub | apply JI_neg | exact JI_ct | (apply JI_vr (by exact rfl) <;> omega) | exact JI_vr (by exact rfl) (Int.le_refl _) (Int.le_refl _) | apply JS_add | apply JS_cut | apply JS_rev | (refine JS_mul ?_ (by decide) (by decide) ?_) | apply JS_mul | (apply JS_vr (by exact rfl); assumption) | (apply JS_ct; exact Nat.le_refl _) | exact J_ct rfl | apply J_tupF | exact J_vr rfl (by assumption) | (apply Fd_lst; apply J_lstF) | apply J_lstF | apply J_cat | (apply Fd_int; first | exact JI_ct | apply JI_neg | (apply JI_vr (by exact rfl) (Int.le_refl _) (Int.le_refl _))) | apply Fd_str | decide))
    · (repeat' (first | exact FL_nil | apply FL_cons | exact JO_ono | apply JO_osm | apply JI_add | apply JI_sub | apply JI_neg | exact JI_ct | (apply JI_vr (by exact rfl) <;> omega) | exact JI_vr (by exact rfl) (Int.le_refl _) (Int.le_refl _) | apply JS_add | apply JS_cut | apply JS_rev | (refine JS_mul ?_ (by decide) (by decide) ?_) | apply JS_mul | (apply JS_vr (by exact rfl); assumption) | (apply JS_ct; exact Nat.le_refl _) | exact J_ct rfl | apply J_tupF | exact J_vr rfl (by assumption) | (apply Fd_lst; apply J_lstF) | apply J_lstF | apply J_cat | (apply Fd_int; first | exact JI_ct | apply JI_neg | (apply JI_vr (by exact rfl) (Int.le_refl _) (Int.le_refl _))) | apply Fd_str | decide))
    · refine J_tupF (FL_cons ?_ (FL_cons ?_ (FL_cons ?_ FL_nil))) (by decide)
      · (repeat' (first | exact FL_nil | apply FL_cons | exact JO_ono | apply JO_osm | apply JI_add | apply JI_sub | apply JI_neg | exact JI_ct | (apply JI_vr (by exact rfl) <;> omega) | exact JI_vr (by exact rfl) (Int.le_refl _) (Int.le_refl _) | apply JS_add | apply JS_cut | apply JS_rev | (refine JS_mul ?_ (by decide) (by decide) ?_) | apply JS_mul | (apply JS_vr (by exact rfl); assumption) | (apply JS_ct; exact Nat.le_refl _) | exact J_ct rfl | apply J_tupF | exact J_vr rfl (by assumption) | (apply Fd_lst; apply J_lstF) | apply J_lstF | apply J_cat | (apply Fd_int; first | exact JI_ct | apply JI_neg | (apply JI_vr (by exact rfl) (Int.le_refl _) (Int.le_refl _))) | apply Fd_str | decide))
      · (repeat' (first | exact FL_nil | apply FL_cons | exact JO_ono | apply JO_osm | apply JI_add | apply JI_sub | apply JI_neg | exact JI_ct | (apply JI_vr (by exact rfl) <;> omega) | exact JI_vr (by exact rfl) (Int.le_refl _) (Int.le_refl _) | apply JS_add | apply JS_cut | apply JS_rev | (refine JS_mul ?_ (by decide) (by decide) ?_) | apply JS_mul | (apply JS_vr (by exact rfl); assumption) | (apply JS_ct; exact Nat.le_refl _) | exact J_ct rfl | apply J_tupF | exact J_vr rfl (by assumption) | (apply Fd_lst; apply J_lstF) | apply J_lstF | apply J_cat | (apply Fd_int; first | exact JI_ct | apply JI_neg | (apply JI_vr (by exact rfl) (Int.le_refl _) (Int.le_refl _))) | apply Fd_str | decide))
      · exact Fd_str (J_strI rfl hc) (by decide)
    · (repeat' (first | exact FL_nil | apply FL_cons | exact JO_ono | apply JO_osm | apply JI_add | apply JI_sub | apply JI_neg | exact JI_ct | (apply JI_vr (by exact rfl) <;> omega) | exact JI_vr (by exact rfl) (Int.le_refl _) (Int.le_refl _) | apply JS_add | apply JS_cut | apply JS_rev | (refine JS_mul ?_ (by decide) (by decide) ?_) | apply JS_mul | (apply JS_vr (by exact rfl); assumption) | (apply JS_ct; exact Nat.le_refl _) | exact J_ct rfl | apply J_tupF | exact J_vr rfl (by assumption) | (apply Fd_lst; apply J_lstF) | apply J_lstF | apply J_cat | (apply Fd_int; first | exact JI_ct | apply JI_neg | (apply JI_vr (by exact rfl) (Int.le_refl _) (Int.le_refl _))) | apply Fd_str | decide))
    · (repeat' (first | exact FL_nil | apply FL_cons | exact JO_ono | apply JO_osm | apply JI_add | apply JI_sub | apply JI_neg | exact JI_ct | (apply JI_vr (by exact rfl) <;> omega) | exact JI_vr (by exact rfl) (Int.le_refl _) (Int.le_refl _) | apply JS_add | apply JS_cut | apply JS_rev | (refine JS_mul ?_ (by decide) (by decide) ?_) | apply JS_mul | (apply JS_vr (by exact rfl); assumption) | (apply JS_ct; exact Nat.le_refl _) | exact J_ct rfl | apply J_tupF | exact J_vr rfl (by assumption) | (apply Fd_lst; apply J_lstF) | apply J_lstF | apply J_cat | (apply Fd_int; first | exact JI_ct | apply JI_neg | (apply JI_vr (by exact rfl) (Int.le_refl _) (Int.le_refl _))) | apply Fd_str | decide))
    · (repeat' (first | exact FL_nil | apply FL_cons | exact JO_ono | apply JO_osm | apply JI_add | apply JI_sub | apply JI_neg | exact JI_ct | (apply JI_vr (by exact rfl) <;> omega) | exact JI_vr (by exact rfl) (Int.le_refl _) (Int.le_refl _) | apply JS_add | apply JS_cut | apply JS_rev | (refine JS_mul ?_ (by decide) (by decide) ?_) | apply JS_mul | (apply JS_vr (by exact rfl); assumption) | (apply JS_ct; exact Nat.le_refl _) | exact J_ct rfl | apply J_tupF | exact J_vr rfl (by assumption) | (apply Fd_lst; apply J_lstF) | apply J_lstF | apply J_cat | (apply Fd_int; first | exact JI_ct | apply JI_neg | (apply JI_vr (by exact rfl) (Int.le_refl _) (Int.le_refl _))) | apply Fd_str | decide))
    · (repeat' (first | exact FL_nil | apply FL_cons | exact JO_ono | apply JO_osm | apply JI_add | apply JI_sub | apply JI_neg | exact JI_ct | (apply JI_vr (by exact rfl) <;> omega) | exact JI_vr (by exact rfl) (Int.le_refl _) (Int.le_refl _) | apply JS_add | apply JS_cut | apply JS_rev | (refine JS_mul ?_ (by decide) (by decide) ?_) | apply JS_mul | (apply JS_vr (by exact rfl); assumption) | (apply JS_ct; exact Nat.le_refl _) | exact J_ct rfl | apply J_tupF | exact J_vr rfl (by assumption) | (apply Fd_lst; apply J_lstF) | apply J_lstF | apply J_cat | (apply Fd_int; first | exact JI_ct | apply JI_neg | (apply JI_vr (by exact rfl) (Int.le_refl _) (Int.le_refl _))) | apply Fd_str | decide))
  rintro d S4 ⟨t2, rfl, f2, l2⟩ hS4
  dsimp only [List.set_cons_zero, List.set_cons_succ]
  refine asg_J (P := FdL 16) (I := PP rest) ?_ hS4 ?_
  · refine J_cat (n := 12) (k := 4) (J_vr rfl ⟨_, rfl, f2, l2⟩) ?_ (by decide)
    (repeat' (first | exact FL_nil | apply FL_cons | exact JO_ono | apply JO_osm | apply JI_add | apply JI_sub | apply JI_neg | exact JI_ct | (apply JI_vr (by exact rfl) <;> omega) | exact JI_vr (by exact rfl) (Int.le_refl _) (Int.le_refl _) | apply JS_add | apply JS_cut | apply JS_rev | (refine JS_mul ?_ (by decide) (by decide) ?_) | apply JS_mul | (apply JS_vr (by exact rfl); assumption) | (apply JS_ct; exact Nat.le_refl _) | exact J_ct rfl | apply J_tupF | exact J_vr rfl (by assumption) | (apply Fd_lst; apply J_lstF) | apply J_lstF | apply J_cat | (apply Fd_int; first | exact JI_ct | apply JI_neg | (apply JI_vr (by exact rfl) (Int.le_refl _) (Int.le_refl _))) | apply Fd_str | decide))
  rintro d S5 ⟨t3, rfl, f3, l3⟩ hS5
  dsimp only [List.set_cons_zero, List.set_cons_succ]
  refine asg_J (P := FdL 21) (I := PP rest) ?_ hS5 ?_
  · refine J_cat (n := 16) (k := 5) (J_vr rfl ⟨_, rfl, f3, l3⟩) ?_ (by decide)
    (repeat' (first | exact FL_nil | apply FL_cons | exact JO_ono | apply JO_osm | apply JI_add | apply JI_sub | apply JI_neg | exact JI_ct | (apply JI_vr (by exact rfl) <;> omega) | exact JI_vr (by exact rfl) (Int.le_refl _) (Int.le_refl _) | apply JS_add | apply JS_cut | apply JS_rev | (refine JS_mul ?_ (by decide) (by decide) ?_) | apply JS_mul | (apply JS_vr (by exact rfl); assumption) | (apply JS_ct; exact Nat.le_refl _) | exact J_ct rfl | apply J_tupF | exact J_vr rfl (by assumption) | (apply Fd_lst; apply J_lstF) | apply J_lstF | apply J_cat | (apply Fd_int; first | exact JI_ct | apply JI_neg | (apply JI_vr (by exact rfl) (Int.le_refl _) (Int.le_refl _))) | apply Fd_str | decide))
  rintro d S6 ⟨t4, rfl, f4, l4⟩ hS6
  dsimp only [List.set_cons_zero, List.set_cons_succ]
  refine asg_J (P := FdL 25) (I := PP rest) ?_ hS6 ?_
  · refine J_cat (n := 21) (k := 4) (J_vr rfl ⟨_, rfl, f4, l4⟩) ?_ (by decide)
    refine J_lstF (FL_cons ?_ (FL_cons ?_ (FL_cons ?_ (FL_cons ?_ FL_nil)))) (by decide)
    · (repeat' (first | exact FL_nil | apply FL_cons | exact JO_ono | apply JO_osm | apply JI_add | apply JI_sub | apply JI_neg | exact JI_ct | (apply JI_vr (by exact rfl) <;> omega) | exact JI_vr (by exact rfl) (Int.le_refl _) (Int.le_refl _) | apply JS_add | apply JS_cut | apply JS_rev | (refine JS_mul ?_ (by decide) (by decide) ?_) | apply JS_mul | (apply JS_vr (by exact rfl); assumption) | (apply JS_ct; exact Nat.le_refl _) | exact J_ct rfl | apply J_tupF | exact J_vr rfl (by assumption) | (apply Fd_lst; apply J_lstF) | apply J_lstF | apply J_cat | (apply Fd_int; first | exact JI_ct | apply JI_neg | (apply JI_vr (by exact rfl) (Int.le_refl _) (Int.le_refl _))) | apply Fd_str | decide))
    · (repeat' (first | exact FL_nil | apply FL_cons | exact JO_ono | apply JO_osm | apply JI_add | apply JI_sub | apply JI_neg | exact JI_ct | (apply JI_vr (by exact rfl) <;> omega) | exact JI_vr (by exact rfl) (Int.le_refl _) (Int.le_refl _) | apply JS_add | apply JS_cut | apply JS_rev | (refine JS_mul ?_ (by decide) (by decide) ?_) | apply JS_mul | (apply JS_vr (by exact rfl); assumption) | (apply JS_ct; exact Nat.le_refl _) | exact J_ct rfl | apply J_tupF | exact J_vr rfl (by assumption) | (apply Fd_lst; apply J_lstF) | apply J_lstF | apply J_cat | (apply Fd_int; first | exact JI_ct | apply JI_neg | (apply JI_vr (by exact rfl) (Int.le_refl _) (Int.le_refl _))) | apply Fd_str | decide))
    · (repeat' (first | exact FL_nil | apply FL_cons | exact JO_ono | apply JO_osm | apply JI_add | apply JI_sub | apply JI_neg | exact JI_ct | (apply JI_vr (by exact rfl) <;> omega) | exact JI_vr (by exact rfl) (Int.le_refl _) (Int.le_refl _) | apply JS_add | apply JS_cut | apply JS_rev | (refine JS_mul ?_ (by decide) (by decide) ?_) | apply JS_mul | (apply JS_vr (by exact rfl); assumption) | (apply JS_ct; exact Nat.le_refl _) | exact J_ct rfl | apply J_tupF | exact J_vr rfl (by assumption) | (apply Fd_lst; apply J_lstF) | apply J_lstF | apply J_cat | (apply Fd_int; first | exact JI_ct | apply JI_neg | (apply JI_vr (by exact rfl) (Int.le_refl _) (Int.le_refl _))) | apply Fd_str | decide))
    · refine J_tupF (FL_cons ?_ (FL_cons ?_ (FL_cons pow30 FL_nil))) (by decide)
      · (repeat' (first | exact FL_nil | apply FL_cons | exact JO_ono | apply JO_osm | apply JI_add | apply JI_sub | apply JI_neg | exact JI_ct | (apply JI_vr (by exact rfl) <;> omega) | exact JI_vr (by exact rfl) (Int.le_refl _) (Int.le_refl _) | apply JS_add | apply JS_cut | apply JS_rev | (refine JS_mul ?_ (by decide) (by decide) ?_) | apply JS_mul | (apply JS_vr (by exact rfl); assumption) | (apply JS_ct; exact Nat.le_refl _) | exact J_ct rfl | apply J_tupF | exact J_vr rfl (by assumption) | (apply Fd_lst; apply J_lstF) | apply J_lstF | apply J_cat | (apply Fd_int; first | exact JI_ct | apply JI_neg | (apply JI_vr (by exact rfl) (Int.le_refl _) (Int.le_refl _))) | apply Fd_str | decide))
      · (repeat' (first | exact FL_nil | apply FL_cons | exact JO_ono | apply JO_osm | apply JI_add | apply JI_sub | apply JI_neg | exact JI_ct | (apply JI_vr (by exact rfl) <;> omega) | exact JI_vr (by exact rfl) (Int.le_refl _) (Int.le_refl _) | apply JS_add | apply JS_cut | apply JS_rev | (refine JS_mul ?_ (by decide) (by decide) ?_) | apply JS_mul | (apply JS_vr (by exact rfl); assumption) | (apply JS_ct; exact Nat.le_refl _) | exact J_ct rfl | apply J_tupF | exact J_vr rfl (by assumption) | (apply Fd_lst; apply J_lstF) | apply J_lstF | apply J_cat | (apply Fd_int; first | exact JI_ct | apply JI_neg | (apply JI_vr (by exact rfl) (Int.le_refl _) (Int.le_refl _))) | apply Fd_str | decide))
  rintro d S7 ⟨t5, rfl, f5, l5⟩ hS7
  dsimp only [List.set_cons_zero, List.set_cons_succ]
  refine asg_J (P := fun d => ∃ ds, d = .lst ds ∧ fdL ds = true ∧ 1 ≤ ds.length ∧ ds.length ≤ 25 + 1) (I := PP rest) ?_ hS7 ?_
  · refine J_catP (k := 1) (J_vr rfl ⟨_, rfl, f5, l5⟩) (J_lstE (FE_cons ?_ FE_nil) (by decide)) (by decide)
    (repeat' (first | exact FL_nil | apply FL_cons | exact JO_ono | apply JO_osm | apply JI_add | apply JI_sub | apply JI_neg | exact JI_ct | (apply JI_vr (by exact rfl) <;> omega) | exact JI_vr (by exact rfl) (Int.le_refl _) (Int.le_refl _) | apply JS_add | apply JS_cut | apply JS_rev | (refine JS_mul ?_ (by decide) (by decide) ?_) | apply JS_mul | (apply JS_vr (by exact rfl); assumption) | (apply JS_ct; exact Nat.le_refl _) | exact J_ct rfl | apply J_tupF | exact J_vr rfl (by assumption) | (apply Fd_lst; apply J_lstF) | apply J_lstF | apply J_cat | (apply Fd_int; first | exact JI_ct | apply JI_neg | (apply JI_vr (by exact rfl) (Int.le_refl _) (Int.le_refl _))) | apply Fd_str | decide))
  rintro d S8 ⟨t6, rfl, f6, l6, l7⟩ hS8
  dsimp only [List.set_cons_zero, List.set_cons_succ]
  rw [wS_retS]
  refine J.use (J_pickI rfl f6 (J_draw rfl (J_lenL rfl) (by omega) (by omega)) (by omega)) hS8 ?_
  intro d S9 hd hS9
  simp only [mkR_eq]
  rw [scope_pure (fd_pure hd), wpM_ok]
  exact q d _ (hS.trunc0 hS9) hd
end
end Z

end
section
set_option Elab.async false
set_option linter.all false
set_option maxRecDepth 100000
set_option maxHeartbeats 4000000
set_option autoImplicit false
namespace Z
open PySem PySem.Spec L2 Y PySem.W
section
variable {rest S : Sto} {Q : D → Sto → Prop} {E : Str → List (Str × D) → Sto → Prop} {L : Str} {env : En}
theorem J_bent {i k : Nat} {m : EM} (h0 : env[0]? = some (some (.ref 1))) (hi : env[i]? = some (some (.str L))) (hL : LOk k L) (hk : k ≤ 26) (hm : J (PP rest) env m EdOk) : J (PP rest) env (cal M__law_bent_edit (lcons (vr 0) (lcons (vr i) (lcons m lnil)))) Fd := fun S hS => by
  simp only [mkR_eq, wpM_cal, wpM_lcons, wpM_lnil, wpM_vr, h0, hi]
  refine wpM_mono' (hm S hS) ?_
  rintro d S1 ⟨hd, hS1⟩
  exact bent_wp hS1 hL hk hd fun d S2 hS2 h => ⟨h, hS2⟩
theorem az_up : ∀ c ∈ az.cps.toList, Unicode.upperOf c = [c - 32] := by decide +kernel
theorem J_upper {I : Sto → Prop} {i k : Nat} (hi : env[i]? = some (some (.str L))) (hL : LOk k L) (hk : k ≤ 26) : J I env (meth "str" Y.m_upper (vr i) lnil) (IsS k) := fun S hS => by
  have hll := hL.len
  simp only [mkR_eq, wpM_meth, wpM_lnil, wpM_vr, hi]
  rw [if_pos (show tyD "str" _ _ = true from rfl)]
  have e : Y.m_upper S (.str L) [] = some (.str (Txt.upper L), S) := by
    unfold Y.m_upper
    simp only
    rw [if_pos (by omega)]
  simp only [mkR_eq, e]
  have hc : (Txt.upper L).cps.toList = L.cps.toList.map (fun c => c - 32) := by
    rw [upper_cps, List.map_congr_left (g := fun c => [c - 32]) fun c hc => az_up c (hL.az c hc)]
    induction L.cps.toList with
    | nil => rfl
    | cons a l ih => rw [List.map_cons, List.flatten_cons, ih]; rfl
  refine ⟨⟨_, rfl, ?_, strOk_iff.mpr fun c hcm => ?_⟩, hS⟩
  · rw [len_eq, hc, List.length_map, ← len_eq]; omega
  · rw [hc] at hcm
    obtain ⟨a, ha, rfl⟩ := List.mem_map.mp hcm
    have := az_lt a (hL.az a ha)
    omega
theorem J_tupleS {I : Sto → Prop} {i n : Nat} (hi : env[i]? = some (some (.str L))) (hL : FS n L) (hn : n ≤ 1000) : J I env (calB o_tupleA (lcons (vr i) lnil)) Fd := fun S hS => by
  have hl := hL.len
  simp only [mkR_eq, wpM_calB, wpM_lcons, wpM_lnil, wpM_vr, hi, o_tupleA]
  rw [if_pos (le_szL (show L.cps.size ≤ 16777216 from Nat.le_trans hl (by omega)))]
  exact ⟨sgns_fd hL.ok, hS⟩
theorem J_max {I : Sto → Prop} {a b : EM} {x y x' y' : Int} (ha : J I env a (IsI x y)) (hb : J I env b (IsI x' y')) : J I env (calB o_max2 (lcons a (lcons b lnil))) Fd := fun S hS => by
  simp only [mkR_eq, wpM_calB, wpM_lcons, wpM_lnil]
  refine wpM_mono' (ha S hS) ?_
  rintro d S1 ⟨⟨v, rfl, _⟩, hS1⟩
  try simp only [mkR_eq, wpM_lcons, wpM_lnil]
  refine wpM_mono' (hb S1 hS1) ?_
  rintro d S2 ⟨⟨w, rfl, _⟩, hS2⟩
  exact ⟨rfl, hS2⟩
theorem J_book {i j k n : Nat} {m : EM} {many : Int} (h0 : env[0]? = some (some (.ref 1))) (hi : env[i]? = some (some (.str L))) (hj : env[j]? = some (some (.int many))) (hL : LOk k L) (hk : 0 < k) (hk1 : k ≤ 26) (hn : many = (n : Int)) (hn1 : n ≤ 1000) (hm : J (PP rest) env m (IsI 1 100000)) :
    J (PP rest) env (cal M__law_book (lcons (vr 0) (lcons (vr i) (lcons (vr j) (lcons m lnil))))) (fun d => ∃ es, d = .tup [.str L, .tup es] ∧ es.length ≤ n ∧ ∀ e ∈ es, EdOk e) := fun S hS => by
  simp only [mkR_eq, wpM_cal, wpM_lcons, wpM_lnil, wpM_vr, h0, hi, hj]
  refine wpM_mono' (hm S hS) ?_
  rintro d S1 ⟨⟨v, rfl, v0, v1⟩, hS1⟩
  exact book_wp hS1 hL hk hk1 hn hn1 (by omega) (by omega) fun es S2 hS2 h1 h2 => ⟨⟨es, rfl, h1, h2⟩, hS2⟩
theorem J_most {h0 : env[0]? = some (some (.ref 1))} : J (PP rest) env (op2 o_ix (frz (lstF (lcons (ct (.int 3)) (lcons (ct (.int 1000)) lnil)))) (cal M__law_draw (lcons (vr 0) (lcons (ct (.int 2)) lnil)))) (IsI 1 100000) := by
  refine J_op2 (A := fun d => d = .lst [.int 3, .int 1000]) (B := IsI 0 (2 - 1)) (fun S hS => ?_) (J_draw h0 (J_ct rfl) (by decide) (by decide)) ?_
  · simp only [mkR_eq, wpM_rg1, wpM_rg2, wpM_enumA, wpM_iof, wpM_lfS, wS_rai, wS_try, wpM_catF, wpM_revA, wpM_newD, wpM_itemE, wpM_itemT, wpM_hasE, wpM_get1, wpM_get2, wS_putE, wS_putT, and_self, if_true, if_false, Bool.false_eq_true, reduceIte, wS_setS, wS_seq, wS_if, wS_asg, wS_exS, wS_retS, wS_nxS, wS_nx, wS_ret, wpM_op2, wpM_op1, wpM_asT, wpM_trt, wpM_notT, wpM_andT, wpM_orT, wpM_andV, wpM_notE, wpM_ifE, wpM_lnil, wpM_lcons, wpM_tupE, wpM_lstF, wpM_frz, wpM_new, wpM_cal, wpM_calB, wpM_calF, wpM_isiE, wpM_vr, wpM_ct, wpM_meth, wpM_chn, wpM_cut, wpM_cutF, wpM_ono, wpM_osm, wpM_revT, wpM_lfE, wS_for, tgN, List.getElem?_cons_zero, List.getElem?_cons_succ, List.set_cons_zero, List.set_cons_succ, List.map_cons, List.map_nil, List.length_cons, List.length_nil, List.replicate_succ, List.replicate_zero, Nat.reduceAdd, Nat.reduceSub, List.cons_append, List.nil_append, le_sz (n := 2) rfl]
    exact ⟨by trivial, hS⟩
  · rintro S x y rfl ⟨v, rfl, v0, v1⟩
    obtain ⟨d, hd, e⟩ := ix_lst (ds := [.int 3, .int 1000]) v0 (by simp; omega)
    refine ⟨d, e S, ?_⟩
    simp only [List.mem_cons, List.not_mem_nil, or_false] at hd
    rcases hd with rfl | rfl
    · exact ⟨3, rfl, by omega, by omega⟩
    · exact ⟨1000, rfl, by omega, by omega⟩
theorem bholds_wp {many : Int} {nn : Nat} (hS : PP rest S) (hn : many = (nn : Int)) (hn1 : nn ≤ 60) (q : ∀ S', PP rest S' → Q (.bl true) S') : wpM (M__law_book_holds [.ref 1, .int many] S) Q E := by
  unfold M__law_book_holds
  refine wpM_fn ?_
  unfold m__law_book_holds
  simp only [mkR_eq, List.map_cons, List.map_nil, List.length_cons, List.length_nil, Nat.reduceAdd, Nat.reduceSub, List.replicate_succ, List.replicate_zero, List.cons_append, List.nil_append]
  refine asg_J (P := fun d => ∃ L n, d = .str L ∧ LOk n L ∧ 1 ≤ n ∧ n ≤ 6) (I := PP rest) ?_ hS ?_
  · exact J_letters (x := 1 + 0) (y := 1 + (6 - 1)) rfl (JI_add JI_ct (J_draw rfl (J_ct rfl) (by decide) (by decide))) (by decide) (by decide)
  rintro d S2 ⟨L, n, rfl, hL, hn1', hn6⟩ hS2
  have hLl := hL.len
  have hL6 : FS 6 L := hL.fs.mono hn6
  dsimp only [List.set_cons_zero, List.set_cons_succ]
  refine asg_J (P := fun d => ∃ es, d = .tup [.str L, .tup es] ∧ es.length ≤ nn ∧ ∀ e ∈ es, EdOk e) (I := PP rest) ?_ hS2 ?_
  · exact J_book rfl rfl rfl hL (by omega) (by omega) hn (by omega) (J_most (h0 := rfl))
  rintro d S3 ⟨es, rfl, hel, hee⟩ hS3
  have hes : fdL es = true := fdL_mem.mpr fun e he => (hee e he).fd
  have hesF : Fd (.tup es) := hes
  have hri : fdL [.str L, .tup es] = true := by simp only [fdL_cons, fdL_nil, fd_str, fd_tup, hL6.okS (show 6 ≤ 1000000 by omega), hes, Bool.and_self]
  have hriF : Fd (.tup [.str L, .tup es]) := hri
  dsimp only [List.set_cons_zero, List.set_cons_succ]
  refine asg_J (P := fun d => d = .tup es) (I := PP rest) ?_ hS3 ?_
  · exact J_op2 (J_vr (P := fun d => d = .tup [.str L, .tup es]) rfl rfl) (J_ct (P := fun d => d = .int 1) rfl) fun S x y e1 e2 => by
      subst e1 e2
      exact ⟨_, ixT1, rfl⟩
  rintro d S4 rfl hS4
  dsimp only [List.set_cons_zero, List.set_cons_succ]
  refine asg_J (P := fun d => ∃ L' n, d = .str L' ∧ LOk n L' ∧ 6 ≤ n ∧ n ≤ 6) (I := PP rest) ?_ hS4 ?_
  · exact J_letters (x := 6) (y := 6) rfl JI_ct (by decide) (by decide)
  rintro d S5 ⟨M, n', rfl, hM, hM1, hM2⟩ hS5
  have hM6 : FS 6 M := hM.fs.mono hM2
  dsimp only [List.set_cons_zero, List.set_cons_succ]
  refine newF_J (k := 6) (F_lst ?_ (by decide)) hS5 ?_
  · refine FL_cons ?_ (FL_cons ?_ (FL_cons ?_ (FL_cons ?_ (FL_cons ?_ (FL_cons ?_ FL_nil)))))
    · (repeat' (first | exact FL_nil | apply FL_cons | exact JO_ono | apply JO_osm | apply JI_add | apply JI_sub | apply JI_neg | exact JI_ct | (apply JI_vr (by exact rfl) <;> omega) | exact JI_vr (by exact rfl) (Int.le_refl _) (Int.le_refl _) | apply JS_add | apply JS_cut | apply JS_rev | (refine JS_mul ?_ (by decide) (by decide) ?_) | apply JS_mul | (apply JS_vr (by exact rfl); assumption) | (apply JS_ct; exact Nat.le_refl _) | exact J_ct rfl | apply J_tupF | exact J_vr rfl (by assumption) | (apply Fd_lst; apply J_lstF) | apply J_lstF | apply J_cat | (apply Fd_int; first | exact JI_ct | apply JI_neg | (apply JI_vr (by exact rfl) (Int.le_refl _) (Int.le_refl _))) | apply Fd_str | decide))
    · (repeat' (first | exact FL_nil | apply FL_cons | exact JO_ono | apply JO_osm | apply JI_add | apply JI_sub | apply JI_neg | exact JI_ct | (apply JI_vr (by exact rfl) <;> omega) | exact JI_vr (by exact rfl) (Int.le_refl _) (Int.le_refl _) | apply JS_add | apply JS_cut | apply JS_rev | (refine JS_mul ?_ (by decide) (by decide) ?_) | apply JS_mul | (apply JS_vr (by exact rfl); assumption) | (apply JS_ct; exact Nat.le_refl _) | exact J_ct rfl | apply J_tupF | exact J_vr rfl (by assumption) | (apply Fd_lst; apply J_lstF) | apply J_lstF | apply J_cat | (apply Fd_int; first | exact JI_ct | apply JI_neg | (apply JI_vr (by exact rfl) (Int.le_refl _) (Int.le_refl _))) | apply Fd_str | decide))
    · exact Fd_lst (J_listT rfl hri (Nat.le_refl _))
    · refine J_tupF (FL_cons ?_ (FL_cons ?_ FL_nil)) (by decide)
      · (repeat' (first | exact FL_nil | apply FL_cons | exact JO_ono | apply JO_osm | apply JI_add | apply JI_sub | apply JI_neg | exact JI_ct | (apply JI_vr (by exact rfl) <;> omega) | exact JI_vr (by exact rfl) (Int.le_refl _) (Int.le_refl _) | apply JS_add | apply JS_cut | apply JS_rev | (refine JS_mul ?_ (by decide) (by decide) ?_) | apply JS_mul | (apply JS_vr (by exact rfl); assumption) | (apply JS_ct; exact Nat.le_refl _) | exact J_ct rfl | apply J_tupF | exact J_vr rfl (by assumption) | (apply Fd_lst; apply J_lstF) | apply J_lstF | apply J_cat | (apply Fd_int; first | exact JI_ct | apply JI_neg | (apply JI_vr (by exact rfl) (Int.le_refl _) (Int.le_refl _))) | apply Fd_str | decide))
      · exact Fd_lst (J_listT rfl hes (Nat.le_refl _))
    · (repeat' (first | exact FL_nil | apply FL_cons | exact JO_ono | apply JO_osm | apply JI_add | apply JI_sub | apply JI_neg | exact JI_ct | (apply JI_vr (by exact rfl) <;> omega) | exact JI_vr (by exact rfl) (Int.le_refl _) (Int.le_refl _) | apply JS_add | apply JS_cut | apply JS_rev | (refine JS_mul ?_ (by decide) (by decide) ?_) | apply JS_mul | (apply JS_vr (by exact rfl); assumption) | (apply JS_ct; exact Nat.le_refl _) | exact J_ct rfl | apply J_tupF | exact J_vr rfl (by assumption) | (apply Fd_lst; apply J_lstF) | apply J_lstF | apply J_cat | (apply Fd_int; first | exact JI_ct | apply JI_neg | (apply JI_vr (by exact rfl) (Int.le_refl _) (Int.le_refl _))) | apply Fd_str | decide))
    · (repeat' (first | exact FL_nil | apply FL_cons | exact JO_ono | apply JO_osm | apply JI_add | apply JI_sub | apply JI_neg | exact JI_ct | (apply JI_vr (by exact rfl) <;> omega) | exact JI_vr (by exact rfl) (Int.le_refl _) (Int.le_refl _) | apply JS_add | apply JS_cut | apply JS_rev | (refine JS_mul ?_ (by decide) (by decide) ?_) | apply JS_mul | (apply JS_vr (by exact rfl); assumption) | (apply JS_ct; exact Nat.le_refl _) | exact J_ct rfl | apply J_tupF | exact J_vr rfl (by assumption) | (apply Fd_lst; apply J_lstF) | apply J_lstF | apply J_cat | (apply Fd_int; first | exact JI_ct | apply JI_neg | (apply JI_vr (by exact rfl) (Int.le_refl _) (Int.le_refl _))) | apply Fd_str | decide))
  intro S6 hS6
  dsimp only [List.set_cons_zero, List.set_cons_succ]
  refine newC_J (n := 4) rfl (fun ds => ?_) hS6 (by decide) ?_
  · (repeat' (first | exact FL_nil | apply FL_cons | exact JO_ono | apply JO_osm | apply JI_add | apply JI_sub | apply JI_neg | exact JI_ct | (apply JI_vr (by exact rfl) <;> omega) | exact JI_vr (by exact rfl) (Int.le_refl _) (Int.le_refl _) | apply JS_add | apply JS_cut | apply JS_rev | (refine JS_mul ?_ (by decide) (by decide) ?_) | apply JS_mul | (apply JS_vr (by exact rfl); assumption) | (apply JS_ct; exact Nat.le_refl _) | exact J_ct rfl | apply J_tupF | exact J_vr rfl (by assumption) | (apply Fd_lst; apply J_lstF) | apply J_lstF | apply J_cat | (apply Fd_int; first | exact JI_ct | apply JI_neg | (apply JI_vr (by exact rfl) (Int.le_refl _) (Int.le_refl _))) | apply Fd_str | decide))
  rintro r7 S7 hS7 ⟨_, hr7⟩
  dsimp only [List.set_cons_zero, List.set_cons_succ]
  refine newC_J (n := 5) rfl (fun ds => ?_) hS7 (by decide) ?_
  · refine J_lstF (FL_cons ?_ (FL_cons ?_ (FL_cons ?_ (FL_cons ?_ (FL_cons ?_ FL_nil))))) (by decide)
    · (repeat' (first | exact FL_nil | apply FL_cons | exact JO_ono | apply JO_osm | apply JI_add | apply JI_sub | apply JI_neg | exact JI_ct | (apply JI_vr (by exact rfl) <;> omega) | exact JI_vr (by exact rfl) (Int.le_refl _) (Int.le_refl _) | apply JS_add | apply JS_cut | apply JS_rev | (refine JS_mul ?_ (by decide) (by decide) ?_) | apply JS_mul | (apply JS_vr (by exact rfl); assumption) | (apply JS_ct; exact Nat.le_refl _) | exact J_ct rfl | apply J_tupF | exact J_vr rfl (by assumption) | (apply Fd_lst; apply J_lstF) | apply J_lstF | apply J_cat | (apply Fd_int; first | exact JI_ct | apply JI_neg | (apply JI_vr (by exact rfl) (Int.le_refl _) (Int.le_refl _))) | apply Fd_str | decide))
    · refine J_tupF (FL_cons (Fd_str (J_upper rfl hL (by omega)) (by omega)) (FL_cons ?_ FL_nil)) (by decide)
      (repeat' (first | exact FL_nil | apply FL_cons | exact JO_ono | apply JO_osm | apply JI_add | apply JI_sub | apply JI_neg | exact JI_ct | (apply JI_vr (by exact rfl) <;> omega) | exact JI_vr (by exact rfl) (Int.le_refl _) (Int.le_refl _) | apply JS_add | apply JS_cut | apply JS_rev | (refine JS_mul ?_ (by decide) (by decide) ?_) | apply JS_mul | (apply JS_vr (by exact rfl); assumption) | (apply JS_ct; exact Nat.le_refl _) | exact J_ct rfl | apply J_tupF | exact J_vr rfl (by assumption) | (apply Fd_lst; apply J_lstF) | apply J_lstF | apply J_cat | (apply Fd_int; first | exact JI_ct | apply JI_neg | (apply JI_vr (by exact rfl) (Int.le_refl _) (Int.le_refl _))) | apply Fd_str | decide))
    · refine J_tupF (FL_cons (J_tupleS rfl hL6 (by omega)) (FL_cons ?_ FL_nil)) (by decide)
      (repeat' (first | exact FL_nil | apply FL_cons | exact JO_ono | apply JO_osm | apply JI_add | apply JI_sub | apply JI_neg | exact JI_ct | (apply JI_vr (by exact rfl) <;> omega) | exact JI_vr (by exact rfl) (Int.le_refl _) (Int.le_refl _) | apply JS_add | apply JS_cut | apply JS_rev | (refine JS_mul ?_ (by decide) (by decide) ?_) | apply JS_mul | (apply JS_vr (by exact rfl); assumption) | (apply JS_ct; exact Nat.le_refl _) | exact J_ct rfl | apply J_tupF | exact J_vr rfl (by assumption) | (apply Fd_lst; apply J_lstF) | apply J_lstF | apply J_cat | (apply Fd_int; first | exact JI_ct | apply JI_neg | (apply JI_vr (by exact rfl) (Int.le_refl _) (Int.le_refl _))) | apply Fd_str | decide))
    · (repeat' (first | exact FL_nil | apply FL_cons | exact JO_ono | apply JO_osm | apply JI_add | apply JI_sub | apply JI_neg | exact JI_ct | (apply JI_vr (by exact rfl) <;> omega) | exact JI_vr (by exact rfl) (Int.le_refl _) (Int.le_refl _) | apply JS_add | apply JS_cut | apply JS_rev | (refine JS_mul ?_ (by decide) (by decide) ?_) | apply JS_mul | (apply JS_vr (by exact rfl); assumption) | (apply JS_ct; exact Nat.le_refl _) | exact J_ct rfl | apply J_tupF | exact J_vr rfl (by assumption) | (apply Fd_lst; apply J_lstF) | apply J_lstF | apply J_cat | (apply Fd_int; first | exact JI_ct | apply JI_neg | (apply JI_vr (by exact rfl) (Int.le_refl _) (Int.le_refl _))) | apply Fd_str | decide))
    · (repeat' (first | exact FL_nil | apply FL_cons | exact JO_ono | apply JO_osm | apply JI_add | apply JI_sub | apply JI_neg | exact JI_ct | (apply JI_vr (by exact rfl) <;> omega) | exact JI_vr (by exact rfl) (Int.le_refl _) (Int.le_refl _) | apply JS_add | apply JS_cut | apply JS_rev | (refine JS_mul ?_ (by decide) (by decide) ?_) | apply JS_mul | (apply JS_vr (by exact rfl); assumption) | (apply JS_ct; exact Nat.le_refl _) | exact J_ct rfl | apply J_tupF | exact J_vr rfl (by assumption) | (apply Fd_lst; apply J_lstF) | apply J_lstF | apply J_cat | (apply Fd_int; first | exact JI_ct | apply JI_neg | (apply JI_vr (by exact rfl) (Int.le_refl _) (Int.le_refl _))) | apply Fd_str | decide))
  rintro r8 S8 hS8 ⟨_, hr8⟩
  dsimp only [List.set_cons_zero, List.set_cons_succ]
  refine newC_J (n := 2) rfl (fun ds => ?_) hS8 (by decide) ?_
  · (repeat' (first | exact FL_nil | apply FL_cons | exact JO_ono | apply JO_osm | apply JI_add | apply JI_sub | apply JI_neg | exact JI_ct | (apply JI_vr (by exact rfl) <;> omega) | exact JI_vr (by exact rfl) (Int.le_refl _) (Int.le_refl _) | apply JS_add | apply JS_cut | apply JS_rev | (refine JS_mul ?_ (by decide) (by decide) ?_) | apply JS_mul | (apply JS_vr (by exact rfl); assumption) | (apply JS_ct; exact Nat.le_refl _) | exact J_ct rfl | apply J_tupF | exact J_vr rfl (by assumption) | (apply Fd_lst; apply J_lstF) | apply J_lstF | apply J_cat | (apply Fd_int; first | exact JI_ct | apply JI_neg | (apply JI_vr (by exact rfl) (Int.le_refl _) (Int.le_refl _))) | apply Fd_str | decide))
  rintro r9 S9 hS9 ⟨_, hr9⟩
  dsimp only [List.set_cons_zero, List.set_cons_succ]
  have hS9 : LI r9 17 S9 := hS9
  obtain ⟨X9, hX9⟩ : ∃ X, r9 = rest ++ X := ⟨_, by rw [hr9, hr8, hr7]; simp [List.append_assoc]; rfl⟩
  refine wS_seqP (fun e S' => ∃ x7 x8 x9 x10 x11 x12 x13 x14 x15, e = [some (.ref 1), some (.int many), some (.str L), some (.tup [.str L, .tup es]), some (.tup es), some (.str M), some (.ref (r9.length + 2)), x7, x8, x9, x10, x11, x12, x13, x14, x15, none] ∧ LI r9 40 S') ?_ ?_
  · by_cases hp : 0 < es.length
    · refine wS_ifT (show Res.ok (decide ((0 : Int) < (es.length : Int))) S9 = Res.ok true S9 by rw [decide_eq_true (show (0 : Int) < (es.length : Int) by omega)]) ?_
      obtain ⟨t9, hS9', ft9, lt9⟩ := hS9
      refine asg_J (P := IsI 0 ((es.length : Int) - 1)) (I := LI r9 17) ?_ ⟨t9, hS9', ft9, lt9⟩ ?_
      · exact J_ex fun ds => J_draw rfl (J_lenT rfl) (by omega) (by omega)
      rintro d S1 ⟨v, rfl, v0, v1⟩ hS1
      obtain ⟨j, hvj⟩ := Int.eq_ofNat_of_zero_le v0
      have hj : j < es.length := by omega
      obtain ⟨e, hej⟩ : ∃ e, es[j]? = some e := ⟨_, List.getElem?_eq_getElem hj⟩
      obtain ⟨er, ew, ec, rfl, her, hew, hec⟩ := hee e (List.mem_of_getElem? hej)
      have hix : ∀ S, o_ix S (.tup es) (.int v) = some (.tup [.str er, .str ew, .int ec]) := fun S => by rw [hvj]; exact ixT hej
      have hbx : ∀ {env : En} {I : Sto → Prop}, env[4]? = some (some (.tup es)) → env[7]? = some (some (.int v)) → J I env (op2 o_ix (vr 4) (vr 7)) EdOk := fun h h' => J_ixT h h' v0 (by omega) hee
      have hbf : ∀ {env : En} {I : Sto → Prop}, env[4]? = some (some (.tup es)) → env[7]? = some (some (.int v)) → J I env (op2 o_ix (vr 4) (vr 7)) Fd := fun h h' => (hbx h h').mono fun d h => h.fd
      dsimp only [List.set_cons_zero, List.set_cons_succ]
      rw [wS_seq, wS_asg]
      simp only [mkR_eq, wpM_op2, wpM_vr, List.getElem?_cons_succ, List.getElem?_cons_zero, hix, wpM_lfS, tgT, tgs, tgN, Option.bind_some, List.set_cons_zero, List.set_cons_succ]
      refine asg_J (P := IsT nn) (I := LI r9 17) ?_ hS1 ?_
      · exact JT_cut (JT_vr rfl hes hel) JO_ono (JO_osm (JI_vr rfl (Int.le_refl _) (Int.le_refl _)))
      rintro d S2 ⟨hd, rfl, fh, lh⟩ hS2
      dsimp only [List.set_cons_zero, List.set_cons_succ]
      refine asg_J (P := IsT nn) (I := LI r9 17) ?_ hS2 ?_
      · exact JT_cut (JT_vr rfl hes hel) (JO_osm (JI_add (JI_vr rfl (Int.le_refl _) (Int.le_refl _)) JI_ct)) JO_ono
      rintro d S3 ⟨tl, rfl, ft, lt⟩ hS3
      dsimp only [List.set_cons_zero, List.set_cons_succ]
      have hmid : ∀ {env : En} {I : Sto → Prop} {m : EM} {k : Nat}, env[11]? = some (some (.tup hd)) → env[12]? = some (some (.tup tl)) → J I env m (IsT k) → k ≤ 1000 → J I env (op2 o_add (op2 o_add (vr 11) m) (vr 12)) (IsT (nn + k + nn)) := fun h h' hm hk => JT_add (JT_add (JT_vr h fh lh) hm (by omega)) (JT_vr h' ft lt) (by omega)
      have hpr : ∀ {env : En} {I : Sto → Prop} {m : EM}, env[2]? = some (some (.str L)) → J I env m Fd → J I env (tupE (lcons (vr 2) (lcons m lnil))) Fd := fun h hm => J_tupF (FL_cons (Fd_str (JS_vr h hL6) (by decide)) (FL_cons hm FL_nil)) (by decide)
      rw [wS_seq]
      simp only [mkR_eq, wS_for, wpM_rg1, wpM_lcons, wpM_ct, wpM_lnil]
      refine ⟨rgOk_of (by decide) (by decide), ?_⟩
      have e9 : rgL 0 9 = rgL 0 ((9 : Nat) : Int) := rfl
      rw [e9]
      refine wS_loop (fun i e S' => ∃ x13, e = [some (.ref 1), some (.int many), some (.str L), some (.tup [.str L, .tup es]), some (.tup es), some (.str M), some (.ref (r9.length + 2)), some (.int v), some (.str er), some (.str ew), some (.int ec), some (.tup hd), some (.tup tl), x13, none, none, none] ∧ LI r9 (17 + i) S') _ 0 _ _ ⟨none, rfl, hS3⟩ ?_ ?_
      · rintro i d e S4 hi ⟨x13, rfl, hS4⟩
        obtain ⟨rfl, hi9⟩ := rgL_get hi
        rw [Nat.zero_add] at hS4 ⊢
        refine ⟨okSrc_nil, _, rfl, ?_⟩
        dsimp only [List.set_cons_zero, List.set_cons_succ]
        refine appE_J rfl (fun ds => hpr rfl (Fd_tup (hmid rfl rfl (JT_tup (FL_cons (J_bent rfl rfl hL (by omega) (hbx rfl rfl)) FL_nil) (by decide)) (by decide)))) hS4 (by omega) ?_
        intro S5 hS5
        exact ⟨_, rfl, hS5⟩
      rintro e S4 ⟨x13, rfl, hS4⟩
      refine ⟨okSrc_nil, ?_⟩
      rw [rgL_len] at hS4
      refine asg_J (P := IsT (nn + 1 + nn)) (I := LI r9 26) ?_ hS4 ?_
      · exact J_ex fun ds => hmid rfl rfl (JT_tup (FL_cons (J_bent rfl rfl hL (by omega) (hbx rfl rfl)) FL_nil) (by decide)) (by decide)
      rintro d S5 ⟨two, rfl, f2, l2⟩ hS5
      dsimp only [List.set_cons_zero, List.set_cons_succ]
      refine asg_J (P := IsI 0 ((es.length : Int) - 1)) (I := LI r9 26) ?_ hS5 ?_
      · exact J_ex fun ds => J_draw rfl (J_lenT rfl) (by omega) (by omega)
      rintro d S6 ⟨ot, rfl, o0, o1⟩ hS6
      dsimp only [List.set_cons_zero, List.set_cons_succ]
      refine app_J rfl (fun ds => hpr rfl (Fd_tup (JT_add (JT_add (JT_cut (JT_vr rfl f2 l2) JO_ono (JO_osm (JI_vr rfl (Int.le_refl _) (Int.le_refl _)))) (JT_tup (FL_cons (J_bent rfl rfl hL (by omega) (J_ixT rfl rfl o0 (by omega) hee)) FL_nil) (by decide)) (by omega)) (JT_cut (JT_vr rfl f2 l2) (JO_osm (JI_add (JI_vr rfl (Int.le_refl _) (Int.le_refl _)) JI_ct)) JO_ono) (by omega)))) hS6 (by decide) ?_
      intro S7 hS7
      refine app_J rfl (fun ds => hpr rfl (Fd_tup (hmid rfl rfl (JT_tup (FL_cons (hbf rfl rfl) (FL_cons (hbf rfl rfl) FL_nil)) (by decide)) (by decide)))) hS7 (by decide) ?_
      intro S8 hS8
      refine app_J rfl (fun ds => hpr rfl (Fd_tup (hmid rfl rfl (JT_tup (FL_cons (J_tupF (FL_cons (Fd_str (JS_vr rfl her) (by decide)) (FL_cons (Fd_str (JS_vr rfl hew) (by decide)) (FL_cons (J_max JI_ct (JI_sub (JI_vr rfl (Int.le_refl _) (Int.le_refl _)) JI_ct)) FL_nil))) (by decide)) (FL_cons (J_tupF (FL_cons (Fd_str (JS_vr rfl her) (by decide)) (FL_cons (Fd_str (JS_vr rfl hew) (by decide)) (FL_cons (J_vr rfl rfl) FL_nil))) (by decide)) FL_nil)) (by decide)) (by decide)))) hS8 (by decide) ?_
      intro S9 hS9
      refine app_J rfl (fun ds => hpr rfl (Fd_tup (JT_rev (JT_vr rfl hes hel)))) hS9 (by decide) ?_
      intro S10 hS10
      refine app_J rfl (fun ds => hpr rfl (Fd_tup (JT_add (JT_add (JT_vr rfl ft lt) (JT_vr rfl fh lh) (by omega)) (JT_tup (FL_cons (hbf rfl rfl) FL_nil) (by decide)) (by omega)))) hS10 (by decide) ?_
      intro S11 hS11
      refine app_J rfl (fun ds => J_tupF (FL_cons (Fd_str (JS_cut (JS_vr rfl hL6) (JO_osm JI_ct) JO_ono (by decide)) (by decide)) (FL_cons (J_vr rfl hesF) FL_nil)) (by decide)) hS11 (by decide) ?_
      intro S12 hS12
      refine appE_J rfl (fun ds => J_tupF (FL_cons (Fd_str (JS_rev (JS_vr rfl hL6) (by decide)) (by decide)) (FL_cons (Fd_tup (hmid rfl rfl (JT_tup (FL_cons (J_ct rfl) FL_nil) (by decide)) (by decide))) FL_nil)) (by decide)) hS12 (by decide) ?_
      intro S13 hS13
      exact ⟨_, _, _, _, _, _, _, _, _, rfl, hS13.mono (by decide)⟩
    · refine wS_ifF (show Res.ok (decide ((0 : Int) < (es.length : Int))) S9 = Res.ok false S9 by rw [decide_eq_false (show ¬ (0 : Int) < (es.length : Int) by omega)]) ?_
      exact ⟨_, _, _, _, _, _, _, _, _, rfl, hS9.mono (by decide)⟩
  rintro env S10 ⟨x7, x8, x9, x10, x11, x12, x13, x14, x15, rfl, hS10⟩
  refine forL_J (I := LI r9 40) (n := 40 + 11 + 1) ?_ hS10 ?_
  · refine J_cat (J_catR rfl (fun ds => J_odd rfl rfl hL6 (by decide)) (by decide)) ?_ (by decide)
    (repeat' (first | exact FL_nil | apply FL_cons | exact JO_ono | apply JO_osm | apply JI_add | apply JI_sub | apply JI_neg | exact JI_ct | (apply JI_vr (by exact rfl) <;> omega) | exact JI_vr (by exact rfl) (Int.le_refl _) (Int.le_refl _) | apply JS_add | apply JS_cut | apply JS_rev | (refine JS_mul ?_ (by decide) (by decide) ?_) | apply JS_mul | (apply JS_vr (by exact rfl); assumption) | (apply JS_ct; exact Nat.le_refl _) | exact J_ct rfl | apply J_tupF | exact J_vr rfl (by assumption) | (apply Fd_lst; apply J_lstF) | apply J_lstF | apply J_cat | (apply Fd_int; first | exact JI_ct | apply JI_neg | (apply JI_vr (by exact rfl) (Int.le_refl _) (Int.le_refl _))) | apply Fd_str | decide))
  intro ds S11 hds hS11
  obtain ⟨t, hS11, _, _⟩ := hS11
  refine loop_agree hS11 hds (show 16 < 17 by decide) ?_ (fun e x => rfl) ?_
  · intro x hx S
    exact ⟨_, told2 hx _, book_due_eq hx, same_eq⟩
  · intro e
    simp only [mkR_eq, wpM_rg1, wpM_rg2, wpM_enumA, wpM_iof, wpM_lfS, wS_rai, wS_try, wpM_catF, wpM_revA, wpM_newD, wpM_itemE, wpM_itemT, wpM_hasE, wpM_get1, wpM_get2, wS_putE, wS_putT, and_self, if_true, if_false, Bool.false_eq_true, reduceIte, wS_setS, wS_seq, wS_if, wS_asg, wS_exS, wS_retS, wS_nxS, wS_nx, wS_ret, wpM_op2, wpM_op1, wpM_asT, wpM_trt, wpM_notT, wpM_andT, wpM_orT, wpM_andV, wpM_notE, wpM_ifE, wpM_lnil, wpM_lcons, wpM_tupE, wpM_lstF, wpM_frz, wpM_new, wpM_cal, wpM_calB, wpM_calF, wpM_isiE, wpM_vr, wpM_ct, wpM_meth, wpM_chn, wpM_cut, wpM_cutF, wpM_ono, wpM_osm, wpM_revT, wpM_lfE, wS_for, tgN, List.getElem?_cons_zero, List.getElem?_cons_succ, List.set_cons_zero, List.set_cons_succ, List.map_cons, List.map_nil, List.length_cons, List.length_nil, List.replicate_succ, List.replicate_zero, Nat.reduceAdd, Nat.reduceSub, List.cons_append, List.nil_append]
    rw [scope_bl, wpM_ok]
    rw [hX9, List.append_assoc] at hS11
    exact q _ (hS.trunc hS11)
end
end Z

end
section
set_option Elab.async false
set_option linter.all false
set_option maxRecDepth 100000
set_option maxHeartbeats 4000000
set_option autoImplicit false
namespace Z
open PySem PySem.Spec L2 Y PySem.W
section
variable {rest S : Sto} {Q : D → Sto → Prop} {E : Str → List (Str × D) → Sto → Prop} {L : Str} {env : En}
/-- a row of edits that grows -/
def EI (r : Sto) (k : Nat) (S : Sto) : Prop := ∃ ds, PP (r ++ [some (.lst ds)]) S ∧ (∀ d ∈ ds, EdOk d) ∧ ds.length = k
theorem J_exE {r : Sto} {k : Nat} {m : EM} {P : D → Prop} (h : ∀ ds, J (PP (r ++ [some (.lst ds)])) env m P) : J (EI r k) env m P := fun S ⟨ds, hS, h1, h2⟩ => wpM_mono' (h ds S hS) fun x S1 q => ⟨q.1, ds, q.2, h1, h2⟩
theorem appEE_J {r : Sto} {i k : Nat} {el : EM} {K : SK} (hi : env[i]? = some (some (.ref (r.length + 2)))) (he : ∀ ds, J (PP (r ++ [some (.lst ds)])) env el EdOk) (hS : EI r k S) (hk : k < 1000000) (q : ∀ S', EI r (k + 1) S' → K.nx env S') : wS (exS (meth "list" m_append (vr i) (lcons el lnil)) env S) K := by
  obtain ⟨ds, hS, h1, h2⟩ := hS
  rw [wS_exS, wpM_meth, wpM_vr, hi]
  simp only [mkR_eq]
  rw [if_pos (tyL hS.last), wpM_lcons]
  refine wpM_noX (he ds S hS) ?_
  rintro x S1 ⟨hx, hS1⟩
  rw [wpM_lnil, app_at hS1.last (Nat.lt_of_lt_of_le (show ds.length < 1000001 by omega) (le_sz rfl))]
  refine q _ ⟨_, hS1.setLast, fun d hd => ?_, by rw [List.length_append, List.length_singleton]; omega⟩
  rcases List.mem_append.mp hd with hd | hd
  · exact h1 d hd
  · rw [List.mem_singleton.mp hd]; exact hx
theorem appES_J {r : Sto} {i k : Nat} {el : EM} {K : SK} {rs : SM} (hi : env[i]? = some (some (.ref (r.length + 2)))) (he : ∀ ds, J (PP (r ++ [some (.lst ds)])) env el EdOk) (hS : EI r k S) (hk : k < 1000000) (q : ∀ S', EI r (k + 1) S' → wS (rs env S') K) : wS (seqS (exS (meth "list" m_append (vr i) (lcons el lnil))) rs env S) K := by
  rw [wS_seq]
  exact appEE_J hi he hS hk q
theorem J_ed {I : Sto → Prop} {a b c : EM} (ha : J I env a (IsS 3)) (hb : J I env b (IsS 3)) (hc : J I env c (IsI 0 1000000)) : J I env (tupE (lcons a (lcons b (lcons c lnil)))) EdOk := fun S hS => by
  simp only [mkR_eq, wpM_tupE, wpM_lcons, wpM_lnil]
  refine wpM_mono' (ha S hS) ?_
  rintro d S1 ⟨⟨r, rfl, hr⟩, hS1⟩
  try simp only [mkR_eq, wpM_lcons, wpM_lnil]
  refine wpM_mono' (hb S1 hS1) ?_
  rintro d S2 ⟨⟨w, rfl, hw⟩, hS2⟩
  try simp only [mkR_eq, wpM_lcons, wpM_lnil]
  refine wpM_mono' (hc S2 hS2) ?_
  rintro d S3 ⟨⟨c, rfl, c0, c1⟩, hS3⟩
  rw [if_pos (show [D.str r, D.str w, D.int c].length ≤ sizeLine from le_sz (n := 3) rfl)]
  exact ⟨⟨r, w, c, rfl, hr, hw, c0, c1⟩, hS3⟩
theorem IsS.up {I : Sto → Prop} {m : EM} {n k : Nat} (h : J I env m (IsS n)) (hn : n ≤ k) : J I env m (IsS k) := h.mono fun d ⟨z, e, p⟩ => ⟨z, e, p.mono hn⟩
theorem IsI.up {I : Sto → Prop} {m : EM} {x y x' y' : Int} (h : J I env m (IsI x y)) (h0 : x' ≤ x) (h1 : y ≤ y') : J I env m (IsI x' y') := h.mono fun d ⟨z, e, p, q⟩ => ⟨z, e, by omega, by omega⟩
def edP (p : Str × Str × Int) : PyData := .tuple [.str p.1, .str p.2.1, .int p.2.2]
theorem toPL_eds : ∀ {ds : List D}, (∀ d ∈ ds, EdOk d) → ∃ ps : List (Str × Str × Int), toPL ds = some (ps.map edP)
  | [], _ => ⟨[], rfl⟩
  | d :: ds, h => by
    obtain ⟨r, w, c, rfl, _⟩ := h d List.mem_cons_self
    obtain ⟨ps, e⟩ := toPL_eds fun x hx => h x (List.mem_cons_of_mem _ hx)
    refine ⟨(r, w, c) :: ps, ?_⟩
    show (toP (.tup [.str r, .str w, .int c])).bind (fun p => (toPL ds).map fun ps => p :: ps) = _
    rw [e]; rfl
theorem sorted_eds {n : Nat} {ds : List D} (h : S[n]? = some (some (.lst ds))) (hd : ∀ d ∈ ds, EdOk d) : o_sorted S [.ref n] = some (ds.mergeSort leD) := by
  obtain ⟨ps, e⟩ := toPL_eds hd
  simp only [o_sorted, lstOf, h, Option.bind_some, e]
  rw [if_pos]
  refine ⟨AllAlike.of (enc := edP) fun a b => by simp [edP, alike, alikeAll], Sortable.tuples (enc := edP) fun b => ⟨_, _, rfl⟩, fun p hp => ?_⟩
  obtain ⟨t, _, rfl⟩ := List.mem_map.mp hp
  simp [edP, PyData.depth, PyData.depthAll]
theorem J_cost {h0 : env[0]? = some (some (.ref 1))} : J (PP rest) env (op2 o_add (ct (.int 1)) (cal M__law_draw (lcons (vr 0) (lcons (ct (.int 1000)) lnil)))) (IsI 0 1000000) :=
  IsI.up (JI_add JI_ct (J_draw h0 (J_ct rfl) (by decide) (by decide))) (by decide) (by decide)
theorem J_cutR {r : Sto} {i : Nat} {lo hi : OM} {ds : List D} (h : env[i]? = some (some (.ref (r.length + 2)))) (hd : fdL ds = true) (hlo : JO (PP (r ++ [some (.lst ds)])) env lo) (hhi : JO (PP (r ++ [some (.lst ds)])) env hi) : J (PP (r ++ [some (.lst ds)])) env (frz (cutF (vr i) lo hi)) (FdL ds.length) := fun S hS => by
  rw [wpM_frz, wpM_cutF, wpM_vr, h]
  simp only [mkR_eq]
  refine wpM_mono' (hlo S hS) ?_
  intro x S1 hS1
  refine wpM_mono' (hhi S1 hS1) ?_
  intro y S2 hS2
  rw [lst_at hS2.last]
  exact ⟨⟨_, rfl, fdL_cut hd, cutL_len⟩, hS2⟩
theorem J_ixR {r : Sto} {i j : Nat} {ds : List D} {P : D → Prop} {c : Int} (h : env[i]? = some (some (.ref (r.length + 2)))) (hc : c = (j : Int)) (hj : j < ds.length) (hp : ∀ d ∈ ds, P d) : J (PP (r ++ [some (.lst ds)])) env (op2 o_ix (vr i) (ct (.int c))) P := fun S hS => by
  subst hc
  rw [wpM_op2, wpM_vr, h]
  simp only [mkR_eq]
  rw [wpM_ct, ix_at hS.last (List.getElem?_eq_getElem hj)]
  exact ⟨hp _ (List.getElem_mem hj), hS⟩
theorem cut_mid {xs : List D} {i j : Nat} (h1 : i ≤ j) (h2 : j ≤ xs.length) : cutL xs (some (i : Int)) (some (j : Int)) = (xs.drop i).take (j - i) := by
  unfold cutL
  rw [HT.sIx_nat, HT.sIx_nat, Nat.min_eq_left h2, Nat.min_eq_left (by omega)]
theorem J_catRP {r : Sto} {i n : Nat} {b : EM} {ds : List D} (h : env[i]? = some (some (.ref (r.length + 2)))) (hd : fdL ds = true) (hb : J (PP (r ++ [some (.lst ds)])) env b (FdL n)) (hk : ds.length + n ≤ 1000000) : J (PP (r ++ [some (.lst ds)])) env (frz (catF (vr i) b)) (FdL (ds.length + n)) := fun S hS => by
  rw [wpM_frz, wpM_catF, wpM_vr, h]
  simp only [mkR_eq]
  refine wpM_mono' (hb S hS) ?_
  rintro x S1 ⟨⟨es, rfl, h3, h4⟩, hS1⟩
  simp only [mkR_eq, lstOf, hS1.last, Option.bind_some]
  rw [if_pos (le_szL (by omega)), wpM_lfS]
  exact ⟨⟨_, rfl, by rw [fdL_app, hd, h3]; rfl, by rw [List.length_append]; omega⟩, hS1⟩
/-- what tuple(..) takes -/
def Pit (r : Sto) (d : D) : Prop := ∃ ds, fdL ds = true ∧ ∀ S, PP r S → o_tupleA S [d] = some (.tup ds)
theorem Pit_lst {r : Sto} {n : Nat} {I : Sto → Prop} {m : EM} (h : J I env m (FdL n)) : J I env m (Pit r) := h.mono fun d ⟨ds, e, p, _⟩ => ⟨ds, p, fun S hS => by rw [e]; rfl⟩
theorem Pit_ref {r : Sto} {ds : List D} {I : Sto → Prop} {i : Nat} (h : env[i]? = some (some (.ref (r.length + 2)))) (hd : fdL ds = true) : J I env (vr i) (Pit (r ++ [some (.lst ds)])) := J_vr h ⟨ds, hd, fun S hS => by
  show (seqOf S (.ref _)).map D.tup = _
  simp only [seqOf, hS.last]; rfl⟩
theorem PL_nil {I : Sto → Prop} {P : D → Prop} : JL I env lnil (fun ds => (∀ d ∈ ds, P d) ∧ ds.length ≤ 0) := JL_nil ⟨fun d hd => (nomatch hd), Nat.le_refl _⟩
theorem PL_cons {I : Sto → Prop} {P : D → Prop} {m : EM} {l : LM} {k : Nat} (ha : J I env m P) (hr : JL I env l (fun ds => (∀ d ∈ ds, P d) ∧ ds.length ≤ k)) : JL I env (lcons m l) (fun ds => (∀ d ∈ ds, P d) ∧ ds.length ≤ k + 1) := JL_cons ha hr fun x xs hx hr => ⟨fun d hd => by
  rcases List.mem_cons.mp hd with e | hd
  · rw [e]; exact hx
  · exact hr.1 d hd, by rw [List.length_cons]; exact Nat.succ_le_succ hr.2⟩
theorem fholds_wp (hS : PP rest S) (q : ∀ S', PP rest S' → Q (.bl true) S') : wpM (M__law_full_book [.ref 1] S) Q E := by
  unfold M__law_full_book
  refine wpM_fn ?_
  unfold m__law_full_book
  simp only [mkR_eq, List.map_cons, List.map_nil, List.length_cons, List.length_nil, Nat.reduceAdd, Nat.reduceSub, List.replicate_succ, List.replicate_zero, List.cons_append, List.nil_append]
  refine asg_J (P := fun d => ∃ L n, d = .str L ∧ LOk n L ∧ 4 ≤ n ∧ n ≤ 6) (I := PP rest) ?_ hS ?_
  · exact J_letters (x := 4 + 0) (y := 4 + (3 - 1)) rfl (JI_add JI_ct (J_draw rfl (J_ct rfl) (by decide) (by decide))) (by decide) (by decide)
  rintro d S2 ⟨L, n, rfl, hL, hn4, hn6⟩ hS2
  have hLl := hL.len
  have hL6 : FS 6 L := hL.fs.mono hn6
  have hsn : (sgns L).length = n := by rw [sgns_len]; exact hL.len
  dsimp only [List.set_cons_zero, List.set_cons_succ]
  rw [wS_seq, wS_asg, wpM_new, wpM_lstF, wpM_lnil, if_pos (show ([] : List D).length ≤ sizeLine from le_sz (n := 0) rfl)]
  simp only [mkR_eq, tgN, List.set_cons_zero, List.set_cons_succ]
  rw [hS2.len]
  have hE0 : EI rest 0 (S2 ++ [some (.lst [])]) := ⟨[], hS2.app, fun d hd => (nomatch hd), rfl⟩
  rw [wS_seq]
  simp only [mkR_eq, wS_for, wpM_iof, wpM_vr, List.getElem?_cons_succ, List.getElem?_cons_zero, srcOf, wpM_lfS]
  refine wS_loop (fun i e S' => ∃ x3 x4, e = [some (.ref 1), some (.str L), some (.ref (rest.length + 2)), x3, x4, none, none, none, none] ∧ EI rest (4 * n * i) S') (sgns L) 0 _ _ ⟨none, none, rfl, hE0⟩ ?_ ?_
  · rintro i d e S3 hi ⟨x3, x4, rfl, hS3⟩
    obtain ⟨c, hc, rfl⟩ := sgns_get hi
    have hin : i < n := by have := (List.getElem?_eq_some_iff.mp hi).1; omega
    have fc : FS 1 ⟨#[c]⟩ := FS.one (strOk_iff.mp hL6.ok c (by rw [← Array.getElem?_toList] at hc; exact List.mem_of_getElem? hc))
    rw [Nat.zero_add] at hS3 ⊢
    refine ⟨okSrc_nil, _, rfl, ?_⟩
    dsimp only [List.set_cons_zero, List.set_cons_succ]
    rw [wS_for, wpM_iof]
    simp only [mkR_eq, wpM_vr, List.getElem?_cons_succ, List.getElem?_cons_zero, srcOf, wpM_lfS]
    refine wS_loop (fun j e S' => ∃ x4, e = [some (.ref 1), some (.str L), some (.ref (rest.length + 2)), some (.str ⟨#[c]⟩), x4, none, none, none, none] ∧ EI rest (4 * n * i + 4 * j) S') (sgns L) 0 _ _ ⟨x4, rfl, hS3⟩ ?_ ?_
    · rintro j d e S4 hj ⟨x4, rfl, hS4⟩
      obtain ⟨c2, hc2, rfl⟩ := sgns_get hj
      have hjn : j < n := by have := (List.getElem?_eq_some_iff.mp hj).1; omega
      have fc2 : FS 1 ⟨#[c2]⟩ := FS.one (strOk_iff.mp hL6.ok c2 (by rw [← Array.getElem?_toList] at hc2; exact List.mem_of_getElem? hc2))
      rw [Nat.zero_add] at hS4 ⊢
      refine ⟨okSrc_nil, _, rfl, ?_⟩
      have b1 : 4 * n * i ≤ 4 * 6 * 6 := Nat.mul_le_mul (Nat.mul_le_mul_left _ hn6) (by omega)
      dsimp only [List.set_cons_zero, List.set_cons_succ]
      refine appES_J rfl (fun ds => J_ed (IsS.up (JS_add (JS_vr rfl fc) (JS_vr rfl fc2) (by decide)) (by decide)) (IsS.up (JS_vr rfl fc) (by decide)) (J_cost (h0 := rfl))) hS4 (by omega) ?_
      intro S5 hS5
      refine appES_J rfl (fun ds => J_ed (IsS.up (JS_vr rfl fc) (by decide)) (IsS.up (JS_add (JS_vr rfl fc2) (JS_vr rfl fc) (by decide)) (by decide)) (J_cost (h0 := rfl))) hS5 (by omega) ?_
      intro S6 hS6
      refine appES_J rfl (fun ds => J_ed (IsS.up (JS_add (JS_add (JS_vr rfl fc) (JS_vr rfl fc) (by decide)) (JS_vr rfl fc2) (by decide)) (by decide)) (IsS.up (JS_vr rfl fc2) (by decide)) (J_cost (h0 := rfl))) hS6 (by omega) ?_
      intro S7 hS7
      refine appEE_J rfl (fun ds => J_ed (IsS.up (JS_ct (n := 0) (by decide)) (by decide)) (IsS.up (JS_add (JS_vr rfl fc) (JS_vr rfl fc2) (by decide)) (by decide)) (IsI.up JI_ct (by decide) (by decide))) hS7 (by omega) ?_
      intro S8 hS8
      exact ⟨_, rfl, by rw [show 4 * n * i + 4 * (j + 1) = 4 * n * i + 4 * j + 1 + 1 + 1 + 1 by omega]; exact hS8⟩
    · rintro e S4 ⟨x4, rfl, hS4⟩
      refine ⟨okSrc_nil, _, _, rfl, ?_⟩
      rw [hsn, Nat.zero_add] at hS4
      rw [Nat.mul_succ, show 4 * n * i + 4 * n = 4 * n * i + 4 * n from rfl]
      exact hS4
  rintro e S3 ⟨x3, x4, rfl, hS3⟩
  refine ⟨okSrc_nil, ?_⟩
  rw [hsn, Nat.zero_add] at hS3
  have hm1 : 64 ≤ 4 * n * n := Nat.le_trans (by decide) (Nat.mul_le_mul (Nat.mul_le_mul_left 4 hn4) hn4)
  have hm2 : 4 * n * n ≤ 144 := Nat.le_trans (Nat.mul_le_mul (Nat.mul_le_mul_left 4 hn6) hn6) (by decide)
  generalize 4 * n * n = N at hS3 hm1 hm2
  obtain ⟨rows, hS3, hr, hrl⟩ := hS3
  have hso : ∀ d ∈ rows.mergeSort leD, EdOk d := fun d hd => hr d (List.mem_mergeSort.mp hd)
  have hsl : (rows.mergeSort leD).length = N := by rw [List.length_mergeSort]; exact hrl
  dsimp only
  rw [wS_seq, wS_asg, wpM_new, wpM_calF, wpM_lcons, wpM_vr]
  simp only [mkR_eq, wpM_lnil, List.getElem?_cons_succ, List.getElem?_cons_zero, sorted_eds hS3.last hr, wpM_lfS, tgN, List.set_cons_zero, List.set_cons_succ]
  generalize rows.mergeSort leD = srt at hso hsl
  have hS4 := hS3.app (o := some (.lst srt))
  rw [hS3.len]
  generalize hr4 : rest ++ [some (Ob.lst rows)] = r4 at hS4 ⊢
  have hN := hS4.last
  rw [wS_seq, wS_asg]
  simp only [mkR_eq, wpM_ifE, wpM_asT, wpM_op2, wpM_calB, wpM_lcons, wpM_vr, wpM_ct, wpM_lnil, List.getElem?_cons_succ, List.getElem?_cons_zero, len_at hN, wpM_lfS, cmp_int, hsl, decide_eq_true (show (61 : Int) < (N : Int) by omega), if_true, wpM_cal, sub_int, add_int]
  refine draw_wp hS4 (by omega) (by omega) ?_
  intro v S5 hS5 v0 v1
  simp only [mkR_eq, tgN, List.set_cons_zero, List.set_cons_succ]
  obtain ⟨j, hvj⟩ := Int.eq_ofNat_of_zero_le v0
  have hcut : cutL srt (some v) (some (v + 61)) = (srt.drop j).take 61 := by
    have := cut_mid (xs := srt) (i := j) (j := j + 61) (by omega) (by omega)
    rw [hvj, show ((j : Int) + 61) = ((j + 61 : Nat) : Int) by omega, this, show j + 61 - j = 61 by omega]
  rw [wS_seq, wS_asg, wpM_new, wpM_cutF, wpM_vr]
  simp only [mkR_eq, List.getElem?_cons_succ, List.getElem?_cons_zero, wpM_osm, wpM_vr, wpM_op2, wpM_ct, add_int, wpM_lfS, lst_at hS5.last, Option.map_some, hcut, tgN, List.set_cons_zero, List.set_cons_succ]
  have hwE : ∀ d ∈ (srt.drop j).take 61, EdOk d := fun d hd => hso d (List.mem_of_mem_drop (List.mem_of_mem_take hd))
  have hwl : ((srt.drop j).take 61).length = 61 := by rw [List.length_take, List.length_drop]; omega
  generalize (srt.drop j).take 61 = rw1 at hwE hwl
  have hwf : fdL rw1 = true := fdL_mem.mpr fun d hd => (hwE d hd).fd
  have hS6 := hS5.app (o := some (.lst rw1))
  rw [hS5.len]
  generalize hr6 : r4 ++ [some (Ob.lst srt)] = r6 at hS6 ⊢
  refine asg_J (P := FdL (61 + 1)) (I := PP (r6 ++ [some (.lst rw1)])) ?_ hS6 ?_
  · refine J_cat (hwl ▸ J_cutR rfl hwf JO_ono (JO_osm JI_ct)) (J_lstF (FL_cons ?_ FL_nil) (by decide)) (by decide)
    exact J_bent rfl rfl hL (by omega) (J_ixR (j := 59) rfl rfl (by omega) hwE)
  rintro d S7 ⟨late, rfl, fl, ll⟩ hS7
  dsimp only [List.set_cons_zero, List.set_cons_succ]
  rw [wS_seq, wS_for, wpM_iof, wpM_tupE]
  have hitems : JL (PP (r6 ++ [some (.lst rw1)])) [some (.ref 1), some (.str L), some (.ref (r6.length + 2)), x3, x4, some (.int v), some (.lst late), none, none] (lcons (frz (cutF (vr 2) onoM (osmM (ct (.int 60))))) (lcons (vr 2) (lcons (vr 6) (lcons (frz (catF (frz (cutF (vr 2) onoM (osmM (ct (.int 58))))) (frz (lstF (lcons (op2 o_ix (vr 2) (ct (.int 59))) (lcons (op2 o_ix (vr 2) (ct (.int 58))) lnil)))))) (lcons (frz (catF (vr 2) (frz (lstF (lcons (ct .non) lnil))))) lnil))))) (fun ds => (∀ d ∈ ds, Pit (r6 ++ [some (.lst rw1)]) d) ∧ ds.length ≤ 5) := by
    refine PL_cons (Pit_lst (J_cutR rfl hwf JO_ono (JO_osm JI_ct))) (PL_cons (Pit_ref rfl hwf) (PL_cons (Pit_lst (J_vr rfl ⟨_, rfl, fl, ll⟩)) (PL_cons (Pit_lst (n := 61 + 2) ?_) (PL_cons (Pit_lst (n := rw1.length + 1) ?_) PL_nil))))
    · exact J_cat (n := 61) (hwl ▸ J_cutR rfl hwf JO_ono (JO_osm JI_ct)) (J_lstF (FL_cons ((J_ixR (j := 59) rfl rfl (by omega) hwE).mono fun d h => h.fd) (FL_cons ((J_ixR (j := 58) rfl rfl (by omega) hwE).mono fun d h => h.fd) FL_nil)) (by decide)) (by decide)
    · exact J_catRP rfl hwf (J_lstF (FL_cons (J_ct rfl) FL_nil) (by decide)) (by omega)
  refine wpM_noX (hitems S7 hS7) ?_
  rintro items S8 ⟨⟨hit, hil⟩, hS8⟩
  rw [if_pos (le_szL (by omega))]
  simp only [mkR_eq, srcOf, wpM_lfS]
  refine wS_loop (fun i e S' => S' = S8 ∧ ∃ x7 x8, e = [some (.ref 1), some (.str L), some (.ref (r6.length + 2)), x3, x4, some (.int v), some (.lst late), x7, x8]) items 0 _ _ ⟨rfl, none, none, rfl⟩ ?_ ?_
  · rintro i d e S9 hi ⟨rfl, x7, x8, rfl⟩
    obtain ⟨ds, hds, hto⟩ := hit d (List.mem_of_getElem? hi)
    refine ⟨okSrc_nil, _, rfl, ?_⟩
    have hth : fd (.tup [.str L, .tup ds]) = true := by simp only [fdL_cons, fdL_nil, fd_str, fd_tup, hL6.okS (show 6 ≤ 1000000 by omega), hds, Bool.and_self]
    simp only [mkR_eq, wpM_rg1, wpM_rg2, wpM_enumA, wpM_iof, wpM_lfS, wS_rai, wS_try, wpM_catF, wpM_revA, wpM_newD, wpM_itemE, wpM_itemT, wpM_hasE, wpM_get1, wpM_get2, wS_putE, wS_putT, and_self, if_true, if_false, Bool.false_eq_true, reduceIte, wS_setS, wS_seq, wS_if, wS_asg, wS_exS, wS_retS, wS_nxS, wS_nx, wS_ret, wpM_op2, wpM_op1, wpM_asT, wpM_trt, wpM_notT, wpM_andT, wpM_orT, wpM_andV, wpM_notE, wpM_ifE, wpM_lnil, wpM_lcons, wpM_tupE, wpM_lstF, wpM_frz, wpM_new, wpM_cal, wpM_calB, wpM_calF, wpM_isiE, wpM_vr, wpM_ct, wpM_meth, wpM_chn, wpM_cut, wpM_cutF, wpM_ono, wpM_osm, wpM_revT, wpM_lfE, wS_for, tgN, List.getElem?_cons_zero, List.getElem?_cons_succ, List.set_cons_zero, List.set_cons_succ, List.map_cons, List.map_nil, List.length_cons, List.length_nil, List.replicate_succ, List.replicate_zero, Nat.reduceAdd, Nat.reduceSub, List.cons_append, List.nil_append, hto S9 hS8, le_sz (n := 2) rfl, told2 hth, book_due_eq hth, same_eq, wpM_ok, tru, Bool.not_true]
    exact ⟨by trivial, _, _, rfl⟩
  · rintro e S9 ⟨rfl, x7, x8, rfl⟩
    refine ⟨okSrc_nil, ?_⟩
    simp only [mkR_eq, wpM_rg1, wpM_rg2, wpM_enumA, wpM_iof, wpM_lfS, wS_rai, wS_try, wpM_catF, wpM_revA, wpM_newD, wpM_itemE, wpM_itemT, wpM_hasE, wpM_get1, wpM_get2, wS_putE, wS_putT, and_self, if_true, if_false, Bool.false_eq_true, reduceIte, wS_setS, wS_seq, wS_if, wS_asg, wS_exS, wS_retS, wS_nxS, wS_nx, wS_ret, wpM_op2, wpM_op1, wpM_asT, wpM_trt, wpM_notT, wpM_andT, wpM_orT, wpM_andV, wpM_notE, wpM_ifE, wpM_lnil, wpM_lcons, wpM_tupE, wpM_lstF, wpM_frz, wpM_new, wpM_cal, wpM_calB, wpM_calF, wpM_isiE, wpM_vr, wpM_ct, wpM_meth, wpM_chn, wpM_cut, wpM_cutF, wpM_ono, wpM_osm, wpM_revT, wpM_lfE, wS_for, tgN, List.getElem?_cons_zero, List.getElem?_cons_succ, List.set_cons_zero, List.set_cons_succ, List.map_cons, List.map_nil, List.length_cons, List.length_nil, List.replicate_succ, List.replicate_zero, Nat.reduceAdd, Nat.reduceSub, List.cons_append, List.nil_append]
    rw [scope_bl, wpM_ok]
    rw [← hr6, ← hr4, List.append_assoc, List.append_assoc] at hS8
    exact q _ (hS.trunc hS8)
end
end Z

end
section
set_option Elab.async false
set_option linter.all false
set_option maxRecDepth 100000
set_option maxHeartbeats 4000000
set_option autoImplicit false
namespace Z
open PySem PySem.Spec L2 Y PySem.W
section
variable {rest S : Sto} {Q : D → Sto → Prop} {E : Str → List (Str × D) → Sto → Prop}
theorem int_of_mem {ns : List Int} {d : D} {lo hi : Option Int} (h : d ∈ cutL (ns.map D.int) lo hi) : ∃ i, d = .int i := by
  obtain ⟨i, _, e⟩ := List.mem_map.mp (cutL_mem h)
  exact ⟨i, e.symm⟩
theorem pow60 {S : Sto} : o_pow S (.int 10) (.int 60) = some (.int (10 ^ 60)) := by
  simp only [o_pow]
  rw [if_pos (by decide)]; rfl
theorem pow18 {S : Sto} : o_pow S (.int 10) (.int 18) = some (.int (10 ^ 18)) := by
  simp only [o_pow]
  rw [if_pos (by decide)]; rfl
theorem mul60 {S : Sto} : o_mulA S (.int (10 ^ 60)) (.int (10 ^ 60)) = some (.int (10 ^ 120)) := by
  simp only [o_mulA, o_mul]
  rw [if_pos (by unfold IntMulOk; decide +kernel)]; rfl
theorem mul120 {S : Sto} : o_mulA S (.int (10 ^ 120)) (.int (10 ^ 60)) = some (.int (10 ^ 180)) := by
  simp only [o_mulA, o_mul]
  rw [if_pos (by unfold IntMulOk; decide +kernel)]; rfl
theorem mulA_int {S : Sto} {i j : Int} (h : IntMulOk i j) : o_mulA S (.int i) (.int j) = some (.int (i * j)) := by
  simp only [o_mulA, o_mul]
  rw [if_pos h]
theorem mod_int {S : Sto} {i j : Int} (h : 0 < j) : o_mod S (.int i) (.int j) = some (.int (i % j)) := by
  simp only [o_mod]; rw [if_pos h]
theorem pool_wp {ns : List Int} (hn : ns.length ≤ 63) (k : ∀ S, PP [] S → Q (.ref 1) S) : wpM (M__law_pool [.lst (ns.map D.int), .int 1301] []) Q E := by
  unfold M__law_pool
  refine wpM_run ?_
  unfold m__law_pool
  simp only [mkR_eq, wpM_rg1, wpM_rg2, wpM_enumA, wpM_iof, wpM_lfS, wS_rai, wS_try, wpM_catF, wpM_revA, wpM_newD, wpM_itemE, wpM_itemT, wpM_hasE, wpM_get1, wpM_get2, wS_putE, wS_putT, and_self, if_true, if_false, Bool.false_eq_true, reduceIte, wS_setS, wS_seq, wS_if, wS_asg, wS_exS, wS_retS, wS_nxS, wS_nx, wS_ret, wpM_op2, wpM_op1, wpM_asT, wpM_trt, wpM_notT, wpM_andT, wpM_orT, wpM_andV, wpM_notE, wpM_ifE, wpM_lnil, wpM_lcons, wpM_tupE, wpM_lstF, wpM_frz, wpM_new, wpM_cal, wpM_calB, wpM_calF, wpM_isiE, wpM_vr, wpM_ct, wpM_meth, wpM_chn, wpM_cut, wpM_cutF, wpM_ono, wpM_osm, wpM_revT, wpM_lfE, wS_for, tgN, List.getElem?_cons_zero, List.getElem?_cons_succ, List.set_cons_zero, List.set_cons_succ, List.map_cons, List.map_nil, List.length_cons, List.length_nil, List.replicate_succ, List.replicate_zero, Nat.reduceAdd, Nat.reduceSub, List.cons_append, List.nil_append, le_sz (n := 0) rfl, lstOf, Option.map_some, srcOf]
  refine wS_loop (fun i env S' => ∃ G m e4 e5, env = [some (.lst (ns.map D.int)), some (.int 1301), some (.ref 0), some (.int m), e4, e5] ∧ S' = [some (.lst (G.map D.int))] ∧ (∀ g ∈ G, 0 ≤ g) ∧ G.length ≤ i ∧ 0 ≤ m ∧ m < 2147483648) _ 0 _ _ ⟨[], 1301, none, none, rfl, rfl, (fun g hg => by cases hg), Nat.le_refl _, by decide, by decide⟩ ?_ ?_
  · rintro j d env S' hj ⟨G, m, e4, e5, rfl, rfl, hG, hl, m0, m1⟩
    refine ⟨okSrc_nil, _, rfl, ?_⟩
    obtain ⟨i, rfl⟩ := int_of_mem (List.mem_of_getElem? hj)
    have hjl : j < 63 := by
      have h1 := (List.getElem?_eq_some_iff.mp hj).1
      have h2 := @cutL_len (ns.map D.int) none (some 63)
      rw [List.length_map] at h2
      have h3 : (cutL (ns.map D.int) none (some 63)).length ≤ 63 := by
        unfold cutL
        rw [List.length_take]
        have := HT.sIx_nat (ns.map D.int).length (ns.map D.int).length 63
        have e : HT.sIx (ns.map D.int).length (ns.map D.int).length (some (63 : Int)) ≤ 63 := by
          rw [show (63 : Int) = ((63 : Nat) : Int) from rfl, HT.sIx_nat]; omega
        omega
      omega
    rw [Nat.zero_add] at hl ⊢
    simp only [mkR_eq, wpM_rg1, wpM_rg2, wpM_enumA, wpM_iof, wpM_lfS, wS_rai, wS_try, wpM_catF, wpM_revA, wpM_newD, wpM_itemE, wpM_itemT, wpM_hasE, wpM_get1, wpM_get2, wS_putE, wS_putT, and_self, if_true, if_false, Bool.false_eq_true, reduceIte, wS_setS, wS_seq, wS_if, wS_asg, wS_exS, wS_retS, wS_nxS, wS_nx, wS_ret, wpM_op2, wpM_op1, wpM_asT, wpM_trt, wpM_notT, wpM_andT, wpM_orT, wpM_andV, wpM_notE, wpM_ifE, wpM_lnil, wpM_lcons, wpM_tupE, wpM_lstF, wpM_frz, wpM_new, wpM_cal, wpM_calB, wpM_calF, wpM_isiE, wpM_vr, wpM_ct, wpM_meth, wpM_chn, wpM_cut, wpM_cutF, wpM_ono, wpM_osm, wpM_revT, wpM_lfE, wS_for, tgN, List.getElem?_cons_zero, List.getElem?_cons_succ, List.set_cons_zero, List.set_cons_succ, List.map_cons, List.map_nil, List.length_cons, List.length_nil, List.replicate_succ, List.replicate_zero, Nat.reduceAdd, Nat.reduceSub, List.cons_append, List.nil_append, o_int, o_abs, pow18, cmp_int]
    generalize hN : (if i < 0 then -i else i) = N
    have hN0 : 0 ≤ N := by rw [← hN]; split <;> omega
    have hm := mul_ok (a := m) (b := 48271) m0 (by omega)
    have hN1 : 0 ≤ N % 2147483563 := Int.emod_nonneg _ (by decide)
    have hN2 : N % 2147483563 < 2147483563 := Int.emod_lt_of_pos _ (by decide)
    have hm2 := mul_ok (a := N % 2147483563) (b := 30307) hN1 (by omega)
    simp only [pow60, mul60, mul120, mod_int (show (0 : Int) < 10 ^ 180 by decide), mod_int (show (0 : Int) < 2147483563 by decide), mod_int (show (0 : Int) < 2147483647 by decide), mulA_int hm, mulA_int hm2, add_int, mkR_eq, wpM_rg1, wpM_rg2, wpM_enumA, wpM_iof, wpM_lfS, wS_rai, wS_try, wpM_catF, wpM_revA, wpM_newD, wpM_itemE, wpM_itemT, wpM_hasE, wpM_get1, wpM_get2, wS_putE, wS_putT, and_self, if_true, if_false, Bool.false_eq_true, reduceIte, wS_setS, wS_seq, wS_if, wS_asg, wS_exS, wS_retS, wS_nxS, wS_nx, wS_ret, wpM_op2, wpM_op1, wpM_asT, wpM_trt, wpM_notT, wpM_andT, wpM_orT, wpM_andV, wpM_notE, wpM_ifE, wpM_lnil, wpM_lcons, wpM_tupE, wpM_lstF, wpM_frz, wpM_new, wpM_cal, wpM_calB, wpM_calF, wpM_isiE, wpM_vr, wpM_ct, wpM_meth, wpM_chn, wpM_cut, wpM_cutF, wpM_ono, wpM_osm, wpM_revT, wpM_lfE, wS_for, tgN, List.getElem?_cons_zero, List.getElem?_cons_succ, List.set_cons_zero, List.set_cons_succ, List.map_cons, List.map_nil, List.length_cons, List.length_nil, List.replicate_succ, List.replicate_zero, Nat.reduceAdd, Nat.reduceSub, List.cons_append, List.nil_append]
    have hM0 : 0 ≤ (m * 48271 + N % 2147483563 * 30307 + 40) % 2147483647 := Int.emod_nonneg _ (by decide)
    have hM1 : (m * 48271 + N % 2147483563 * 30307 + 40) % 2147483647 < 2147483647 := Int.emod_lt_of_pos _ (by decide)
    generalize (m * 48271 + N % 2147483563 * 30307 + 40) % 2147483647 = M at hM0 hM1 ⊢
    rcases Bool.eq_false_or_eq_true (decide ((10 : Int) ^ 18 ≤ N)) with c | c
    · simp only [c]
      have g0 : ([some (.lst (G.map D.int))] : Sto)[0]? = some (some (.lst (G.map D.int))) := rfl
      have hR0 : (0 : Int) ≤ N % 10 ^ 180 := Int.emod_nonneg _ (by decide)
      generalize N % 10 ^ 180 = R at hR0 ⊢
      simp only [mkR_eq, wpM_rg1, wpM_rg2, wpM_enumA, wpM_iof, wpM_lfS, wS_rai, wS_try, wpM_catF, wpM_revA, wpM_newD, wpM_itemE, wpM_itemT, wpM_hasE, wpM_get1, wpM_get2, wS_putE, wS_putT, and_self, if_true, if_false, Bool.false_eq_true, reduceIte, wS_setS, wS_seq, wS_if, wS_asg, wS_exS, wS_retS, wS_nxS, wS_nx, wS_ret, wpM_op2, wpM_op1, wpM_asT, wpM_trt, wpM_notT, wpM_andT, wpM_orT, wpM_andV, wpM_notE, wpM_ifE, wpM_lnil, wpM_lcons, wpM_tupE, wpM_lstF, wpM_frz, wpM_new, wpM_cal, wpM_calB, wpM_calF, wpM_isiE, wpM_vr, wpM_ct, wpM_meth, wpM_chn, wpM_cut, wpM_cutF, wpM_ono, wpM_osm, wpM_revT, wpM_lfE, wS_for, tgN, List.getElem?_cons_zero, List.getElem?_cons_succ, List.set_cons_zero, List.set_cons_succ, List.map_cons, List.map_nil, List.length_cons, List.length_nil, List.replicate_succ, List.replicate_zero, Nat.reduceAdd, Nat.reduceSub, List.cons_append, List.nil_append, tyL g0, app_at g0 (show (G.map D.int).length < sizeLine from Nat.lt_of_lt_of_le (show (G.map D.int).length < 64 by rw [List.length_map]; omega) (le_sz rfl))]
      refine ⟨G ++ [R], M, _, _, rfl, by rw [List.map_append]; rfl, fun g hg => ?_, by rw [List.length_append, List.length_singleton]; omega, hM0, by omega⟩
      rcases List.mem_append.mp hg with h | h
      · exact hG g h
      · rw [List.mem_singleton.mp h]; exact hR0
    · simp only [c, mkR_eq, wpM_rg1, wpM_rg2, wpM_enumA, wpM_iof, wpM_lfS, wS_rai, wS_try, wpM_catF, wpM_revA, wpM_newD, wpM_itemE, wpM_itemT, wpM_hasE, wpM_get1, wpM_get2, wS_putE, wS_putT, and_self, if_true, if_false, Bool.false_eq_true, reduceIte, wS_setS, wS_seq, wS_if, wS_asg, wS_exS, wS_retS, wS_nxS, wS_nx, wS_ret, wpM_op2, wpM_op1, wpM_asT, wpM_trt, wpM_notT, wpM_andT, wpM_orT, wpM_andV, wpM_notE, wpM_ifE, wpM_lnil, wpM_lcons, wpM_tupE, wpM_lstF, wpM_frz, wpM_new, wpM_cal, wpM_calB, wpM_calF, wpM_isiE, wpM_vr, wpM_ct, wpM_meth, wpM_chn, wpM_cut, wpM_cutF, wpM_ono, wpM_osm, wpM_revT, wpM_lfE, wS_for, tgN, List.getElem?_cons_zero, List.getElem?_cons_succ, List.set_cons_zero, List.set_cons_succ, List.map_cons, List.map_nil, List.length_cons, List.length_nil, List.replicate_succ, List.replicate_zero, Nat.reduceAdd, Nat.reduceSub, List.cons_append, List.nil_append]
      exact ⟨G, M, _, _, rfl, rfl, hG, by omega, hM0, by omega⟩
  · rintro env S' ⟨G, m, e4, e5, rfl, rfl, hG, hl, m0, m1⟩
    refine ⟨okSrc_nil, ?_⟩
    have h3 : (cutL (ns.map D.int) none (some 63)).length ≤ 63 := by
      have h2 := @cutL_len (ns.map D.int) none (some 63)
      rw [List.length_map] at h2
      omega
    simp only [mkR_eq, wpM_rg1, wpM_rg2, wpM_enumA, wpM_iof, wpM_lfS, wS_rai, wS_try, wpM_catF, wpM_revA, wpM_newD, wpM_itemE, wpM_itemT, wpM_hasE, wpM_get1, wpM_get2, wS_putE, wS_putT, and_self, if_true, if_false, Bool.false_eq_true, reduceIte, wS_setS, wS_seq, wS_if, wS_asg, wS_exS, wS_retS, wS_nxS, wS_nx, wS_ret, wpM_op2, wpM_op1, wpM_asT, wpM_trt, wpM_notT, wpM_andT, wpM_orT, wpM_andV, wpM_notE, wpM_ifE, wpM_lnil, wpM_lcons, wpM_tupE, wpM_lstF, wpM_frz, wpM_new, wpM_cal, wpM_calB, wpM_calF, wpM_isiE, wpM_vr, wpM_ct, wpM_meth, wpM_chn, wpM_cut, wpM_cutF, wpM_ono, wpM_osm, wpM_revT, wpM_lfE, wS_for, tgN, List.getElem?_cons_zero, List.getElem?_cons_succ, List.set_cons_zero, List.set_cons_succ, List.map_cons, List.map_nil, List.length_cons, List.length_nil, List.replicate_succ, List.replicate_zero, Nat.reduceAdd, Nat.reduceSub, List.cons_append, List.nil_append, le_sz (n := 2) rfl]
    exact k _ ⟨G, m, hG, by omega, m0, m1, rfl⟩
theorem ok_of_wp {r : Res D} {d : D} (h : wpM r (fun x _ => x = d) (fun _ _ _ => False)) : ∃ S, r = .ok d S := by
  cases r with
  | ok x S => have h : x = d := h; exact ⟨S, by rw [h]⟩
  | exc c fs S => exact h.elim
  | err => exact h.elim
theorem plain (ns : List Int) (hn : ns.length ≤ 63) : ∃ S, M_law [.lst (ns.map .int)] [] = .ok (.bl true) S := by
  refine ok_of_wp ?_
  unfold M_law
  refine wpM_fn ?_
  unfold m_law
  simp only [mkR_eq, List.map_cons, List.map_nil, List.length_cons, List.length_nil, Nat.reduceAdd, Nat.reduceSub, List.replicate_succ, List.replicate_zero, List.cons_append, List.nil_append]
  refine wS_seqP (fun e S' => e = [some (.lst (ns.map .int)), some (.ref 1)] ∧ PP [] S') ?_ ?_
  · simp only [mkR_eq, wpM_rg1, wpM_rg2, wpM_enumA, wpM_iof, wpM_lfS, wS_rai, wS_try, wpM_catF, wpM_revA, wpM_newD, wpM_itemE, wpM_itemT, wpM_hasE, wpM_get1, wpM_get2, wS_putE, wS_putT, and_self, if_true, if_false, Bool.false_eq_true, reduceIte, wS_setS, wS_seq, wS_if, wS_asg, wS_exS, wS_retS, wS_nxS, wS_nx, wS_ret, wpM_op2, wpM_op1, wpM_asT, wpM_trt, wpM_notT, wpM_andT, wpM_orT, wpM_andV, wpM_notE, wpM_ifE, wpM_lnil, wpM_lcons, wpM_tupE, wpM_lstF, wpM_frz, wpM_new, wpM_cal, wpM_calB, wpM_calF, wpM_isiE, wpM_vr, wpM_ct, wpM_meth, wpM_chn, wpM_cut, wpM_cutF, wpM_ono, wpM_osm, wpM_revT, wpM_lfE, wS_for, tgN, List.getElem?_cons_zero, List.getElem?_cons_succ, List.set_cons_zero, List.set_cons_succ, List.map_cons, List.map_nil, List.length_cons, List.length_nil, List.replicate_succ, List.replicate_zero, Nat.reduceAdd, Nat.reduceSub, List.cons_append, List.nil_append]
    exact pool_wp hn fun S hS => ⟨by trivial, hS⟩
  rintro env S1 ⟨rfl, hS1⟩
  refine wS_seqP (fun e S' => e = [some (.lst (ns.map .int)), some (.ref 1)] ∧ PP [] S') ?_ ?_
  · simp only [mkR_eq, wpM_rg1, wpM_rg2, wpM_enumA, wpM_iof, wpM_lfS, wS_rai, wS_try, wpM_catF, wpM_revA, wpM_newD, wpM_itemE, wpM_itemT, wpM_hasE, wpM_get1, wpM_get2, wS_putE, wS_putT, and_self, if_true, if_false, Bool.false_eq_true, reduceIte, wS_setS, wS_seq, wS_if, wS_asg, wS_exS, wS_retS, wS_nxS, wS_nx, wS_ret, wpM_op2, wpM_op1, wpM_asT, wpM_trt, wpM_notT, wpM_andT, wpM_orT, wpM_andV, wpM_notE, wpM_ifE, wpM_lnil, wpM_lcons, wpM_tupE, wpM_lstF, wpM_frz, wpM_new, wpM_cal, wpM_calB, wpM_calF, wpM_isiE, wpM_vr, wpM_ct, wpM_meth, wpM_chn, wpM_cut, wpM_cutF, wpM_ono, wpM_osm, wpM_revT, wpM_lfE, wS_for, tgN, List.getElem?_cons_zero, List.getElem?_cons_succ, List.set_cons_zero, List.set_cons_succ, List.map_cons, List.map_nil, List.length_cons, List.length_nil, List.replicate_succ, List.replicate_zero, Nat.reduceAdd, Nat.reduceSub, List.cons_append, List.nil_append]
    refine lholds_wp hS1 ?_
    intro S2 hS2
    simp only [mkR_eq, wpM_rg1, wpM_rg2, wpM_enumA, wpM_iof, wpM_lfS, wS_rai, wS_try, wpM_catF, wpM_revA, wpM_newD, wpM_itemE, wpM_itemT, wpM_hasE, wpM_get1, wpM_get2, wS_putE, wS_putT, and_self, if_true, if_false, Bool.false_eq_true, reduceIte, wS_setS, wS_seq, wS_if, wS_asg, wS_exS, wS_retS, wS_nxS, wS_nx, wS_ret, wpM_op2, wpM_op1, wpM_asT, wpM_trt, wpM_notT, wpM_andT, wpM_orT, wpM_andV, wpM_notE, wpM_ifE, wpM_lnil, wpM_lcons, wpM_tupE, wpM_lstF, wpM_frz, wpM_new, wpM_cal, wpM_calB, wpM_calF, wpM_isiE, wpM_vr, wpM_ct, wpM_meth, wpM_chn, wpM_cut, wpM_cutF, wpM_ono, wpM_osm, wpM_revT, wpM_lfE, wS_for, tgN, List.getElem?_cons_zero, List.getElem?_cons_succ, List.set_cons_zero, List.set_cons_succ, List.map_cons, List.map_nil, List.length_cons, List.length_nil, List.replicate_succ, List.replicate_zero, Nat.reduceAdd, Nat.reduceSub, List.cons_append, List.nil_append, tru, Bool.not_true]
    refine tholds_wp hS2 ?_
    intro S3 hS3
    simp only [mkR_eq, wpM_rg1, wpM_rg2, wpM_enumA, wpM_iof, wpM_lfS, wS_rai, wS_try, wpM_catF, wpM_revA, wpM_newD, wpM_itemE, wpM_itemT, wpM_hasE, wpM_get1, wpM_get2, wS_putE, wS_putT, and_self, if_true, if_false, Bool.false_eq_true, reduceIte, wS_setS, wS_seq, wS_if, wS_asg, wS_exS, wS_retS, wS_nxS, wS_nx, wS_ret, wpM_op2, wpM_op1, wpM_asT, wpM_trt, wpM_notT, wpM_andT, wpM_orT, wpM_andV, wpM_notE, wpM_ifE, wpM_lnil, wpM_lcons, wpM_tupE, wpM_lstF, wpM_frz, wpM_new, wpM_cal, wpM_calB, wpM_calF, wpM_isiE, wpM_vr, wpM_ct, wpM_meth, wpM_chn, wpM_cut, wpM_cutF, wpM_ono, wpM_osm, wpM_revT, wpM_lfE, wS_for, tgN, List.getElem?_cons_zero, List.getElem?_cons_succ, List.set_cons_zero, List.set_cons_succ, List.map_cons, List.map_nil, List.length_cons, List.length_nil, List.replicate_succ, List.replicate_zero, Nat.reduceAdd, Nat.reduceSub, List.cons_append, List.nil_append, tru, Bool.not_true]
    exact ⟨by trivial, hS3⟩
  rintro env S3 ⟨rfl, hS3⟩
  refine wS_seqP (fun e S' => e = [some (.lst (ns.map .int)), some (.ref 1)] ∧ PP [] S') ?_ ?_
  · simp only [mkR_eq, wpM_rg1, wpM_rg2, wpM_enumA, wpM_iof, wpM_lfS, wS_rai, wS_try, wpM_catF, wpM_revA, wpM_newD, wpM_itemE, wpM_itemT, wpM_hasE, wpM_get1, wpM_get2, wS_putE, wS_putT, and_self, if_true, if_false, Bool.false_eq_true, reduceIte, wS_setS, wS_seq, wS_if, wS_asg, wS_exS, wS_retS, wS_nxS, wS_nx, wS_ret, wpM_op2, wpM_op1, wpM_asT, wpM_trt, wpM_notT, wpM_andT, wpM_orT, wpM_andV, wpM_notE, wpM_ifE, wpM_lnil, wpM_lcons, wpM_tupE, wpM_lstF, wpM_frz, wpM_new, wpM_cal, wpM_calB, wpM_calF, wpM_isiE, wpM_vr, wpM_ct, wpM_meth, wpM_chn, wpM_cut, wpM_cutF, wpM_ono, wpM_osm, wpM_revT, wpM_lfE, wS_for, tgN, List.getElem?_cons_zero, List.getElem?_cons_succ, List.set_cons_zero, List.set_cons_succ, List.map_cons, List.map_nil, List.length_cons, List.length_nil, List.replicate_succ, List.replicate_zero, Nat.reduceAdd, Nat.reduceSub, List.cons_append, List.nil_append]
    refine draw_wp hS3 (by decide) (by decide) ?_
    intro v S4 hS4 v0 v1
    obtain ⟨n, hvn⟩ := Int.eq_ofNat_of_zero_le v0
    simp only [mkR_eq, wpM_rg1, wpM_rg2, wpM_enumA, wpM_iof, wpM_lfS, wS_rai, wS_try, wpM_catF, wpM_revA, wpM_newD, wpM_itemE, wpM_itemT, wpM_hasE, wpM_get1, wpM_get2, wS_putE, wS_putT, and_self, if_true, if_false, Bool.false_eq_true, reduceIte, wS_setS, wS_seq, wS_if, wS_asg, wS_exS, wS_retS, wS_nxS, wS_nx, wS_ret, wpM_op2, wpM_op1, wpM_asT, wpM_trt, wpM_notT, wpM_andT, wpM_orT, wpM_andV, wpM_notE, wpM_ifE, wpM_lnil, wpM_lcons, wpM_tupE, wpM_lstF, wpM_frz, wpM_new, wpM_cal, wpM_calB, wpM_calF, wpM_isiE, wpM_vr, wpM_ct, wpM_meth, wpM_chn, wpM_cut, wpM_cutF, wpM_ono, wpM_osm, wpM_revT, wpM_lfE, wS_for, tgN, List.getElem?_cons_zero, List.getElem?_cons_succ, List.set_cons_zero, List.set_cons_succ, List.map_cons, List.map_nil, List.length_cons, List.length_nil, List.replicate_succ, List.replicate_zero, Nat.reduceAdd, Nat.reduceSub, List.cons_append, List.nil_append, add_int]
    refine bholds_wp (nn := n + 1) hS4 (by omega) (by omega) ?_
    intro S5 hS5
    simp only [mkR_eq, wpM_rg1, wpM_rg2, wpM_enumA, wpM_iof, wpM_lfS, wS_rai, wS_try, wpM_catF, wpM_revA, wpM_newD, wpM_itemE, wpM_itemT, wpM_hasE, wpM_get1, wpM_get2, wS_putE, wS_putT, and_self, if_true, if_false, Bool.false_eq_true, reduceIte, wS_setS, wS_seq, wS_if, wS_asg, wS_exS, wS_retS, wS_nxS, wS_nx, wS_ret, wpM_op2, wpM_op1, wpM_asT, wpM_trt, wpM_notT, wpM_andT, wpM_orT, wpM_andV, wpM_notE, wpM_ifE, wpM_lnil, wpM_lcons, wpM_tupE, wpM_lstF, wpM_frz, wpM_new, wpM_cal, wpM_calB, wpM_calF, wpM_isiE, wpM_vr, wpM_ct, wpM_meth, wpM_chn, wpM_cut, wpM_cutF, wpM_ono, wpM_osm, wpM_revT, wpM_lfE, wS_for, tgN, List.getElem?_cons_zero, List.getElem?_cons_succ, List.set_cons_zero, List.set_cons_succ, List.map_cons, List.map_nil, List.length_cons, List.length_nil, List.replicate_succ, List.replicate_zero, Nat.reduceAdd, Nat.reduceSub, List.cons_append, List.nil_append, tru, Bool.not_true]
    refine draw_wp hS5 (by decide) (by decide) ?_
    intro w S6 hS6 w0 w1
    obtain ⟨n2, hwn⟩ := Int.eq_ofNat_of_zero_le w0
    try simp only [mkR_eq, wpM_rg1, wpM_rg2, wpM_enumA, wpM_iof, wpM_lfS, wS_rai, wS_try, wpM_catF, wpM_revA, wpM_newD, wpM_itemE, wpM_itemT, wpM_hasE, wpM_get1, wpM_get2, wS_putE, wS_putT, and_self, if_true, if_false, Bool.false_eq_true, reduceIte, wS_setS, wS_seq, wS_if, wS_asg, wS_exS, wS_retS, wS_nxS, wS_nx, wS_ret, wpM_op2, wpM_op1, wpM_asT, wpM_trt, wpM_notT, wpM_andT, wpM_orT, wpM_andV, wpM_notE, wpM_ifE, wpM_lnil, wpM_lcons, wpM_tupE, wpM_lstF, wpM_frz, wpM_new, wpM_cal, wpM_calB, wpM_calF, wpM_isiE, wpM_vr, wpM_ct, wpM_meth, wpM_chn, wpM_cut, wpM_cutF, wpM_ono, wpM_osm, wpM_revT, wpM_lfE, wS_for, tgN, List.getElem?_cons_zero, List.getElem?_cons_succ, List.set_cons_zero, List.set_cons_succ, List.map_cons, List.map_nil, List.length_cons, List.length_nil, List.replicate_succ, List.replicate_zero, Nat.reduceAdd, Nat.reduceSub, List.cons_append, List.nil_append, add_int]
    refine bholds_wp (nn := n2) hS6 (by omega) (by omega) ?_
    intro S7 hS7
    simp only [mkR_eq, wpM_rg1, wpM_rg2, wpM_enumA, wpM_iof, wpM_lfS, wS_rai, wS_try, wpM_catF, wpM_revA, wpM_newD, wpM_itemE, wpM_itemT, wpM_hasE, wpM_get1, wpM_get2, wS_putE, wS_putT, and_self, if_true, if_false, Bool.false_eq_true, reduceIte, wS_setS, wS_seq, wS_if, wS_asg, wS_exS, wS_retS, wS_nxS, wS_nx, wS_ret, wpM_op2, wpM_op1, wpM_asT, wpM_trt, wpM_notT, wpM_andT, wpM_orT, wpM_andV, wpM_notE, wpM_ifE, wpM_lnil, wpM_lcons, wpM_tupE, wpM_lstF, wpM_frz, wpM_new, wpM_cal, wpM_calB, wpM_calF, wpM_isiE, wpM_vr, wpM_ct, wpM_meth, wpM_chn, wpM_cut, wpM_cutF, wpM_ono, wpM_osm, wpM_revT, wpM_lfE, wS_for, tgN, List.getElem?_cons_zero, List.getElem?_cons_succ, List.set_cons_zero, List.set_cons_succ, List.map_cons, List.map_nil, List.length_cons, List.length_nil, List.replicate_succ, List.replicate_zero, Nat.reduceAdd, Nat.reduceSub, List.cons_append, List.nil_append, tru, Bool.not_true]
    exact ⟨by trivial, hS7⟩
  rintro env S7 ⟨rfl, hS7⟩
  refine wS_seqP (fun e S' => e = [some (.lst (ns.map .int)), some (.ref 1)] ∧ PP [] S') ?_ ?_
  · simp only [mkR_eq, wpM_rg1, wpM_rg2, wpM_enumA, wpM_iof, wpM_lfS, wS_rai, wS_try, wpM_catF, wpM_revA, wpM_newD, wpM_itemE, wpM_itemT, wpM_hasE, wpM_get1, wpM_get2, wS_putE, wS_putT, and_self, if_true, if_false, Bool.false_eq_true, reduceIte, wS_setS, wS_seq, wS_if, wS_asg, wS_exS, wS_retS, wS_nxS, wS_nx, wS_ret, wpM_op2, wpM_op1, wpM_asT, wpM_trt, wpM_notT, wpM_andT, wpM_orT, wpM_andV, wpM_notE, wpM_ifE, wpM_lnil, wpM_lcons, wpM_tupE, wpM_lstF, wpM_frz, wpM_new, wpM_cal, wpM_calB, wpM_calF, wpM_isiE, wpM_vr, wpM_ct, wpM_meth, wpM_chn, wpM_cut, wpM_cutF, wpM_ono, wpM_osm, wpM_revT, wpM_lfE, wS_for, tgN, List.getElem?_cons_zero, List.getElem?_cons_succ, List.set_cons_zero, List.set_cons_succ, List.map_cons, List.map_nil, List.length_cons, List.length_nil, List.replicate_succ, List.replicate_zero, Nat.reduceAdd, Nat.reduceSub, List.cons_append, List.nil_append]
    refine draw_wp hS7 (by decide) (by decide) ?_
    intro u S8 hS8 u0 u1
    simp only [mkR_eq, wpM_rg1, wpM_rg2, wpM_enumA, wpM_iof, wpM_lfS, wS_rai, wS_try, wpM_catF, wpM_revA, wpM_newD, wpM_itemE, wpM_itemT, wpM_hasE, wpM_get1, wpM_get2, wS_putE, wS_putT, and_self, if_true, if_false, Bool.false_eq_true, reduceIte, wS_setS, wS_seq, wS_if, wS_asg, wS_exS, wS_retS, wS_nxS, wS_nx, wS_ret, wpM_op2, wpM_op1, wpM_asT, wpM_trt, wpM_notT, wpM_andT, wpM_orT, wpM_andV, wpM_notE, wpM_ifE, wpM_lnil, wpM_lcons, wpM_tupE, wpM_lstF, wpM_frz, wpM_new, wpM_cal, wpM_calB, wpM_calF, wpM_isiE, wpM_vr, wpM_ct, wpM_meth, wpM_chn, wpM_cut, wpM_cutF, wpM_ono, wpM_osm, wpM_revT, wpM_lfE, wS_for, tgN, List.getElem?_cons_zero, List.getElem?_cons_succ, List.set_cons_zero, List.set_cons_succ, List.map_cons, List.map_nil, List.length_cons, List.length_nil, List.replicate_succ, List.replicate_zero, Nat.reduceAdd, Nat.reduceSub, List.cons_append, List.nil_append, eq_int]
    rcases Bool.eq_false_or_eq_true (u == 3) with c | c
    · simp only [c, mkR_eq, wpM_rg1, wpM_rg2, wpM_enumA, wpM_iof, wpM_lfS, wS_rai, wS_try, wpM_catF, wpM_revA, wpM_newD, wpM_itemE, wpM_itemT, wpM_hasE, wpM_get1, wpM_get2, wS_putE, wS_putT, and_self, if_true, if_false, Bool.false_eq_true, reduceIte, wS_setS, wS_seq, wS_if, wS_asg, wS_exS, wS_retS, wS_nxS, wS_nx, wS_ret, wpM_op2, wpM_op1, wpM_asT, wpM_trt, wpM_notT, wpM_andT, wpM_orT, wpM_andV, wpM_notE, wpM_ifE, wpM_lnil, wpM_lcons, wpM_tupE, wpM_lstF, wpM_frz, wpM_new, wpM_cal, wpM_calB, wpM_calF, wpM_isiE, wpM_vr, wpM_ct, wpM_meth, wpM_chn, wpM_cut, wpM_cutF, wpM_ono, wpM_osm, wpM_revT, wpM_lfE, wS_for, tgN, List.getElem?_cons_zero, List.getElem?_cons_succ, List.set_cons_zero, List.set_cons_succ, List.map_cons, List.map_nil, List.length_cons, List.length_nil, List.replicate_succ, List.replicate_zero, Nat.reduceAdd, Nat.reduceSub, List.cons_append, List.nil_append]
      refine fholds_wp hS8 ?_
      intro S9 hS9
      simp only [mkR_eq, wpM_rg1, wpM_rg2, wpM_enumA, wpM_iof, wpM_lfS, wS_rai, wS_try, wpM_catF, wpM_revA, wpM_newD, wpM_itemE, wpM_itemT, wpM_hasE, wpM_get1, wpM_get2, wS_putE, wS_putT, and_self, if_true, if_false, Bool.false_eq_true, reduceIte, wS_setS, wS_seq, wS_if, wS_asg, wS_exS, wS_retS, wS_nxS, wS_nx, wS_ret, wpM_op2, wpM_op1, wpM_asT, wpM_trt, wpM_notT, wpM_andT, wpM_orT, wpM_andV, wpM_notE, wpM_ifE, wpM_lnil, wpM_lcons, wpM_tupE, wpM_lstF, wpM_frz, wpM_new, wpM_cal, wpM_calB, wpM_calF, wpM_isiE, wpM_vr, wpM_ct, wpM_meth, wpM_chn, wpM_cut, wpM_cutF, wpM_ono, wpM_osm, wpM_revT, wpM_lfE, wS_for, tgN, List.getElem?_cons_zero, List.getElem?_cons_succ, List.set_cons_zero, List.set_cons_succ, List.map_cons, List.map_nil, List.length_cons, List.length_nil, List.replicate_succ, List.replicate_zero, Nat.reduceAdd, Nat.reduceSub, List.cons_append, List.nil_append, tru, Bool.not_true]
      exact ⟨by trivial, hS9⟩
    · simp only [c, mkR_eq, wpM_rg1, wpM_rg2, wpM_enumA, wpM_iof, wpM_lfS, wS_rai, wS_try, wpM_catF, wpM_revA, wpM_newD, wpM_itemE, wpM_itemT, wpM_hasE, wpM_get1, wpM_get2, wS_putE, wS_putT, and_self, if_true, if_false, Bool.false_eq_true, reduceIte, wS_setS, wS_seq, wS_if, wS_asg, wS_exS, wS_retS, wS_nxS, wS_nx, wS_ret, wpM_op2, wpM_op1, wpM_asT, wpM_trt, wpM_notT, wpM_andT, wpM_orT, wpM_andV, wpM_notE, wpM_ifE, wpM_lnil, wpM_lcons, wpM_tupE, wpM_lstF, wpM_frz, wpM_new, wpM_cal, wpM_calB, wpM_calF, wpM_isiE, wpM_vr, wpM_ct, wpM_meth, wpM_chn, wpM_cut, wpM_cutF, wpM_ono, wpM_osm, wpM_revT, wpM_lfE, wS_for, tgN, List.getElem?_cons_zero, List.getElem?_cons_succ, List.set_cons_zero, List.set_cons_succ, List.map_cons, List.map_nil, List.length_cons, List.length_nil, List.replicate_succ, List.replicate_zero, Nat.reduceAdd, Nat.reduceSub, List.cons_append, List.nil_append]
      exact ⟨by trivial, hS8⟩
  rintro env S8 ⟨rfl, hS8⟩
  simp only [mkR_eq, wpM_rg1, wpM_rg2, wpM_enumA, wpM_iof, wpM_lfS, wS_rai, wS_try, wpM_catF, wpM_revA, wpM_newD, wpM_itemE, wpM_itemT, wpM_hasE, wpM_get1, wpM_get2, wS_putE, wS_putT, and_self, if_true, if_false, Bool.false_eq_true, reduceIte, wS_setS, wS_seq, wS_if, wS_asg, wS_exS, wS_retS, wS_nxS, wS_nx, wS_ret, wpM_op2, wpM_op1, wpM_asT, wpM_trt, wpM_notT, wpM_andT, wpM_orT, wpM_andV, wpM_notE, wpM_ifE, wpM_lnil, wpM_lcons, wpM_tupE, wpM_lstF, wpM_frz, wpM_new, wpM_cal, wpM_calB, wpM_calF, wpM_isiE, wpM_vr, wpM_ct, wpM_meth, wpM_chn, wpM_cut, wpM_cutF, wpM_ono, wpM_osm, wpM_revT, wpM_lfE, wS_for, tgN, List.getElem?_cons_zero, List.getElem?_cons_succ, List.set_cons_zero, List.set_cons_succ, List.map_cons, List.map_nil, List.length_cons, List.length_nil, List.replicate_succ, List.replicate_zero, Nat.reduceAdd, Nat.reduceSub, List.cons_append, List.nil_append]
  refine lholds_wp hS8 ?_
  intro S' hS'
  rw [scope_bl]; rfl
end
end Z

end
section
set_option maxHeartbeats 0
namespace Z
open PySem PySem.Spec L2 Y
theorem all_mk {P : Program} {w : World} {K : PySem.W.Frag} {h : Heap} {mg : Str → Option Value} {fa : Addr} (X : K.In h) (G : h.Ns mainGlobals mg) (hfa : mg "law" = some (.ref fa))
    {t_COST_MOST : Tok}
    {t_EDITS_MOST : Tok}
    {t_EDIT_TEXT : Tok}
    {t_LETTERS_MOST : Tok}
    {t_SIGNS : Tok}
    {t_TEXT_MOST : Tok}
    {C_BadBook I_BadBook : Addr} {nm_BadBook q_BadBook : Str} {N_BadBook : Addr} {bs_BadBook : List Value} {sn_BadBook : List Str} {sub_BadBook : List Value} {ab_BadBook : Bool} {col_BadBook : Option Bool} {dd_BadBook : Option Addr} {m0_BadBook m1_BadBook m2_BadBook m3_BadBook m5_BadBook : Option Value} {oc_BadBook dc_BadBook pm_BadBook cd_BadBook ct_BadBook kV_BadBook : Value} {od_BadBook an_BadBook : Option Addr} {sl_BadBook : Array (Option Value)}
    {C_BadLetters I_BadLetters : Addr} {nm_BadLetters q_BadLetters : Str} {N_BadLetters : Addr} {bs_BadLetters : List Value} {sn_BadLetters : List Str} {sub_BadLetters : List Value} {ab_BadLetters : Bool} {col_BadLetters : Option Bool} {dd_BadLetters : Option Addr} {m0_BadLetters m1_BadLetters m2_BadLetters m3_BadLetters m5_BadLetters : Option Value} {oc_BadLetters dc_BadLetters pm_BadLetters cd_BadLetters ct_BadLetters kV_BadLetters : Value} {od_BadLetters an_BadLetters : Option Addr} {sl_BadLetters : Array (Option Value)}
    {C_BadText I_BadText : Addr} {nm_BadText q_BadText : Str} {N_BadText : Addr} {bs_BadText : List Value} {sn_BadText : List Str} {sub_BadText : List Value} {ab_BadText : Bool} {col_BadText : Option Bool} {dd_BadText : Option Addr} {m0_BadText m1_BadText m2_BadText m3_BadText m5_BadText : Option Value} {oc_BadText dc_BadText pm_BadText cd_BadText ct_BadText kV_BadText : Value} {od_BadText an_BadText : Option Addr} {sl_BadText : Array (Option Value)}
    {C_MendError : Addr}
    {f__law_pool : Addr} {oc__law_pool dc__law_pool pm__law_pool cd__law_pool ct__law_pool kV__law_pool : Value} {od__law_pool an__law_pool : Option Addr} {sl__law_pool : Array (Option Value)}
    {f__law_draw : Addr} {oc__law_draw dc__law_draw pm__law_draw cd__law_draw ct__law_draw kV__law_draw : Value} {od__law_draw an__law_draw : Option Addr} {sl__law_draw : Array (Option Value)}
    {f__law_shuffled : Addr} {oc__law_shuffled dc__law_shuffled pm__law_shuffled cd__law_shuffled ct__law_shuffled kV__law_shuffled : Value} {od__law_shuffled an__law_shuffled : Option Addr} {sl__law_shuffled : Array (Option Value)}
    {f__law_letters : Addr} {oc__law_letters dc__law_letters pm__law_letters cd__law_letters ct__law_letters kV__law_letters : Value} {od__law_letters an__law_letters : Option Addr} {sl__law_letters : Array (Option Value)}
    {f__law_odd_things : Addr} {oc__law_odd_things dc__law_odd_things pm__law_odd_things cd__law_odd_things ct__law_odd_things kV__law_odd_things : Value} {od__law_odd_things an__law_odd_things : Option Addr} {sl__law_odd_things : Array (Option Value)}
    {f__law_is_whole : Addr} {oc__law_is_whole dc__law_is_whole pm__law_is_whole cd__law_is_whole ct__law_is_whole kV__law_is_whole : Value} {od__law_is_whole an__law_is_whole : Option Addr} {sl__law_is_whole : Array (Option Value)}
    {f__law_same : Addr} {oc__law_same dc__law_same pm__law_same cd__law_same ct__law_same kV__law_same : Value} {od__law_same an__law_same : Option Addr} {sl__law_same : Array (Option Value)}
    {f_letters_fault : Addr} {oc_letters_fault dc_letters_fault pm_letters_fault cd_letters_fault ct_letters_fault kV_letters_fault : Value} {od_letters_fault an_letters_fault : Option Addr} {sl_letters_fault : Array (Option Value)}
    {f_check_letters : Addr} {oc_check_letters dc_check_letters pm_check_letters cd_check_letters ct_check_letters kV_check_letters : Value} {od_check_letters an_check_letters : Option Addr} {sl_check_letters : Array (Option Value)}
    {f_text_fault : Addr} {oc_text_fault dc_text_fault pm_text_fault cd_text_fault ct_text_fault kV_text_fault : Value} {od_text_fault an_text_fault : Option Addr} {sl_text_fault : Array (Option Value)}
    {f_check_text : Addr} {oc_check_text dc_check_text pm_check_text cd_check_text ct_check_text kV_check_text : Value} {od_check_text an_check_text : Option Addr} {sl_check_text : Array (Option Value)}
    {f_is_whole : Addr} {oc_is_whole dc_is_whole pm_is_whole cd_is_whole ct_is_whole kV_is_whole : Value} {od_is_whole an_is_whole : Option Addr} {sl_is_whole : Array (Option Value)}
    {f_has_letters_alone : Addr} {oc_has_letters_alone dc_has_letters_alone pm_has_letters_alone cd_has_letters_alone ct_has_letters_alone kV_has_letters_alone : Value} {od_has_letters_alone an_has_letters_alone : Option Addr} {sl_has_letters_alone : Array (Option Value)}
    {f_is_edit_text : Addr} {oc_is_edit_text dc_is_edit_text pm_is_edit_text cd_is_edit_text ct_is_edit_text kV_is_edit_text : Value} {od_is_edit_text an_is_edit_text : Option Addr} {sl_is_edit_text : Array (Option Value)}
    {f_edit_word : Addr} {oc_edit_word dc_edit_word pm_edit_word cd_edit_word ct_edit_word kV_edit_word : Value} {od_edit_word an_edit_word : Option Addr} {sl_edit_word : Array (Option Value)}
    {f_book_fault : Addr} {oc_book_fault dc_book_fault pm_book_fault cd_book_fault ct_book_fault kV_book_fault : Value} {od_book_fault an_book_fault : Option Addr} {sl_book_fault : Array (Option Value)}
    {f_check_book : Addr} {oc_check_book dc_check_book pm_check_book cd_check_book ct_check_book kV_check_book : Value} {od_check_book an_check_book : Option Addr} {sl_check_book : Array (Option Value)}
    {f__law_told : Addr} {oc__law_told dc__law_told pm__law_told cd__law_told ct__law_told kV__law_told : Value} {od__law_told an__law_told : Option Addr} {sl__law_told : Array (Option Value)}
    {f__law_letters_due : Addr} {oc__law_letters_due dc__law_letters_due pm__law_letters_due cd__law_letters_due ct__law_letters_due kV__law_letters_due : Value} {od__law_letters_due an__law_letters_due : Option Addr} {sl__law_letters_due : Array (Option Value)}
    {f__law_letters_holds : Addr} {oc__law_letters_holds dc__law_letters_holds pm__law_letters_holds cd__law_letters_holds ct__law_letters_holds kV__law_letters_holds : Value} {od__law_letters_holds an__law_letters_holds : Option Addr} {sl__law_letters_holds : Array (Option Value)}
    {f__law_text : Addr} {oc__law_text dc__law_text pm__law_text cd__law_text ct__law_text kV__law_text : Value} {od__law_text an__law_text : Option Addr} {sl__law_text : Array (Option Value)}
    {f__law_text_due : Addr} {oc__law_text_due dc__law_text_due pm__law_text_due cd__law_text_due ct__law_text_due kV__law_text_due : Value} {od__law_text_due an__law_text_due : Option Addr} {sl__law_text_due : Array (Option Value)}
    {f__law_text_holds : Addr} {oc__law_text_holds dc__law_text_holds pm__law_text_holds cd__law_text_holds ct__law_text_holds kV__law_text_holds : Value} {od__law_text_holds an__law_text_holds : Option Addr} {sl__law_text_holds : Array (Option Value)}
    {f__law_book : Addr} {oc__law_book dc__law_book pm__law_book cd__law_book ct__law_book kV__law_book : Value} {od__law_book an__law_book : Option Addr} {sl__law_book : Array (Option Value)}
    {f__law_edit_fault : Addr} {oc__law_edit_fault dc__law_edit_fault pm__law_edit_fault cd__law_edit_fault ct__law_edit_fault kV__law_edit_fault : Value} {od__law_edit_fault an__law_edit_fault : Option Addr} {sl__law_edit_fault : Array (Option Value)}
    {f__law_book_due : Addr} {oc__law_book_due dc__law_book_due pm__law_book_due cd__law_book_due ct__law_book_due kV__law_book_due : Value} {od__law_book_due an__law_book_due : Option Addr} {sl__law_book_due : Array (Option Value)}
    {f__law_bent_edit : Addr} {oc__law_bent_edit dc__law_bent_edit pm__law_bent_edit cd__law_bent_edit ct__law_bent_edit kV__law_bent_edit : Value} {od__law_bent_edit an__law_bent_edit : Option Addr} {sl__law_bent_edit : Array (Option Value)}
    {f__law_book_holds : Addr} {oc__law_book_holds dc__law_book_holds pm__law_book_holds cd__law_book_holds ct__law_book_holds kV__law_book_holds : Value} {od__law_book_holds an__law_book_holds : Option Addr} {sl__law_book_holds : Array (Option Value)}
    {f__law_full_book : Addr} {oc__law_full_book dc__law_full_book pm__law_full_book cd__law_full_book ct__law_full_book kV__law_full_book : Value} {od__law_full_book an__law_full_book : Option Addr} {sl__law_full_book : Array (Option Value)}
    {f_law : Addr} {oc_law dc_law pm_law cd_law ct_law kV_law : Value} {od_law an_law : Option Addr} {sl_law : Array (Option Value)}
    (n_abs : PySem.W.nsIn K mainGlobals "abs" = some none)
    (n_bool : PySem.W.nsIn K mainGlobals "bool" = some none)
    (n_enumerate : PySem.W.nsIn K mainGlobals "enumerate" = some none)
    (n_int : PySem.W.nsIn K mainGlobals "int" = some none)
    (n_isinstance : PySem.W.nsIn K mainGlobals "isinstance" = some none)
    (n_len : PySem.W.nsIn K mainGlobals "len" = some none)
    (n_list : PySem.W.nsIn K mainGlobals "list" = some none)
    (n_max : PySem.W.nsIn K mainGlobals "max" = some none)
    (n_range : PySem.W.nsIn K mainGlobals "range" = some none)
    (n_sorted : PySem.W.nsIn K mainGlobals "sorted" = some none)
    (n_str : PySem.W.nsIn K mainGlobals "str" = some none)
    (n_tuple : PySem.W.nsIn K mainGlobals "tuple" = some none)
    (c_COST_MOST : PySem.W.nsIn K mainGlobals "COST_MOST" = some (some (.int 1000 t_COST_MOST)))
    (c_EDITS_MOST : PySem.W.nsIn K mainGlobals "EDITS_MOST" = some (some (.int 60 t_EDITS_MOST)))
    (c_EDIT_TEXT : PySem.W.nsIn K mainGlobals "EDIT_TEXT" = some (some (.int 3 t_EDIT_TEXT)))
    (c_LETTERS_MOST : PySem.W.nsIn K mainGlobals "LETTERS_MOST" = some (some (.int 6 t_LETTERS_MOST)))
    (c_SIGNS : PySem.W.nsIn K mainGlobals "SIGNS" = some (some (.str (Str.ofString "abcdefghijklmnopqrstuvwxyz") t_SIGNS)))
    (c_TEXT_MOST : PySem.W.nsIn K mainGlobals "TEXT_MOST" = some (some (.int 300 t_TEXT_MOST)))
    (aC_BadBook : PySem.W.nsIn K mainGlobals "BadBook" = some (some (.ref C_BadBook)))
    (xL_BadBook : K.lookup C_BadBook = some (excClassObj nm_BadBook q_BadBook C_BadBook N_BadBook bs_BadBook [.ref C_MendError, .type "ValueError", .type "Exception", .type "BaseException", .type "object"] true sn_BadBook sub_BadBook ab_BadBook col_BadBook dd_BadBook m0_BadBook m1_BadBook m2_BadBook m3_BadBook m5_BadBook "ValueError.__new__"))
    (sa_BadBook : PySem.W.findIn K (.ref C_BadBook) "__setattr__" = some (some (.builtin "object.__setattr__")))
    (ga_BadBook : PySem.W.findIn K (.ref C_BadBook) "__getattribute__" = some (some (.builtin "BaseException.__getattribute__")))
    (gg_BadBook : PySem.W.findIn K (.ref C_BadBook) "__getattr__" = some none)
    (nf_BadBook_at : PySem.W.findIn K (.ref C_BadBook) "at" = some none)
    (nf_BadBook_word : PySem.W.findIn K (.ref C_BadBook) "word" = some none)
    (a1_BadBook : PySem.W.findIn K (.ref C_BadBook) "__init__" = some (some (.ref I_BadBook)))
    (t1_BadBook : PySem.W.typeIn K (.ref I_BadBook) = some (.type "function"))
    (l1_BadBook : K.lookup I_BadBook = some ⟨oc_BadBook, od_BadBook, .func (PySem.W.fnOf "__init__" "BadBook.__init__" (defArgs in_BadBook) (defBody in_BadBook) (defScope in_BadBook) .none kV_BadBook dc_BadBook pm_BadBook an_BadBook cd_BadBook ct_BadBook), sl_BadBook⟩)
    (c1_BadBook : PySem.W.codeIn K cd_BadBook "BadBook.__init__" = true)
    (k1_BadBook : PySem.W.keepIn K (.ref I_BadBook) = true)
    (kC_BadBook : PySem.W.keepIn K (.ref C_BadBook) = true)
    (eC_BadBook : PySem.W.subIn K (.ref C_BadBook) (.type "BaseException") = some true)
    (tC_BadBook : PySem.W.typeIn K (.ref C_BadBook) = some (.type "type"))
    (hC_BadBook : PySem.W.hasDictIn K C_BadBook = true)
    (iC_BadBook : PySem.W.isClsIn K C_BadBook = true)
    (sC_BadBook : PySem.W.subIn K (.ref C_BadBook) (.ref C_BadBook) = some true)
    (aC_BadLetters : PySem.W.nsIn K mainGlobals "BadLetters" = some (some (.ref C_BadLetters)))
    (xL_BadLetters : K.lookup C_BadLetters = some (excClassObj nm_BadLetters q_BadLetters C_BadLetters N_BadLetters bs_BadLetters [.ref C_MendError, .type "ValueError", .type "Exception", .type "BaseException", .type "object"] true sn_BadLetters sub_BadLetters ab_BadLetters col_BadLetters dd_BadLetters m0_BadLetters m1_BadLetters m2_BadLetters m3_BadLetters m5_BadLetters "ValueError.__new__"))
    (sa_BadLetters : PySem.W.findIn K (.ref C_BadLetters) "__setattr__" = some (some (.builtin "object.__setattr__")))
    (ga_BadLetters : PySem.W.findIn K (.ref C_BadLetters) "__getattribute__" = some (some (.builtin "BaseException.__getattribute__")))
    (gg_BadLetters : PySem.W.findIn K (.ref C_BadLetters) "__getattr__" = some none)
    (nf_BadLetters_at : PySem.W.findIn K (.ref C_BadLetters) "at" = some none)
    (nf_BadLetters_word : PySem.W.findIn K (.ref C_BadLetters) "word" = some none)
    (a1_BadLetters : PySem.W.findIn K (.ref C_BadLetters) "__init__" = some (some (.ref I_BadLetters)))
    (t1_BadLetters : PySem.W.typeIn K (.ref I_BadLetters) = some (.type "function"))
    (l1_BadLetters : K.lookup I_BadLetters = some ⟨oc_BadLetters, od_BadLetters, .func (PySem.W.fnOf "__init__" "BadLetters.__init__" (defArgs in_BadLetters) (defBody in_BadLetters) (defScope in_BadLetters) .none kV_BadLetters dc_BadLetters pm_BadLetters an_BadLetters cd_BadLetters ct_BadLetters), sl_BadLetters⟩)
    (c1_BadLetters : PySem.W.codeIn K cd_BadLetters "BadLetters.__init__" = true)
    (k1_BadLetters : PySem.W.keepIn K (.ref I_BadLetters) = true)
    (kC_BadLetters : PySem.W.keepIn K (.ref C_BadLetters) = true)
    (eC_BadLetters : PySem.W.subIn K (.ref C_BadLetters) (.type "BaseException") = some true)
    (tC_BadLetters : PySem.W.typeIn K (.ref C_BadLetters) = some (.type "type"))
    (hC_BadLetters : PySem.W.hasDictIn K C_BadLetters = true)
    (iC_BadLetters : PySem.W.isClsIn K C_BadLetters = true)
    (sC_BadLetters : PySem.W.subIn K (.ref C_BadLetters) (.ref C_BadLetters) = some true)
    (aC_BadText : PySem.W.nsIn K mainGlobals "BadText" = some (some (.ref C_BadText)))
    (xL_BadText : K.lookup C_BadText = some (excClassObj nm_BadText q_BadText C_BadText N_BadText bs_BadText [.ref C_MendError, .type "ValueError", .type "Exception", .type "BaseException", .type "object"] true sn_BadText sub_BadText ab_BadText col_BadText dd_BadText m0_BadText m1_BadText m2_BadText m3_BadText m5_BadText "ValueError.__new__"))
    (sa_BadText : PySem.W.findIn K (.ref C_BadText) "__setattr__" = some (some (.builtin "object.__setattr__")))
    (ga_BadText : PySem.W.findIn K (.ref C_BadText) "__getattribute__" = some (some (.builtin "BaseException.__getattribute__")))
    (gg_BadText : PySem.W.findIn K (.ref C_BadText) "__getattr__" = some none)
    (nf_BadText_at : PySem.W.findIn K (.ref C_BadText) "at" = some none)
    (nf_BadText_word : PySem.W.findIn K (.ref C_BadText) "word" = some none)
    (a1_BadText : PySem.W.findIn K (.ref C_BadText) "__init__" = some (some (.ref I_BadText)))
    (t1_BadText : PySem.W.typeIn K (.ref I_BadText) = some (.type "function"))
    (l1_BadText : K.lookup I_BadText = some ⟨oc_BadText, od_BadText, .func (PySem.W.fnOf "__init__" "BadText.__init__" (defArgs in_BadText) (defBody in_BadText) (defScope in_BadText) .none kV_BadText dc_BadText pm_BadText an_BadText cd_BadText ct_BadText), sl_BadText⟩)
    (c1_BadText : PySem.W.codeIn K cd_BadText "BadText.__init__" = true)
    (k1_BadText : PySem.W.keepIn K (.ref I_BadText) = true)
    (kC_BadText : PySem.W.keepIn K (.ref C_BadText) = true)
    (eC_BadText : PySem.W.subIn K (.ref C_BadText) (.type "BaseException") = some true)
    (tC_BadText : PySem.W.typeIn K (.ref C_BadText) = some (.type "type"))
    (hC_BadText : PySem.W.hasDictIn K C_BadText = true)
    (iC_BadText : PySem.W.isClsIn K C_BadText = true)
    (sC_BadText : PySem.W.subIn K (.ref C_BadText) (.ref C_BadText) = some true)
    (aC_MendError : PySem.W.nsIn K mainGlobals "MendError" = some (some (.ref C_MendError)))
    (eC_MendError : PySem.W.subIn K (.ref C_MendError) (.type "BaseException") = some true)
    (hC_MendError : PySem.W.hasDictIn K C_MendError = true)
    (tC_MendError : PySem.W.typeIn K (.ref C_MendError) = some (.type "type"))
    (s_BadBook_MendError : PySem.W.subIn K (.ref C_BadBook) (.ref C_MendError) = some true)
    (s_BadLetters_MendError : PySem.W.subIn K (.ref C_BadLetters) (.ref C_MendError) = some true)
    (s_BadText_MendError : PySem.W.subIn K (.ref C_BadText) (.ref C_MendError) = some true)
    (sp__ : PySem.W.specialIn K (.builtin "object.__class__") "__get__" = some (some (.builtin "getset_descriptor.__get__")))
    (tk__ : PySem.W.takesIn K (.builtin "object.__class__") = some true)
    (cl_BadBook : PySem.W.findIn K (.ref C_BadBook) "__class__" = some (some (.builtin "object.__class__")))
    (mr_BadBook : PySem.W.mroIn K C_BadBook (.type "object") = some true)
    (k_BadBook_BadBook : PySem.W.kitOne K (.ref C_BadBook) (.ref C_BadBook) = some true)
    (cl_BadLetters : PySem.W.findIn K (.ref C_BadLetters) "__class__" = some (some (.builtin "object.__class__")))
    (mr_BadLetters : PySem.W.mroIn K C_BadLetters (.type "object") = some true)
    (k_BadLetters_BadBook : PySem.W.kitOne K (.ref C_BadLetters) (.ref C_BadBook) = some false)
    (cl_BadText : PySem.W.findIn K (.ref C_BadText) "__class__" = some (some (.builtin "object.__class__")))
    (mr_BadText : PySem.W.mroIn K C_BadText (.type "object") = some true)
    (k_BadText_BadBook : PySem.W.kitOne K (.ref C_BadText) (.ref C_BadBook) = some false)
    (k_BadBook_BadLetters : PySem.W.kitOne K (.ref C_BadBook) (.ref C_BadLetters) = some false)
    (k_BadLetters_BadLetters : PySem.W.kitOne K (.ref C_BadLetters) (.ref C_BadLetters) = some true)
    (k_BadText_BadLetters : PySem.W.kitOne K (.ref C_BadText) (.ref C_BadLetters) = some false)
    (k_BadBook_BadText : PySem.W.kitOne K (.ref C_BadBook) (.ref C_BadText) = some false)
    (k_BadLetters_BadText : PySem.W.kitOne K (.ref C_BadLetters) (.ref C_BadText) = some false)
    (k_BadText_BadText : PySem.W.kitOne K (.ref C_BadText) (.ref C_BadText) = some true)
    (a__law_pool : PySem.W.nsIn K mainGlobals "_law_pool" = some (some (.ref f__law_pool)))
    (l__law_pool : K.lookup f__law_pool = some ⟨oc__law_pool, od__law_pool, .func (PySem.W.fnOf "_law_pool" "_law_pool" (defArgs st__law_pool) (defBody st__law_pool) (defScope st__law_pool) .none kV__law_pool dc__law_pool pm__law_pool an__law_pool cd__law_pool ct__law_pool), sl__law_pool⟩)
    (co__law_pool : PySem.W.codeIn K cd__law_pool "_law_pool" = true)
    (ke__law_pool : PySem.W.keepIn K (.ref f__law_pool) = true)
    (a__law_draw : PySem.W.nsIn K mainGlobals "_law_draw" = some (some (.ref f__law_draw)))
    (l__law_draw : K.lookup f__law_draw = some ⟨oc__law_draw, od__law_draw, .func (PySem.W.fnOf "_law_draw" "_law_draw" (defArgs st__law_draw) (defBody st__law_draw) (defScope st__law_draw) .none kV__law_draw dc__law_draw pm__law_draw an__law_draw cd__law_draw ct__law_draw), sl__law_draw⟩)
    (co__law_draw : PySem.W.codeIn K cd__law_draw "_law_draw" = true)
    (ke__law_draw : PySem.W.keepIn K (.ref f__law_draw) = true)
    (a__law_shuffled : PySem.W.nsIn K mainGlobals "_law_shuffled" = some (some (.ref f__law_shuffled)))
    (l__law_shuffled : K.lookup f__law_shuffled = some ⟨oc__law_shuffled, od__law_shuffled, .func (PySem.W.fnOf "_law_shuffled" "_law_shuffled" (defArgs st__law_shuffled) (defBody st__law_shuffled) (defScope st__law_shuffled) .none kV__law_shuffled dc__law_shuffled pm__law_shuffled an__law_shuffled cd__law_shuffled ct__law_shuffled), sl__law_shuffled⟩)
    (co__law_shuffled : PySem.W.codeIn K cd__law_shuffled "_law_shuffled" = true)
    (ke__law_shuffled : PySem.W.keepIn K (.ref f__law_shuffled) = true)
    (a__law_letters : PySem.W.nsIn K mainGlobals "_law_letters" = some (some (.ref f__law_letters)))
    (l__law_letters : K.lookup f__law_letters = some ⟨oc__law_letters, od__law_letters, .func (PySem.W.fnOf "_law_letters" "_law_letters" (defArgs st__law_letters) (defBody st__law_letters) (defScope st__law_letters) .none kV__law_letters dc__law_letters pm__law_letters an__law_letters cd__law_letters ct__law_letters), sl__law_letters⟩)
    (co__law_letters : PySem.W.codeIn K cd__law_letters "_law_letters" = true)
    (ke__law_letters : PySem.W.keepIn K (.ref f__law_letters) = true)
    (a__law_odd_things : PySem.W.nsIn K mainGlobals "_law_odd_things" = some (some (.ref f__law_odd_things)))
    (l__law_odd_things : K.lookup f__law_odd_things = some ⟨oc__law_odd_things, od__law_odd_things, .func (PySem.W.fnOf "_law_odd_things" "_law_odd_things" (defArgs st__law_odd_things) (defBody st__law_odd_things) (defScope st__law_odd_things) .none kV__law_odd_things dc__law_odd_things pm__law_odd_things an__law_odd_things cd__law_odd_things ct__law_odd_things), sl__law_odd_things⟩)
    (co__law_odd_things : PySem.W.codeIn K cd__law_odd_things "_law_odd_things" = true)
    (ke__law_odd_things : PySem.W.keepIn K (.ref f__law_odd_things) = true)
    (a__law_is_whole : PySem.W.nsIn K mainGlobals "_law_is_whole" = some (some (.ref f__law_is_whole)))
    (l__law_is_whole : K.lookup f__law_is_whole = some ⟨oc__law_is_whole, od__law_is_whole, .func (PySem.W.fnOf "_law_is_whole" "_law_is_whole" (defArgs st__law_is_whole) (defBody st__law_is_whole) (defScope st__law_is_whole) .none kV__law_is_whole dc__law_is_whole pm__law_is_whole an__law_is_whole cd__law_is_whole ct__law_is_whole), sl__law_is_whole⟩)
    (co__law_is_whole : PySem.W.codeIn K cd__law_is_whole "_law_is_whole" = true)
    (ke__law_is_whole : PySem.W.keepIn K (.ref f__law_is_whole) = true)
    (a__law_same : PySem.W.nsIn K mainGlobals "_law_same" = some (some (.ref f__law_same)))
    (l__law_same : K.lookup f__law_same = some ⟨oc__law_same, od__law_same, .func (PySem.W.fnOf "_law_same" "_law_same" (defArgs st__law_same) (defBody st__law_same) (defScope st__law_same) .none kV__law_same dc__law_same pm__law_same an__law_same cd__law_same ct__law_same), sl__law_same⟩)
    (co__law_same : PySem.W.codeIn K cd__law_same "_law_same" = true)
    (ke__law_same : PySem.W.keepIn K (.ref f__law_same) = true)
    (a_letters_fault : PySem.W.nsIn K mainGlobals "letters_fault" = some (some (.ref f_letters_fault)))
    (l_letters_fault : K.lookup f_letters_fault = some ⟨oc_letters_fault, od_letters_fault, .func (PySem.W.fnOf "letters_fault" "letters_fault" (defArgs st_letters_fault) (defBody st_letters_fault) (defScope st_letters_fault) .none kV_letters_fault dc_letters_fault pm_letters_fault an_letters_fault cd_letters_fault ct_letters_fault), sl_letters_fault⟩)
    (co_letters_fault : PySem.W.codeIn K cd_letters_fault "letters_fault" = true)
    (ke_letters_fault : PySem.W.keepIn K (.ref f_letters_fault) = true)
    (a_check_letters : PySem.W.nsIn K mainGlobals "check_letters" = some (some (.ref f_check_letters)))
    (l_check_letters : K.lookup f_check_letters = some ⟨oc_check_letters, od_check_letters, .func (PySem.W.fnOf "check_letters" "check_letters" (defArgs st_check_letters) (defBody st_check_letters) (defScope st_check_letters) .none kV_check_letters dc_check_letters pm_check_letters an_check_letters cd_check_letters ct_check_letters), sl_check_letters⟩)
    (co_check_letters : PySem.W.codeIn K cd_check_letters "check_letters" = true)
    (ke_check_letters : PySem.W.keepIn K (.ref f_check_letters) = true)
    (a_text_fault : PySem.W.nsIn K mainGlobals "text_fault" = some (some (.ref f_text_fault)))
    (l_text_fault : K.lookup f_text_fault = some ⟨oc_text_fault, od_text_fault, .func (PySem.W.fnOf "text_fault" "text_fault" (defArgs st_text_fault) (defBody st_text_fault) (defScope st_text_fault) .none kV_text_fault dc_text_fault pm_text_fault an_text_fault cd_text_fault ct_text_fault), sl_text_fault⟩)
    (co_text_fault : PySem.W.codeIn K cd_text_fault "text_fault" = true)
    (ke_text_fault : PySem.W.keepIn K (.ref f_text_fault) = true)
    (a_check_text : PySem.W.nsIn K mainGlobals "check_text" = some (some (.ref f_check_text)))
    (l_check_text : K.lookup f_check_text = some ⟨oc_check_text, od_check_text, .func (PySem.W.fnOf "check_text" "check_text" (defArgs st_check_text) (defBody st_check_text) (defScope st_check_text) .none kV_check_text dc_check_text pm_check_text an_check_text cd_check_text ct_check_text), sl_check_text⟩)
    (co_check_text : PySem.W.codeIn K cd_check_text "check_text" = true)
    (ke_check_text : PySem.W.keepIn K (.ref f_check_text) = true)
    (a_is_whole : PySem.W.nsIn K mainGlobals "is_whole" = some (some (.ref f_is_whole)))
    (l_is_whole : K.lookup f_is_whole = some ⟨oc_is_whole, od_is_whole, .func (PySem.W.fnOf "is_whole" "is_whole" (defArgs st_is_whole) (defBody st_is_whole) (defScope st_is_whole) .none kV_is_whole dc_is_whole pm_is_whole an_is_whole cd_is_whole ct_is_whole), sl_is_whole⟩)
    (co_is_whole : PySem.W.codeIn K cd_is_whole "is_whole" = true)
    (ke_is_whole : PySem.W.keepIn K (.ref f_is_whole) = true)
    (a_has_letters_alone : PySem.W.nsIn K mainGlobals "has_letters_alone" = some (some (.ref f_has_letters_alone)))
    (l_has_letters_alone : K.lookup f_has_letters_alone = some ⟨oc_has_letters_alone, od_has_letters_alone, .func (PySem.W.fnOf "has_letters_alone" "has_letters_alone" (defArgs st_has_letters_alone) (defBody st_has_letters_alone) (defScope st_has_letters_alone) .none kV_has_letters_alone dc_has_letters_alone pm_has_letters_alone an_has_letters_alone cd_has_letters_alone ct_has_letters_alone), sl_has_letters_alone⟩)
    (co_has_letters_alone : PySem.W.codeIn K cd_has_letters_alone "has_letters_alone" = true)
    (ke_has_letters_alone : PySem.W.keepIn K (.ref f_has_letters_alone) = true)
    (a_is_edit_text : PySem.W.nsIn K mainGlobals "is_edit_text" = some (some (.ref f_is_edit_text)))
    (l_is_edit_text : K.lookup f_is_edit_text = some ⟨oc_is_edit_text, od_is_edit_text, .func (PySem.W.fnOf "is_edit_text" "is_edit_text" (defArgs st_is_edit_text) (defBody st_is_edit_text) (defScope st_is_edit_text) .none kV_is_edit_text dc_is_edit_text pm_is_edit_text an_is_edit_text cd_is_edit_text ct_is_edit_text), sl_is_edit_text⟩)
    (co_is_edit_text : PySem.W.codeIn K cd_is_edit_text "is_edit_text" = true)
    (ke_is_edit_text : PySem.W.keepIn K (.ref f_is_edit_text) = true)
    (a_edit_word : PySem.W.nsIn K mainGlobals "edit_word" = some (some (.ref f_edit_word)))
    (l_edit_word : K.lookup f_edit_word = some ⟨oc_edit_word, od_edit_word, .func (PySem.W.fnOf "edit_word" "edit_word" (defArgs st_edit_word) (defBody st_edit_word) (defScope st_edit_word) .none kV_edit_word dc_edit_word pm_edit_word an_edit_word cd_edit_word ct_edit_word), sl_edit_word⟩)
    (co_edit_word : PySem.W.codeIn K cd_edit_word "edit_word" = true)
    (ke_edit_word : PySem.W.keepIn K (.ref f_edit_word) = true)
    (a_book_fault : PySem.W.nsIn K mainGlobals "book_fault" = some (some (.ref f_book_fault)))
    (l_book_fault : K.lookup f_book_fault = some ⟨oc_book_fault, od_book_fault, .func (PySem.W.fnOf "book_fault" "book_fault" (defArgs st_book_fault) (defBody st_book_fault) (defScope st_book_fault) .none kV_book_fault dc_book_fault pm_book_fault an_book_fault cd_book_fault ct_book_fault), sl_book_fault⟩)
    (co_book_fault : PySem.W.codeIn K cd_book_fault "book_fault" = true)
    (ke_book_fault : PySem.W.keepIn K (.ref f_book_fault) = true)
    (a_check_book : PySem.W.nsIn K mainGlobals "check_book" = some (some (.ref f_check_book)))
    (l_check_book : K.lookup f_check_book = some ⟨oc_check_book, od_check_book, .func (PySem.W.fnOf "check_book" "check_book" (defArgs st_check_book) (defBody st_check_book) (defScope st_check_book) .none kV_check_book dc_check_book pm_check_book an_check_book cd_check_book ct_check_book), sl_check_book⟩)
    (co_check_book : PySem.W.codeIn K cd_check_book "check_book" = true)
    (ke_check_book : PySem.W.keepIn K (.ref f_check_book) = true)
    (a__law_told : PySem.W.nsIn K mainGlobals "_law_told" = some (some (.ref f__law_told)))
    (l__law_told : K.lookup f__law_told = some ⟨oc__law_told, od__law_told, .func (PySem.W.fnOf "_law_told" "_law_told" (defArgs st__law_told) (defBody st__law_told) (defScope st__law_told) .none kV__law_told dc__law_told pm__law_told an__law_told cd__law_told ct__law_told), sl__law_told⟩)
    (co__law_told : PySem.W.codeIn K cd__law_told "_law_told" = true)
    (ke__law_told : PySem.W.keepIn K (.ref f__law_told) = true)
    (a__law_letters_due : PySem.W.nsIn K mainGlobals "_law_letters_due" = some (some (.ref f__law_letters_due)))
    (l__law_letters_due : K.lookup f__law_letters_due = some ⟨oc__law_letters_due, od__law_letters_due, .func (PySem.W.fnOf "_law_letters_due" "_law_letters_due" (defArgs st__law_letters_due) (defBody st__law_letters_due) (defScope st__law_letters_due) .none kV__law_letters_due dc__law_letters_due pm__law_letters_due an__law_letters_due cd__law_letters_due ct__law_letters_due), sl__law_letters_due⟩)
    (co__law_letters_due : PySem.W.codeIn K cd__law_letters_due "_law_letters_due" = true)
    (ke__law_letters_due : PySem.W.keepIn K (.ref f__law_letters_due) = true)
    (a__law_letters_holds : PySem.W.nsIn K mainGlobals "_law_letters_holds" = some (some (.ref f__law_letters_holds)))
    (l__law_letters_holds : K.lookup f__law_letters_holds = some ⟨oc__law_letters_holds, od__law_letters_holds, .func (PySem.W.fnOf "_law_letters_holds" "_law_letters_holds" (defArgs st__law_letters_holds) (defBody st__law_letters_holds) (defScope st__law_letters_holds) .none kV__law_letters_holds dc__law_letters_holds pm__law_letters_holds an__law_letters_holds cd__law_letters_holds ct__law_letters_holds), sl__law_letters_holds⟩)
    (co__law_letters_holds : PySem.W.codeIn K cd__law_letters_holds "_law_letters_holds" = true)
    (ke__law_letters_holds : PySem.W.keepIn K (.ref f__law_letters_holds) = true)
    (a__law_text : PySem.W.nsIn K mainGlobals "_law_text" = some (some (.ref f__law_text)))
    (l__law_text : K.lookup f__law_text = some ⟨oc__law_text, od__law_text, .func (PySem.W.fnOf "_law_text" "_law_text" (defArgs st__law_text) (defBody st__law_text) (defScope st__law_text) .none kV__law_text dc__law_text pm__law_text an__law_text cd__law_text ct__law_text), sl__law_text⟩)
    (co__law_text : PySem.W.codeIn K cd__law_text "_law_text" = true)
    (ke__law_text : PySem.W.keepIn K (.ref f__law_text) = true)
    (a__law_text_due : PySem.W.nsIn K mainGlobals "_law_text_due" = some (some (.ref f__law_text_due)))
    (l__law_text_due : K.lookup f__law_text_due = some ⟨oc__law_text_due, od__law_text_due, .func (PySem.W.fnOf "_law_text_due" "_law_text_due" (defArgs st__law_text_due) (defBody st__law_text_due) (defScope st__law_text_due) .none kV__law_text_due dc__law_text_due pm__law_text_due an__law_text_due cd__law_text_due ct__law_text_due), sl__law_text_due⟩)
    (co__law_text_due : PySem.W.codeIn K cd__law_text_due "_law_text_due" = true)
    (ke__law_text_due : PySem.W.keepIn K (.ref f__law_text_due) = true)
    (a__law_text_holds : PySem.W.nsIn K mainGlobals "_law_text_holds" = some (some (.ref f__law_text_holds)))
    (l__law_text_holds : K.lookup f__law_text_holds = some ⟨oc__law_text_holds, od__law_text_holds, .func (PySem.W.fnOf "_law_text_holds" "_law_text_holds" (defArgs st__law_text_holds) (defBody st__law_text_holds) (defScope st__law_text_holds) .none kV__law_text_holds dc__law_text_holds pm__law_text_holds an__law_text_holds cd__law_text_holds ct__law_text_holds), sl__law_text_holds⟩)
    (co__law_text_holds : PySem.W.codeIn K cd__law_text_holds "_law_text_holds" = true)
    (ke__law_text_holds : PySem.W.keepIn K (.ref f__law_text_holds) = true)
    (a__law_book : PySem.W.nsIn K mainGlobals "_law_book" = some (some (.ref f__law_book)))
    (l__law_book : K.lookup f__law_book = some ⟨oc__law_book, od__law_book, .func (PySem.W.fnOf "_law_book" "_law_book" (defArgs st__law_book) (defBody st__law_book) (defScope st__law_book) .none kV__law_book dc__law_book pm__law_book an__law_book cd__law_book ct__law_book), sl__law_book⟩)
    (co__law_book : PySem.W.codeIn K cd__law_book "_law_book" = true)
    (ke__law_book : PySem.W.keepIn K (.ref f__law_book) = true)
    (a__law_edit_fault : PySem.W.nsIn K mainGlobals "_law_edit_fault" = some (some (.ref f__law_edit_fault)))
    (l__law_edit_fault : K.lookup f__law_edit_fault = some ⟨oc__law_edit_fault, od__law_edit_fault, .func (PySem.W.fnOf "_law_edit_fault" "_law_edit_fault" (defArgs st__law_edit_fault) (defBody st__law_edit_fault) (defScope st__law_edit_fault) .none kV__law_edit_fault dc__law_edit_fault pm__law_edit_fault an__law_edit_fault cd__law_edit_fault ct__law_edit_fault), sl__law_edit_fault⟩)
    (co__law_edit_fault : PySem.W.codeIn K cd__law_edit_fault "_law_edit_fault" = true)
    (ke__law_edit_fault : PySem.W.keepIn K (.ref f__law_edit_fault) = true)
    (a__law_book_due : PySem.W.nsIn K mainGlobals "_law_book_due" = some (some (.ref f__law_book_due)))
    (l__law_book_due : K.lookup f__law_book_due = some ⟨oc__law_book_due, od__law_book_due, .func (PySem.W.fnOf "_law_book_due" "_law_book_due" (defArgs st__law_book_due) (defBody st__law_book_due) (defScope st__law_book_due) .none kV__law_book_due dc__law_book_due pm__law_book_due an__law_book_due cd__law_book_due ct__law_book_due), sl__law_book_due⟩)
    (co__law_book_due : PySem.W.codeIn K cd__law_book_due "_law_book_due" = true)
    (ke__law_book_due : PySem.W.keepIn K (.ref f__law_book_due) = true)
    (a__law_bent_edit : PySem.W.nsIn K mainGlobals "_law_bent_edit" = some (some (.ref f__law_bent_edit)))
    (l__law_bent_edit : K.lookup f__law_bent_edit = some ⟨oc__law_bent_edit, od__law_bent_edit, .func (PySem.W.fnOf "_law_bent_edit" "_law_bent_edit" (defArgs st__law_bent_edit) (defBody st__law_bent_edit) (defScope st__law_bent_edit) .none kV__law_bent_edit dc__law_bent_edit pm__law_bent_edit an__law_bent_edit cd__law_bent_edit ct__law_bent_edit), sl__law_bent_edit⟩)
    (co__law_bent_edit : PySem.W.codeIn K cd__law_bent_edit "_law_bent_edit" = true)
    (ke__law_bent_edit : PySem.W.keepIn K (.ref f__law_bent_edit) = true)
    (a__law_book_holds : PySem.W.nsIn K mainGlobals "_law_book_holds" = some (some (.ref f__law_book_holds)))
    (l__law_book_holds : K.lookup f__law_book_holds = some ⟨oc__law_book_holds, od__law_book_holds, .func (PySem.W.fnOf "_law_book_holds" "_law_book_holds" (defArgs st__law_book_holds) (defBody st__law_book_holds) (defScope st__law_book_holds) .none kV__law_book_holds dc__law_book_holds pm__law_book_holds an__law_book_holds cd__law_book_holds ct__law_book_holds), sl__law_book_holds⟩)
    (co__law_book_holds : PySem.W.codeIn K cd__law_book_holds "_law_book_holds" = true)
    (ke__law_book_holds : PySem.W.keepIn K (.ref f__law_book_holds) = true)
    (a__law_full_book : PySem.W.nsIn K mainGlobals "_law_full_book" = some (some (.ref f__law_full_book)))
    (l__law_full_book : K.lookup f__law_full_book = some ⟨oc__law_full_book, od__law_full_book, .func (PySem.W.fnOf "_law_full_book" "_law_full_book" (defArgs st__law_full_book) (defBody st__law_full_book) (defScope st__law_full_book) .none kV__law_full_book dc__law_full_book pm__law_full_book an__law_full_book cd__law_full_book ct__law_full_book), sl__law_full_book⟩)
    (co__law_full_book : PySem.W.codeIn K cd__law_full_book "_law_full_book" = true)
    (ke__law_full_book : PySem.W.keepIn K (.ref f__law_full_book) = true)
    (a_law : PySem.W.nsIn K mainGlobals "law" = some (some (.ref f_law)))
    (l_law : K.lookup f_law = some ⟨oc_law, od_law, .func (PySem.W.fnOf "law" "law" (defArgs st_law) (defBody st_law) (defScope st_law) .none kV_law dc_law pm_law an_law cd_law ct_law), sl_law⟩)
    (co_law : PySem.W.codeIn K cd_law "law" = true)
    (ke_law : PySem.W.keepIn K (.ref f_law) = true)
    (plain : ∀ ns : List Int, ns.length ≤ 63 → ∃ S, M_law [.lst (ns.map .int)] [] = .ok (.bl true) S) :
    ∃ fd : FuncData, (∀ (s : Shared) (v : Value), BindsTo s fd ⟨[v], []⟩ [("script", v)]) ∧ ∀ base : Heap, K.In base → base.Ns mainGlobals mg → FnOk P w K mg base (L2.CX P w) 8 fa fd ["script"] (spLaw K) := by
  have e := hfa.symm.trans (PySem.W.mg_of X G a_law)
  cases e
  have F__law_pool := fun_mk (st := st__law_pool) l__law_pool co__law_pool ke__law_pool
  have b__law_pool := F__law_pool.binds (ps := ["script", "salt"]) fun _ _ _ _ _ _ us hl => match us, hl with | [_, _], _ => rfl
  have U__law_pool : Fu K mg "_law_pool" st__law_pool ["script", "salt"] := ⟨_, _, F__law_pool, PySem.W.mg_of X G a__law_pool, b__law_pool⟩
  have F__law_draw := fun_mk (st := st__law_draw) l__law_draw co__law_draw ke__law_draw
  have b__law_draw := F__law_draw.binds (ps := ["pool", "many"]) fun _ _ _ _ _ _ us hl => match us, hl with | [_, _], _ => rfl
  have U__law_draw : Fu K mg "_law_draw" st__law_draw ["pool", "many"] := ⟨_, _, F__law_draw, PySem.W.mg_of X G a__law_draw, b__law_draw⟩
  have F__law_shuffled := fun_mk (st := st__law_shuffled) l__law_shuffled co__law_shuffled ke__law_shuffled
  have b__law_shuffled := F__law_shuffled.binds (ps := ["pool", "things"]) fun _ _ _ _ _ _ us hl => match us, hl with | [_, _], _ => rfl
  have U__law_shuffled : Fu K mg "_law_shuffled" st__law_shuffled ["pool", "things"] := ⟨_, _, F__law_shuffled, PySem.W.mg_of X G a__law_shuffled, b__law_shuffled⟩
  have F__law_letters := fun_mk (st := st__law_letters) l__law_letters co__law_letters ke__law_letters
  have b__law_letters := F__law_letters.binds (ps := ["pool", "many"]) fun _ _ _ _ _ _ us hl => match us, hl with | [_, _], _ => rfl
  have U__law_letters : Fu K mg "_law_letters" st__law_letters ["pool", "many"] := ⟨_, _, F__law_letters, PySem.W.mg_of X G a__law_letters, b__law_letters⟩
  have F__law_odd_things := fun_mk (st := st__law_odd_things) l__law_odd_things co__law_odd_things ke__law_odd_things
  have b__law_odd_things := F__law_odd_things.binds (ps := ["pool", "right"]) fun _ _ _ _ _ _ us hl => match us, hl with | [_, _], _ => rfl
  have U__law_odd_things : Fu K mg "_law_odd_things" st__law_odd_things ["pool", "right"] := ⟨_, _, F__law_odd_things, PySem.W.mg_of X G a__law_odd_things, b__law_odd_things⟩
  have F__law_is_whole := fun_mk (st := st__law_is_whole) l__law_is_whole co__law_is_whole ke__law_is_whole
  have b__law_is_whole := F__law_is_whole.binds (ps := ["thing"]) fun _ _ _ _ _ _ us hl => match us, hl with | [_], _ => rfl
  have U__law_is_whole : Fu K mg "_law_is_whole" st__law_is_whole ["thing"] := ⟨_, _, F__law_is_whole, PySem.W.mg_of X G a__law_is_whole, b__law_is_whole⟩
  have F__law_same := fun_mk (st := st__law_same) l__law_same co__law_same ke__law_same
  have b__law_same := F__law_same.binds (ps := ["told", "due"]) fun _ _ _ _ _ _ us hl => match us, hl with | [_, _], _ => rfl
  have U__law_same : Fu K mg "_law_same" st__law_same ["told", "due"] := ⟨_, _, F__law_same, PySem.W.mg_of X G a__law_same, b__law_same⟩
  have F_letters_fault := fun_mk (st := st_letters_fault) l_letters_fault co_letters_fault ke_letters_fault
  have b_letters_fault := F_letters_fault.binds (ps := ["thing"]) fun _ _ _ _ _ _ us hl => match us, hl with | [_], _ => rfl
  have U_letters_fault : Fu K mg "letters_fault" st_letters_fault ["thing"] := ⟨_, _, F_letters_fault, PySem.W.mg_of X G a_letters_fault, b_letters_fault⟩
  have F_check_letters := fun_mk (st := st_check_letters) l_check_letters co_check_letters ke_check_letters
  have b_check_letters := F_check_letters.binds (ps := ["thing"]) fun _ _ _ _ _ _ us hl => match us, hl with | [_], _ => rfl
  have U_check_letters : Fu K mg "check_letters" st_check_letters ["thing"] := ⟨_, _, F_check_letters, PySem.W.mg_of X G a_check_letters, b_check_letters⟩
  have F_text_fault := fun_mk (st := st_text_fault) l_text_fault co_text_fault ke_text_fault
  have b_text_fault := F_text_fault.binds (ps := ["letters", "thing"]) fun _ _ _ _ _ _ us hl => match us, hl with | [_, _], _ => rfl
  have U_text_fault : Fu K mg "text_fault" st_text_fault ["letters", "thing"] := ⟨_, _, F_text_fault, PySem.W.mg_of X G a_text_fault, b_text_fault⟩
  have F_check_text := fun_mk (st := st_check_text) l_check_text co_check_text ke_check_text
  have b_check_text := F_check_text.binds (ps := ["letters", "thing"]) fun _ _ _ _ _ _ us hl => match us, hl with | [_, _], _ => rfl
  have U_check_text : Fu K mg "check_text" st_check_text ["letters", "thing"] := ⟨_, _, F_check_text, PySem.W.mg_of X G a_check_text, b_check_text⟩
  have F_is_whole := fun_mk (st := st_is_whole) l_is_whole co_is_whole ke_is_whole
  have b_is_whole := F_is_whole.binds (ps := ["thing"]) fun _ _ _ _ _ _ us hl => match us, hl with | [_], _ => rfl
  have U_is_whole : Fu K mg "is_whole" st_is_whole ["thing"] := ⟨_, _, F_is_whole, PySem.W.mg_of X G a_is_whole, b_is_whole⟩
  have F_has_letters_alone := fun_mk (st := st_has_letters_alone) l_has_letters_alone co_has_letters_alone ke_has_letters_alone
  have b_has_letters_alone := F_has_letters_alone.binds (ps := ["letters", "thing"]) fun _ _ _ _ _ _ us hl => match us, hl with | [_, _], _ => rfl
  have U_has_letters_alone : Fu K mg "has_letters_alone" st_has_letters_alone ["letters", "thing"] := ⟨_, _, F_has_letters_alone, PySem.W.mg_of X G a_has_letters_alone, b_has_letters_alone⟩
  have F_is_edit_text := fun_mk (st := st_is_edit_text) l_is_edit_text co_is_edit_text ke_is_edit_text
  have b_is_edit_text := F_is_edit_text.binds (ps := ["letters", "thing"]) fun _ _ _ _ _ _ us hl => match us, hl with | [_, _], _ => rfl
  have U_is_edit_text : Fu K mg "is_edit_text" st_is_edit_text ["letters", "thing"] := ⟨_, _, F_is_edit_text, PySem.W.mg_of X G a_is_edit_text, b_is_edit_text⟩
  have F_edit_word := fun_mk (st := st_edit_word) l_edit_word co_edit_word ke_edit_word
  have b_edit_word := F_edit_word.binds (ps := ["letters", "thing", "ahead"]) fun _ _ _ _ _ _ us hl => match us, hl with | [_, _, _], _ => rfl
  have U_edit_word : Fu K mg "edit_word" st_edit_word ["letters", "thing", "ahead"] := ⟨_, _, F_edit_word, PySem.W.mg_of X G a_edit_word, b_edit_word⟩
  have F_book_fault := fun_mk (st := st_book_fault) l_book_fault co_book_fault ke_book_fault
  have b_book_fault := F_book_fault.binds (ps := ["thing"]) fun _ _ _ _ _ _ us hl => match us, hl with | [_], _ => rfl
  have U_book_fault : Fu K mg "book_fault" st_book_fault ["thing"] := ⟨_, _, F_book_fault, PySem.W.mg_of X G a_book_fault, b_book_fault⟩
  have F_check_book := fun_mk (st := st_check_book) l_check_book co_check_book ke_check_book
  have b_check_book := F_check_book.binds (ps := ["thing"]) fun _ _ _ _ _ _ us hl => match us, hl with | [_], _ => rfl
  have U_check_book : Fu K mg "check_book" st_check_book ["thing"] := ⟨_, _, F_check_book, PySem.W.mg_of X G a_check_book, b_check_book⟩
  have F__law_told := fun_mk (st := st__law_told) l__law_told co__law_told ke__law_told
  have b__law_told := F__law_told.binds (ps := ["what", "letters", "thing"]) fun _ _ _ _ _ _ us hl => match us, hl with | [_, _, _], _ => rfl
  have U__law_told : Fu K mg "_law_told" st__law_told ["what", "letters", "thing"] := ⟨_, _, F__law_told, PySem.W.mg_of X G a__law_told, b__law_told⟩
  have F__law_letters_due := fun_mk (st := st__law_letters_due) l__law_letters_due co__law_letters_due ke__law_letters_due
  have b__law_letters_due := F__law_letters_due.binds (ps := ["thing"]) fun _ _ _ _ _ _ us hl => match us, hl with | [_], _ => rfl
  have U__law_letters_due : Fu K mg "_law_letters_due" st__law_letters_due ["thing"] := ⟨_, _, F__law_letters_due, PySem.W.mg_of X G a__law_letters_due, b__law_letters_due⟩
  have F__law_letters_holds := fun_mk (st := st__law_letters_holds) l__law_letters_holds co__law_letters_holds ke__law_letters_holds
  have b__law_letters_holds := F__law_letters_holds.binds (ps := ["pool"]) fun _ _ _ _ _ _ us hl => match us, hl with | [_], _ => rfl
  have U__law_letters_holds : Fu K mg "_law_letters_holds" st__law_letters_holds ["pool"] := ⟨_, _, F__law_letters_holds, PySem.W.mg_of X G a__law_letters_holds, b__law_letters_holds⟩
  have F__law_text := fun_mk (st := st__law_text) l__law_text co__law_text ke__law_text
  have b__law_text := F__law_text.binds (ps := ["pool", "letters", "most"]) fun _ _ _ _ _ _ us hl => match us, hl with | [_, _, _], _ => rfl
  have U__law_text : Fu K mg "_law_text" st__law_text ["pool", "letters", "most"] := ⟨_, _, F__law_text, PySem.W.mg_of X G a__law_text, b__law_text⟩
  have F__law_text_due := fun_mk (st := st__law_text_due) l__law_text_due co__law_text_due ke__law_text_due
  have b__law_text_due := F__law_text_due.binds (ps := ["letters", "thing"]) fun _ _ _ _ _ _ us hl => match us, hl with | [_, _], _ => rfl
  have U__law_text_due : Fu K mg "_law_text_due" st__law_text_due ["letters", "thing"] := ⟨_, _, F__law_text_due, PySem.W.mg_of X G a__law_text_due, b__law_text_due⟩
  have F__law_text_holds := fun_mk (st := st__law_text_holds) l__law_text_holds co__law_text_holds ke__law_text_holds
  have b__law_text_holds := F__law_text_holds.binds (ps := ["pool"]) fun _ _ _ _ _ _ us hl => match us, hl with | [_], _ => rfl
  have U__law_text_holds : Fu K mg "_law_text_holds" st__law_text_holds ["pool"] := ⟨_, _, F__law_text_holds, PySem.W.mg_of X G a__law_text_holds, b__law_text_holds⟩
  have F__law_book := fun_mk (st := st__law_book) l__law_book co__law_book ke__law_book
  have b__law_book := F__law_book.binds (ps := ["pool", "letters", "many", "most"]) fun _ _ _ _ _ _ us hl => match us, hl with | [_, _, _, _], _ => rfl
  have U__law_book : Fu K mg "_law_book" st__law_book ["pool", "letters", "many", "most"] := ⟨_, _, F__law_book, PySem.W.mg_of X G a__law_book, b__law_book⟩
  have F__law_edit_fault := fun_mk (st := st__law_edit_fault) l__law_edit_fault co__law_edit_fault ke__law_edit_fault
  have b__law_edit_fault := F__law_edit_fault.binds (ps := ["letters", "edit", "ahead"]) fun _ _ _ _ _ _ us hl => match us, hl with | [_, _, _], _ => rfl
  have U__law_edit_fault : Fu K mg "_law_edit_fault" st__law_edit_fault ["letters", "edit", "ahead"] := ⟨_, _, F__law_edit_fault, PySem.W.mg_of X G a__law_edit_fault, b__law_edit_fault⟩
  have F__law_book_due := fun_mk (st := st__law_book_due) l__law_book_due co__law_book_due ke__law_book_due
  have b__law_book_due := F__law_book_due.binds (ps := ["thing"]) fun _ _ _ _ _ _ us hl => match us, hl with | [_], _ => rfl
  have U__law_book_due : Fu K mg "_law_book_due" st__law_book_due ["thing"] := ⟨_, _, F__law_book_due, PySem.W.mg_of X G a__law_book_due, b__law_book_due⟩
  have F__law_bent_edit := fun_mk (st := st__law_bent_edit) l__law_bent_edit co__law_bent_edit ke__law_bent_edit
  have b__law_bent_edit := F__law_bent_edit.binds (ps := ["pool", "letters", "edit"]) fun _ _ _ _ _ _ us hl => match us, hl with | [_, _, _], _ => rfl
  have U__law_bent_edit : Fu K mg "_law_bent_edit" st__law_bent_edit ["pool", "letters", "edit"] := ⟨_, _, F__law_bent_edit, PySem.W.mg_of X G a__law_bent_edit, b__law_bent_edit⟩
  have F__law_book_holds := fun_mk (st := st__law_book_holds) l__law_book_holds co__law_book_holds ke__law_book_holds
  have b__law_book_holds := F__law_book_holds.binds (ps := ["pool", "many"]) fun _ _ _ _ _ _ us hl => match us, hl with | [_, _], _ => rfl
  have U__law_book_holds : Fu K mg "_law_book_holds" st__law_book_holds ["pool", "many"] := ⟨_, _, F__law_book_holds, PySem.W.mg_of X G a__law_book_holds, b__law_book_holds⟩
  have F__law_full_book := fun_mk (st := st__law_full_book) l__law_full_book co__law_full_book ke__law_full_book
  have b__law_full_book := F__law_full_book.binds (ps := ["pool"]) fun _ _ _ _ _ _ us hl => match us, hl with | [_], _ => rfl
  have U__law_full_book : Fu K mg "_law_full_book" st__law_full_book ["pool"] := ⟨_, _, F__law_full_book, PySem.W.mg_of X G a__law_full_book, b__law_full_book⟩
  have F_law := fun_mk (st := st_law) l_law co_law ke_law
  have b_law := F_law.binds (ps := ["script"]) fun _ _ _ _ _ _ us hl => match us, hl with | [_], _ => rfl
  have U_law : Fu K mg "law" st_law ["script"] := ⟨_, _, F_law, PySem.W.mg_of X G a_law, b_law⟩
  have G_BadBook := fun_mk (st := in_BadBook) l1_BadBook c1_BadBook k1_BadBook
  have bI_BadBook := G_BadBook.binds (ps := ["self", "at", "word"]) fun _ _ _ _ _ _ us hl => match us, hl with | [_, _, _], _ => rfl
  have oe_BadBook : OexC K C_BadBook := ⟨⟨_, _, _, _, _, _, _, _, _, _, _, _, _, _, _, xL_BadBook, by rfl⟩, sa_BadBook, eC_BadBook, tC_BadBook, kC_BadBook⟩
  have xf_BadBook : XfC K C_BadBook := ⟨ga_BadBook, gg_BadBook, eC_BadBook, hC_BadBook⟩
  have G_BadLetters := fun_mk (st := in_BadLetters) l1_BadLetters c1_BadLetters k1_BadLetters
  have bI_BadLetters := G_BadLetters.binds (ps := ["self", "at", "word"]) fun _ _ _ _ _ _ us hl => match us, hl with | [_, _, _], _ => rfl
  have oe_BadLetters : OexC K C_BadLetters := ⟨⟨_, _, _, _, _, _, _, _, _, _, _, _, _, _, _, xL_BadLetters, by rfl⟩, sa_BadLetters, eC_BadLetters, tC_BadLetters, kC_BadLetters⟩
  have xf_BadLetters : XfC K C_BadLetters := ⟨ga_BadLetters, gg_BadLetters, eC_BadLetters, hC_BadLetters⟩
  have G_BadText := fun_mk (st := in_BadText) l1_BadText c1_BadText k1_BadText
  have bI_BadText := G_BadText.binds (ps := ["self", "at", "word"]) fun _ _ _ _ _ _ us hl => match us, hl with | [_, _, _], _ => rfl
  have oe_BadText : OexC K C_BadText := ⟨⟨_, _, _, _, _, _, _, _, _, _, _, _, _, _, _, xL_BadText, by rfl⟩, sa_BadText, eC_BadText, tC_BadText, kC_BadText⟩
  have xf_BadText : XfC K C_BadText := ⟨ga_BadText, gg_BadText, eC_BadText, hC_BadText⟩
  refine ⟨PySem.W.fnOf "law" "law" (defArgs st_law) (defBody st_law) (defScope st_law) .none kV_law dc_law pm_law an_law cd_law ct_law, fun s v => .of_eq rfl, fun base _ _ => ?_⟩
  have z : Zs P w K mg base := {
    n_abs := PySem.W.mg_none_of X G n_abs,
    n_bool := PySem.W.mg_none_of X G n_bool,
    n_enumerate := PySem.W.mg_none_of X G n_enumerate,
    n_int := PySem.W.mg_none_of X G n_int,
    n_isinstance := PySem.W.mg_none_of X G n_isinstance,
    n_len := PySem.W.mg_none_of X G n_len,
    n_list := PySem.W.mg_none_of X G n_list,
    n_max := PySem.W.mg_none_of X G n_max,
    n_range := PySem.W.mg_none_of X G n_range,
    n_sorted := PySem.W.mg_none_of X G n_sorted,
    n_str := PySem.W.mg_none_of X G n_str,
    n_tuple := PySem.W.mg_none_of X G n_tuple,
    c_COST_MOST := ⟨_, PySem.W.mg_of X G c_COST_MOST⟩,
    c_EDITS_MOST := ⟨_, PySem.W.mg_of X G c_EDITS_MOST⟩,
    c_EDIT_TEXT := ⟨_, PySem.W.mg_of X G c_EDIT_TEXT⟩,
    c_LETTERS_MOST := ⟨_, PySem.W.mg_of X G c_LETTERS_MOST⟩,
    c_SIGNS := ⟨_, PySem.W.mg_of X G c_SIGNS⟩,
    c_TEXT_MOST := ⟨_, PySem.W.mg_of X G c_TEXT_MOST⟩,
    x_BadBook := ⟨C_BadBook, I_BadBook, _, _, oe_BadBook, a1_BadBook, t1_BadBook, ok_init2 (k := 0) G_BadBook scI_BadBook rfl (fun cdv A outer s H E => ss_init2 oe_BadBook nf_BadBook_at nf_BadBook_word (pe_var (i := 0) rfl (Or.inl rfl)) (pe_var (i := 1) rfl (Or.inl rfl)) (pe_var (i := 0) rfl (Or.inl rfl)) (pe_var (i := 2) rfl (Or.inl rfl))), bI_BadBook, PySem.W.mg_of X G aC_BadBook⟩,
    x_BadLetters := ⟨C_BadLetters, I_BadLetters, _, _, oe_BadLetters, a1_BadLetters, t1_BadLetters, ok_init2 (k := 0) G_BadLetters scI_BadLetters rfl (fun cdv A outer s H E => ss_init2 oe_BadLetters nf_BadLetters_at nf_BadLetters_word (pe_var (i := 0) rfl (Or.inl rfl)) (pe_var (i := 1) rfl (Or.inl rfl)) (pe_var (i := 0) rfl (Or.inl rfl)) (pe_var (i := 2) rfl (Or.inl rfl))), bI_BadLetters, PySem.W.mg_of X G aC_BadLetters⟩,
    x_BadText := ⟨C_BadText, I_BadText, _, _, oe_BadText, a1_BadText, t1_BadText, ok_init2 (k := 0) G_BadText scI_BadText rfl (fun cdv A outer s H E => ss_init2 oe_BadText nf_BadText_at nf_BadText_word (pe_var (i := 0) rfl (Or.inl rfl)) (pe_var (i := 1) rfl (Or.inl rfl)) (pe_var (i := 0) rfl (Or.inl rfl)) (pe_var (i := 2) rfl (Or.inl rfl))), bI_BadText, PySem.W.mg_of X G aC_BadText⟩,
    h_MendError := ⟨C_MendError, PySem.W.mg_of X G aC_MendError, fun c C b hc hy => allL_of (l := [("BadBook", true), ("BadLetters", true), ("BadText", true)]) (P := fun c b => ∀ C, mg c = some (.ref C) → PySem.W.exmOne K (.ref C) (.ref C_MendError) = some b) (And.intro (fun C h => by
      cases h.symm.trans (PySem.W.mg_of X G aC_BadBook)
      exact PySem.W.exm_ref eC_MendError hC_MendError tC_MendError s_BadBook_MendError) (And.intro (fun C h => by
      cases h.symm.trans (PySem.W.mg_of X G aC_BadLetters)
      exact PySem.W.exm_ref eC_MendError hC_MendError tC_MendError s_BadLetters_MendError) (And.intro (fun C h => by
      cases h.symm.trans (PySem.W.mg_of X G aC_BadText)
      exact PySem.W.exm_ref eC_MendError hC_MendError tC_MendError s_BadText_MendError) trivial))) hy C hc⟩,
    i_MendError_BadBook := ⟨C_BadBook, PySem.W.mg_of X G aC_BadBook, fun c C b hc hy => allL_of (l := [("BadBook", true), ("BadLetters", false), ("BadText", false)]) (P := fun c b => ∀ C, mg c = some (.ref C) → ExcC K C ∧ PySem.W.kitOne K (.ref C) (.ref C_BadBook) = some b) (And.intro (fun C h => by
      cases h.symm.trans (PySem.W.mg_of X G aC_BadBook)
      exact ⟨⟨ga_BadBook, gg_BadBook, eC_BadBook, hC_BadBook, cl_BadBook, sp__, tk__, mr_BadBook⟩, k_BadBook_BadBook⟩) (And.intro (fun C h => by
      cases h.symm.trans (PySem.W.mg_of X G aC_BadLetters)
      exact ⟨⟨ga_BadLetters, gg_BadLetters, eC_BadLetters, hC_BadLetters, cl_BadLetters, sp__, tk__, mr_BadLetters⟩, k_BadLetters_BadBook⟩) (And.intro (fun C h => by
      cases h.symm.trans (PySem.W.mg_of X G aC_BadText)
      exact ⟨⟨ga_BadText, gg_BadText, eC_BadText, hC_BadText, cl_BadText, sp__, tk__, mr_BadText⟩, k_BadText_BadBook⟩) trivial))) hy C hc⟩,
    i_MendError_BadLetters := ⟨C_BadLetters, PySem.W.mg_of X G aC_BadLetters, fun c C b hc hy => allL_of (l := [("BadBook", false), ("BadLetters", true), ("BadText", false)]) (P := fun c b => ∀ C, mg c = some (.ref C) → ExcC K C ∧ PySem.W.kitOne K (.ref C) (.ref C_BadLetters) = some b) (And.intro (fun C h => by
      cases h.symm.trans (PySem.W.mg_of X G aC_BadBook)
      exact ⟨⟨ga_BadBook, gg_BadBook, eC_BadBook, hC_BadBook, cl_BadBook, sp__, tk__, mr_BadBook⟩, k_BadBook_BadLetters⟩) (And.intro (fun C h => by
      cases h.symm.trans (PySem.W.mg_of X G aC_BadLetters)
      exact ⟨⟨ga_BadLetters, gg_BadLetters, eC_BadLetters, hC_BadLetters, cl_BadLetters, sp__, tk__, mr_BadLetters⟩, k_BadLetters_BadLetters⟩) (And.intro (fun C h => by
      cases h.symm.trans (PySem.W.mg_of X G aC_BadText)
      exact ⟨⟨ga_BadText, gg_BadText, eC_BadText, hC_BadText, cl_BadText, sp__, tk__, mr_BadText⟩, k_BadText_BadLetters⟩) trivial))) hy C hc⟩,
    i_MendError_BadText := ⟨C_BadText, PySem.W.mg_of X G aC_BadText, fun c C b hc hy => allL_of (l := [("BadBook", false), ("BadLetters", false), ("BadText", true)]) (P := fun c b => ∀ C, mg c = some (.ref C) → ExcC K C ∧ PySem.W.kitOne K (.ref C) (.ref C_BadText) = some b) (And.intro (fun C h => by
      cases h.symm.trans (PySem.W.mg_of X G aC_BadBook)
      exact ⟨⟨ga_BadBook, gg_BadBook, eC_BadBook, hC_BadBook, cl_BadBook, sp__, tk__, mr_BadBook⟩, k_BadBook_BadText⟩) (And.intro (fun C h => by
      cases h.symm.trans (PySem.W.mg_of X G aC_BadLetters)
      exact ⟨⟨ga_BadLetters, gg_BadLetters, eC_BadLetters, hC_BadLetters, cl_BadLetters, sp__, tk__, mr_BadLetters⟩, k_BadLetters_BadText⟩) (And.intro (fun C h => by
      cases h.symm.trans (PySem.W.mg_of X G aC_BadText)
      exact ⟨⟨ga_BadText, gg_BadText, eC_BadText, hC_BadText, cl_BadText, sp__, tk__, mr_BadText⟩, k_BadText_BadText⟩) trivial))) hy C hc⟩,
    f_MendError_at := fun c hc C hm => allM_of (l := ["BadBook", "BadLetters", "BadText"]) (P := fun c => ∀ C, mg c = some (.ref C) → XfC K C ∧ PySem.W.findIn K (.ref C) "at" = some none) (And.intro (fun C h => by
      cases h.symm.trans (PySem.W.mg_of X G aC_BadBook)
      exact ⟨xf_BadBook, nf_BadBook_at⟩) (And.intro (fun C h => by
      cases h.symm.trans (PySem.W.mg_of X G aC_BadLetters)
      exact ⟨xf_BadLetters, nf_BadLetters_at⟩) (And.intro (fun C h => by
      cases h.symm.trans (PySem.W.mg_of X G aC_BadText)
      exact ⟨xf_BadText, nf_BadText_at⟩) trivial))) hc C hm,
    f_MendError_word := fun c hc C hm => allM_of (l := ["BadBook", "BadLetters", "BadText"]) (P := fun c => ∀ C, mg c = some (.ref C) → XfC K C ∧ PySem.W.findIn K (.ref C) "word" = some none) (And.intro (fun C h => by
      cases h.symm.trans (PySem.W.mg_of X G aC_BadBook)
      exact ⟨xf_BadBook, nf_BadBook_word⟩) (And.intro (fun C h => by
      cases h.symm.trans (PySem.W.mg_of X G aC_BadLetters)
      exact ⟨xf_BadLetters, nf_BadLetters_word⟩) (And.intro (fun C h => by
      cases h.symm.trans (PySem.W.mg_of X G aC_BadText)
      exact ⟨xf_BadText, nf_BadText_word⟩) trivial))) hc C hm }
  have C__law_pool := ok__law_pool z U__law_pool 
  have C__law_draw := ok__law_draw z U__law_draw 
  have C__law_shuffled := ok__law_shuffled z U__law_shuffled C__law_draw
  have C__law_letters := ok__law_letters z U__law_letters C__law_shuffled
  have C__law_odd_things := ok__law_odd_things z U__law_odd_things C__law_draw
  have C__law_is_whole := ok__law_is_whole z U__law_is_whole 
  have C__law_same := ok__law_same z U__law_same C__law_is_whole
  have C_letters_fault := ok_letters_fault z U_letters_fault 
  have C_check_letters := ok_check_letters z U_check_letters C_letters_fault
  have C_text_fault := ok_text_fault z U_text_fault 
  have C_check_text := ok_check_text z U_check_text C_text_fault
  have C_is_whole := ok_is_whole z U_is_whole 
  have C_has_letters_alone := ok_has_letters_alone z U_has_letters_alone 
  have C_is_edit_text := ok_is_edit_text z U_is_edit_text C_has_letters_alone
  have C_edit_word := ok_edit_word z U_edit_word C_is_whole C_is_edit_text
  have C_book_fault := ok_book_fault z U_book_fault C_letters_fault C_edit_word
  have C_check_book := ok_check_book z U_check_book C_book_fault
  have C__law_told := ok__law_told z U__law_told C_check_letters C_check_text C_check_book
  have C__law_letters_due := ok__law_letters_due z U__law_letters_due 
  have C__law_letters_holds := ok__law_letters_holds z U__law_letters_holds C__law_draw C__law_shuffled C__law_letters C__law_odd_things C__law_same C__law_told C__law_letters_due
  have C__law_text := ok__law_text z U__law_text C__law_draw
  have C__law_text_due := ok__law_text_due z U__law_text_due 
  have C__law_text_holds := ok__law_text_holds z U__law_text_holds C__law_draw C__law_letters C__law_odd_things C__law_same C__law_told C__law_text C__law_text_due
  have C__law_book := ok__law_book z U__law_book C__law_draw C__law_text
  have C__law_edit_fault := ok__law_edit_fault z U__law_edit_fault C__law_is_whole
  have C__law_book_due := ok__law_book_due z U__law_book_due C__law_is_whole C__law_letters_due C__law_edit_fault
  have C__law_bent_edit := ok__law_bent_edit z U__law_bent_edit C__law_draw
  have C__law_book_holds := ok__law_book_holds z U__law_book_holds C__law_draw C__law_letters C__law_odd_things C__law_same C__law_told C__law_book C__law_book_due C__law_bent_edit
  have C__law_full_book := ok__law_full_book z U__law_full_book C__law_draw C__law_letters C__law_same C__law_told C__law_book_due C__law_bent_edit
  exact law_end (ok_law z F_law C__law_pool C__law_draw C__law_letters_holds C__law_text_holds C__law_book_holds C__law_full_book) rfl plain
end Z

end
section
open PySem PySem.W PyProof.Rows
set_option maxHeartbeats 0 in
theorem PySem.Challenge.cw_fewmends_k01_checks_holds : PySem.Challenge.rw_fewmends_k01_checks.Holds := by
  w_on; o_law; k_head; (case hw => w_witness2)
  k_fill
  refine L2.walk_of (l := PySem.Challenge.rw_fewmends_k01_checks) (n := 63) (k := 8) (x := "script") (CX := fun w => L2.CX PySem.Challenge.rw_fewmends_k01_checks.prog w) (sp := fun w => Y.spLaw _) rfl (by decide) rfl ⟨rfl, by decide, by decide⟩ (fun w h Y => PySem.W.kIn_of Y) ?F (fun _ _ a ns hl _ hS => ⟨a, ns, rfl, hS, hl, fun _ => rfl⟩) (fun w H s e s' h => Y.noCX h)
  case F =>
    intro w mg fa h KX G hmg
    refine' Z.all_mk KX G hmg ?n_abs ?n_bool ?n_enumerate ?n_int ?n_isinstance ?n_len ?n_list ?n_max ?n_range ?n_sorted ?n_str ?n_tuple ?c_COST_MOST ?c_EDITS_MOST ?c_EDIT_TEXT ?c_LETTERS_MOST ?c_SIGNS ?c_TEXT_MOST ?aC_BadBook ?xL_BadBook ?sa_BadBook ?ga_BadBook ?gg_BadBook ?nf_BadBook_at ?nf_BadBook_word ?a1_BadBook ?t1_BadBook ?l1_BadBook ?c1_BadBook ?k1_BadBook ?kC_BadBook ?eC_BadBook ?tC_BadBook ?hC_BadBook ?iC_BadBook ?sC_BadBook ?aC_BadLetters ?xL_BadLetters ?sa_BadLetters ?ga_BadLetters ?gg_BadLetters ?nf_BadLetters_at ?nf_BadLetters_word ?a1_BadLetters ?t1_BadLetters ?l1_BadLetters ?c1_BadLetters ?k1_BadLetters ?kC_BadLetters ?eC_BadLetters ?tC_BadLetters ?hC_BadLetters ?iC_BadLetters ?sC_BadLetters ?aC_BadText ?xL_BadText ?sa_BadText ?ga_BadText ?gg_BadText ?nf_BadText_at ?nf_BadText_word ?a1_BadText ?t1_BadText ?l1_BadText ?c1_BadText ?k1_BadText ?kC_BadText ?eC_BadText ?tC_BadText ?hC_BadText ?iC_BadText ?sC_BadText ?aC_MendError ?eC_MendError ?hC_MendError ?tC_MendError ?s_BadBook_MendError ?s_BadLetters_MendError ?s_BadText_MendError ?sp__ ?tk__ ?cl_BadBook ?mr_BadBook ?k_BadBook_BadBook ?cl_BadLetters ?mr_BadLetters ?k_BadLetters_BadBook ?cl_BadText ?mr_BadText ?k_BadText_BadBook ?k_BadBook_BadLetters ?k_BadLetters_BadLetters ?k_BadText_BadLetters ?k_BadBook_BadText ?k_BadLetters_BadText ?k_BadText_BadText ?a__law_pool ?l__law_pool ?co__law_pool ?ke__law_pool ?a__law_draw ?l__law_draw ?co__law_draw ?ke__law_draw ?a__law_shuffled ?l__law_shuffled ?co__law_shuffled ?ke__law_shuffled ?a__law_letters ?l__law_letters ?co__law_letters ?ke__law_letters ?a__law_odd_things ?l__law_odd_things ?co__law_odd_things ?ke__law_odd_things ?a__law_is_whole ?l__law_is_whole ?co__law_is_whole ?ke__law_is_whole ?a__law_same ?l__law_same ?co__law_same ?ke__law_same ?a_letters_fault ?l_letters_fault ?co_letters_fault ?ke_letters_fault ?a_check_letters ?l_check_letters ?co_check_letters ?ke_check_letters ?a_text_fault ?l_text_fault ?co_text_fault ?ke_text_fault ?a_check_text ?l_check_text ?co_check_text ?ke_check_text ?a_is_whole ?l_is_whole ?co_is_whole ?ke_is_whole ?a_has_letters_alone ?l_has_letters_alone ?co_has_letters_alone ?ke_has_letters_alone ?a_is_edit_text ?l_is_edit_text ?co_is_edit_text ?ke_is_edit_text ?a_edit_word ?l_edit_word ?co_edit_word ?ke_edit_word ?a_book_fault ?l_book_fault ?co_book_fault ?ke_book_fault ?a_check_book ?l_check_book ?co_check_book ?ke_check_book ?a__law_told ?l__law_told ?co__law_told ?ke__law_told ?a__law_letters_due ?l__law_letters_due ?co__law_letters_due ?ke__law_letters_due ?a__law_letters_holds ?l__law_letters_holds ?co__law_letters_holds ?ke__law_letters_holds ?a__law_text ?l__law_text ?co__law_text ?ke__law_text ?a__law_text_due ?l__law_text_due ?co__law_text_due ?ke__law_text_due ?a__law_text_holds ?l__law_text_holds ?co__law_text_holds ?ke__law_text_holds ?a__law_book ?l__law_book ?co__law_book ?ke__law_book ?a__law_edit_fault ?l__law_edit_fault ?co__law_edit_fault ?ke__law_edit_fault ?a__law_book_due ?l__law_book_due ?co__law_book_due ?ke__law_book_due ?a__law_bent_edit ?l__law_bent_edit ?co__law_bent_edit ?ke__law_bent_edit ?a__law_book_holds ?l__law_book_holds ?co__law_book_holds ?ke__law_book_holds ?a__law_full_book ?l__law_full_book ?co__law_full_book ?ke__law_full_book ?a_law ?l_law ?co_law ?ke_law Z.plain
    (case n_abs => first | k_is | rfl); (case n_bool => first | k_is | rfl); (case n_enumerate => first | k_is | rfl); (case n_int => first | k_is | rfl); (case n_isinstance => first | k_is | rfl); (case n_len => first | k_is | rfl); (case n_list => first | k_is | rfl); (case n_max => first | k_is | rfl)
    (case n_range => first | k_is | rfl); (case n_sorted => first | k_is | rfl); (case n_str => first | k_is | rfl); (case n_tuple => first | k_is | rfl); (case c_COST_MOST => first | k_is | rfl); (case c_EDITS_MOST => first | k_is | rfl); (case c_EDIT_TEXT => first | k_is | rfl); (case c_LETTERS_MOST => first | k_is | rfl)
    (case c_SIGNS => first | k_is | rfl); (case c_TEXT_MOST => first | k_is | rfl); (case aC_BadBook => first | k_is | rfl); (case xL_BadBook => first | k_is | rfl); (case sa_BadBook => first | k_is | rfl); (case ga_BadBook => first | k_is | rfl); (case gg_BadBook => first | k_is | rfl); (case nf_BadBook_at => first | k_is | rfl)
    (case nf_BadBook_word => first | k_is | rfl); (case a1_BadBook => first | k_is | rfl); (case t1_BadBook => first | k_is | rfl); (case l1_BadBook => first | k_is | rfl); (case c1_BadBook => first | k_is | rfl); (case k1_BadBook => first | k_is | rfl); (case kC_BadBook => first | k_is | rfl); (case eC_BadBook => first | k_is | rfl)
    (case tC_BadBook => first | k_is | rfl); (case hC_BadBook => first | k_is | rfl); (case iC_BadBook => first | k_is | rfl); (case sC_BadBook => first | k_is | rfl); (case aC_BadLetters => first | k_is | rfl); (case xL_BadLetters => first | k_is | rfl); (case sa_BadLetters => first | k_is | rfl); (case ga_BadLetters => first | k_is | rfl)
    (case gg_BadLetters => first | k_is | rfl); (case nf_BadLetters_at => first | k_is | rfl); (case nf_BadLetters_word => first | k_is | rfl); (case a1_BadLetters => first | k_is | rfl); (case t1_BadLetters => first | k_is | rfl); (case l1_BadLetters => first | k_is | rfl); (case c1_BadLetters => first | k_is | rfl); (case k1_BadLetters => first | k_is | rfl)
    (case kC_BadLetters => first | k_is | rfl); (case eC_BadLetters => first | k_is | rfl); (case tC_BadLetters => first | k_is | rfl); (case hC_BadLetters => first | k_is | rfl); (case iC_BadLetters => first | k_is | rfl); (case sC_BadLetters => first | k_is | rfl); (case aC_BadText => first | k_is | rfl); (case xL_BadText => first | k_is | rfl)
    (case sa_BadText => first | k_is | rfl); (case ga_BadText => first | k_is | rfl); (case gg_BadText => first | k_is | rfl); (case nf_BadText_at => first | k_is | rfl); (case nf_BadText_word => first | k_is | rfl); (case a1_BadText => first | k_is | rfl); (case t1_BadText => first | k_is | rfl); (case l1_BadText => first | k_is | rfl)
    (case c1_BadText => first | k_is | rfl); (case k1_BadText => first | k_is | rfl); (case kC_BadText => first | k_is | rfl); (case eC_BadText => first | k_is | rfl); (case tC_BadText => first | k_is | rfl); (case hC_BadText => first | k_is | rfl); (case iC_BadText => first | k_is | rfl); (case sC_BadText => first | k_is | rfl)
    (case aC_MendError => first | k_is | rfl); (case eC_MendError => first | k_is | rfl); (case hC_MendError => first | k_is | rfl); (case tC_MendError => first | k_is | rfl); (case s_BadBook_MendError => first | k_is | rfl); (case s_BadLetters_MendError => first | k_is | rfl); (case s_BadText_MendError => first | k_is | rfl); (case sp__ => first | k_is | rfl)
    (case tk__ => first | k_is | rfl); (case cl_BadBook => first | k_is | rfl); (case mr_BadBook => first | k_is | rfl); (case k_BadBook_BadBook => first | k_is | rfl); (case cl_BadLetters => first | k_is | rfl); (case mr_BadLetters => first | k_is | rfl); (case k_BadLetters_BadBook => first | k_is | rfl); (case cl_BadText => first | k_is | rfl)
    (case mr_BadText => first | k_is | rfl); (case k_BadText_BadBook => first | k_is | rfl); (case k_BadBook_BadLetters => first | k_is | rfl); (case k_BadLetters_BadLetters => first | k_is | rfl); (case k_BadText_BadLetters => first | k_is | rfl); (case k_BadBook_BadText => first | k_is | rfl); (case k_BadLetters_BadText => first | k_is | rfl); (case k_BadText_BadText => first | k_is | rfl)
    (case a__law_pool => first | k_is | rfl); (case l__law_pool => first | k_is | rfl); (case co__law_pool => first | k_is | rfl); (case ke__law_pool => first | k_is | rfl); (case a__law_draw => first | k_is | rfl); (case l__law_draw => first | k_is | rfl); (case co__law_draw => first | k_is | rfl); (case ke__law_draw => first | k_is | rfl)
    (case a__law_shuffled => first | k_is | rfl); (case l__law_shuffled => first | k_is | rfl); (case co__law_shuffled => first | k_is | rfl); (case ke__law_shuffled => first | k_is | rfl); (case a__law_letters => first | k_is | rfl); (case l__law_letters => first | k_is | rfl); (case co__law_letters => first | k_is | rfl); (case ke__law_letters => first | k_is | rfl)
    (case a__law_odd_things => first | k_is | rfl); (case l__law_odd_things => first | k_is | rfl); (case co__law_odd_things => first | k_is | rfl); (case ke__law_odd_things => first | k_is | rfl); (case a__law_is_whole => first | k_is | rfl); (case l__law_is_whole => first | k_is | rfl); (case co__law_is_whole => first | k_is | rfl); (case ke__law_is_whole => first | k_is | rfl)
    (case a__law_same => first | k_is | rfl); (case l__law_same => first | k_is | rfl); (case co__law_same => first | k_is | rfl); (case ke__law_same => first | k_is | rfl); (case a_letters_fault => first | k_is | rfl); (case l_letters_fault => first | k_is | rfl); (case co_letters_fault => first | k_is | rfl); (case ke_letters_fault => first | k_is | rfl)
    (case a_check_letters => first | k_is | rfl); (case l_check_letters => first | k_is | rfl); (case co_check_letters => first | k_is | rfl); (case ke_check_letters => first | k_is | rfl); (case a_text_fault => first | k_is | rfl); (case l_text_fault => first | k_is | rfl); (case co_text_fault => first | k_is | rfl); (case ke_text_fault => first | k_is | rfl)
    (case a_check_text => first | k_is | rfl); (case l_check_text => first | k_is | rfl); (case co_check_text => first | k_is | rfl); (case ke_check_text => first | k_is | rfl); (case a_is_whole => first | k_is | rfl); (case l_is_whole => first | k_is | rfl); (case co_is_whole => first | k_is | rfl); (case ke_is_whole => first | k_is | rfl)
    (case a_has_letters_alone => first | k_is | rfl); (case l_has_letters_alone => first | k_is | rfl); (case co_has_letters_alone => first | k_is | rfl); (case ke_has_letters_alone => first | k_is | rfl); (case a_is_edit_text => first | k_is | rfl); (case l_is_edit_text => first | k_is | rfl); (case co_is_edit_text => first | k_is | rfl); (case ke_is_edit_text => first | k_is | rfl)
    (case a_edit_word => first | k_is | rfl); (case l_edit_word => first | k_is | rfl); (case co_edit_word => first | k_is | rfl); (case ke_edit_word => first | k_is | rfl); (case a_book_fault => first | k_is | rfl); (case l_book_fault => first | k_is | rfl); (case co_book_fault => first | k_is | rfl); (case ke_book_fault => first | k_is | rfl)
    (case a_check_book => first | k_is | rfl); (case l_check_book => first | k_is | rfl); (case co_check_book => first | k_is | rfl); (case ke_check_book => first | k_is | rfl); (case a__law_told => first | k_is | rfl); (case l__law_told => first | k_is | rfl); (case co__law_told => first | k_is | rfl); (case ke__law_told => first | k_is | rfl)
    (case a__law_letters_due => first | k_is | rfl); (case l__law_letters_due => first | k_is | rfl); (case co__law_letters_due => first | k_is | rfl); (case ke__law_letters_due => first | k_is | rfl); (case a__law_letters_holds => first | k_is | rfl); (case l__law_letters_holds => first | k_is | rfl); (case co__law_letters_holds => first | k_is | rfl); (case ke__law_letters_holds => first | k_is | rfl)
    (case a__law_text => first | k_is | rfl); (case l__law_text => first | k_is | rfl); (case co__law_text => first | k_is | rfl); (case ke__law_text => first | k_is | rfl); (case a__law_text_due => first | k_is | rfl); (case l__law_text_due => first | k_is | rfl); (case co__law_text_due => first | k_is | rfl); (case ke__law_text_due => first | k_is | rfl)
    (case a__law_text_holds => first | k_is | rfl); (case l__law_text_holds => first | k_is | rfl); (case co__law_text_holds => first | k_is | rfl); (case ke__law_text_holds => first | k_is | rfl); (case a__law_book => first | k_is | rfl); (case l__law_book => first | k_is | rfl); (case co__law_book => first | k_is | rfl); (case ke__law_book => first | k_is | rfl)
    (case a__law_edit_fault => first | k_is | rfl); (case l__law_edit_fault => first | k_is | rfl); (case co__law_edit_fault => first | k_is | rfl); (case ke__law_edit_fault => first | k_is | rfl); (case a__law_book_due => first | k_is | rfl); (case l__law_book_due => first | k_is | rfl); (case co__law_book_due => first | k_is | rfl); (case ke__law_book_due => first | k_is | rfl)
    (case a__law_bent_edit => first | k_is | rfl); (case l__law_bent_edit => first | k_is | rfl); (case co__law_bent_edit => first | k_is | rfl); (case ke__law_bent_edit => first | k_is | rfl); (case a__law_book_holds => first | k_is | rfl); (case l__law_book_holds => first | k_is | rfl); (case co__law_book_holds => first | k_is | rfl); (case ke__law_book_holds => first | k_is | rfl)
    (case a__law_full_book => first | k_is | rfl); (case l__law_full_book => first | k_is | rfl); (case co__law_full_book => first | k_is | rfl); (case ke__law_full_book => first | k_is | rfl); (case a_law => first | k_is | rfl); (case l_law => first | k_is | rfl); (case co_law => first | k_is | rfl); (case ke_law => first | k_is | rfl)

end
