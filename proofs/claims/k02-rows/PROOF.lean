import PyProof.Rows.All
import Wide.All
import OpenK.AllK
import Wide.FinOn
import HandS.ForMost
import HandS.ForExc
import HandS.CallSlots
import HandS.Flow
import HandS.TupAny
import HandS.IsInst
import HandS.Wide
import HandS.Deep
import HandS.Conv
import HandS.SetFor
import HandS.TupLe
import HandS.Text
import HandS.Iter
import HandS.Zip
import KE.GoesEnum
import KE.SortData
import PyProof.ListStr
import HandS.Style
import HandS.More
import HandS.ExcInit
import HandS.ExcField
import HandS.WordsExc
import HandS.Dict
import HandS.ExcIs
import HandS.List
import HandS.Codes
import PyProof.Rows.StrStep
import PyProof.Rows.SeqMore
import PyProof.Rows.StrSub
import PyProof.TupleOfStr
import PyProof.StrBlock2
import HandS.DictComp
import PySem.Challenge.RW_fewmends_k02_rows
section
set_option Elab.async false
set_option linter.all false
set_option maxRecDepth 100000
set_option maxHeartbeats 4000000
namespace Y
open PySem PySem.Spec L2

/-! ### data, stores, answers -/
/-- values of the mirror: lst is a list that nobody changes any more, ref a list (dict) that may change -/
inductive D where
  | non | bl (b : Bool) | int (i : Int) | str (s : Str) | tup (ds : List D) | lst (ds : List D) | ref (n : Nat)
inductive Ob where
  | lst (ds : List D) | dK (kvs : List (Key × D)) | dT (kvs : List (List Key × D))
/-- the values that an object holds -/
def Ob.pay : Ob → List D
  | .lst ds => ds
  | .dK kvs => kvs.map (·.2)
  | .dT kvs => kvs.map (·.2)
/-- what stands at its address, by the values' readings -/
def Ob.ho (xs : List V) : Ob → HO
  | .lst _ => .lst xs
  | .dK kvs => .dK ((kvs.map (·.1)).zip xs)
  | .dT kvs => .dT ((kvs.map (·.1)).zip xs)
theorem Ob.ho_tup {o : Ob} {xs ys : List V} (h : o.ho xs = .tup ys) : False := by cases o <;> cases h
theorem Ob.ho_frz {o : Ob} {xs : List V} {w : Obj} {u : HO} (h : o.ho xs = .frz w u) : False := by cases o <;> cases h
abbrev Sto := List (Option Ob)
abbrev En := List (Option D)
inductive Res (α : Type) where
  | ok (a : α) (S : Sto) | exc (c : Str) (fs : List (Str × D)) (S : Sto) | err
/-- what a statement comes to -/
inductive SR where
  | nx (e : En) (S : Sto) | ret (d : D) (S : Sto) | brk (e : En) (S : Sto) | ct (e : En) (S : Sto) | exc (c : Str) (fs : List (Str × D)) (e : En) (S : Sto) | err

def bd {α β : Type} (r : Res α) (k : α → Sto → Res β) : Res β := match r with
  | .ok a S => k a S
  | .exc c fs S => .exc c fs S
  | .err => .err
def wpM {α : Type} (r : Res α) (Q : α → Sto → Prop) (E : Str → List (Str × D) → Sto → Prop) : Prop := match r with
  | .ok a S => Q a S
  | .exc c fs S => E c fs S
  | .err => False
theorem wpM_bd {α β : Type} {r : Res α} {k : α → Sto → Res β} {Q : β → Sto → Prop} {E : Str → List (Str × D) → Sto → Prop} (h : wpM (bd r k) Q E) : wpM r (fun a S => wpM (k a S) Q E) E := by
  cases r <;> exact h
theorem wpM_mono {α : Type} {r : Res α} {Q Q' : α → Sto → Prop} {E E' : Str → List (Str × D) → Sto → Prop} (h : wpM r Q E) (hq : ∀ a S, Q a S → Q' a S) (he : ∀ c f S, E c f S → E' c f S) : wpM r Q' E' := by
  cases r
  · exact hq _ _ h
  · exact he _ _ _ h
  · exact h

/-! ### what stands for what -/
def KLst (K : PySem.W.Frag) (a : Addr) (xs : List V) : Prop := ∃ (o : Obj) (its : Array Value) (n : Nat), K.lookup a = some o ∧ o.cls = .type "list" ∧ o.dict = none ∧ o.data = .seq its n ∧ its.size ≤ sizeLine ∧ Vals xs its.toList
/-- a list that nobody changes -/
def FzL (K : PySem.W.Frag) (H : Hp) (A : Addr → Prop) (a : Addr) (xs : List V) : Prop := (Rd H a (.lst xs) ∧ ¬ A a) ∨ KLst K a xs
theorem FzL.sq {K : PySem.W.Frag} {H : Hp} {A : Addr → Prop} {a : Addr} {xs : List V} (h : FzL K H A a xs) : SqL K H a xs := h.elim (fun h => .inl h.1) .inr
/-- a tuple that is tracked -/
def TupT (K : PySem.W.Frag) (H : Hp) (a : Addr) (xs : List V) : Prop := H a = some (.tup xs)
theorem TupT.of {K : PySem.W.Frag} {H : Hp} {a : Addr} {xs : List V} (h : H a = some (.tup xs)) : TupT K H a xs := h
theorem TupT.sq {K : PySem.W.Frag} {H : Hp} {a : Addr} {xs : List V} (h : TupT K H a xs) : SqT K H a xs := SqT.of h
instance {K : PySem.W.Frag} {H : Hp} {a : Addr} {xs : List V} : Coe (TupT K H a xs) (SqT K H a xs) := ⟨TupT.sq⟩
mutual
def RelD (K : PySem.W.Frag) (H : Hp) (A : Addr → Prop) (ρ : List Addr) (v : V) : D → Prop
  | .non => v = .non
  | .bl b => v = .bl b
  | .int i => v = .int i
  | .str s => v = .str s
  | .tup ds => ∃ a xs, v = .ref a ∧ TupT K H a xs ∧ RelL K H A ρ xs ds
  | .lst ds => ∃ a xs, v = .ref a ∧ FzL K H A a xs ∧ RelL K H A ρ xs ds
  | .ref n => ∃ a, v = .ref a ∧ ρ[n]? = some a
def RelL (K : PySem.W.Frag) (H : Hp) (A : Addr → Prop) (ρ : List Addr) (vs : List V) : List D → Prop
  | [] => vs = []
  | d :: ds => ∃ x xs, vs = x :: xs ∧ RelD K H A ρ x d ∧ RelL K H A ρ xs ds
end
section
variable {K : PySem.W.Frag} {H H' : Hp} {A A' : Addr → Prop} {ρ ρ' : List Addr}
mutual
theorem RelD.mono (hl : ∀ a xs, Rd H a (.lst xs) → ¬ A a → Rd H' a (.lst xs) ∧ ¬ A' a) (ht : ∀ a xs, TupT K H a xs → TupT K H' a xs) (hr : ∀ (n : Nat) a, ρ[n]? = some a → ρ'[n]? = some a) : ∀ (d : D) (v : V), RelD K H A ρ v d → RelD K H' A' ρ' v d
  | .non, _, h => h
  | .bl _, _, h => h
  | .int _, _, h => h
  | .str _, _, h => h
  | .tup ds, _, ⟨a, xs, e, h1, h2⟩ => ⟨a, xs, e, ht a xs h1, RelL.mono hl ht hr ds xs h2⟩
  | .lst ds, _, ⟨a, xs, e, h1, h3⟩ => ⟨a, xs, e, h1.imp (fun h => hl a xs h.1 h.2) id, RelL.mono hl ht hr ds xs h3⟩
  | .ref n, _, ⟨a, e, h⟩ => ⟨a, e, hr n a h⟩
theorem RelL.mono (hl : ∀ a xs, Rd H a (.lst xs) → ¬ A a → Rd H' a (.lst xs) ∧ ¬ A' a) (ht : ∀ a xs, TupT K H a xs → TupT K H' a xs) (hr : ∀ (n : Nat) a, ρ[n]? = some a → ρ'[n]? = some a) : ∀ (ds : List D) (vs : List V), RelL K H A ρ vs ds → RelL K H' A' ρ' vs ds
  | [], _, h => h
  | d :: ds, _, ⟨x, xs, e, h1, h2⟩ => ⟨x, xs, e, RelD.mono hl ht hr d x h1, RelL.mono hl ht hr ds xs h2⟩
end
theorem RelL.length : ∀ {ds : List D} {vs : List V}, RelL K H A ρ vs ds → vs.length = ds.length
  | [], _, h => by
    have h' : _ = [] := h
    rw [h']; rfl
  | d :: ds, _, ⟨x, xs, e, h1, h2⟩ => by rw [e, List.length_cons, List.length_cons, RelL.length h2]
theorem RelL.nil : RelL K H A ρ [] [] := rfl
theorem RelL.cons {x : V} {xs : List V} {d : D} {ds : List D} (h : RelD K H A ρ x d) (t : RelL K H A ρ xs ds) : RelL K H A ρ (x :: xs) (d :: ds) := ⟨x, xs, rfl, h, t⟩
theorem RelL.append : ∀ {ds es : List D} {vs us : List V}, RelL K H A ρ vs ds → RelL K H A ρ us es → RelL K H A ρ (vs ++ us) (ds ++ es)
  | [], _, _, _, h, k => by
    have h' : _ = [] := h
    rw [h']; exact k
  | d :: ds, es, _, us, ⟨x, xs, e, h1, h2⟩, k => by
    rw [e]
    exact RelL.cons h1 (RelL.append h2 k)
theorem RelL.get : ∀ {ds : List D} {vs : List V} {i : Nat} {d : D}, RelL K H A ρ vs ds → ds[i]? = some d → ∃ v, vs[i]? = some v ∧ RelD K H A ρ v d
  | [], _, _, _, _, h => by simp at h
  | d :: ds, _, 0, d', ⟨x, xs, e, h1, h2⟩, h => by
    have q : d = d' := Option.some.inj h
    rw [e, ← q]; exact ⟨x, rfl, h1⟩
  | d :: ds, _, i + 1, d', ⟨x, xs, e, h1, h2⟩, h => by
    rw [e]; exact RelL.get (i := i) h2 h
theorem RelL.take : ∀ {ds : List D} {vs : List V} (n : Nat), RelL K H A ρ vs ds → RelL K H A ρ (vs.take n) (ds.take n)
  | [], _, n, h => by
    have h' : _ = [] := h
    rw [h']; simp only [List.take_nil]; rfl
  | d :: ds, _, 0, _ => rfl
  | d :: ds, _, n + 1, ⟨x, xs, e, h1, h2⟩ => by rw [e]; exact RelL.cons h1 (RelL.take n h2)
theorem RelL.drop : ∀ {ds : List D} {vs : List V} (n : Nat), RelL K H A ρ vs ds → RelL K H A ρ (vs.drop n) (ds.drop n)
  | [], _, n, h => by
    have h' : _ = [] := h
    rw [h']; simp only [List.drop_nil]; rfl
  | d :: ds, _, 0, h => h
  | d :: ds, _, n + 1, ⟨x, xs, e, h1, h2⟩ => by rw [e]; exact RelL.drop n h2
theorem RelL.set {v : V} {d : D} (r : RelD K H A ρ v d) : ∀ {ds : List D} {vs : List V} (n : Nat), RelL K H A ρ vs ds → RelL K H A ρ (vs.set n v) (ds.set n d)
  | [], _, n, h => by
    have h' : _ = [] := h
    rw [h']; rfl
  | d :: ds, _, 0, ⟨x, xs, e, h1, h2⟩ => by rw [e]; exact RelL.cons r h2
  | d :: ds, _, n + 1, ⟨x, xs, e, h1, h2⟩ => by rw [e]; exact RelL.cons h1 (RelL.set r n h2)
theorem RelL.erase : ∀ {ds : List D} {vs : List V} (n : Nat), RelL K H A ρ vs ds → RelL K H A ρ (vs.eraseIdx n) (ds.eraseIdx n)
  | [], _, n, h => by
    have h' : _ = [] := h
    rw [h']; rfl
  | d :: ds, _, 0, ⟨x, xs, e, h1, h2⟩ => by rw [e]; exact h2
  | d :: ds, _, n + 1, ⟨x, xs, e, h1, h2⟩ => by rw [e]; exact RelL.cons h1 (RelL.erase n h2)
theorem RelL.dropLast {ds : List D} {vs : List V} (h : RelL K H A ρ vs ds) : RelL K H A ρ vs.dropLast ds.dropLast := by
  rw [List.dropLast_eq_take, List.dropLast_eq_take, h.length]
  exact h.take _
theorem RelL.reverse : ∀ {ds : List D} {vs : List V}, RelL K H A ρ vs ds → RelL K H A ρ vs.reverse ds.reverse
  | [], _, h => by
    have h' : _ = [] := h
    rw [h']; rfl
  | d :: ds, _, ⟨x, xs, e, h1, h2⟩ => by
    rw [e, List.reverse_cons, List.reverse_cons]
    exact (RelL.reverse h2).append (RelL.cons h1 RelL.nil)
theorem RelL.getLast {ds : List D} {vs : List V} {d : D} (h : RelL K H A ρ vs ds) (e : ds[ds.length - 1]? = some d) : ∃ v, vs[vs.length - 1]? = some v ∧ RelD K H A ρ v d := by
  rw [h.length]
  exact h.get e
theorem RelL.ints : ∀ (ns : List Int), RelL K H A ρ (ns.map V.int) (ns.map D.int)
  | [] => rfl
  | n :: ns => RelL.cons rfl (RelL.ints ns)
theorem RelL.of_ints : ∀ {ns : List Int} {vs : List V}, RelL K H A ρ vs (ns.map D.int) → vs = ns.map V.int
  | [], _, h => h
  | n :: ns, _, ⟨x, xs, e, h1, h2⟩ => by
    have h1' : x = .int n := h1
    rw [e, h1', RelL.of_ints h2]; rfl
theorem RelL.strs : ∀ (ns : List Str), RelL K H A ρ (ns.map V.str) (ns.map D.str)
  | [] => rfl
  | n :: ns => RelL.cons rfl (RelL.strs ns)
theorem RelL.of_strs : ∀ {ns : List Str} {vs : List V}, RelL K H A ρ vs (ns.map D.str) → vs = ns.map V.str
  | [], _, h => h
  | n :: ns, _, ⟨x, xs, e, h1, h2⟩ => by
    have h1' : x = .str n := h1
    rw [e, h1', RelL.of_strs h2]; rfl
end

/-- the addresses whose objects may change -/
def Al (ρ : List Addr) (S : Sto) (a : Addr) : Prop := ∃ (n : Nat) (o : Ob), S[n]? = some (some o) ∧ ρ[n]? = some a
def ObR (K : PySem.W.Frag) (H : Hp) (A : Addr → Prop) (ρ : List Addr) (a : Addr) (o : Ob) : Prop := ∃ xs, H a = some (o.ho xs) ∧ RelL K H A ρ xs o.pay
structure RS (K : PySem.W.Frag) (ρ : List Addr) (H : Hp) (S : Sto) : Prop where
  len : ρ.length = S.length
  obj : ∀ (n : Nat) (o : Ob) (a : Addr), S[n]? = some (some o) → ρ[n]? = some a → ObR K H (Al ρ S) ρ a o
  inj : ∀ (n m : Nat) (o o' : Ob) (a : Addr), S[n]? = some (some o) → S[m]? = some (some o') → ρ[n]? = some a → ρ[m]? = some a → n = m
def RV (K : PySem.W.Frag) (ρ : List Addr) (σ : St) (H : Hp) (S : Sto) (env : En) : Prop :=
  env.length = σ.length ∧ ∀ (i : Nat) (d : D), env[i]? = some (some d) → ∃ v, σ[i]? = some (some v) ∧ RelD K H (Al ρ S) ρ v d
/-- what stays from a state to a later one -/
structure Up (K : PySem.W.Frag) (ρ : List Addr) (H : Hp) (S : Sto) (ρ' : List Addr) (H' : Hp) (S' : Sto) : Prop where
  pre : ∀ (n : Nat) a, ρ[n]? = some a → ρ'[n]? = some a
  ext : ∀ a o, H a = some o → ¬ Al ρ S a → H' a = some o ∧ ¬ Al ρ' S' a
  tup : ∀ a xs, TupT K H a xs → TupT K H' a xs
section
variable {K : PySem.W.Frag} {H H' H1 H2 : Hp} {ρ ρ' ρ1 ρ2 : List Addr} {S S' S1 S2 : Sto} {σ : St} {env : En} {v : V} {d : D} {vs : List V} {ds : List D}
theorem Up.refl : Up K ρ H S ρ H S := ⟨fun _ _ h => h, fun _ _ h n => ⟨h, n⟩, fun _ _ h => h⟩
theorem Up.trans (a : Up K ρ H S ρ1 H1 S1) (b : Up K ρ1 H1 S1 ρ2 H2 S2) : Up K ρ H S ρ2 H2 S2 :=
  ⟨fun n x h => b.pre n x (a.pre n x h), fun x o h n => b.ext x o (a.ext x o h n).1 (a.ext x o h n).2, fun x xs h => b.tup x xs (a.tup x xs h)⟩
theorem Up.rd (u : Up K ρ H S ρ' H' S') (a : Addr) (xs : List V) (h : Rd H a (.lst xs)) (n : ¬ Al ρ S a) : Rd H' a (.lst xs) ∧ ¬ Al ρ' S' a := by
  rcases h with h | ⟨o, h⟩
  · exact ⟨.inl (u.ext a _ h n).1, (u.ext a _ h n).2⟩
  · exact ⟨.inr ⟨o, (u.ext a _ h n).1⟩, (u.ext a _ h n).2⟩
theorem Up.relD (u : Up K ρ H S ρ' H' S') (h : RelD K H (Al ρ S) ρ v d) : RelD K H' (Al ρ' S') ρ' v d := RelD.mono u.rd u.tup u.pre d v h
theorem Up.relL (u : Up K ρ H S ρ' H' S') (h : RelL K H (Al ρ S) ρ vs ds) : RelL K H' (Al ρ' S') ρ' vs ds := RelL.mono u.rd u.tup u.pre ds vs h
theorem Up.rv (u : Up K ρ H S ρ' H' S') (h : RV K ρ σ H S env) : RV K ρ' σ H' S' env := ⟨h.1, fun i d e => let ⟨v, e1, r⟩ := h.2 i d e; ⟨v, e1, u.relD r⟩⟩
theorem Up.fz (u : Up K ρ H S ρ' H' S') {a : Addr} {xs : List V} (h : FzL K H (Al ρ S) a xs) : FzL K H' (Al ρ' S') a xs := h.imp (fun h => u.rd a xs h.1 h.2) id
theorem RS.alive (R : RS K ρ H S) {a : Addr} (h : Al ρ S a) : ∃ (o : Ob) (xs : List V), H a = some (o.ho xs) := by
  obtain ⟨n, o, h1, h2⟩ := h
  obtain ⟨xs, e, _⟩ := R.obj n o a h1 h2
  exact ⟨o, xs, e⟩
theorem RS.noal (R : RS K ρ H S) {a : Addr} (h : H a = none) : ¬ Al ρ S a := fun q => by
  obtain ⟨o, xs, e⟩ := R.alive q
  rw [h] at e; cases e
/-- a heap that only grew: the same store -/
theorem sqT_same (s : Same H H') {a : Addr} {xs : List V} (h : TupT K H a xs) : TupT K H' a xs := by
  exact s _ _ h
theorem Up.same (s : Same H H') : Up K ρ H S ρ H' S := ⟨fun _ _ h => h, fun a o h n => ⟨s a o h, n⟩, fun a xs h => sqT_same s h⟩
theorem RS.same (R : RS K ρ H S) (s : Same H H') : RS K ρ H' S := ⟨R.len, fun n o a h1 h2 => by
  obtain ⟨xs, e, r⟩ := R.obj n o a h1 h2
  exact ⟨xs, s _ _ e, (Up.same s).relL r⟩, R.inj⟩
theorem same_new {p : Addr} {o : HO} (h : H p = none) : Same H (upd H p o) := fun b x e => by
  rw [upd_ne (ne_of_none e h)]
  exact e
/-! #### a list that is to change comes in -/
theorem al_snoc {p : Addr} {o : Ob} (hl : ρ.length = S.length) {a : Addr} : Al (ρ ++ [p]) (S ++ [some o]) a ↔ Al ρ S a ∨ a = p := by
  constructor
  · rintro ⟨n, o', h1, h2⟩
    by_cases hn : n < S.length
    · rw [List.getElem?_append_left hn] at h1
      rw [List.getElem?_append_left (by omega)] at h2
      exact .inl ⟨n, o', h1, h2⟩
    · rw [List.getElem?_append_right (by omega)] at h2
      have : n - ρ.length = 0 := by
        by_cases z : n - ρ.length = 0
        · exact z
        · rw [List.getElem?_eq_none (by simp; omega)] at h2; cases h2
      rw [this] at h2
      exact .inr (Option.some.inj h2).symm
  · rintro (⟨n, o', h1, h2⟩ | rfl)
    · have hn : n < S.length := (List.getElem?_eq_some_iff.mp h1).1
      exact ⟨n, o', by rw [List.getElem?_append_left hn]; exact h1, by rw [List.getElem?_append_left (by omega)]; exact h2⟩
    · exact ⟨S.length, o, by simp, by rw [← hl]; simp⟩
theorem Up.new {p : Addr} {o : Ob} (hl : ρ.length = S.length) (hp : H p = none) (s : Same H H') : Up K ρ H S (ρ ++ [p]) H' (S ++ [some o]) :=
  ⟨fun n a h => by rw [List.getElem?_append_left (List.getElem?_eq_some_iff.mp h).1]; exact h,
   fun a u h n => ⟨s a u h, fun q => ((al_snoc hl).mp q).elim n fun e => by rw [e, hp] at h; cases h⟩, fun a xs h => sqT_same s h⟩
theorem RS.newO {p : Addr} {xs : List V} {o0 : Ob} (R : RS K ρ H S) (hp : H p = none) (s : Same H H') (hp' : H' p = some (o0.ho xs)) (r : RelL K H (Al ρ S) ρ xs o0.pay) : RS K (ρ ++ [p]) H' (S ++ [some o0]) := by
  have u : Up K ρ H S (ρ ++ [p]) H' (S ++ [some o0]) := Up.new R.len hp s
  have len := R.len
  refine ⟨by simp [len], fun n o a h1 h2 => ?_, fun n m o o' a h1 h2 h3 h4 => ?_⟩
  · by_cases hn : n < S.length
    · rw [List.getElem?_append_left hn] at h1
      rw [List.getElem?_append_left (by omega)] at h2
      obtain ⟨ys, e, q⟩ := R.obj n o a h1 h2
      exact ⟨ys, s _ _ e, u.relL q⟩
    · have hn' : n < (ρ ++ [p]).length := (List.getElem?_eq_some_iff.mp h2).1
      have e : n = S.length := by simp at hn'; omega
      subst e
      rw [List.getElem?_append_right (Nat.le_refl _), Nat.sub_self] at h1
      rw [List.getElem?_append_right (by omega), len, Nat.sub_self] at h2
      have e1 : some o0 = some o := Option.some.inj h1
      have e2 : p = a := Option.some.inj h2
      cases e1
      subst e2
      exact ⟨xs, hp', u.relL r⟩
  · have old : ∀ {k : Nat} {q : Ob} {b : Addr}, k < S.length → (S ++ [some o0])[k]? = some (some q) → (ρ ++ [p])[k]? = some b → b ≠ p := fun {k q b} hk e1 e2 z => by
      rw [List.getElem?_append_left hk] at e1
      rw [List.getElem?_append_left (by omega)] at e2
      obtain ⟨_, ys, e3⟩ := R.alive ⟨k, q, e1, e2⟩
      rw [z, hp] at e3; cases e3
    have last : ∀ {k : Nat} {b : Addr}, ¬ k < S.length → (ρ ++ [p])[k]? = some b → k = S.length ∧ b = p := fun {k b} hk e => by
      have hn' : k < (ρ ++ [p]).length := (List.getElem?_eq_some_iff.mp e).1
      have e' : k = S.length := by simp at hn'; omega
      refine ⟨e', ?_⟩
      rw [e', List.getElem?_append_right (by omega), len, Nat.sub_self] at e
      exact (Option.some.inj e).symm
    by_cases hn : n < S.length
    · by_cases hm : m < S.length
      · rw [List.getElem?_append_left hn] at h1
        rw [List.getElem?_append_left hm] at h2
        rw [List.getElem?_append_left (by omega)] at h3 h4
        exact R.inj n m o o' a h1 h2 h3 h4
      · exact absurd (last hm h4).2 (old hn h1 h3)
    · by_cases hm : m < S.length
      · exact absurd (last hn h3).2 (old hm h2 h4)
      · rw [(last hn h3).1, (last hm h4).1]
theorem RS.new {p : Addr} {xs : List V} (R : RS K ρ H S) (hp : H p = none) (s : Same H H') (hp' : H' p = some (.lst xs)) (r : RelL K H (Al ρ S) ρ xs ds) : RS K (ρ ++ [p]) H' (S ++ [some (.lst ds)]) := RS.newO (o0 := .lst ds) R hp s hp' r
/-! #### a list changes -/
theorem al_set {n : Nat} {o o' : Ob} (h : S[n]? = some (some o)) {a : Addr} : Al ρ (S.set n (some o')) a ↔ Al ρ S a := by
  have hn : n < S.length := (List.getElem?_eq_some_iff.mp h).1
  constructor
  · rintro ⟨m, q, h1, h2⟩
    by_cases e : n = m
    · subst e; exact ⟨n, o, h, h2⟩
    · rw [List.getElem?_set_ne e] at h1; exact ⟨m, q, h1, h2⟩
  · rintro ⟨m, q, h1, h2⟩
    by_cases e : n = m
    · subst e; exact ⟨n, o', by rw [List.getElem?_set_self hn], h2⟩
    · exact ⟨m, q, by rw [List.getElem?_set_ne e]; exact h1, h2⟩
theorem sqT_upd {a b : Addr} {xs ys : List V} {o : Ob} {u : HO} (h : H a = some (o.ho ys)) (q : TupT K H b xs) : TupT K (upd H a u) b xs := by
  show upd H a u b = _
  rw [upd_ne (ne_of q h (fun z => Ob.ho_tup z.symm))]; exact q
theorem Up.setO {n : Nat} {a : Addr} {ys : List V} {o o' : Ob} {w : HO} (h : S[n]? = some (some o)) (ha : ρ[n]? = some a) (hH : H a = some (o.ho ys)) : Up K ρ H S ρ (upd H a w) (S.set n (some o')) :=
  ⟨fun _ _ e => e, fun b u e nb => ⟨by rw [upd_ne (fun z => nb (by rw [z]; exact ⟨n, o, h, ha⟩))]; exact e, fun q => nb ((al_set h).mp q)⟩, fun b xs q => sqT_upd hH q⟩
theorem Up.set {n : Nat} {a : Addr} {ys zs : List V} {es : List D} {o' : Ob} (h : S[n]? = some (some (.lst es))) (ha : ρ[n]? = some a) (hH : H a = some (.lst ys)) : Up K ρ H S ρ (upd H a (.lst zs)) (S.set n (some o')) := Up.setO (o := .lst es) (ys := ys) h ha hH
theorem RS.setO {n : Nat} {a : Addr} {ys zs : List V} {o1 o2 : Ob} (R : RS K ρ H S) (h : S[n]? = some (some o1)) (ha : ρ[n]? = some a) (hH : H a = some (o1.ho ys)) (r : RelL K H (Al ρ S) ρ zs o2.pay) : RS K ρ (upd H a (o2.ho zs)) (S.set n (some o2)) := by
  have u : Up K ρ H S ρ (upd H a (o2.ho zs)) (S.set n (some o2)) := Up.setO h ha hH
  have hn : n < S.length := (List.getElem?_eq_some_iff.mp h).1
  refine ⟨by simp [R.len], fun m o b h1 h2 => ?_, fun m k o o' b h1 h2 h3 h4 => ?_⟩
  · by_cases e : n = m
    · subst e
      rw [List.getElem?_set_self hn] at h1
      cases h1
      rw [ha] at h2; cases h2
      exact ⟨zs, upd_same, u.relL r⟩
    · rw [List.getElem?_set_ne e] at h1
      have nb : b ≠ a := fun z => e (R.inj n m _ _ a h h1 ha (z ▸ h2))
      obtain ⟨ws, e1, q⟩ := R.obj m o b h1 h2
      exact ⟨ws, by rw [upd_ne nb]; exact e1, u.relL q⟩
  · have back : ∀ {j : Nat} {q : Ob}, (S.set n (some o2))[j]? = some (some q) → ∃ q', S[j]? = some (some q') := fun {j q} e => by
      by_cases z : n = j
      · subst z; exact ⟨_, h⟩
      · rw [List.getElem?_set_ne z] at e; exact ⟨_, e⟩
    obtain ⟨q1, e1⟩ := back h1
    obtain ⟨q2, e2⟩ := back h2
    exact R.inj m k q1 q2 b e1 e2 h3 h4
theorem RS.set {n : Nat} {a : Addr} {ys zs : List V} {es : List D} (R : RS K ρ H S) (h : S[n]? = some (some (.lst es))) (ha : ρ[n]? = some a) (hH : H a = some (.lst ys)) (r : RelL K H (Al ρ S) ρ zs ds) : RS K ρ (upd H a (.lst zs)) (S.set n (some (.lst ds))) := RS.setO (o1 := .lst es) (o2 := .lst ds) R h ha hH r
/-! #### a list will not change any more -/
theorem al_kill {n : Nat} {a : Addr} (h : Al ρ (S.set n none) a) : Al ρ S a := by
  obtain ⟨m, q, h1, h2⟩ := h
  by_cases e : n = m
  · subst e
    by_cases hn : n < S.length
    · rw [List.getElem?_set_self hn] at h1; cases h1
    · rw [List.getElem?_eq_none (by simp; omega)] at h1; cases h1
  · rw [List.getElem?_set_ne e] at h1; exact ⟨m, q, h1, h2⟩
theorem Up.kill {n : Nat} : Up K ρ H S ρ H (S.set n none) := ⟨fun _ _ e => e, fun _ _ e nb => ⟨e, fun q => nb (al_kill q)⟩, fun _ _ q => q⟩
theorem RS.kill {n : Nat} (R : RS K ρ H S) : RS K ρ H (S.set n none) := by
  have back : ∀ {j : Nat} {q : Ob}, (S.set n none)[j]? = some (some q) → S[j]? = some (some q) := fun {j q} e => by
    by_cases z : n = j
    · subst z
      by_cases hn : n < S.length
      · rw [List.getElem?_set_self hn] at e; cases e
      · rw [List.getElem?_eq_none (by simp; omega)] at e; cases e
    · rw [List.getElem?_set_ne z] at e; exact e
  refine ⟨by simp [R.len], fun m o b h1 h2 => ?_, fun m k o o' b h1 h2 h3 h4 => R.inj m k o o' b (back h1) (back h2) h3 h4⟩
  obtain ⟨ws, e1, q⟩ := R.obj m o b (back h1) h2
  exact ⟨ws, e1, Up.kill.relL q⟩
theorem RS.frozen {n : Nat} {a : Addr} {es : List D} (R : RS K ρ H S) (h : S[n]? = some (some (.lst es))) (ha : ρ[n]? = some a) : RelD K H (Al ρ (S.set n none)) ρ (.ref a) (.lst es) := by
  obtain ⟨xs, e, r⟩ := R.obj n _ a h ha
  refine ⟨a, xs, rfl, .inl ⟨.inl e, ?_⟩, Up.kill.relL r⟩
  rintro ⟨m, q, h1, h2⟩
  by_cases z : n = m
  · subst z
    rw [List.getElem?_set_self (List.getElem?_eq_some_iff.mp h).1] at h1; cases h1
  · rw [List.getElem?_set_ne z] at h1
    exact z (R.inj n m _ _ a h h1 ha h2)
end

/-! ### the readings that a mirror gives -/
/-- an exception: its class, its fields -/
def ExcR (K : PySem.W.Frag) (mg : Str → Option Value) (H : Hp) (A : Addr → Prop) (ρ : List Addr) (c : Str) (fs : List (Str × D)) (cls : Value) (dx : Option Addr) : Prop :=
  ∃ (C dd : Addr) (ys : List (Str × V)), mg c = some (.ref C) ∧ cls = .ref C ∧ dx = some dd ∧ H dd = some (.xd ys) ∧ ∀ p ∈ fs, ∃ v, ys.lookup p.1 = some v ∧ RelD K H A ρ v p.2
abbrev EM := En → Sto → Res D
abbrev TM := En → Sto → Res Bool
abbrev LM := En → Sto → Res (List D)
abbrev SM := En → Sto → SR
/-- what is wanted behind an expression: of a value, of an exception -/
def PostX (K : PySem.W.Frag) (mg : Str → Option Value) (W : WX) (ρ : List Addr) (σ : St) (H : Hp) (S : Sto) : Str → List (Str × D) → Sto → Prop := fun c fs S' =>
  ∀ ρ' H' cls dx, RS K ρ' H' S' → Up K ρ H S ρ' H' S' → ExcR K mg H' (Al ρ' S') ρ' c fs cls dx → W cls dx σ H'
def PostV (K : PySem.W.Frag) (ρ : List Addr) (H : Hp) (S : Sto) (Q : VK) : D → Sto → Prop := fun d S' => ∀ ρ' v H', RS K ρ' H' S' → Up K ρ H S ρ' H' S' → RelD K H' (Al ρ' S') ρ' v d → Q v H'
def PostL (K : PySem.W.Frag) (ρ : List Addr) (H : Hp) (S : Sto) (Q : List V → Hp → Prop) : List D → Sto → Prop := fun ds S' => ∀ ρ' vs H', RS K ρ' H' S' → Up K ρ H S ρ' H' S' → RelL K H' (Al ρ' S') ρ' vs ds → Q vs H'
def PostB (K : PySem.W.Frag) (ρ : List Addr) (H : Hp) (S : Sto) (Q : Bool → Hp → Prop) : Bool → Sto → Prop := fun b S' => ∀ ρ' H', RS K ρ' H' S' → Up K ρ H S ρ' H' S' → Q b H'
/-- .. behind one that gives a new list -/
def PostF (K : PySem.W.Frag) (ρ : List Addr) (H : Hp) (S : Sto) (Q : VK) : List D → Sto → Prop := fun ds S' => ∀ ρ' p xs H' H2, RS K ρ' H' S' → Up K ρ H S ρ' H' S' → RelL K H' (Al ρ' S') ρ' xs ds → H' p = none → Same H' H2 → H2 p = some (.lst xs) → Q (.ref p) H2
section
variable (K : PySem.W.Frag) (mg : Str → Option Value) (W : WX)
def tE (m : EM) : TE := fun σ H Q => ∃ ρ env S, RS K ρ H S ∧ RV K ρ σ H S env ∧ wpM (m env S) (PostV K ρ H S Q) (PostX K mg W ρ σ H S)
def tT (m : TM) : TT := fun σ H Q => ∃ ρ env S, RS K ρ H S ∧ RV K ρ σ H S env ∧ wpM (m env S) (PostB K ρ H S Q) (PostX K mg W ρ σ H S)
def tA (m : LM) : TA := fun σ H Q => ∃ ρ env S, RS K ρ H S ∧ RV K ρ σ H S env ∧ wpM (m env S) (PostL K ρ H S Q) (PostX K mg W ρ σ H S)
def tF (m : LM) : TE := fun σ H Q => ∃ ρ env S, RS K ρ H S ∧ RV K ρ σ H S env ∧ wpM (m env S) (PostF K ρ H S Q) (PostX K mg W ρ σ H S)
/-- what is wanted behind a statement -/
def wpS (ρ : List Addr) (H : Hp) (S : Sto) (Dn : Ends) : SR → Prop
  | .nx env S' => ∀ ρ' σ' H', RS K ρ' H' S' → RV K ρ' σ' H' S' env → Up K ρ H S ρ' H' S' → Dn.nx σ' H'
  | .brk env S' => ∀ ρ' σ' H', RS K ρ' H' S' → RV K ρ' σ' H' S' env → Up K ρ H S ρ' H' S' → Dn.bk σ' H'
  | .ct env S' => ∀ ρ' σ' H', RS K ρ' H' S' → RV K ρ' σ' H' S' env → Up K ρ H S ρ' H' S' → Dn.ct σ' H'
  | .ret d S' => ∀ ρ' v H', RS K ρ' H' S' → Up K ρ H S ρ' H' S' → RelD K H' (Al ρ' S') ρ' v d → Dn.rt v H'
  | .exc c fs env S' => ∀ ρ' σ' H' cls dx, RS K ρ' H' S' → RV K ρ' σ' H' S' env → Up K ρ H S ρ' H' S' → ExcR K mg H' (Al ρ' S') ρ' c fs cls dx → W cls dx σ' H'
  | .err => False
def tS (m : SM) : TS := fun Dn σ H => ∃ ρ env S, RS K ρ H S ∧ RV K ρ σ H S env ∧ wpS K mg W ρ H S Dn (m env S)
end
end Y
open PySem PySem.Spec L2 in
theorem L2.PE.imp {X : Cx} {e : Expr} {t t' : TE} (h : PE X e t) (i : ∀ σ H Q, t' σ H Q → t σ H Q) : PE X e t' := ⟨fun pins s σ H Q I q => h.run pins s σ H Q I (i σ H Q q)⟩
open PySem PySem.Spec L2 in
theorem L2.PT.imp {X : Cx} {e : Expr} {t t' : TT} (h : PT X e t) (i : ∀ σ H Q, t' σ H Q → t σ H Q) : PT X e t' := ⟨fun pins s σ H Q I q => h.run pins s σ H Q I (i σ H Q q)⟩
open PySem PySem.Spec L2 in
theorem L2.PW.imp {X : Cx} {e : Expr} {t t' : TT} (h : PW X e t) (i : ∀ σ H Q, t' σ H Q → t σ H Q) : PW X e t' := ⟨fun wh pins s σ H Q I q => h.run wh pins s σ H Q I (i σ H Q q)⟩
open PySem PySem.Spec L2 in
theorem L2.PA.imp {X : Cx} {es : List Expr} {t t' : TA} (h : PA X es t) (i : ∀ σ H Q, t' σ H Q → t σ H Q) : PA X es t' := ⟨fun pos pins s σ H Q I q => h.run pos pins s σ H Q I (i σ H Q q)⟩
open PySem PySem.Spec L2 in
theorem L2.PS.imp {X : Cx} {st : Stmt} {t t' : TS} (h : PS X st t) (i : ∀ Dn σ H, t' Dn σ H → t Dn σ H) : PS X st t' := ⟨fun pins s σ H Dn I q => h.run pins s σ H Dn I (i Dn σ H q)⟩
open PySem PySem.Spec L2 in
theorem L2.PSs.imp {X : Cx} {st : List Stmt} {t t' : TS} (h : PSs X st t) (i : ∀ Dn σ H, t' Dn σ H → t Dn σ H) : PSs X st t' := ⟨fun pins s σ H Dn I q => h.run pins s σ H Dn I (i Dn σ H q)⟩

end
section
set_option Elab.async false
set_option linter.all false
set_option maxRecDepth 100000
set_option maxHeartbeats 4000000
namespace Y
open PySem PySem.Spec L2

section
variable {K : PySem.W.Frag} {mg : Str → Option Value} {W : WX} {H H1 : Hp} {ρ ρ1 : List Addr} {S S1 S' : Sto} {σ : L2.St} {d : D} {ds : List D} {b : Bool} {Q : VK} {c : Str} {fs : List (Str × D)}
theorem PostV.up (u : Up K ρ H S ρ1 H1 S1) (h : PostV K ρ H S Q d S') : PostV K ρ1 H1 S1 Q d S' := fun ρ' v H' r u' q => h ρ' v H' r (u.trans u') q
theorem PostL.up {Q : List V → Hp → Prop} (u : Up K ρ H S ρ1 H1 S1) (h : PostL K ρ H S Q ds S') : PostL K ρ1 H1 S1 Q ds S' := fun ρ' v H' r u' q => h ρ' v H' r (u.trans u') q
theorem PostB.up {Q : Bool → Hp → Prop} (u : Up K ρ H S ρ1 H1 S1) (h : PostB K ρ H S Q b S') : PostB K ρ1 H1 S1 Q b S' := fun ρ' H' r u' => h ρ' H' r (u.trans u')
theorem PostF.up (u : Up K ρ H S ρ1 H1 S1) (h : PostF K ρ H S Q ds S') : PostF K ρ1 H1 S1 Q ds S' := fun ρ' p xs H' H2 r u' => h ρ' p xs H' H2 r (u.trans u')
theorem PostX.up (u : Up K ρ H S ρ1 H1 S1) (h : PostX K mg W ρ σ H S c fs S') : PostX K mg W ρ1 σ H1 S1 c fs S' := fun ρ' H' cls dx r u' q => h ρ' H' cls dx r (u.trans u') q
/-- a value that comes by itself -/
theorem PostV.same {H' : Hp} {v : V} (h : PostV K ρ H S Q d S) (R : RS K ρ H S) (s : Same H H') (r : RelD K H' (Al ρ S) ρ v d) : Q v H' := h ρ v H' (R.same s) (Up.same s) r
/-- an expression, then what follows -/
theorem tE_seq {m : EM} {env : En} {R : VK} (h1 : RS K ρ H S) (h2 : RV K ρ σ H S env) (h : wpM (m env S) (fun d S1 => ∀ ρ1 v H1, RS K ρ1 H1 S1 → RV K ρ1 σ H1 S1 env → Up K ρ H S ρ1 H1 S1 → RelD K H1 (Al ρ1 S1) ρ1 v d → R v H1) (PostX K mg W ρ σ H S)) : tE K mg W m σ H R :=
  ⟨ρ, env, S, h1, h2, wpM_mono h (fun d S1 q ρ1 v H1 r u k => q ρ1 v H1 r (u.rv h2) u k) fun _ _ _ q => q⟩
theorem tA_seq {m : LM} {env : En} {R : List V → Hp → Prop} (h1 : RS K ρ H S) (h2 : RV K ρ σ H S env) (h : wpM (m env S) (fun ds S1 => ∀ ρ1 vs H1, RS K ρ1 H1 S1 → RV K ρ1 σ H1 S1 env → Up K ρ H S ρ1 H1 S1 → RelL K H1 (Al ρ1 S1) ρ1 vs ds → R vs H1) (PostX K mg W ρ σ H S)) : tA K mg W m σ H R :=
  ⟨ρ, env, S, h1, h2, wpM_mono h (fun d S1 q ρ1 v H1 r u k => q ρ1 v H1 r (u.rv h2) u k) fun _ _ _ q => q⟩
theorem tT_seq {m : TM} {env : En} {R : Bool → Hp → Prop} (h1 : RS K ρ H S) (h2 : RV K ρ σ H S env) (h : wpM (m env S) (fun b S1 => ∀ ρ1 H1, RS K ρ1 H1 S1 → RV K ρ1 σ H1 S1 env → Up K ρ H S ρ1 H1 S1 → R b H1) (PostX K mg W ρ σ H S)) : tT K mg W m σ H R :=
  ⟨ρ, env, S, h1, h2, wpM_mono h (fun d S1 q ρ1 H1 r u => q ρ1 H1 r (u.rv h2) u) fun _ _ _ q => q⟩
end
def lf {α : Type} (o : Option α) (S : Sto) : Res α := match o with
  | some a => .ok a S
  | none => .err
theorem wpM_lf {α : Type} {o : Option α} {S : Sto} {Q : α → Sto → Prop} {E : Str → List (Str × D) → Sto → Prop} (h : wpM (lf o S) Q E) : ∃ a, o = some a ∧ Q a S := by
  cases o with
  | none => exact h.elim
  | some a => exact ⟨a, rfl, h⟩

/-! ### names, constants -/
def vr (i : Nat) : EM := fun env S => match env[i]? with
  | some (some d) => .ok d S
  | _ => .err
def ct (d : D) : EM := fun _ S => .ok d S
section
variable {X : Cx} {W : WX} {pos : Pos}
theorem y_vr (i : Nat) {x : Str} (hN : X.N[i]? = some x := by rfl) (hv : Vis X.env.scope x := by first | exact Or.inl rfl | exact Or.inr (Or.inl rfl) | exact Or.inr (Or.inr rfl)) (hd : (x == ("__debug__" : Str)) = false := by decide)
    (hcd : (x == ("__classdict__" : Str)) = false := by decide) : PE X (.Name x pos) (tE X.K X.mg W (vr i)) := by
  refine (pe_var hN hv hd hcd).imp fun σ H Q h => ?_
  obtain ⟨ρ, env, S, R, V, w⟩ := h
  unfold vr at w
  cases e : env[i]? with
  | none => rw [e] at w; exact w.elim
  | some o =>
    cases o with
    | none => rw [e] at w; exact w.elim
    | some d =>
      rw [e] at w
      obtain ⟨v, e1, r⟩ := V.2 i d e
      exact ⟨v, e1, w.same R (Same.refl H) r⟩
theorem ct_imp {v : V} {d : D} (h : ∀ K H A ρ, RelD K H A ρ v d) : ∀ σ H Q, tE X.K X.mg W (ct d) σ H Q → tC v σ H Q := fun σ H Q ⟨ρ, env, S, R, V, w⟩ => PostV.same (show PostV X.K ρ H S Q d S from w) R (Same.refl H) (h _ _ _ _)
theorem y_int {i j} : PE X (.Constant (.int i) j pos) (tE X.K X.mg W (ct (.int i))) := pe_int.imp (ct_imp fun _ _ _ _ => rfl)
theorem y_bl {b j} : PE X (.Constant (.bool b) j pos) (tE X.K X.mg W (ct (.bl b))) := pe_bl.imp (ct_imp fun _ _ _ _ => rfl)
theorem y_non {j} : PE X (.Constant .none j pos) (tE X.K X.mg W (ct .non)) := pe_non.imp (ct_imp fun _ _ _ _ => rfl)
theorem y_str {x j} : PE X (.Constant (.str x) j pos) (tE X.K X.mg W (ct (.str x))) := pe_str.imp (ct_imp fun _ _ _ _ => rfl)
theorem y_globI {x : Str} {i : Int} (hm : ∃ t, X.mg x = some (.int i t)) (hg : Gl X x := by rfl) (hd : (x == ("__debug__" : Str)) = false := by decide) : PE X (.Name x pos) (tE X.K X.mg W (ct (.int i))) := by
  obtain ⟨t, h⟩ := hm
  exact (pe_glob (v := .int i) hg h ⟨t, rfl⟩ hd).imp (ct_imp fun _ _ _ _ => rfl)
theorem y_globS {x : Str} {s : Str} (hm : ∃ t, X.mg x = some (.str s t)) (hg : Gl X x := by rfl) (hd : (x == ("__debug__" : Str)) = false := by decide) : PE X (.Name x pos) (tE X.K X.mg W (ct (.str s))) := by
  obtain ⟨t, h⟩ := hm
  exact (pe_glob (v := .str s) hg h ⟨t, rfl⟩ hd).imp (ct_imp fun _ _ _ _ => rfl)
end

/-! ### operators on values -/
def op2 (f : Sto → D → D → Option D) (a b : EM) : EM := fun env S => bd (a env S) fun x S1 => bd (b env S1) fun y S2 => lf (f S2 x y) S2
def op1 (f : Sto → D → Option D) (a : EM) : EM := fun env S => bd (a env S) fun x S1 => lf (f S1 x) S1
/-- f tells what the rule r needs -/
def OpS (K : PySem.W.Frag) (r : R2) (f : Sto → D → D → Option D) : Prop := ∀ (ρ : List Addr) (H : Hp) (S : Sto) (x y d : D) (v u : V) (Q : VK), RS K ρ H S → RelD K H (Al ρ S) ρ v x → RelD K H (Al ρ S) ρ u y → f S x y = some d →
  (∀ w H', Same H H' → RelD K H' (Al ρ S) ρ w d → Q w H') → r v u H Q
def UnS (K : PySem.W.Frag) (r : V → Hp → VK → Prop) (f : Sto → D → Option D) : Prop := ∀ (ρ : List Addr) (H : Hp) (S : Sto) (x d : D) (v : V) (Q : VK), RS K ρ H S → RelD K H (Al ρ S) ρ v x → f S x = some d →
  (∀ w H', Same H H' → RelD K H' (Al ρ S) ρ w d → Q w H') → r v H Q
section
variable {X : Cx} {W : WX} {pos : Pos} {a b c : Expr} {ma mb mc : EM}
theorem op2_imp {r : R2} {f : Sto → D → D → Option D} (hf : OpS X.K r f) : ∀ σ H Q, tE X.K X.mg W (op2 f ma mb) σ H Q → tOp r (tE X.K X.mg W ma) (tE X.K X.mg W mb) σ H Q := fun σ H Q ⟨ρ, env, S, R, V, w⟩ => by
  refine tE_seq R V (wpM_mono (wpM_bd w) (fun x S1 w1 ρ1 v H1 R1 V1 U1 r1 => ?_) fun _ _ _ q => q)
  refine tE_seq R1 V1 (wpM_mono (wpM_bd w1) (fun y S2 w2 ρ2 u H2 R2 V2 U2 r2 => ?_) fun _ _ _ q => q.up U1)
  obtain ⟨d, e, q⟩ := wpM_lf w2
  exact hf ρ2 H2 S2 x y d v u Q R2 (U2.relD r1) r2 e fun w' H' s k => q ρ2 w' H' (R2.same s) ((U1.trans U2).trans (Up.same s)) k
theorem op1_imp {r : V → Hp → VK → Prop} {f : Sto → D → Option D} (hf : UnS X.K r f) : ∀ σ H Q, tE X.K X.mg W (op1 f ma) σ H Q → tUn r (tE X.K X.mg W ma) σ H Q := fun σ H Q ⟨ρ, env, S, R, V, w⟩ => by
  refine tE_seq R V (wpM_mono (wpM_bd w) (fun x S1 w1 ρ1 v H1 R1 V1 U1 r1 => ?_) fun _ _ _ q => q)
  obtain ⟨d, e, q⟩ := wpM_lf w1
  exact hf ρ1 H1 S1 x d v Q R1 r1 e fun w' H' s k => q ρ1 w' H' (R1.same s) (U1.trans (Up.same s)) k
theorem y_op {op : Operator} {r : R2} {f : Sto → D → D → Option D} (ho : OpR X (binaryOp op) r) (hf : OpS X.K r f) (ha : PE X a (tE X.K X.mg W ma)) (hb : PE X b (tE X.K X.mg W mb)) : PE X (.BinOp a op b pos) (tE X.K X.mg W (op2 f ma mb)) :=
  (pe_op ho ha hb).imp (op2_imp hf)
theorem y_un {op : UnaryOp} {r : V → Hp → VK → Prop} {f : Sto → D → Option D} (ho : UnR X (unaryOp op) r) (hf : UnS X.K r f) (ha : PE X a (tE X.K X.mg W ma)) : PE X (.UnaryOp op a pos) (tE X.K X.mg W (op1 f ma)) :=
  (pe_un ho ha).imp (op1_imp hf)
theorem y_ix {r : R2} {f : Sto → D → D → Option D} (ho : IxR X r) (hf : OpS X.K r f) (ha : PE X a (tE X.K X.mg W ma)) (hb : PE X b (tE X.K X.mg W mb)) (hs : PlainIx b := by exact fun _ _ => rfl) : PE X (.Subscript a b pos) (tE X.K X.mg W (op2 f ma mb)) :=
  (pe_ix ho ha hb hs).imp (op2_imp hf)
theorem y_cmp {op : CmpOp} {r : R2} {f : Sto → D → D → Option D} (ho : OpR X (compareOp op) r) (hf : OpS X.K r f) (ha : PE X a (tE X.K X.mg W ma)) (hb : PE X b (tE X.K X.mg W mb)) (hm : behindInMarks op b = false := by first | exact nomark _ | with_unfolding_all rfl) :
    PE X (.Compare a [op] [b] pos) (tE X.K X.mg W (op2 f ma mb)) := (pe_cmpR ho ha hb hm).imp (op2_imp hf)
/-! tests -/
/-- a mirror whose value is a bool, as a test -/
def asT (m : EM) : TM := fun env S => bd (m env S) fun x S1 => match x with
  | .bl b => .ok b S1
  | _ => .err
theorem asT_imp {m : EM} {t : TE} (h : ∀ σ H Q, tE X.K X.mg W m σ H Q → t σ H Q) : ∀ σ H Q, tT X.K X.mg W (asT m) σ H Q → tTest t σ H Q := fun σ H Q ⟨ρ, env, S, R, V, w⟩ => by
  refine h σ H _ (tE_seq R V (wpM_mono (wpM_bd w) (fun x S1 w1 ρ1 v H1 R1 V1 U1 r1 => ?_) fun _ _ _ q => q))
  cases x with
  | bl k => exact ⟨k, r1, w1 ρ1 H1 R1 U1⟩
  | _ => exact w1.elim
theorem y_tcmp {op : CmpOp} {r : R2} {f : Sto → D → D → Option D} (ho : OpR X (compareOp op) r) (hf : OpS X.K r f) (ha : PE X a (tE X.K X.mg W ma)) (hb : PE X b (tE X.K X.mg W mb)) (hm : behindInMarks op b = false := by first | exact nomark _ | with_unfolding_all rfl) :
    PT X (.Compare a [op] [b] pos) (tT X.K X.mg W (asT (op2 f ma mb))) := (pt_cmpR ho ha hb hm).imp (asT_imp (op2_imp hf))
/-- a op1 b op2 c -/
def chn (f g : Sto → D → D → Option D) (a b c : EM) : EM := fun env S => bd (a env S) fun x S1 => bd (b env S1) fun y S2 => bd (lf (f S2 x y) S2) fun k S3 => match k with
  | .bl true => bd (c env S3) fun z S4 => lf (g S4 y z) S4
  | .bl false => .ok (.bl false) S3
  | _ => .err
theorem chn_imp {r r' : R2} {f g : Sto → D → D → Option D} (hf : OpS X.K r f) (hg : OpS X.K r' g) : ∀ σ H Q, tE X.K X.mg W (chn f g ma mb mc) σ H Q → tChain r r' (tE X.K X.mg W ma) (tE X.K X.mg W mb) (tE X.K X.mg W mc) σ H Q := fun σ H Q ⟨ρ, env, S, R, V, w⟩ => by
  refine tE_seq R V (wpM_mono (wpM_bd w) (fun x S1 w1 ρ1 v H1 R1 V1 U1 r1 => ?_) fun _ _ _ q => q)
  refine tE_seq R1 V1 (wpM_mono (wpM_bd w1) (fun y S2 w2 ρ2 u H2 R2 V2 U2 r2 => ?_) fun _ _ _ q => q.up U1)
  obtain ⟨k, e, w3⟩ := wpM_lf (wpM_bd w2)
  have U := U1.trans U2
  refine hf ρ2 H2 S2 x y k v u _ R2 (U2.relD r1) r2 e fun z H3 s rk => ?_
  have U3 : Up X.K ρ2 H2 S2 ρ2 H3 S2 := Up.same s
  cases k with
  | bl k =>
    refine ⟨k, rk, ?_⟩
    cases k with
    | false =>
      rw [if_neg Bool.false_ne_true]
      exact w3 ρ2 (.bl false) H3 (R2.same s) (U.trans U3) rfl
    | true =>
      rw [if_pos rfl]
      refine tE_seq (R2.same s) (U3.rv V2) (wpM_mono (wpM_bd w3) (fun z' S4 w4 ρ4 t H4 R4 V4 U4 r4 => ?_) fun _ _ _ q => q.up (U.trans U3))
      obtain ⟨d, e2, q⟩ := wpM_lf w4
      exact hg ρ4 H4 S4 y z' d u t Q R4 ((U3.trans U4).relD r2) r4 e2 fun w' H' s' k' => q ρ4 w' H' (R4.same s') (((U.trans U3).trans U4).trans (Up.same s')) k'
  | _ => exact w3.elim
theorem y_chn {op op' : CmpOp} {r r' : R2} {f g : Sto → D → D → Option D} (ho : OpR X (compareOp op) r) (hf : OpS X.K r f) (ho' : OpR X (compareOp op') r') (hg : OpS X.K r' g) (ha : PE X a (tE X.K X.mg W ma)) (hb : PE X b (tE X.K X.mg W mb)) (hc : PE X c (tE X.K X.mg W mc))
    (hm : lastMarks [op, op'] [b, c] = false := by with_unfolding_all rfl) : PE X (.Compare a [op, op'] [b, c] pos) (tE X.K X.mg W (chn f g ma mb mc)) := (pe_chain ho ho' ha hb hc hm).imp (chn_imp hf hg)
theorem y_tchn {op op' : CmpOp} {r r' : R2} {f g : Sto → D → D → Option D} (ho : OpR X (compareOp op) r) (hf : OpS X.K r f) (ho' : OpR X (compareOp op') r') (hg : OpS X.K r' g) (ha : PE X a (tE X.K X.mg W ma)) (hb : PE X b (tE X.K X.mg W mb)) (hc : PE X c (tE X.K X.mg W mc))
    (hm : lastMarks [op, op'] [b, c] = false := by with_unfolding_all rfl) : PT X (.Compare a [op, op'] [b, c] pos) (tT X.K X.mg W (asT (chn f g ma mb mc))) := (pt_chain ho ho' ha hb hc hm).imp (asT_imp (chn_imp hf hg))
/-- truth of a value -/
def tru (S : Sto) : D → Option Bool
  | .non => some false
  | .bl b => some b
  | .int i => some (i != 0)
  | .str s => if s.length ≤ sizeLine then some (s.length != 0) else none
  | .tup ds => some (!ds.isEmpty)
  | .lst ds => some (!ds.isEmpty)
  | .ref n => match S[n]? with
    | some (some (.lst ds)) => some (!ds.isEmpty)
    | _ => none
theorem relL_empty {K : PySem.W.Frag} {H : Hp} {A : Addr → Prop} {ρ : List Addr} {xs : List V} {ds : List D} (h : RelL K H A ρ xs ds) : (!ds.isEmpty) = !xs.isEmpty := by
  have e := h.length
  cases xs <;> cases ds <;> first | rfl | simp at e
theorem tru_ok' {K : PySem.W.Frag} {ρ : List Addr} {H : Hp} {S : Sto} {d : D} {v : V} {k : Bool} (R : RS K ρ H S) (r : RelD K H (Al ρ S) ρ v d) (h : tru S d = some k) : TruV K v H k := by
  cases d with
  | non =>
    have r' : v = .non := r
    have h' : some false = some k := h
    cases h'; subst r'; rfl
  | bl b =>
    have r' : v = .bl b := r
    have h' : some b = some k := h
    cases h'; subst r'; rfl
  | int i =>
    have r' : v = .int i := r
    have h' : some (i != 0) = some k := h
    cases h'; subst r'; rfl
  | str s =>
    have r' : v = .str s := r
    subst r'
    simp only [tru] at h
    split at h
    · rename_i hl
      cases h
      refine ⟨hl, ?_⟩
      rw [Bool.eq_iff_iff]; simp
    · cases h
  | tup ds =>
    obtain ⟨a, xs, e, h1, h2⟩ := r
    have h' : some (!ds.isEmpty) = some k := h
    cases h'; subst e
    exact .inr (.inl ⟨xs, h1, relL_empty h2⟩)
  | lst ds =>
    obtain ⟨a, xs, e, h1, h2⟩ := r
    have h' : some (!ds.isEmpty) = some k := h
    cases h'; subst e
    exact .inl ⟨xs, h1.sq, relL_empty h2⟩
  | ref n =>
    obtain ⟨a, e, h1⟩ := r
    subst e
    simp only [tru] at h
    split at h
    · rename_i ds hS
      cases h
      obtain ⟨xs, e1, r1⟩ := R.obj n _ a hS h1
      exact .inl ⟨xs, .inl (.inl e1), relL_empty r1⟩
    · cases h
def trt (m : EM) : TM := fun env S => bd (m env S) fun x S1 => lf (tru S1 x) S1
theorem y_truth (ha : PE X a (tE X.K X.mg W ma)) (he : ∀ whole, isTrue a X.env whole = (do let v ← whole; standAt a.pos; holding [v] (truthy v)) := by intro _; rfl) : PT X a (tT X.K X.mg W (trt ma)) :=
  (pt_truth ha he).imp fun σ H Q ⟨ρ, env, S, R, V, w⟩ => tE_seq R V (wpM_mono (wpM_bd w) (fun x S1 w1 ρ1 v H1 R1 V1 U1 r1 => by
    obtain ⟨k, e, q⟩ := wpM_lf w1
    exact ⟨k, tru_ok' R1 r1 e, q ρ1 H1 R1 U1⟩) fun _ _ _ q => q)
def notT (m : TM) : TM := fun env S => bd (m env S) fun b S1 => .ok (!b) S1
def andT (m n : TM) : TM := fun env S => bd (m env S) fun b S1 => match b with
  | true => n env S1
  | false => .ok false S1
def orT (m n : TM) : TM := fun env S => bd (m env S) fun b S1 => match b with
  | true => .ok true S1
  | false => n env S1
variable {ta tb : TM} {rest : List Expr}
theorem y_tnot (ha : PT X a (tT X.K X.mg W ta)) : PT X (.UnaryOp .Not a pos) (tT X.K X.mg W (notT ta)) :=
  (pt_not ha).imp fun σ H Q ⟨ρ, env, S, R, V, w⟩ => tT_seq R V (wpM_mono (wpM_bd w) (fun x S1 w1 ρ1 H1 R1 V1 U1 => w1 ρ1 H1 R1 U1) fun _ _ _ q => q)
theorem y_tand1 (ha : PT X a (tT X.K X.mg W ta)) : PW X (.BoolOp .And [a] pos) (tT X.K X.mg W ta) := pw_and1 ha
theorem y_tor1 (ha : PT X a (tT X.K X.mg W ta)) : PW X (.BoolOp .Or [a] pos) (tT X.K X.mg W ta) := pw_or1 ha
theorem y_tand (ha : PT X a (tT X.K X.mg W ta)) (hb : PW X (.BoolOp .And (b :: rest) pos) (tT X.K X.mg W tb)) : PW X (.BoolOp .And (a :: b :: rest) pos) (tT X.K X.mg W (andT ta tb)) :=
  (pw_and ha hb).imp fun σ H Q ⟨ρ, env, S, R, V, w⟩ => tT_seq R V (wpM_mono (wpM_bd w) (fun x S1 w1 ρ1 H1 R1 V1 U1 => by
    cases x with
    | true => exact iteT (tT_seq R1 V1 (wpM_mono w1 (fun y S2 w2 ρ2 H2 R2 V2 U2 => w2 ρ2 H2 R2 (U1.trans U2)) fun _ _ _ q => q.up U1))
    | false => exact iteF (w1 ρ1 H1 R1 U1)) fun _ _ _ q => q)
theorem y_tor (ha : PT X a (tT X.K X.mg W ta)) (hb : PW X (.BoolOp .Or (b :: rest) pos) (tT X.K X.mg W tb)) : PW X (.BoolOp .Or (a :: b :: rest) pos) (tT X.K X.mg W (orT ta tb)) :=
  (pw_or ha hb).imp fun σ H Q ⟨ρ, env, S, R, V, w⟩ => tT_seq R V (wpM_mono (wpM_bd w) (fun x S1 w1 ρ1 H1 R1 V1 U1 => by
    cases x with
    | false => exact iteF (tT_seq R1 V1 (wpM_mono w1 (fun y S2 w2 ρ2 H2 R2 V2 U2 => w2 ρ2 H2 R2 (U1.trans U2)) fun _ _ _ q => q.up U1))
    | true => exact iteT (w1 ρ1 H1 R1 U1)) fun _ _ _ q => q)
/-! values -/
def notV (m : TM) : EM := fun env S => bd (m env S) fun b S1 => .ok (.bl (!b)) S1
def andV (m n : EM) : EM := fun env S => bd (m env S) fun x S1 => bd (lf (tru S1 x) S1) fun k S2 => match k with
  | true => n env S2
  | false => .ok x S2
def orV (m n : EM) : EM := fun env S => bd (m env S) fun x S1 => bd (lf (tru S1 x) S1) fun k S2 => match k with
  | true => .ok x S2
  | false => n env S2
theorem y_one {op} (h : PE X a (tE X.K X.mg W ma)) : PE X (.BoolOp op [a] pos) (tE X.K X.mg W ma) := pe_one h
theorem y_and (ha : PE X a (tE X.K X.mg W ma)) (hb : PE X (.BoolOp .And (b :: rest) pos) (tE X.K X.mg W mb)) : PE X (.BoolOp .And (a :: b :: rest) pos) (tE X.K X.mg W (andV ma mb)) :=
  (pe_andT ha hb).imp fun σ H Q ⟨ρ, env, S, R, V, w⟩ => tE_seq R V (wpM_mono (wpM_bd w) (fun x S1 w1 ρ1 v H1 R1 V1 U1 r1 => by
    obtain ⟨k, e, w2⟩ := wpM_lf (wpM_bd w1)
    refine ⟨k, tru_ok' R1 r1 e, ?_⟩
    cases k with
    | true => exact iteT (tE_seq R1 V1 (wpM_mono w2 (fun y S2 w2 ρ2 u H2 R2 V2 U2 r2 => w2 ρ2 u H2 R2 (U1.trans U2) r2) fun _ _ _ q => q.up U1))
    | false => exact iteF (w2 ρ1 v H1 R1 U1 r1)) fun _ _ _ q => q)
theorem y_or (ha : PE X a (tE X.K X.mg W ma)) (hb : PE X (.BoolOp .Or (b :: rest) pos) (tE X.K X.mg W mb)) : PE X (.BoolOp .Or (a :: b :: rest) pos) (tE X.K X.mg W (orV ma mb)) :=
  (pe_orT ha hb).imp fun σ H Q ⟨ρ, env, S, R, V, w⟩ => tE_seq R V (wpM_mono (wpM_bd w) (fun x S1 w1 ρ1 v H1 R1 V1 U1 r1 => by
    obtain ⟨k, e, w2⟩ := wpM_lf (wpM_bd w1)
    refine ⟨k, tru_ok' R1 r1 e, ?_⟩
    cases k with
    | false => exact iteF (tE_seq R1 V1 (wpM_mono w2 (fun y S2 w2 ρ2 u H2 R2 V2 U2 r2 => w2 ρ2 u H2 R2 (U1.trans U2) r2) fun _ _ _ q => q.up U1))
    | true => exact iteT (w2 ρ1 v H1 R1 U1 r1)) fun _ _ _ q => q)
def notE (m : EM) : EM := fun env S => bd (m env S) fun x S1 => bd (lf (tru S1 x) S1) fun k S2 => .ok (.bl (!k)) S2
theorem y_not (ha : PE X a (tE X.K X.mg W ma)) : PE X (.UnaryOp .Not a pos) (tE X.K X.mg W (notE ma)) :=
  (pe_notT ha).imp fun σ H Q ⟨ρ, env, S, R, V, w⟩ => tE_seq R V (wpM_mono (wpM_bd w) (fun x S1 w1 ρ1 v H1 R1 V1 U1 r1 => by
    obtain ⟨k, e, w2⟩ := wpM_lf (wpM_bd w1)
    exact ⟨k, tru_ok' R1 r1 e, w2 ρ1 (.bl (!k)) H1 R1 U1 rfl⟩) fun _ _ _ q => q)
def ifE (c : TM) (a b : EM) : EM := fun env S => bd (c env S) fun k S1 => match k with
  | true => a env S1
  | false => b env S1
theorem y_if {mt : TM} (hc : PT X c (tT X.K X.mg W mt)) (ha : PE X a (tE X.K X.mg W ma)) (hb : PE X b (tE X.K X.mg W mb)) : PE X (.IfExp c a b pos) (tE X.K X.mg W (ifE mt ma mb)) :=
  (pe_ifExp hc ha hb).imp fun σ H Q ⟨ρ, env, S, R, V, w⟩ => tT_seq R V (wpM_mono (wpM_bd w) (fun x S1 w1 ρ1 H1 R1 V1 U1 => by
    cases x with
    | true => exact iteT (tE_seq R1 V1 (wpM_mono w1 (fun y S2 w2 ρ2 u H2 R2 V2 U2 r2 => w2 ρ2 u H2 R2 (U1.trans U2) r2) fun _ _ _ q => q.up U1))
    | false => exact iteF (tE_seq R1 V1 (wpM_mono w1 (fun y S2 w2 ρ2 u H2 R2 V2 U2 r2 => w2 ρ2 u H2 R2 (U1.trans U2) r2) fun _ _ _ q => q.up U1))) fun _ _ _ q => q)
end

/-! ### arguments, displays -/
def lnil : LM := fun _ S => .ok [] S
def lcons (a : EM) (r : LM) : LM := fun env S => bd (a env S) fun x S1 => bd (r env S1) fun xs S2 => .ok (x :: xs) S2
/-- a tuple -/
def tupE (l : LM) : EM := fun env S => bd (l env S) fun xs S1 => if xs.length ≤ sizeLine then .ok (.tup xs) S1 else .err
def lstF (l : LM) : LM := fun env S => bd (l env S) fun xs S1 => if xs.length ≤ sizeLine then .ok xs S1 else .err
/-- a new list that nobody will change, one that is to change -/
def frz (l : LM) : EM := fun env S => bd (l env S) fun xs S1 => .ok (.lst xs) S1
def new (l : LM) : EM := fun env S => bd (l env S) fun xs S1 => .ok (.ref S1.length) (S1 ++ [some (.lst xs)])
section
variable {X : Cx} {W : WX} {pos : Pos} {e : Expr} {es : List Expr} {m : EM} {l : LM}
theorem y_nil : PA X [] (tA X.K X.mg W lnil) := pa_nil.imp fun σ H Q ⟨ρ, env, S, R, V, w⟩ => (show PostL X.K ρ H S Q [] S from w) ρ [] H R Up.refl rfl
theorem y_cons (ha : PE X e (tE X.K X.mg W m)) (hr : PA X es (tA X.K X.mg W l)) (hs : starEach (e :: es) X.env = (false, eval e X.env) :: starEach es X.env := by rfl) : PA X (e :: es) (tA X.K X.mg W (lcons m l)) :=
  (pa_cons ha hr hs).imp fun σ H Q ⟨ρ, env, S, R, V, w⟩ => tE_seq R V (wpM_mono (wpM_bd w) (fun x S1 w1 ρ1 v H1 R1 V1 U1 r1 =>
    tA_seq R1 V1 (wpM_mono (wpM_bd w1) (fun xs S2 w2 ρ2 vs H2 R2 V2 U2 r2 => w2 ρ2 (v :: vs) H2 R2 (U1.trans U2) (RelL.cons (U2.relD r1) r2)) fun _ _ _ q => q.up U1)) fun _ _ _ q => q)
theorem y_tup {k} (h : PA X es (tA X.K X.mg W l)) : PE X (.Tuple es k pos) (tE X.K X.mg W (tupE l)) :=
  (pe_tup h).imp fun σ H Q ⟨ρ, env, S, R, V, w⟩ => tA_seq R V (wpM_mono (wpM_bd w) (fun xs S1 w1 ρ1 vs H1 R1 V1 U1 r1 => by
    split at w1
    · rename_i hl
      refine ⟨by rw [r1.length]; exact hl, fun p np => ?_⟩
      have s : Same H1 (upd H1 p (.tup vs)) := same_new np
      exact w1 ρ1 (.ref p) _ (R1.same s) (U1.trans (Up.same s)) ⟨p, vs, rfl, TupT.of upd_same, (Up.same (K := X.K) (ρ := ρ1) (S := S1) s).relL r1⟩
    · exact w1.elim) fun _ _ _ q => q)
theorem y_lst (h : PA X es (tA X.K X.mg W l)) : PE X (.List es pos) (tF X.K X.mg W (lstF l)) :=
  (pe_lst h).imp fun σ H Q ⟨ρ, env, S, R, V, w⟩ => tA_seq R V (wpM_mono (wpM_bd w) (fun xs S1 w1 ρ1 vs H1 R1 V1 U1 r1 => by
    split at w1
    · rename_i hl
      exact ⟨by rw [r1.length]; exact hl, fun p np => w1 ρ1 p vs H1 _ R1 U1 r1 np (same_new np) upd_same⟩
    · exact w1.elim) fun _ _ _ q => q)
theorem y_frz (h : PE X e (tF X.K X.mg W l)) : PE X e (tE X.K X.mg W (frz l)) :=
  h.imp fun σ H Q ⟨ρ, env, S, R, V, w⟩ => ⟨ρ, env, S, R, V, wpM_mono (wpM_bd w) (fun xs S1 w1 ρ1 p ys H1 H2 R1 U1 r1 np s hp => by
    have U2 : Up X.K ρ1 H1 S1 ρ1 H2 S1 := Up.same s
    exact w1 ρ1 (.ref p) H2 (R1.same s) (U1.trans U2) ⟨p, ys, rfl, .inl ⟨.inl hp, R1.noal np⟩, U2.relL r1⟩) fun _ _ _ q => q⟩
theorem y_new (h : PE X e (tF X.K X.mg W l)) : PE X e (tE X.K X.mg W (new l)) :=
  h.imp fun σ H Q ⟨ρ, env, S, R, V, w⟩ => ⟨ρ, env, S, R, V, wpM_mono (wpM_bd w) (fun xs S1 w1 ρ1 p ys H1 H2 R1 U1 r1 np s hp =>
    w1 (ρ1 ++ [p]) (.ref p) H2 (R1.new np s hp r1) (U1.trans (Up.new R1.len np s)) ⟨p, rfl, by rw [← R1.len]; simp⟩) fun _ _ _ q => q⟩
end

/-! ### calls -/
/-- a def's promise: what its mirror tells -/
def spM (K : PySem.W.Frag) (mg : Str → Option Value) (n : Nat) (f : List D → Sto → Res D) : Sp := fun vs H Q E => vs.length = n ∧ ∃ ρ S ds, RS K ρ H S ∧ RelL K H (Al ρ S) ρ vs ds ∧ wpM (f ds S) (PostV K ρ H S Q)
  (fun c fs S' => ∀ ρ' H' cls dx, RS K ρ' H' S' → Up K ρ H S ρ' H' S' → ExcR K mg H' (Al ρ' S') ρ' c fs cls dx → E cls dx H')
def cal (f : List D → Sto → Res D) (l : LM) : EM := fun env S => bd (l env S) fun ds S1 => f ds S1
theorem bd_len {α : Type} {X : Cx} {W : WX} : True := trivial
section
variable {X : Cx} {W : WX} {k n : Nat} {f : Addr} {fd : FuncData} {ps : List Str} {x : Str} {p pos : Pos} {e : Expr} {es : List Expr} {l : LM} {mf : List D → Sto → Res D}
/-- l gives as many values as there are expressions -/
def Len (l : LM) (n : Nat) : Prop := ∀ env S ds S', l env S = .ok ds S' → ds.length = n
theorem len_nil : Len lnil 0 := fun _ _ ds _ h => by cases h; rfl
theorem len_cons {m : EM} {n : Nat} (h : Len l n) : Len (lcons m l) (n + 1) := fun env S ds S' e => by
  unfold lcons at e
  cases e1 : m env S with
  | ok x S1 =>
    rw [e1] at e
    simp only [bd] at e
    cases e2 : l env S1 with
    | ok xs S2 =>
      rw [e2] at e
      cases e
      simp [h env S1 xs _ e2]
    | exc c fs S2 => rw [e2] at e; cases e
    | err => rw [e2] at e; cases e
  | exc c fs S1 => rw [e1] at e; cases e
  | err => rw [e1] at e; cases e
theorem y_call (F : FnOk X.prog X.w X.K X.mg X.base (L2.CX X.prog X.w) k f fd ps (spM X.K X.mg n mf)) (hr : Room k X.A) (tk : Takes X W) (hm : X.mg x = some (.ref f)) (hk : PySem.W.keepIn X.K (.ref f) = true) (hb : Binds X.K fd ps []) (ha : PA X (e :: es) (tA X.K X.mg W l)) (hn : Len l n)
    (hg : Gl X x := by rfl) (hdb : (x == ("__debug__" : Str)) = false := by decide) (he : starEach (e :: es) X.env = (false, eval e X.env) :: starEach es X.env := by rfl) (hpl : (backTo pos (starEach es X.env)).any (·.1) = false := by rfl) :
    PE X (.Call (.Name x p) (e :: es) [] pos) (tE X.K X.mg W (cal mf l)) :=
  (pe_callSD (E := fun σ cls dx H => W cls dx σ H) F hr hg hm hk hb .nil (fun σ => passAt tk σ) ha hdb he hpl).imp fun σ H Q ⟨ρ, env, S, R, V, w⟩ => by
    unfold tCallSD
    have w0 := wpM_bd w
    refine ⟨ρ, env, S, R, V, ?_⟩
    cases e1 : l env S with
    | ok ds S1 =>
      rw [e1] at w0
      have w1 : wpM (mf ds S1) (PostV X.K ρ H S Q) (PostX X.K X.mg W ρ σ H S) := w0
      intro ρ1 vs H1 R1 U1 r1
      rw [List.append_nil]
      exact ⟨by rw [r1.length]; exact hn env S ds S1 e1, ρ1, S1, ds, R1, r1, wpM_mono w1 (fun d S2 q => q.up U1) fun c fs S2 q ρ' H' cls dx r u k => q ρ' H' cls dx r (U1.trans u) k⟩
    | exc c fs S1 => rw [e1] at w0; exact w0
    | err => rw [e1] at w0; exact w0
end
end Y

end
section
set_option Elab.async false
set_option linter.all false
set_option maxRecDepth 100000
set_option maxHeartbeats 4000000
namespace Y
open PySem PySem.Spec L2

/-! ### statements -/
def bS {α : Type} (r : Res α) (env : En) (k : α → Sto → SR) : SR := match r with
  | .ok a S => k a S
  | .exc c fs S => .exc c fs env S
  | .err => .err
def seqS (a b : SM) : SM := fun env S => match a env S with
  | .nx e S1 => b e S1
  | r => r
def nxS : SM := fun env S => .nx env S
def brkS : SM := fun env S => .brk env S
def ctS : SM := fun env S => .ct env S
def exS (e : EM) : SM := fun env S => bS (e env S) env fun _ S1 => .nx env S1
def retS (e : EM) : SM := fun env S => bS (e env S) env fun d S1 => .ret d S1
def retN : SM := fun _ S => .ret .non S
def ifS (c : TM) (a b : SM) : SM := fun env S => bS (c env S) env fun k S1 => match k with
  | true => a env S1
  | false => b env S1
/-- a target -/
abbrev TgM := D → En → Option En
def asg (g : TgM) (e : EM) : SM := fun env S => bS (e env S) env fun d S1 => match g d env with
  | some env1 => .nx env1 S1
  | none => .err
def tgN (i : Nat) : TgM := fun d env => some (env.set i (some d))
def tgs : List TgM → List D → En → Option En
  | [], [], env => some env
  | g :: gs, d :: ds, env => (g d env).bind fun env1 => tgs gs ds env1
  | _, _, _ => none
def tgT (gs : List TgM) : TgM := fun d env => match d with
  | .tup ds => tgs gs ds env
  | _ => none
def setAt (S : Sto) : D → D → D → Option Sto
  | .ref n, .int k, d => match S[n]? with
    | some (some (.lst ds)) => (ixN ds.length k).map fun j => S.set n (some (.lst (ds.set j d)))
    | _ => none
  | _, _, _ => none
def setS (e o i : EM) : SM := fun env S => bS (e env S) env fun d S1 => bS (o env S1) env fun x S2 => bS (i env S2) env fun k S3 => match setAt S3 x k d with
  | some S4 => .nx env S4
  | none => .err

section
variable {K : PySem.W.Frag} {mg : Str → Option Value} {W : WX} {H H1 : Hp} {ρ ρ1 : List Addr} {S S1 : Sto} {σ σ1 : L2.St} {env env1 : En} {Dn : Ends}
theorem wpS_up {r : SR} (u : Up K ρ H S ρ1 H1 S1) (h : wpS K mg W ρ H S Dn r) : wpS K mg W ρ1 H1 S1 Dn r := by
  cases r with
  | nx e S' => exact fun ρ' σ' H' r v k => h ρ' σ' H' r v (u.trans k)
  | brk e S' => exact fun ρ' σ' H' r v k => h ρ' σ' H' r v (u.trans k)
  | ct e S' => exact fun ρ' σ' H' r v k => h ρ' σ' H' r v (u.trans k)
  | ret d S' => exact fun ρ' v H' r k => h ρ' v H' r (u.trans k)
  | exc c fs e S' => exact fun ρ' σ' H' cls dx r v k => h ρ' σ' H' cls dx r v (u.trans k)
  | err => exact h
theorem wpS_bS {α : Type} {r : Res α} {k : α → Sto → SR} (V : RV K ρ σ H S env) (h : wpS K mg W ρ H S Dn (bS r env k)) : wpM r (fun a S1 => wpS K mg W ρ H S Dn (k a S1)) (PostX K mg W ρ σ H S) := by
  cases r with
  | ok a S1 => exact h
  | exc c fs S1 => exact fun ρ' H' cls dx r u e => h ρ' σ H' cls dx r (u.rv V) u e
  | err => exact h
theorem RV.set {i : Nat} {v : V} {d : D} (V : RV K ρ σ H S env) (r : RelD K H (Al ρ S) ρ v d) : RV K ρ (σ.set i (some v)) H S (env.set i (some d)) := by
  refine ⟨by simp [V.1], fun j e h => ?_⟩
  by_cases hj : i = j
  · subst hj
    by_cases hi : i < env.length
    · rw [List.getElem?_set_self hi] at h
      cases h
      exact ⟨v, by rw [List.getElem?_set_self (by rw [← V.1]; exact hi)], r⟩
    · rw [List.getElem?_eq_none (by simp; omega)] at h; cases h
  · rw [List.getElem?_set_ne hj] at h ⊢
    exact V.2 j e h
end
section
variable {X : Cx} {W : WX} {pos : Pos} {st : Stmt} {rest : List Stmt} {a b : SM} {e : Expr} {m : EM}
theorem s_nil : PSs X [] (tS X.K X.mg W nxS) := pss_nil.imp fun Dn σ H ⟨ρ, env, S, R, V, w⟩ => w ρ σ H R V Up.refl
theorem s_cons (h1 : PS X st (tS X.K X.mg W a)) (h2 : PSs X rest (tS X.K X.mg W b)) : PSs X (st :: rest) (tS X.K X.mg W (seqS a b)) :=
  (pss_cons h1 h2).imp fun Dn σ H ⟨ρ, env, S, R, V, w⟩ => by
    refine ⟨ρ, env, S, R, V, ?_⟩
    unfold seqS at w
    cases e1 : a env S with
    | nx env1 S1 =>
      rw [e1] at w
      exact fun ρ' σ' H' r v u => ⟨ρ', env1, S1, r, v, wpS_up u w⟩
    | brk env1 S1 => rw [e1] at w; exact w
    | ct env1 S1 => rw [e1] at w; exact w
    | ret d S1 => rw [e1] at w; exact w
    | exc c fs env1 S1 => rw [e1] at w; exact w
    | err => rw [e1] at w; exact w
theorem s_one (h1 : PS X st (tS X.K X.mg W a)) : PSs X [st] (tS X.K X.mg W a) := pss_one h1
theorem s_pass : PS X (.Pass pos) (tS X.K X.mg W nxS) := ps_pass.imp fun Dn σ H ⟨ρ, env, S, R, V, w⟩ => w ρ σ H R V Up.refl
theorem s_break : PS X (.Break pos) (tS X.K X.mg W brkS) := ps_break.imp fun Dn σ H ⟨ρ, env, S, R, V, w⟩ => w ρ σ H R V Up.refl
theorem s_continue : PS X (.Continue pos) (tS X.K X.mg W ctS) := ps_continue.imp fun Dn σ H ⟨ρ, env, S, R, V, w⟩ => w ρ σ H R V Up.refl
theorem s_expr (he : PE X e (tE X.K X.mg W m)) (hs : swapsWith e none pos.line X.env = pure false := by rfl) : PS X (.Expr e pos) (tS X.K X.mg W (exS m)) :=
  (ps_expr he hs).imp fun Dn σ H ⟨ρ, env, S, R, V, w⟩ => tE_seq R V (wpM_mono (wpS_bS V w) (fun d S1 w1 ρ1 v H1 R1 V1 U1 r1 => w1 ρ1 σ H1 R1 V1 U1) fun _ _ _ q => q)
theorem s_ret (he : PE X e (tE X.K X.mg W m)) : PS X (.Return (some e) pos) (tS X.K X.mg W (retS m)) :=
  (ps_ret he).imp fun Dn σ H ⟨ρ, env, S, R, V, w⟩ => tE_seq R V (wpM_mono (wpS_bS V w) (fun d S1 w1 ρ1 v H1 R1 V1 U1 r1 => w1 ρ1 v H1 R1 U1 r1) fun _ _ _ q => q)
theorem s_retN : PS X (.Return none pos) (tS X.K X.mg W retN) := ps_retN.imp fun Dn σ H ⟨ρ, env, S, R, V, w⟩ => w ρ .non H R Up.refl rfl
theorem s_if {c : Expr} {mc : TM} {p q : List Stmt} (hc : PT X c (tT X.K X.mg W mc)) (ha : PSs X p (tS X.K X.mg W a)) (hb : PSs X q (tS X.K X.mg W b)) : PS X (.If c p q pos) (tS X.K X.mg W (ifS mc a b)) :=
  (ps_if hc ha hb).imp fun Dn σ H ⟨ρ, env, S, R, V, w⟩ => tT_seq R V (wpM_mono (wpS_bS V w) (fun k S1 w1 ρ1 H1 R1 V1 U1 => by
    cases k with
    | true => exact iteT ⟨ρ1, env, S1, R1, V1, wpS_up U1 w1⟩
    | false => exact iteF ⟨ρ1, env, S1, R1, V1, wpS_up U1 w1⟩) fun _ _ _ q => q)
/-! targets -/
def tG (K : PySem.W.Frag) (ix : List Nat) (g : TgM) : TG := fun v σ H Q => ∃ ρ env S d env', RS K ρ H S ∧ RV K ρ σ H S env ∧ RelD K H (Al ρ S) ρ v d ∧ g d env = some env' ∧ ∀ σ', RV K ρ σ' H S env' → wipe σ' ix = wipe σ ix → Q σ' H
def tGs (K : PySem.W.Frag) (ix : List Nat) (gs : List TgM) : TGs := fun vs σ H Q => ∃ ρ env S ds env', RS K ρ H S ∧ RV K ρ σ H S env ∧ RelL K H (Al ρ S) ρ vs ds ∧ tgs gs ds env = some env' ∧ ∀ σ', RV K ρ σ' H S env' → wipe σ' ix = wipe σ ix → Q σ' H
theorem wipe_get {σ : L2.St} : ∀ {ix : List Nat} {j : Nat}, (wipe σ ix)[j]? = if j ∈ ix then σ[j]?.map (fun _ => none) else σ[j]?
  | [], j => by simp [wipe]
  | i :: ix, j => by
    unfold wipe
    by_cases h : i = j
    · subst h
      rw [if_pos (List.mem_cons_self), List.getElem?_set]
      simp only [if_true]
      by_cases hl : i < σ.length
      · rw [if_pos (by rw [wipe_length]; exact hl), List.getElem?_eq_getElem hl]; rfl
      · rw [if_neg (by rw [wipe_length]; exact hl), List.getElem?_eq_none (by omega)]; rfl
    · rw [List.getElem?_set_ne h, wipe_get]
      have e : (j ∈ i :: ix) ↔ j ∈ ix := by simp [Ne.symm h]
      by_cases hj : j ∈ ix
      · rw [if_pos hj, if_pos (e.mpr hj)]
      · rw [if_neg hj, if_neg (fun q => hj (e.mp q))]
theorem wipe_set {σ : L2.St} {ix : List Nat} {i : Nat} {x : Option V} (h : i ∈ ix) : wipe (σ.set i x) ix = wipe σ ix := by
  apply List.ext_getElem?
  intro j
  rw [wipe_get, wipe_get]
  by_cases hj : j ∈ ix
  · rw [if_pos hj, if_pos hj, List.getElem?_set]
    split
    · rename_i e; subst e
      split
      · rename_i hl; rw [List.getElem?_eq_getElem hl]; rfl
      · rename_i hl; rw [List.getElem?_eq_none (by omega)]
    · rfl
  · rw [if_neg hj, if_neg hj, List.getElem?_set_ne (fun e => hj (by rw [← e]; exact h))]
theorem PG_imp {tg : Expr} {t t' : TG} (h : PG X tg t) (i : ∀ v σ H Q, t' v σ H Q → t v σ H Q) : PG X tg t' := ⟨fun pins s σ H v u Q I r q => h.run pins s σ H v u Q I r (i v σ H Q q)⟩
theorem PGs_imp {tg : List Expr} {t t' : TGs} (h : PGs X tg t) (i : ∀ v σ H Q, t' v σ H Q → t v σ H Q) : PGs X tg t' := ⟨fun pins s σ H v u Q I r q => h.run pins s σ H v u Q I r (i v σ H Q q)⟩
theorem g_name (i : Nat) {x : Str} (hN : X.N.Nodup) (hi : X.N[i]? = some x := by rfl) (hx : Loc X.env.scope x := by first | exact Or.inl rfl | exact Or.inr rfl) (hf : X.fn x = true ∨ X.env.scope.names.lookup x = some .local := by first | exact .inl rfl | exact .inr rfl | assumption)
    {ix : List Nat} (hix : i ∈ ix := by decide) : PG X (.Name x pos) (tG X.K ix (tgN i)) := PG_imp (pg_name hN hi hx hf) fun v σ H Q ⟨ρ, env, S, d, env', R, V, r, e, q⟩ => by
  cases e
  exact q _ (V.set r) (wipe_set hix)
theorem g_nil {ix : List Nat} : PGs X [] (tGs X.K ix []) := PGs_imp pgs_nil fun v σ H Q ⟨ρ, env, S, ds, env', R, V, r, e, q⟩ => by
  cases ds with
  | nil => cases e; exact ⟨r, q σ V rfl⟩
  | cons d ds => cases e
theorem g_cons {t : Expr} {ts : List Expr} {g : TgM} {gs : List TgM} {ix : List Nat} (h1 : PG X t (tG X.K ix g)) (h2 : PGs X ts (tGs X.K ix gs)) (hs : (assignEach (t :: ts) X.env).map (·.2) = assign t X.env :: (assignEach ts X.env).map (·.2) := by rfl) : PGs X (t :: ts) (tGs X.K ix (g :: gs)) :=
  PGs_imp (pgs_cons h1 h2 hs) fun vs σ H Q ⟨ρ, env, S, ds, env', R, V, r, e, q⟩ => by
    cases ds with
    | nil => cases e
    | cons d ds =>
      obtain ⟨x, xs, rfl, r1, r2⟩ := r
      have e' : (g d env).bind (fun env1 => tgs gs ds env1) = some env' := e
      cases e1 : g d env with
      | none => rw [e1] at e'; cases e'
      | some env1 =>
        rw [e1] at e'
        exact ⟨x, xs, rfl, ρ, env, S, d, env1, R, V, r1, e1, fun σ' V' hw => ⟨ρ, env1, S, ds, env', R, V', r2, e', fun σ'' V'' hw' => q σ'' V'' (hw'.trans hw)⟩⟩
theorem tgs_len {gs : List TgM} : ∀ {ds : List D} {env env' : En}, tgs gs ds env = some env' → ds.length = gs.length := by
  induction gs with
  | nil => intro ds env env' h; cases ds with
    | nil => rfl
    | cons d ds => cases h
  | cons g gs ih => intro ds env env' h; cases ds with
    | nil => cases h
    | cons d ds =>
      have e' : (g d env).bind (fun env1 => tgs gs ds env1) = some env' := h
      cases e1 : g d env with
      | none => rw [e1] at e'; cases e'
      | some env1 => rw [e1] at e'; simp [ih e']
theorem g_tup {es : List Expr} {k : Nat} {gs : List TgM} {ix : List Nat} (hc : X.calm = true) (h : PGs X es (tGs X.K ix gs)) (hn : (assignEach es X.env).length = gs.length := by rfl) (hst : (assignEach es X.env).findIdx? (·.1) = none := by rfl) : PG X (.Tuple es k pos) (tG X.K ix (tgT gs)) :=
  PG_imp (pg_tup hc h hn hst) fun v σ H Q ⟨ρ, env, S, d, env', R, V, r, e, q⟩ => by
    cases d with
    | tup ds =>
      obtain ⟨a, xs, rfl, h1, h2⟩ := r
      have e' : tgs gs ds env = some env' := e
      exact ⟨a, xs, rfl, h1, by rw [h2.length, tgs_len e'], ρ, env, S, ds, env', R, V, h2, e', q⟩
    | _ => cases e
theorem asg_imp {g : TgM} {ix : List Nat} : ∀ Dn σ H, tS X.K X.mg W (asg g m) Dn σ H → tAsg (tE X.K X.mg W m) (tG X.K ix g) Dn σ H := fun Dn σ H ⟨ρ, env, S, R, V, w⟩ => tE_seq R V (wpM_mono (wpS_bS V w) (fun d S1 w1 ρ1 v H1 R1 V1 U1 r1 => by
  cases e1 : g d env with
  | none => rw [e1] at w1; exact w1.elim
  | some env1 => rw [e1] at w1; exact ⟨ρ1, env, S1, d, env1, R1, V1, r1, e1, fun σ' V' _ => w1 ρ1 σ' H1 R1 V' U1⟩) fun _ _ _ q => q)
theorem s_asg {tg : Expr} {g : TgM} {ix : List Nat} (he : PE X e (tE X.K X.mg W m)) (hg : PG X tg (tG X.K ix g)) (hs : swapsWithSole [tg] e pos.line X.env = pure false := by rfl) (hw : swappedStores [tg] e X.env = pure none := by rfl)
    (h1 : (assignEach [tg] X.env).map (·.2) = [assign tg X.env] := by rfl) : PS X (.Assign [tg] e pos) (tS X.K X.mg W (asg g m)) := (ps_asg he hg hs hw h1).imp asg_imp
/-- name = value -/
theorem s_set (i : Nat) {x : Str} {pos' : Pos} (hN : X.N.Nodup) (he : PE X e (tE X.K X.mg W m)) (hi : X.N[i]? = some x := by rfl) (hx : Loc X.env.scope x := by first | exact Or.inl rfl | exact Or.inr rfl) (hs : swapsWith e (some (.Name x pos')) pos.line X.env = pure false := by rfl)
    (hf : X.fn x = true ∨ X.env.scope.names.lookup x = some .local := by first | exact .inl rfl | exact .inr rfl | assumption) : PS X (.Assign [.Name x pos'] e pos) (tS X.K X.mg W (asg (tgN i) m)) :=
  (ps_set hN hi hx he hs hf).imp fun Dn σ H ⟨ρ, env, S, R, V, w⟩ => tE_seq R V (wpM_mono (wpS_bS V w) (fun d S1 w1 ρ1 v H1 R1 V1 U1 r1 => w1 ρ1 _ H1 R1 (V1.set r1) U1) fun _ _ _ q => q)
theorem setAt_ok {K : PySem.W.Frag} {ρ : List Addr} {H : Hp} {S S' : Sto} {o i d : D} {ov iv v : V} {Q : Hp → Prop} (R : RS K ρ H S) (ro : RelD K H (Al ρ S) ρ ov o) (ri : RelD K H (Al ρ S) ρ iv i) (r : RelD K H (Al ρ S) ρ v d) (h : setAt S o i d = some S')
    (q : ∀ H', RS K ρ H' S' → Up K ρ H S ρ H' S' → Q H') : rSetL ov iv v H Q := by
  cases o with
  | ref n =>
    cases i with
    | int k =>
      obtain ⟨a, rfl, ha⟩ := ro
      have ri' : iv = .int k := ri
      subst ri'
      simp only [setAt] at h
      split at h
      · rename_i ds hS
        obtain ⟨xs, e1, r1⟩ := R.obj n _ a hS ha
        cases e2 : ixN ds.length k with
        | none => rw [e2] at h; cases h
        | some j =>
          rw [e2] at h
          cases h
          exact ⟨a, xs, k, j, rfl, rfl, e1, by rw [r1.length]; exact e2, q _ (R.set hS ha e1 (RelL.set r j r1)) (Up.set hS ha e1)⟩
      · cases h
    | _ => cases h
  | _ => cases h
theorem s_sub {o i : Expr} {mo mi : EM} {p2 : Pos} (he : PE X e (tE X.K X.mg W m)) (ho : PE X o (tE X.K X.mg W mo)) (hi : PE X i (tE X.K X.mg W mi))
    (ha : ∀ v, assign (.Subscript o i p2) X.env v = (do
      let ov ← holding [v] (eval o X.env)
      let iv ← holding [v, ov] (eval i X.env)
      standAt p2
      holding [v, ov, iv] (setItem ov iv v)
      release [v, ov, iv] []) := by intro _; rfl)
    (hs : swapsWithSole [.Subscript o i p2] e pos.line X.env = pure false := by rfl) (hw : swappedStores [.Subscript o i p2] e X.env = pure none := by rfl)
    (h1 : (assignEach [.Subscript o i p2] X.env).map (·.2) = [assign (.Subscript o i p2) X.env] := by rfl) : PS X (.Assign [.Subscript o i p2] e pos) (tS X.K X.mg W (setS m mo mi)) :=
  (ps_asg he (pg_sub ho hi set_list ha) hs hw h1).imp fun Dn σ H ⟨ρ, env, S, R, V, w⟩ => tE_seq R V (wpM_mono (wpS_bS V w) (fun d S1 w1 ρ1 v H1 R1 V1 U1 r1 =>
    tE_seq R1 V1 (wpM_mono (wpS_bS V1 (wpS_up U1 w1)) (fun x S2 w2 ρ2 u H2 R2 V2 U2 r2 => tE_seq R2 V2 (wpM_mono (wpS_bS V2 (wpS_up U2 w2)) (fun k S3 w3 ρ3 t H3 R3 V3 U3 r3 => by
      cases e1 : setAt S3 x k d with
      | none => rw [e1] at w3; exact w3.elim
      | some S4 =>
        rw [e1] at w3
        exact setAt_ok R3 (U3.relD r2) r3 ((U2.trans U3).relD r1) e1 fun H' R4 U4 => w3 ρ3 σ H' R4 (U4.rv V3) (U3.trans U4)) fun _ _ _ q => q)) fun _ _ _ q => q)) fun _ _ _ q => q)
end

/-! ### a def -/
mutual
def D.pure : D → Bool
  | .non => true
  | .bl _ => true
  | .int _ => true
  | .str _ => true
  | .tup ds => pureL ds
  | .lst ds => pureL ds
  | .ref _ => false
def pureL : List D → Bool
  | [] => true
  | d :: ds => d.pure && pureL ds
end
mutual
def D.bel (n : Nat) : D → Bool
  | .non => true
  | .bl _ => true
  | .int _ => true
  | .str _ => true
  | .tup ds => belL n ds
  | .lst ds => belL n ds
  | .ref m => decide (m < n)
def belL (n : Nat) : List D → Bool
  | [] => true
  | d :: ds => d.bel n && belL n ds
end
def Ob.bel (n : Nat) (o : Ob) : Bool := belL n o.pay
mutual
theorem bel_of_pure {n : Nat} : ∀ d : D, d.pure = true → d.bel n = true
  | .non, _ => rfl
  | .bl _, _ => rfl
  | .int _, _ => rfl
  | .str _, _ => rfl
  | .tup ds, h => belL_of_pure ds h
  | .lst ds, h => belL_of_pure ds h
  | .ref _, h => by cases h
theorem belL_of_pure {n : Nat} : ∀ ds : List D, pureL ds = true → belL n ds = true
  | [], _ => rfl
  | d :: ds, h => by
    have h' : (d.pure && pureL ds) = true := h
    obtain ⟨h1, h2⟩ := Bool.and_eq_true_iff.mp h'
    show (d.bel n && belL n ds) = true
    rw [bel_of_pure d h1, belL_of_pure ds h2]; rfl
end
def mapS (f : D → Sto → Option (D × Sto)) : List D → Sto → Option (List D × Sto)
  | [], S => some ([], S)
  | d :: ds, S => (f d S).bind fun p => (mapS f ds p.2).map fun q => (p.1 :: q.1, q.2)
/-- from n0 on no list of it will change any more -/
def frzD (n0 : Nat) : Nat → D → Sto → Option (D × Sto)
  | 0, d, S => if d.pure then some (d, S) else none
  | k + 1, d, S => if d.pure then some (d, S) else match d with
    | .ref n => if n < n0 then some (d, S) else match S[n]? with
      | some (some (.lst ds)) => (mapS (frzD n0 k) ds (S.set n none)).map fun p => (.lst p.1, p.2)
      | _ => none
    | .tup ds => (mapS (frzD n0 k) ds S).map fun p => (.tup p.1, p.2)
    | .lst ds => (mapS (frzD n0 k) ds S).map fun p => (.lst p.1, p.2)
    | _ => none
section
variable {K : PySem.W.Frag} {H : Hp} {ρ : List Addr}
theorem mapS_ok {f : D → Sto → Option (D × Sto)} (hf : ∀ d S d' S' v, f d S = some (d', S') → RS K ρ H S → RelD K H (Al ρ S) ρ v d → RS K ρ H S' ∧ Up K ρ H S ρ H S' ∧ RelD K H (Al ρ S') ρ v d') :
    ∀ (ds : List D) (S : Sto) (es : List D) (S' : Sto) (vs : List V), mapS f ds S = some (es, S') → RS K ρ H S → RelL K H (Al ρ S) ρ vs ds → RS K ρ H S' ∧ Up K ρ H S ρ H S' ∧ RelL K H (Al ρ S') ρ vs es
  | [], S, es, S', vs, h, R, r => by
    cases h
    exact ⟨R, Up.refl, r⟩
  | d :: ds, S, es, S', vs, h, R, r => by
    obtain ⟨x, xs, rfl, r1, r2⟩ := r
    have h' : (f d S).bind (fun p => (mapS f ds p.2).map fun q => (p.1 :: q.1, q.2)) = some (es, S') := h
    cases e1 : f d S with
    | none => rw [e1] at h'; cases h'
    | some p =>
      obtain ⟨d', S1⟩ := p
      rw [e1] at h'
      obtain ⟨R1, U1, q1⟩ := hf d S d' S1 x e1 R r1
      cases e2 : mapS f ds S1 with
      | none => rw [Option.bind_some, e2] at h'; cases h'
      | some q =>
        obtain ⟨es', S2⟩ := q
        rw [Option.bind_some, e2] at h'
        cases h'
        obtain ⟨R2, U2, q2⟩ := mapS_ok hf ds S1 es' S2 xs e2 R1 (U1.relL r2)
        exact ⟨R2, U1.trans U2, RelL.cons (U2.relD q1) q2⟩
theorem frzD_ok {n0 : Nat} : ∀ (k : Nat) (d : D) (S : Sto) (d' : D) (S' : Sto) (v : V), frzD n0 k d S = some (d', S') → RS K ρ H S → RelD K H (Al ρ S) ρ v d → RS K ρ H S' ∧ Up K ρ H S ρ H S' ∧ RelD K H (Al ρ S') ρ v d'
  | 0, d, S, d', S', v, h, R, r => by
    simp only [frzD] at h
    split at h
    · cases h; exact ⟨R, Up.refl, r⟩
    · cases h
  | k + 1, d, S, d', S', v, h, R, r => by
    simp only [frzD] at h
    split at h
    · cases h; exact ⟨R, Up.refl, r⟩
    · cases d with
      | ref n =>
        simp only at h
        split at h
        · cases h; exact ⟨R, Up.refl, r⟩
        · split at h
          · rename_i ds hS
            cases e1 : mapS (frzD n0 k) ds (S.set n none) with
            | none => rw [e1] at h; cases h
            | some p =>
              obtain ⟨es, S1⟩ := p
              rw [e1] at h
              cases h
              obtain ⟨a, rfl, ha⟩ := r
              have fz := R.frozen hS ha
              obtain ⟨b, xs, e2, h1, h3⟩ := fz
              cases e2
              obtain ⟨R1, U1, q1⟩ := mapS_ok (fun d S d' S' v => frzD_ok k d S d' S' v) ds (S.set n none) es S1 xs e1 R.kill h3
              exact ⟨R1, Up.kill.trans U1, a, xs, rfl, U1.fz h1, q1⟩
          · cases h
      | tup ds =>
        simp only at h
        cases e1 : mapS (frzD n0 k) ds S with
        | none => rw [e1] at h; cases h
        | some p =>
          obtain ⟨es, S1⟩ := p
          rw [e1] at h
          cases h
          obtain ⟨a, xs, rfl, h1, h2⟩ := r
          obtain ⟨R1, U1, q1⟩ := mapS_ok (fun d S d' S' v => frzD_ok k d S d' S' v) ds S es S1 xs e1 R h2
          exact ⟨R1, U1, a, xs, rfl, U1.tup a xs h1, q1⟩
      | lst ds =>
        simp only at h
        cases e1 : mapS (frzD n0 k) ds S with
        | none => rw [e1] at h; cases h
        | some p =>
          obtain ⟨es, S1⟩ := p
          rw [e1] at h
          cases h
          obtain ⟨a, xs, rfl, h1, h3⟩ := r
          obtain ⟨R1, U1, q1⟩ := mapS_ok (fun d S d' S' v => frzD_ok k d S d' S' v) ds S es S1 xs e1 R h3
          exact ⟨R1, U1, a, xs, rfl, U1.fz h1, q1⟩
      | _ => cases h
/-! #### what a def has made goes -/
mutual
theorem bel_of {A : Addr → Prop} : ∀ (d : D) (v : V), RelD K H A ρ v d → d.bel ρ.length = true
  | .non, _, _ => rfl
  | .bl _, _, _ => rfl
  | .int _, _, _ => rfl
  | .str _, _, _ => rfl
  | .tup ds, _, ⟨_, xs, _, _, h⟩ => belL_of ds xs h
  | .lst ds, _, ⟨_, xs, _, _, h⟩ => belL_of ds xs h
  | .ref n, _, ⟨a, _, h⟩ => decide_eq_true (List.getElem?_eq_some_iff.mp h).1
theorem belL_of {A : Addr → Prop} : ∀ (ds : List D) (vs : List V), RelL K H A ρ vs ds → belL ρ.length ds = true
  | [], _, _ => rfl
  | d :: ds, _, ⟨x, xs, _, h1, h2⟩ => by
    show (d.bel ρ.length && belL ρ.length ds) = true
    rw [bel_of d x h1, belL_of ds xs h2]; rfl
end
mutual
theorem RelD.cut {A A' : Addr → Prop} {n : Nat} (hA : ∀ a, A' a → A a) : ∀ (d : D) (v : V), d.bel n = true → RelD K H A ρ v d → RelD K H A' (ρ.take n) v d
  | .non, _, _, h => h
  | .bl _, _, _, h => h
  | .int _, _, _, h => h
  | .str _, _, _, h => h
  | .tup ds, _, b, ⟨a, xs, e, h1, h2⟩ => ⟨a, xs, e, h1, RelL.cut hA ds xs b h2⟩
  | .lst ds, _, b, ⟨a, xs, e, h1, h3⟩ => ⟨a, xs, e, h1.imp (fun h => ⟨h.1, fun q => h.2 (hA a q)⟩) id, RelL.cut hA ds xs b h3⟩
  | .ref m, _, b, ⟨a, e, h⟩ => ⟨a, e, by rw [List.getElem?_take_of_lt (of_decide_eq_true b)]; exact h⟩
theorem RelL.cut {A A' : Addr → Prop} {n : Nat} (hA : ∀ a, A' a → A a) : ∀ (ds : List D) (vs : List V), belL n ds = true → RelL K H A ρ vs ds → RelL K H A' (ρ.take n) vs ds
  | [], _, _, h => h
  | d :: ds, _, b, ⟨x, xs, e, h1, h2⟩ => by
    have b' : (d.bel n && belL n ds) = true := b
    obtain ⟨b1, b2⟩ := Bool.and_eq_true_iff.mp b'
    exact ⟨x, xs, e, RelD.cut hA d x b1 h1, RelL.cut hA ds xs b2 h2⟩
end
theorem al_take {S : Sto} {n : Nat} {a : Addr} (h : Al (ρ.take n) (S.take n) a) : Al ρ S a := by
  obtain ⟨m, o, h1, h2⟩ := h
  rw [List.getElem?_take] at h1 h2
  split at h1
  · rename_i hm
    rw [if_pos hm] at h2
    exact ⟨m, o, h1, h2⟩
  · cases h1
theorem RS.take {S : Sto} {n : Nat} (R : RS K ρ H S) (h : ∀ (i : Nat) (o : Ob), i < n → S[i]? = some (some o) → o.bel n = true) : RS K (ρ.take n) H (S.take n) := by
  have sub : ∀ {m : Nat} {β : Type} {l : List β} {x : β}, (l.take n)[m]? = some x → m < n ∧ l[m]? = some x := fun {m β l x} e => by
    rw [List.getElem?_take] at e
    split at e
    · rename_i hm; exact ⟨hm, e⟩
    · cases e
  refine ⟨by rw [List.length_take, List.length_take, R.len], fun m o a h1 h2 => ?_, fun m k o o' a h1 h2 h3 h4 => R.inj m k o o' a (sub h1).2 (sub h2).2 (sub h3).2 (sub h4).2⟩
  obtain ⟨hm, h1'⟩ := sub h1
  have b := h m o hm h1'
  have q := R.obj m o a h1' (sub h2).2
  obtain ⟨xs, e, r⟩ := q
  exact ⟨xs, e, RelL.cut (fun a q => al_take q) o.pay xs b r⟩
end
open Classical in
/-- what was made from n = S0.length on goes, where nothing that stays speaks of it -/
noncomputable def trunc (S0 : Sto) (S : Sto) : Sto := if S.take S0.length = S0 ∨ ∀ (i : Nat) (o : Ob), i < S0.length → S[i]? = some (some o) → S0[i]? = some (some o) ∨ o.bel S0.length = true then S.take S0.length else S
noncomputable def scope (S0 : Sto) (r : Res D) : Res D := match r with
  | .ok d S => match frzD S0.length 9 d S with
    | some (d', S') => if d'.bel S0.length then .ok d' (trunc S0 S') else .ok d' S'
    | none => .ok d S
  | .exc c fs S => if fs.all (fun p => p.2.pure) then .exc c fs (trunc S0 S) else .exc c fs S
  | .err => .err
/-- the body at the arguments' values -/
def run (n : Nat) (body : SM) (ds : List D) (S : Sto) : Res D := match body (ds.map some ++ List.replicate (n - ds.length) none) S with
  | .nx _ S' => .ok .non S'
  | .ret d S' => .ok d S'
  | .exc c fs _ S' => .exc c fs S'
  | _ => .err
noncomputable def fn (n : Nat) (body : SM) (ds : List D) (S : Sto) : Res D := scope S (run n body ds S)
section
variable {K : PySem.W.Frag} {mg : Str → Option Value} {H H0 : Hp} {ρ ρ0 : List Addr} {S S0 : Sto}
theorem take_old (R0 : RS K ρ0 H0 S0) (h : S.take S0.length = S0) (i : Nat) (o : Ob) (hi : i < S0.length) (e : S[i]? = some (some o)) : S0[i]? = some (some o) := by
  rw [← h, List.getElem?_take_of_lt hi]; exact e
theorem trunc_ok (R0 : RS K ρ0 H0 S0) (U : Up K ρ0 H0 S0 ρ H S) (R : RS K ρ H S) : ∃ ρ', RS K ρ' H (trunc S0 S) ∧ Up K ρ0 H0 S0 ρ' H (trunc S0 S) ∧ (∀ (d : D) v, d.bel S0.length = true → RelD K H (Al ρ S) ρ v d → RelD K H (Al ρ' (trunc S0 S)) ρ' v d) := by
  unfold trunc
  split
  · rename_i hc
    have old : ∀ (i : Nat) (o : Ob), i < S0.length → S[i]? = some (some o) → S0[i]? = some (some o) ∨ o.bel S0.length = true := by
      rcases hc with hc | hc
      · exact fun i o hi e => .inl (take_old R0 hc i o hi e)
      · exact hc
    refine ⟨ρ.take S0.length, R.take fun i o hi e => ?_, ⟨fun m a h => ?_, fun a u h nb => ⟨(U.ext a u h nb).1, fun q => (U.ext a u h nb).2 (al_take q)⟩, U.tup⟩, fun d v b r => RelD.cut (fun a q => al_take q) d v b r⟩
    · rcases old i o hi e with h | h
      · have hi' : i < ρ0.length := by rw [R0.len]; exact hi
        have q := R0.obj i o ρ0[i] h (List.getElem?_eq_getElem hi')
        obtain ⟨xs, _, r⟩ := q
        have := belL_of o.pay xs r
        rw [R0.len] at this
        exact this
      · exact h
    · rw [List.getElem?_take_of_lt (by rw [← R0.len]; exact (List.getElem?_eq_some_iff.mp h).1)]
      exact U.pre m a h
  · exact ⟨ρ, R, U, fun d v _ r => r⟩
theorem scope_ok {r : Res D} {Q : VK} {E : XK} (R0 : RS K ρ0 H0 S0) (h : wpM (scope S0 r) (PostV K ρ0 H0 S0 Q) (fun c fs S' => ∀ ρ' H' cls dx, RS K ρ' H' S' → Up K ρ0 H0 S0 ρ' H' S' → ExcR K mg H' (Al ρ' S') ρ' c fs cls dx → E cls dx H')) :
    wpM r (PostV K ρ0 H0 S0 Q) (fun c fs S' => ∀ ρ' H' cls dx, RS K ρ' H' S' → Up K ρ0 H0 S0 ρ' H' S' → ExcR K mg H' (Al ρ' S') ρ' c fs cls dx → E cls dx H') := by
  cases r with
  | err => exact h
  | exc c fs S =>
    simp only [scope] at h
    split at h
    · rename_i hp
      intro ρ' H' cls dx R U x
      obtain ⟨ρ'', R2, U2, k⟩ := trunc_ok R0 U R
      obtain ⟨C, dd, ys, h1, h2, h3, h4, h5⟩ := x
      refine h ρ'' H' cls dx R2 U2 ⟨C, dd, ys, h1, h2, h3, h4, fun p hp' => ?_⟩
      obtain ⟨v, e, r⟩ := h5 p hp'
      exact ⟨v, e, k _ _ (bel_of_pure _ (List.all_eq_true.mp hp p hp')) r⟩
    · exact h
  | ok d S =>
    simp only [scope] at h
    intro ρ' v H' R U r
    split at h
    · rename_i d' S' e
      obtain ⟨R1, U1, r1⟩ := frzD_ok _ d S d' S' v e R r
      split at h
      · rename_i hb
        obtain ⟨ρ'', R2, U2, k⟩ := trunc_ok R0 (U.trans U1) R1
        exact h ρ'' v H' R2 U2 (k _ _ hb r1)
      · exact h ρ' v H' R1 (U.trans U1) r1
    · exact h ρ' v H' R U r
end
section
variable {P : Program} {w : World} {K : PySem.W.Frag} {mg : Str → Option Value} {base : Heap}
theorem rv_start {ρ : List Addr} {H : Hp} {S : Sto} {N : List Str} {vs : List V} {ds : List D} (r : RelL K H (Al ρ S) ρ vs ds) : RV K ρ (L2.start N vs) H S (ds.map some ++ List.replicate (N.length - ds.length) none) := by
  have hl := r.length
  refine ⟨by simp [L2.start, hl], fun i d e => ?_⟩
  have hi : i < ds.length := by
    by_cases hi : i < ds.length
    · exact hi
    · rw [List.getElem?_append_right (by simpa using hi), List.getElem?_replicate] at e
      split at e <;> cases e
  rw [List.getElem?_append_left (by simpa using hi), List.getElem?_map] at e
  have e' : ds[i]? = some d := by
    cases q : ds[i]? with
    | none => rw [q] at e; cases e
    | some z => rw [q] at e; cases e; rfl
  obtain ⟨v, h1, h2⟩ := r.get e'
  refine ⟨v, ?_, h2⟩
  unfold L2.start
  rw [List.getElem?_append_left (by simp; omega), List.getElem?_map, h1]; rfl
/-- THE RULE for a def whose body has the mirror m -/
theorem okM {x qual : Str} {st : Stmt} {f : Addr} {fd : FuncData} {N ps : List Str} {k : Nat} {m : SM} {g : List D → Sto → Res D} (F : Fun K x qual st f fd) (Sc : FnScope N ps (defScope st))
    (hg : ∀ (ρ : List Addr) (H : Hp) (S : Sto) (ds : List D) (Q : VK) (E : XK), RS K ρ H S → wpM (g ds S) (PostV K ρ H S Q) (fun c fs S' => ∀ ρ' H' cls dx, RS K ρ' H' S' → Up K ρ H S ρ' H' S' → ExcR K mg H' (Al ρ' S') ρ' c fs cls dx → E cls dx H') →
      wpM (run N.length m ds S) (PostV K ρ H S Q) (fun c fs S' => ∀ ρ' H' cls dx, RS K ρ' H' S' → Up K ρ H S ρ' H' S' → ExcR K mg H' (Al ρ' S') ρ' c fs cls dx → E cls dx H'))
    (hb : ∀ (cdv : Value) (A : Around) (outer : List Env) (s : Shared) (H : Hp) (E : XK), Room k (A.deeper (PyProof.Rows.envOfC qual (defScope st) s.heap.objs.size f cdv)) →
      PSs (cxOf (L2.CX P w) P w K mg base N qual (defScope st) f cdv A outer s H E) (defBody st) (tS K mg (fun cls d _ H => E cls d H) m)) : FnOk P w K mg base (L2.CX P w) (k + 1) f fd ps (spM K mg ps.length g) := by
  refine F.okX Sc (fun vs H Q E h => h.1) fun cdv A outer s H vs Q E hr h => ?_
  refine ⟨_, hb cdv A outer s H E hr, ?_⟩
  obtain ⟨hl, ρ, S, ds, R, r, w0⟩ := h
  have w1 := hg ρ H S ds Q E R w0
  refine ⟨ρ, _, S, R, rv_start r, ?_⟩
  unfold run at w1
  split at w1
  · rename_i e1; rw [e1]; exact fun ρ' σ' H' r v u => w1 ρ' .non H' r u rfl
  · rename_i e1; rw [e1]; exact w1
  · rename_i e1; rw [e1]; exact fun ρ' σ' H' cls dx r v u x => w1 ρ' H' cls dx r u x
  · exact w1.elim
theorem ok_fn {x qual : Str} {st : Stmt} {f : Addr} {fd : FuncData} {N ps : List Str} {k n : Nat} {m : SM} (F : Fun K x qual st f fd) (Sc : FnScope N ps (defScope st)) (hn : N.length = n)
    (hb : ∀ (cdv : Value) (A : Around) (outer : List Env) (s : Shared) (H : Hp) (E : XK), Room k (A.deeper (PyProof.Rows.envOfC qual (defScope st) s.heap.objs.size f cdv)) →
      PSs (cxOf (L2.CX P w) P w K mg base N qual (defScope st) f cdv A outer s H E) (defBody st) (tS K mg (fun cls d _ H => E cls d H) m)) : FnOk P w K mg base (L2.CX P w) (k + 1) f fd ps (spM K mg ps.length (fn n m)) := by
  subst hn
  exact okM F Sc (fun ρ H S ds Q E R h => scope_ok R h) hb
/-- .. that hands back what may change -/
theorem ok_run {x qual : Str} {st : Stmt} {f : Addr} {fd : FuncData} {N ps : List Str} {k n : Nat} {m : SM} (F : Fun K x qual st f fd) (Sc : FnScope N ps (defScope st)) (hn : N.length = n)
    (hb : ∀ (cdv : Value) (A : Around) (outer : List Env) (s : Shared) (H : Hp) (E : XK), Room k (A.deeper (PyProof.Rows.envOfC qual (defScope st) s.heap.objs.size f cdv)) →
      PSs (cxOf (L2.CX P w) P w K mg base N qual (defScope st) f cdv A outer s H E) (defBody st) (tS K mg (fun cls d _ H => E cls d H) m)) : FnOk P w K mg base (L2.CX P w) (k + 1) f fd ps (spM K mg ps.length (run n m)) := by
  subst hn
  exact okM F Sc (fun ρ H S ds Q E R h => h) hb
end
end Y

end
section
set_option Elab.async false
set_option linter.all false
set_option maxRecDepth 100000
set_option maxHeartbeats 4000000
set_option autoImplicit false
namespace Y
open PySem PySem.Spec L2

/-! ### arithmetic -/
def o_add (_ : Sto) : D → D → Option D
  | .int i, .int j => some (.int (i + j))
  | .str a, .str b => if a.length + b.length ≤ sizeLine then some (.str (a ++ b)) else none
  | .tup a, .tup b => if a.length + b.length ≤ sizeLine then some (.tup (a ++ b)) else none
  | _, _ => none
def o_sub (_ : Sto) : D → D → Option D
  | .int i, .int j => some (.int (i - j))
  | _, _ => none
open Classical in
noncomputable def o_mul (_ : Sto) : D → D → Option D
  | .int i, .int j => if IntMulOk i j then some (.int (i * j)) else none
  | _, _ => none
def o_fdiv (_ : Sto) : D → D → Option D
  | .int i, .int j => if 0 < j ∧ j < 1073741824 then some (.int (i / j)) else none
  | _, _ => none
def o_mod (_ : Sto) : D → D → Option D
  | .int i, .int j => if 0 < j then some (.int (i % j)) else none
  | _, _ => none
def o_pow (_ : Sto) : D → D → Option D
  | .int i, .int j => if 0 ≤ j ∧ j ≤ 1000000 ∧ i.natAbs < 2 ^ 64 then some (.int (i ^ j.toNat)) else none
  | _, _ => none
def o_shl (_ : Sto) : D → D → Option D
  | .int i, .int j => if 0 ≤ j ∧ j ≤ 1000000 ∧ i.natAbs < 2 ^ 64 then some (.int (i * 2 ^ j.toNat)) else none
  | _, _ => none
def o_neg (_ : Sto) : D → Option D
  | .int i => some (.int (-i))
  | _ => none
def o_cmp (f : Int → Int → Bool) (_ : Sto) : D → D → Option D
  | .int i, .int j => some (.bl (f i j))
  | _, _ => none
section
variable {K : PySem.W.Frag}
theorem os_int {r : R2} {f : Sto → D → D → Option D} {C : Int → Int → Prop} {g : Int → Int → V} {h : Int → Int → D}
    (hf : ∀ S x y d, f S x y = some d → ∃ i j, x = .int i ∧ y = .int j ∧ C i j ∧ d = h i j) (hr : ∀ i j H Q, C i j → Q (g i j) H → r (.int i) (.int j) H Q) (hd : ∀ i j H A ρ, RelD K H A ρ (g i j) (h i j)) : OpS K r f := by
  intro ρ H S x y d v u Q R r1 r2 e q
  obtain ⟨i, j, rfl, rfl, c, rfl⟩ := hf S x y d e
  have r1' : v = .int i := r1
  have r2' : u = .int j := r2
  subst r1' r2'
  exact hr i j H Q c (q _ H (Same.refl H) (hd _ _ _ _ _))
theorem os_sub : OpS K (rI0 fun i j => .int (i - j)) o_sub := os_int (C := fun _ _ => True) (h := fun i j => .int (i - j)) (fun S x y d e => by
  cases x <;> cases y <;> first | (cases e; exact ⟨_, _, rfl, rfl, trivial, rfl⟩) | cases e) (fun i j H Q _ q => ⟨i, j, rfl, rfl, q⟩) fun _ _ _ _ _ => rfl
theorem os_mul : OpS K (rI IntMulOk fun i j => .int (i * j)) o_mul := os_int (C := IntMulOk) (h := fun i j => .int (i * j)) (fun S x y d e => by
  cases x <;> cases y <;> first | (simp only [o_mul] at e; split at e <;> first | (cases e; exact ⟨_, _, rfl, rfl, by assumption, rfl⟩) | cases e) | cases e) (fun i j H Q c q => ⟨i, j, rfl, rfl, c, q⟩) fun _ _ _ _ _ => rfl
theorem op_mulG {X : Cx} : OpR X (binaryOp .Mult) (rI IntMulOk fun i j => .int (i * j)) := opI fun _ _ _ _ _ _ _ hc q => PyProof.Rows.mul_int q hc
theorem os_fdiv : OpS K (rI CDiv fun i j => .int (i / j)) o_fdiv := os_int (C := CDiv) (h := fun i j => .int (i / j)) (fun S x y d e => by
  cases x <;> cases y <;> first | (simp only [o_fdiv] at e; split at e <;> first | (cases e; exact ⟨_, _, rfl, rfl, by assumption, rfl⟩) | cases e) | cases e) (fun i j H Q c q => ⟨i, j, rfl, rfl, c, q⟩) fun _ _ _ _ _ => rfl
theorem os_mod : OpS K (rI (fun _ j => 0 < j) fun i j => .int (i % j)) o_mod := os_int (C := fun _ j => 0 < j) (h := fun i j => .int (i % j)) (fun S x y d e => by
  cases x <;> cases y <;> first | (simp only [o_mod] at e; split at e <;> first | (cases e; exact ⟨_, _, rfl, rfl, by assumption, rfl⟩) | cases e) | cases e) (fun i j H Q c q => ⟨i, j, rfl, rfl, c, q⟩) fun _ _ _ _ _ => rfl
theorem os_pow : OpS K (rI CPow fun i j => .int (i ^ j.toNat)) o_pow := os_int (C := CPow) (h := fun i j => .int (i ^ j.toNat)) (fun S x y d e => by
  cases x <;> cases y <;> first | (simp only [o_pow] at e; split at e <;> first | (cases e; exact ⟨_, _, rfl, rfl, by assumption, rfl⟩) | cases e) | cases e) (fun i j H Q c q => ⟨i, j, rfl, rfl, c, q⟩) fun _ _ _ _ _ => rfl
theorem os_shl : OpS K (rI CPow fun i j => .int (i * 2 ^ j.toNat)) o_shl := os_int (C := CPow) (h := fun i j => .int (i * 2 ^ j.toNat)) (fun S x y d e => by
  cases x <;> cases y <;> first | (simp only [o_shl] at e; split at e <;> first | (cases e; exact ⟨_, _, rfl, rfl, by assumption, rfl⟩) | cases e) | cases e) (fun i j H Q c q => ⟨i, j, rfl, rfl, c, q⟩) fun _ _ _ _ _ => rfl
theorem os_cmp {f : Int → Int → Bool} : OpS K (rI0 fun i j => .bl (f i j)) (o_cmp f) := os_int (C := fun _ _ => True) (h := fun i j => .bl (f i j)) (fun S x y d e => by
  cases x <;> cases y <;> first | (cases e; exact ⟨_, _, rfl, rfl, trivial, rfl⟩) | cases e) (fun i j H Q _ q => ⟨i, j, rfl, rfl, q⟩) fun _ _ _ _ _ => rfl
abbrev o_lt := o_cmp fun i j => decide (i < j)
abbrev o_gt := o_cmp fun i j => decide (j < i)
abbrev o_ge := o_cmp fun i j => decide (j ≤ i)
abbrev o_leI := o_cmp fun i j => decide (i ≤ j)
theorem us_neg : UnS K (rU fun i => .int (-i)) o_neg := by
  intro ρ H S x d v Q R r1 e q
  cases x with
  | int i =>
    cases e
    have r1' : v = .int i := r1
    subst r1'
    exact ⟨i, rfl, q _ H (Same.refl H) rfl⟩
  | _ => cases e
/-! + -/
def rAddS : R2 := fun x y H Q => ∃ i j, x = .str i ∧ y = .str j ∧ i.length + j.length ≤ sizeLine ∧ Q (.str (i ++ j)) H
def rAddA (K : PySem.W.Frag) : R2 := fun x y H Q => (rI0 (fun i j => .int (i + j)) x y H Q ∨ rAddS x y H Q) ∨ rCatA K x y H Q
theorem op_addA {X : Cx} : OpR X (binaryOp .Add) (rAddA X.K) := (op_add.or op_add_str).or op_catA
theorem os_add : OpS K (rAddA K) o_add := by
  intro ρ H S x y d v u Q R r1 r2 e q
  cases x with
  | int i =>
    cases y with
    | int j =>
      cases e
      have r1' : v = .int i := r1
      have r2' : u = .int j := r2
      subst r1' r2'
      exact .inl (.inl ⟨i, j, rfl, rfl, q _ H (Same.refl H) rfl⟩)
    | _ => cases e
  | str a =>
    cases y with
    | str b =>
      simp only [o_add] at e
      split at e
      · rename_i hl
        cases e
        have r1' : v = .str a := r1
        have r2' : u = .str b := r2
        subst r1' r2'
        exact .inl (.inr ⟨a, b, rfl, rfl, hl, q _ H (Same.refl H) rfl⟩)
      · cases e
    | _ => cases e
  | tup a =>
    cases y with
    | tup b =>
      simp only [o_add] at e
      split at e
      · rename_i hl
        cases e
        obtain ⟨p, xs, rfl, h1, k1⟩ := r1
        obtain ⟨p2, ys, rfl, h2, k2⟩ := r2
        have l1 := k1.length
        have l2 := k2.length
        refine .inr ⟨p, p2, xs, ys, rfl, rfl, h1, h2, by rw [l1, l2]; exact hl, fun z => ?_, fun z1 z2 => ?_, fun z1 z2 n np => ?_⟩
        · have za : a = [] := by cases a with
            | nil => rfl
            | cons => rw [z] at l1; cases l1
          subst za
          exact q _ H (Same.refl H) ⟨p2, ys, rfl, h2, k2⟩
        · have zb : b = [] := by cases b with
            | nil => rfl
            | cons => rw [z2] at l2; cases l2
          subst zb
          rw [List.append_nil] at q
          exact q _ H (Same.refl H) ⟨p, xs, rfl, h1, k1⟩
        · have s : Same H (upd H n (.tup (xs ++ ys))) := same_new np
          exact q _ _ s ⟨n, xs ++ ys, rfl, TupT.of upd_same, (Up.same (K := K) (ρ := ρ) (S := S) s).relL (k1.append k2)⟩
      · cases e
    | _ => cases e
  | _ => cases e

/-! ### comparisons -/
mutual
def toP : D → Option PyData
  | .non => some .none
  | .bl b => some (.bool b)
  | .int i => some (.int i)
  | .str s => some (.str s)
  | .tup ds => (toPL ds).map .tuple
  | .lst ds => (toPL ds).map .list
  | .ref _ => none
def toPL : List D → Option (List PyData)
  | [] => some []
  | d :: ds => (toP d).bind fun p => (toPL ds).map fun ps => p :: ps
end
/-- a list that may change, of data -/
def toPS (S : Sto) : D → Option PyData
  | .ref n => match S[n]? with
    | some (some (.lst ds)) => (toPL ds).map .list
    | _ => none
  | d => toP d
section
variable {H : Hp} {A : Addr → Prop} {ρ : List Addr}
mutual
theorem dp_of : ∀ (d : D) (p : PyData) (v : V), toP d = some p → RelD K H A ρ v d → Dp K H v p
  | .non, p, v, h, r => by
    have h' : some PyData.none = some p := h
    have r' : v = .non := r
    cases h'; subst r'; exact .non
  | .bl b, p, v, h, r => by
    have h' : some (PyData.bool b) = some p := h
    have r' : v = .bl b := r
    cases h'; subst r'; exact .bl b
  | .int i, p, v, h, r => by
    have h' : some (PyData.int i) = some p := h
    have r' : v = .int i := r
    cases h'; subst r'; exact .int i
  | .str s, p, v, h, r => by
    have h' : some (PyData.str s) = some p := h
    have r' : v = .str s := r
    cases h'; subst r'; exact .str s
  | .tup ds, p, v, h, r => by
    have h' : (toPL ds).map PyData.tuple = some p := h
    obtain ⟨ps, e, rfl⟩ := Option.map_eq_some_iff.mp h'
    obtain ⟨a, xs, rfl, h1, h2⟩ := r
    exact .tup h1 (dpAll_of ds ps xs e h2)
  | .lst ds, p, v, h, r => by
    have h' : (toPL ds).map PyData.list = some p := h
    obtain ⟨ps, e, rfl⟩ := Option.map_eq_some_iff.mp h'
    obtain ⟨a, xs, rfl, h1, h2⟩ := r
    exact .lst h1.sq (dpAll_of ds ps xs e h2)
  | .ref n, p, v, h, r => by
    have h' : none = some p := h
    cases h'
theorem dpAll_of : ∀ (ds : List D) (ps : List PyData) (vs : List V), toPL ds = some ps → RelL K H A ρ vs ds → DpAll K H vs ps
  | [], ps, vs, h, r => by
    have h' : some [] = some ps := h
    have r' : vs = [] := r
    cases h'; subst r'; exact .nil
  | d :: ds, ps, vs, h, r => by
    have h' : (toP d).bind (fun p => (toPL ds).map fun ps => p :: ps) = some ps := h
    obtain ⟨p, e1, h2⟩ := Option.bind_eq_some_iff.mp h'
    obtain ⟨qs, e2, rfl⟩ := Option.map_eq_some_iff.mp h2
    obtain ⟨x, xs, rfl, k1, k2⟩ := r
    exact .cons (dp_of d p x e1 k1) (dpAll_of ds qs xs e2 k2)
end
end
theorem dpS_of {ρ : List Addr} {H : Hp} {S : Sto} {d : D} {p : PyData} {v : V} (R : RS K ρ H S) (h : toPS S d = some p) (r : RelD K H (Al ρ S) ρ v d) : Dp K H v p := by
  cases d with
  | ref n =>
    simp only [toPS] at h
    split at h
    · rename_i ds hS
      obtain ⟨ps, e, rfl⟩ := Option.map_eq_some_iff.mp h
      obtain ⟨a, rfl, ha⟩ := r
      obtain ⟨xs, e1, r1⟩ := R.obj n _ a hS ha
      exact .lst (.inl (.inl e1)) (dpAll_of ds ps xs e r1)
    · cases h
  | _ => exact dp_of _ p v h r
def o_eq (S : Sto) (x y : D) : Option D := (toPS S x).bind fun p => (toPS S y).bind fun q => if (SeqAt.shaped p && SeqAt.shaped q) = true then some (.bl (PyData.eqv p q)) else none
def o_ne (S : Sto) (x y : D) : Option D := (toPS S x).bind fun p => (toPS S y).bind fun q => if (SeqAt.shaped p && SeqAt.shaped q) = true then some (.bl (!PyData.eqv p q)) else none
theorem os_eq : OpS K (rEqD K) o_eq := by
  intro ρ H S x y d v u Q R r1 r2 e q
  obtain ⟨p, e1, e2⟩ := Option.bind_eq_some_iff.mp e
  obtain ⟨p2, e3, e4⟩ := Option.bind_eq_some_iff.mp e2
  split at e4
  · rename_i h
    cases e4
    obtain ⟨h1, h2⟩ := Bool.and_eq_true_iff.mp h
    exact ⟨p, p2, dpS_of R e1 r1, dpS_of R e3 r2, h1, h2, q _ H (Same.refl H) rfl⟩
  · cases e4
theorem os_ne : OpS K (rNeD K) o_ne := by
  intro ρ H S x y d v u Q R r1 r2 e q
  obtain ⟨p, e1, e2⟩ := Option.bind_eq_some_iff.mp e
  obtain ⟨p2, e3, e4⟩ := Option.bind_eq_some_iff.mp e2
  split at e4
  · rename_i h
    cases e4
    obtain ⟨h1, h2⟩ := Bool.and_eq_true_iff.mp h
    exact ⟨p, p2, dpS_of R e1 r1, dpS_of R e3 r2, h1, h2, q _ H (Same.refl H) rfl⟩
  · cases e4
/-! is None -/
def D.isN : D → Bool
  | .non => true
  | _ => false
def o_is (_ : Sto) (x y : D) : Option D := if y.isN then some (.bl x.isN) else none
def o_isnot (_ : Sto) (x y : D) : Option D := if y.isN then some (.bl (!x.isN)) else none
theorem isN_rel {H : Hp} {A : Addr → Prop} {ρ : List Addr} {v : V} {d : D} (r : RelD K H A ρ v d) : decide (v = .non) = d.isN := by
  cases d with
  | non => have r' : v = .non := r; subst r'; rfl
  | bl b => have r' : v = .bl b := r; subst r'; rfl
  | int b => have r' : v = .int b := r; subst r'; rfl
  | str b => have r' : v = .str b := r; subst r'; rfl
  | tup ds => obtain ⟨a, xs, rfl, _⟩ := r; rfl
  | lst ds => obtain ⟨a, xs, rfl, _⟩ := r; rfl
  | ref n => obtain ⟨a, rfl, _⟩ := r; rfl
theorem non_of {H : Hp} {A : Addr → Prop} {ρ : List Addr} {v : V} {d : D} (r : RelD K H A ρ v d) (h : d.isN = true) : v = .non := of_decide_eq_true ((isN_rel r).trans h)
theorem os_is : OpS K (fun x y H Q => y = .non ∧ Q (.bl (decide (x = .non))) H) o_is := by
  intro ρ H S x y d v u Q R r1 r2 e q
  simp only [o_is] at e
  split at e
  · rename_i h
    cases e
    exact ⟨non_of r2 h, q _ H (Same.refl H) (by rw [isN_rel r1]; rfl)⟩
  · cases e
theorem os_isnot : OpS K (fun x y H Q => y = .non ∧ Q (.bl (!decide (x = .non))) H) o_isnot := by
  intro ρ H S x y d v u Q R r1 r2 e q
  simp only [o_isnot] at e
  split at e
  · rename_i h
    cases e
    exact ⟨non_of r2 h, q _ H (Same.refl H) (by rw [isN_rel r1]; rfl)⟩
  · cases e
/-! in -/
def inStr (x y : Str) : Bool := !(Builtin.Str.occurrences y x 0 y.length 1).isEmpty
def o_inS (neg : Bool) (_ : Sto) : D → D → Option D
  | .str x, .str y => some (.bl (if neg then !inStr x y else inStr x y))
  | _, _ => none
theorem os_inS : OpS K (fun x y H Q => ∃ i j, x = .str i ∧ y = .str j ∧ Q (.bl (!(Builtin.Str.occurrences j i 0 j.length 1).isEmpty)) H) (o_inS false) := by
  intro ρ H S x y d v u Q R r1 r2 e q
  cases x <;> cases y <;> first | (cases e; rename_i a b; exact ⟨a, b, r1, r2, q _ H (Same.refl H) rfl⟩) | cases e
theorem os_ninS : OpS K (fun x y H Q => ∃ i j, x = .str i ∧ y = .str j ∧ Q (.bl (!(!(Builtin.Str.occurrences j i 0 j.length 1).isEmpty))) H) (o_inS true) := by
  intro ρ H S x y d v u Q R r1 r2 e q
  cases x <;> cases y <;> first | (cases e; rename_i a b; exact ⟨a, b, r1, r2, q _ H (Same.refl H) rfl⟩) | cases e
/-- in a list -/
def o_inL (neg : Bool) (S : Sto) (x y : D) : Option D := (toP x).bind fun p => (toPS S y).bind fun q => match q with
  | .list ps => if (SeqAt.shaped p && SeqAt.shaped (.list ps)) = true then some (.bl (if neg then !(ps.any fun z => PyData.eqv z p) else ps.any fun z => PyData.eqv z p)) else none
  | _ => none
theorem os_inL : OpS K (rInD K) (o_inL false) := by
  intro ρ H S x y d v u Q R r1 r2 e q
  obtain ⟨p, e1, e2⟩ := Option.bind_eq_some_iff.mp e
  obtain ⟨p2, e3, e4⟩ := Option.bind_eq_some_iff.mp e2
  cases p2 with
  | list ps =>
    simp only at e4
    split at e4
    · rename_i h
      cases e4
      obtain ⟨h1, h2⟩ := Bool.and_eq_true_iff.mp h
      exact ⟨p, ps, dp_of _ _ _ e1 r1, dpS_of R e3 r2, h1, h2, q _ H (Same.refl H) rfl⟩
    · cases e4
  | _ => cases e4
theorem os_ninL : OpS K (rNotInD K) (o_inL true) := by
  intro ρ H S x y d v u Q R r1 r2 e q
  obtain ⟨p, e1, e2⟩ := Option.bind_eq_some_iff.mp e
  obtain ⟨p2, e3, e4⟩ := Option.bind_eq_some_iff.mp e2
  cases p2 with
  | list ps =>
    simp only at e4
    split at e4
    · rename_i h
      cases e4
      obtain ⟨h1, h2⟩ := Bool.and_eq_true_iff.mp h
      exact ⟨p, ps, dp_of _ _ _ e1 r1, dpS_of R e3 r2, h1, h2, q _ H (Same.refl H) rfl⟩
    · cases e4
  | _ => cases e4
/-! <= of ints, texts, tuples of these -/
def sameK : D → D → Bool
  | .int _, .int _ => true
  | .str _, .str _ => true
  | _, _ => false
def strLe (a b : Str) : Bool := !(decide (b.cps.toList < a.cps.toList))
def eq1 : D → D → Bool
  | .int i, .int j => i == j
  | .str a, .str b => a == b
  | _, _ => false
def le1 : D → D → Bool
  | .int i, .int j => decide (i ≤ j)
  | .str a, .str b => strLe a b
  | _, _ => false
def leT : List D → List D → Bool
  | [], _ => true
  | _ :: _, [] => false
  | x :: xs, y :: ys => if eq1 x y = true then leT xs ys else le1 x y
def o_le (_ : Sto) : D → D → Option D
  | .int i, .int j => some (.bl (decide (i ≤ j)))
  | .str a, .str b => some (.bl (strLe a b))
  | .tup xs, .tup ys => if ((xs.zip ys).all fun p => sameK p.1 p.2) = true then some (.bl (leT xs ys)) else none
  | _, _ => none
def rLeA (K : PySem.W.Frag) : R2 := fun x y H Q => rI0 (fun i j => .bl (decide (i ≤ j))) x y H Q ∨ (∃ i j, x = .str i ∧ y = .str j ∧ Q (.bl (strLe i j)) H) ∨
  ∃ (a b : Addr) (xs ys : List V) (e r : Nat → Bool), x = .ref a ∧ y = .ref b ∧ SqT K H a xs ∧ SqT K H b ys ∧
    (∀ (j : Nat) (u w : V), xs[j]? = some u → ys[j]? = some w → (∃ m n, u = .int m ∧ w = .int n ∧ e j = (m == n) ∧ r j = decide (m ≤ n)) ∨ ∃ m n, u = .str m ∧ w = .str n ∧ e j = (m == n) ∧ r j = strLe m n) ∧
    Q (.bl (Ob.lexAt e r (decide (xs.length ≤ ys.length)) 0 (min xs.length ys.length))) H
theorem op_leA {X : Cx} (hu : X.A.units < cLine) : OpR X (compareOp .LtE) (rLeA X.K) := by
  intro pins s σ H x y v u Q I rx ry h
  rcases h with h | h | h
  · exact op_le pins s σ H x y v u Q I rx ry h
  · obtain ⟨i, j, rfl, rfl, q⟩ := h
    obtain ⟨t, rfl⟩ := rx
    obtain ⟨t', rfl⟩ := ry
    exact PySem.P.le_str ⟨.bl _, H, I, rfl, q⟩
  · obtain ⟨a, b, xs, ys, e, r, rfl, rfl, ha, hb, hk, q⟩ := h
    cases rx
    cases ry
    obtain ⟨its, r1, p1, _⟩ := I.tuple ha
    obtain ⟨its2, r2, p2, _⟩ := I.tuple hb
    have e1 : its.toArray.size = xs.length := by rw [List.size_toArray]; exact r1.length.symm
    have e2 : its2.toArray.size = ys.length := by rw [List.size_toArray]; exact r2.length.symm
    have at1 : ∀ j (h1 : j < its.toArray.size), ∃ z, xs[j]? = some z ∧ RelV z its.toArray[j] := fun j h1 => by
      have hx : xs[j]? = some (xs[j]'(by omega)) := List.getElem?_eq_getElem (by omega)
      obtain ⟨w, hw, rw'⟩ := r1.get hx
      refine ⟨_, hx, ?_⟩
      have : its.toArray[j] = w := by
        have h1' : j < its.length := by simpa using h1
        rw [List.getElem?_eq_getElem h1'] at hw
        simpa using Option.some.inj hw
      rw [this]; exact rw'
    have at2 : ∀ j (h1 : j < its2.toArray.size), ∃ z, ys[j]? = some z ∧ RelV z its2.toArray[j] := fun j h1 => by
      have hx : ys[j]? = some (ys[j]'(by omega)) := List.getElem?_eq_getElem (by omega)
      obtain ⟨w, hw, rw'⟩ := r2.get hx
      refine ⟨_, hx, ?_⟩
      have : its2.toArray[j] = w := by
        have h1' : j < its2.length := by simpa using h1
        rw [List.getElem?_eq_getElem h1'] at hw
        simpa using Option.some.inj hw
      rw [this]; exact rw'
    have R := Ob.RcOp.tuples_le (A := X.A) (s := s) (e := e) (r := r) p1 p2 hu (fun j h1 h2 => by
      obtain ⟨z1, g1, k1⟩ := at1 j h1
      obtain ⟨z2, g2, k2⟩ := at2 j h2
      rcases hk j z1 z2 g1 g2 with ⟨m, n, rfl, rfl, c1, c2⟩ | ⟨m, n, rfl, rfl, c1, c2⟩
      · obtain ⟨t, et⟩ := k1
        obtain ⟨t', et'⟩ := k2
        rw [et, et', c1]
        exact SeqAt.EqAt.int_int _ _ _ _
      · obtain ⟨t, et⟩ := k1
        obtain ⟨t', et'⟩ := k2
        rw [et, et', c1]
        exact SeqAt.EqAt.str_str _ _ _ _) (fun j h1 h2 _ => by
      obtain ⟨z1, g1, k1⟩ := at1 j h1
      obtain ⟨z2, g2, k2⟩ := at2 j h2
      rcases hk j z1 z2 g1 g2 with ⟨m, n, rfl, rfl, c1, c2⟩ | ⟨m, n, rfl, rfl, c1, c2⟩
      · obtain ⟨t, et⟩ := k1
        obtain ⟨t', et'⟩ := k2
        rw [et, et', c2]
        exact Ob.RcOp.le_int _ _ _ _
      · obtain ⟨t, et⟩ := k1
        obtain ⟨t', et'⟩ := k2
        rw [et, et', c2]
        exact fun _ _ _ _ h => PySem.P.le_str h)
    rw [e1, e2] at R
    have z : wpAny (model X.prog X.w) X.A (compareOp .LtE (.ref a) (.ref b)) (EP X pins σ Q) X.xe s := R X.prog X.w X.xe (EP X pins σ Q) ⟨.bl _, H, I, rfl, q⟩
    exact z
theorem lex_leT : ∀ (k : Nat) (xs ys : List D) (i : Nat), k = min xs.length ys.length → ∀ (e r : Nat → Bool), (∀ j x y, xs[j]? = some x → ys[j]? = some y → e (i + j) = eq1 x y ∧ r (i + j) = le1 x y) →
    Ob.lexAt e r (decide (i + xs.length ≤ i + ys.length)) i k = leT xs ys
  | k, [], ys, i, hk, e, r, h => by
    have : k = 0 := by simp at hk; exact hk
    subst this
    rw [Ob.lexAt_zero]
    simp [leT]
  | k, x :: xs, [], i, hk, e, r, h => by
    have : k = 0 := by simp at hk; exact hk
    subst this
    rw [Ob.lexAt_zero]
    simp [leT]
  | k, x :: xs, y :: ys, i, hk, e, r, h => by
    obtain ⟨k', rfl⟩ : ∃ k', k = k' + 1 := ⟨min xs.length ys.length, by simp at hk; omega⟩
    rw [Ob.lexAt_succ]
    obtain ⟨h1, h2⟩ := h 0 x y rfl rfl
    rw [Nat.add_zero] at h1 h2
    rw [h1, h2]
    show (if eq1 x y = true then _ else _) = if eq1 x y = true then leT xs ys else le1 x y
    have ih := lex_leT k' xs ys (i + 1) (by simp at hk; omega) e r fun j x' y' a b => by
      have := h (j + 1) x' y' a b
      rw [show i + 1 + j = i + (j + 1) by omega]
      exact this
    have ez : decide (i + 1 + xs.length ≤ i + 1 + ys.length) = decide (i + (x :: xs).length ≤ i + (y :: ys).length) := by
      congr 1
      simp only [List.length_cons]
      rw [eq_iff_iff]; omega
    rw [ez] at ih
    rw [ih]
theorem os_le : OpS K (rLeA K) o_le := by
  intro ρ H S x y d v u Q R r1 r2 e q
  cases x with
  | int i =>
    cases y with
    | int j => cases e; exact .inl ⟨i, j, r1, r2, q _ H (Same.refl H) rfl⟩
    | _ => cases e
  | str i =>
    cases y with
    | str j => cases e; exact .inr (.inl ⟨i, j, r1, r2, q _ H (Same.refl H) rfl⟩)
    | _ => cases e
  | tup xs =>
    cases y with
    | tup ys =>
      simp only [o_le] at e
      split at e
      · rename_i hs
        cases e
        obtain ⟨a, vs, rfl, h1, k1⟩ := r1
        obtain ⟨b, us, rfl, h2, k2⟩ := r2
        refine .inr (.inr ⟨a, b, vs, us, fun j => eq1 (xs.getD j .non) (ys.getD j .non), fun j => le1 (xs.getD j .non) (ys.getD j .non), rfl, rfl, h1, h2, fun j w z e1 e2 => ?_, ?_⟩)
        · have hj1 : j < xs.length := by rw [← k1.length]; exact (List.getElem?_eq_some_iff.mp e1).1
          have hj2 : j < ys.length := by rw [← k2.length]; exact (List.getElem?_eq_some_iff.mp e2).1
          obtain ⟨w', f1, g1⟩ := k1.get (List.getElem?_eq_getElem hj1)
          obtain ⟨z', f2, g2⟩ := k2.get (List.getElem?_eq_getElem hj2)
          rw [e1] at f1; cases f1
          rw [e2] at f2; cases f2
          have hsk : sameK xs[j] ys[j] = true := by
            have := List.all_eq_true.mp hs (xs[j], ys[j]) (by
              have hz : j < (xs.zip ys).length := by simp; omega
              have : (xs.zip ys)[j] = (xs[j], ys[j]) := by simp
              rw [← this]; exact List.getElem_mem hz)
            exact this
          dsimp only
          rw [List.getD_eq_getElem?_getD, List.getElem?_eq_getElem hj1, List.getD_eq_getElem?_getD, List.getElem?_eq_getElem hj2]
          show (∃ m n, w = .int m ∧ z = .int n ∧ eq1 xs[j] ys[j] = (m == n) ∧ le1 xs[j] ys[j] = decide (m ≤ n)) ∨ ∃ m n, w = .str m ∧ z = .str n ∧ eq1 xs[j] ys[j] = (m == n) ∧ le1 xs[j] ys[j] = strLe m n
          generalize xs[j] = p at hsk g1 ⊢
          generalize ys[j] = p2 at hsk g2 ⊢
          cases p <;> cases p2 <;> first | exact .inl ⟨_, _, g1, g2, rfl, rfl⟩ | exact .inr ⟨_, _, g1, g2, rfl, rfl⟩ | cases hsk
        · have l1 := k1.length
          have l2 := k2.length
          have ez := lex_leT (min xs.length ys.length) xs ys 0 rfl (fun j => eq1 (xs.getD j .non) (ys.getD j .non)) (fun j => le1 (xs.getD j .non) (ys.getD j .non)) fun j x y a b => by
            simp only [Nat.zero_add, List.getD_eq_getElem?_getD, a, b, Option.getD_some, and_self]
          simp only [Nat.zero_add] at ez
          rw [l1, l2, ez]
          exact q _ H (Same.refl H) rfl
      · cases e
    | _ => cases e
  | _ => cases e
/-! ### items, parts -/
def o_ix (S : Sto) : D → D → Option D
  | .tup ds, .int i => atI ds i
  | .lst ds, .int i => atI ds i
  | .ref n, .int i => match S[n]? with
    | some (some (.lst ds)) => atI ds i
    | _ => none
  | .str z, .int i => if z.length ≤ sizeLine then (atI z.cps.toList i).map fun c => .str ⟨#[c]⟩ else none
  | _, _ => none
theorem relL_atI {H : Hp} {A : Addr → Prop} {ρ : List Addr} {xs : List V} {ds : List D} {i : Int} {d : D} (r : RelL K H A ρ xs ds) (h : atI ds i = some d) : ∃ v, atI xs i = some v ∧ RelD K H A ρ v d := by
  unfold atI at h ⊢
  rw [r.length]
  cases e : ixN ds.length i with
  | none => rw [e] at h; cases h
  | some j =>
    rw [e] at h
    exact r.get h
theorem os_ix : OpS K (rIx K) o_ix := by
  intro ρ H S x y d v u Q R r1 r2 e q
  cases y with
  | int i =>
    have r2' : u = .int i := r2
    subst r2'
    cases x with
    | tup ds =>
      obtain ⟨a, xs, rfl, h1, k1⟩ := r1
      obtain ⟨w, e1, k2⟩ := relL_atI k1 (show atI ds i = some d from e)
      exact .inr (.inl ⟨a, xs, i, w, rfl, rfl, h1, e1, q _ H (Same.refl H) k2⟩)
    | lst ds =>
      obtain ⟨a, xs, rfl, h1, k1⟩ := r1
      obtain ⟨w, e1, k2⟩ := relL_atI k1 (show atI ds i = some d from e)
      exact .inl ⟨a, xs, i, w, rfl, rfl, h1.sq, e1, q _ H (Same.refl H) k2⟩
    | ref n =>
      obtain ⟨a, rfl, ha⟩ := r1
      simp only [o_ix] at e
      split at e
      · rename_i ds hS
        obtain ⟨xs, h1, k1⟩ := R.obj n _ a hS ha
        obtain ⟨w, e1, k2⟩ := relL_atI k1 e
        exact .inl ⟨a, xs, i, w, rfl, rfl, .inl (.inl h1), e1, q _ H (Same.refl H) k2⟩
      · cases e
    | str z =>
      have r1' : v = .str z := r1
      subst r1'
      simp only [o_ix] at e
      split at e
      · rename_i hl
        obtain ⟨c, e1, rfl⟩ := Option.map_eq_some_iff.mp e
        exact .inr (.inr ⟨z, i, c, rfl, rfl, hl, e1, q _ H (Same.refl H) rfl⟩)
      · cases e
    | _ => cases e
  | _ => cases x <;> cases e
end
end Y

end
section
set_option Elab.async false
set_option linter.all false
set_option maxRecDepth 100000
set_option maxHeartbeats 4000000
set_option autoImplicit false
namespace Y
open PySem PySem.Spec L2

/-! ### what a loop walks -/
/-- from here on the iterator gives ds, as long as G holds of the store -/
def GoodIt (K : PySem.W.Frag) (ρ0 : List Addr) (H0 : Hp) (S0 : Sto) (G : Sto → Prop) (J : It) (ds : List D) : Prop := ∀ ρ H S, RS K ρ H S → Up K ρ0 H0 S0 ρ H S → G S →
  (∀ i, i < ds.length → J.go i H) ∧ J.stop ds.length H ∧ ∀ (i : Nat) (d : D) x H', ds[i]? = some d → J.yld i H x H' → Same H H' ∧ RelD K H' (Al ρ S) ρ x d
/-- the list that is walked (where it may change) stands as it stood -/
def okSrc (src : List (Nat × List D)) (S : Sto) : Prop := ∀ p ∈ src, S[p.1]? = some (some (.lst p.2))
abbrev IM := En → Sto → Res (List D × List (Nat × List D))
def tI (K : PySem.W.Frag) (mg : Str → Option Value) (W : WX) (m : IM) : TI := fun σ H R => ∃ ρ env S, RS K ρ H S ∧ RV K ρ σ H S env ∧
  wpM (m env S) (fun p S' => ∀ ρ' H' J, RS K ρ' H' S' → Up K ρ H S ρ' H' S' → GoodIt K ρ' H' S' (okSrc p.2) J p.1 → R J H') (PostX K mg W ρ σ H S)
theorem PI_imp {X : Cx} {tg e : Expr} {t t' : TI} (h : PI X tg e t) (i : ∀ σ H R, t' σ H R → t σ H R) : PI X tg e t' := ⟨fun pins s σ H R I q => h.run pins s σ H R I (i σ H R q)⟩
open Classical in
noncomputable def loop (src : List (Nat × List D)) (tg : TgM) (body : SM) : List D → En → Sto → SR
  | [], env, S => if okSrc src S then .nx env S else .err
  | d :: ds, env, S => if okSrc src S then match tg d env with
    | some env1 => match body env1 S with
      | .nx e S1 => loop src tg body ds e S1
      | .ct e S1 => loop src tg body ds e S1
      | .brk e S1 => .nx e S1
      | r => r
    | none => .err else .err
noncomputable def forS (it : IM) (tg : TgM) (body : SM) : SM := fun env S => bS (it env S) env fun p S1 => loop p.2 tg body p.1 env S1
section
variable {X : Cx} {W : WX} {pos : Pos} {a e : Expr} {m : EM} {mi : IM} {tg : Expr} {g : TgM} {body : List Stmt} {mb : SM}
theorem s_for {ix : List Nat} (hp : PassesOwn (model X.prog X.w) X.A X.env X.xe) (hc : X.calm = true) (hi : PI X tg e (tI X.K X.mg W mi)) (hg : PG X tg (tG X.K ix g)) (hb : PSs X body (tS X.K X.mg W mb)) (hs : ∀ x, foldedSetIterable e X.env x = pure x := by intro _; rfl) :
    PS X (.For tg e body [] pos) (tS X.K X.mg W (forS mi g mb)) :=
  (ps_for hp hc hi hg hb hs).imp fun Dn σ H ⟨ρ, env, S, R, V, w⟩ => ⟨ρ, env, S, R, V, wpM_mono (wpS_bS V w) (fun p S1 w1 ρ1 H1 J R1 U1 GI => by
    obtain ⟨all, src⟩ := p
    refine ⟨fun i n σ' H' => n = all.length - i ∧ i ≤ all.length ∧ ∃ ρ' env' S', RS X.K ρ' H' S' ∧ RV X.K ρ' σ' H' S' env' ∧ Up X.K ρ1 H1 S1 ρ' H' S' ∧ wpS X.K X.mg W ρ' H' S' Dn (loop src g mb (all.drop i) env' S'),
      ⟨all.length, by simp, Nat.zero_le _, ρ1, env, S1, R1, U1.rv V, Up.refl, wpS_up U1 (by simpa using w1)⟩, ?_⟩
    rintro i n σ' H' ⟨rfl, hi', ρ', env', S', R', V', U', w'⟩
    by_cases hlt : i < all.length
    · rw [List.drop_eq_getElem_cons hlt] at w'
      unfold loop at w'
      split at w'
      · rename_i hsrc
        obtain ⟨g1, g2, g3⟩ := GI ρ' H' S' R' U' hsrc
        refine .inr ⟨g1 i hlt, fun σ2 H2 => ∃ ρ2 env2 S2, RS X.K ρ2 H2 S2 ∧ RV X.K ρ2 σ2 H2 S2 env2 ∧ Up X.K ρ1 H1 S1 ρ2 H2 S2 ∧ wpS X.K X.mg W ρ2 H2 S2 Dn (loop src g mb (all.drop (i + 1)) env2 S2),
          fun σ2 H2 q => ⟨all.length - (i + 1), by omega, rfl, hlt, q⟩, fun x H2 y => ?_⟩
        obtain ⟨sm, rd⟩ := g3 i all[i] x H2 (List.getElem?_eq_getElem hlt) y
        have U2 : Up X.K ρ' H' S' ρ' H2 S' := Up.same sm
        split at w'
        · rename_i env1 e1
          refine ⟨ρ', env', S', all[i], env1, R'.same sm, U2.rv V', rd, e1, fun σ3 V3 _ => ⟨ρ', env1, S', R'.same sm, V3, ?_⟩⟩
          have w2 := wpS_up (mg := X.mg) (W := W) (Dn := Dn) U2 w'
          split at w2
          · rename_i e2 S2 eb
            rw [eb]
            exact fun ρ4 σ4 H4 R4 V4 U4 => ⟨ρ4, e2, S2, R4, V4, (U'.trans U2).trans U4, wpS_up U4 w2⟩
          · rename_i e2 S2 eb
            rw [eb]
            exact fun ρ4 σ4 H4 R4 V4 U4 => ⟨ρ4, e2, S2, R4, V4, (U'.trans U2).trans U4, wpS_up U4 w2⟩
          · rename_i e2 S2 eb
            rw [eb]
            exact w2
          · rename_i n1 n2 n3
            cases eb : mb env1 S' with
            | nx e2 S2 => exact absurd eb (n1 e2 S2)
            | ct e2 S2 => exact absurd eb (n2 e2 S2)
            | brk e2 S2 => exact absurd eb (n3 e2 S2)
            | ret d S2 => rw [eb] at w2; exact w2
            | exc c fs e2 S2 => rw [eb] at w2; exact w2
            | err => rw [eb] at w2; exact w2.elim
        · exact w'.elim
      · exact w'.elim
    · have ei : i = all.length := by omega
      subst ei
      rw [List.drop_length] at w'
      unfold loop at w'
      split at w'
      · rename_i hsrc
        obtain ⟨g1, g2, g3⟩ := GI ρ' H' S' R' U' hsrc
        exact .inl ⟨g2, w' ρ' σ' H' R' V' Up.refl⟩
      · exact w'.elim) fun _ _ _ q => q⟩
/-! while -/
/-- n turns at most -/
def wloop (c : TM) (body : SM) : Nat → En → Sto → SR
  | 0, _, _ => .err
  | n + 1, env, S => bS (c env S) env fun k S1 => match k with
    | false => .nx env S1
    | true => match body env S1 with
      | .nx e S2 => wloop c body n e S2
      | .ct e S2 => wloop c body n e S2
      | .brk e S2 => .nx e S2
      | r => r
open Classical in
noncomputable def whS (c : TM) (body : SM) : SM := fun env S => if h : ∃ n, wloop c body n env S ≠ .err then wloop c body (Classical.choose h) env S else .err
theorem wloop_mono {c : TM} {body : SM} : ∀ (n : Nat) (env : En) (S : Sto), wloop c body n env S ≠ .err → ∀ m, n ≤ m → wloop c body m env S = wloop c body n env S
  | 0, env, S, h, m, hm => absurd rfl h
  | n + 1, env, S, h, m, hm => by
    obtain ⟨m', rfl⟩ : ∃ m', m = m' + 1 := ⟨m - 1, by omega⟩
    unfold wloop at h ⊢
    cases e : c env S with
    | err => rfl
    | exc cc fs S1 => rfl
    | ok k S1 =>
      rw [e] at h
      cases k with
      | false => rfl
      | true =>
        simp only [bS] at h ⊢
        cases e2 : body env S1 with
        | nx e3 S2 => rw [e2] at h; exact wloop_mono n e3 S2 h m' (by omega)
        | ct e3 S2 => rw [e2] at h; exact wloop_mono n e3 S2 h m' (by omega)
        | _ => rfl
/-- a while by any number of turns that is enough -/
theorem whS_eq {c : TM} {body : SM} {n : Nat} {env : En} {S : Sto} {r : SR} (h : wloop c body n env S = r) (hr : r ≠ .err) : whS c body env S = r := by
  unfold whS
  have hx : ∃ n, wloop c body n env S ≠ .err := ⟨n, by rw [h]; exact hr⟩
  rw [dif_pos hx]
  have h1 := Classical.choose_spec hx
  generalize Classical.choose hx = k at h1 ⊢
  rcases Nat.le_total k n with q | q
  · rw [← wloop_mono k env S h1 n q, h]
  · rw [wloop_mono n env S (by rw [h]; exact hr) k q, h]
theorem s_while {c : Expr} {mc : TM} (hp : PassesOwn (model X.prog X.w) X.A X.env X.xe) (hc : PT X c (tT X.K X.mg W mc)) (hb : PSs X body (tS X.K X.mg W mb)) : PS X (.While c body [] pos) (tS X.K X.mg W (whS mc mb)) :=
  (ps_while hp hc hb).imp fun Dn σ H ⟨ρ, env, S, R, V, w⟩ => by
    unfold whS at w
    split at w
    · rename_i hx
      generalize Classical.choose hx = n at w
      refine ⟨fun n σ H => ∃ ρ env S, RS X.K ρ H S ∧ RV X.K ρ σ H S env ∧ wpS X.K X.mg W ρ H S Dn (wloop mc mb n env S), ⟨n, ρ, env, S, R, V, w⟩, ?_⟩
      rintro n σ H ⟨ρ, env, S, R, V, w⟩
      cases n with
      | zero => exact w.elim
      | succ n =>
        unfold wloop at w
        refine tT_seq R V (wpM_mono (wpS_bS V w) (fun k S1 w1 ρ1 H1 R1 V1 U1 => ?_) fun _ _ _ q => q)
        cases k with
        | false => exact iteF (w1 ρ1 σ H1 R1 V1 U1)
        | true =>
          refine iteT ⟨fun σ' H' => ∃ ρ env S, RS X.K ρ H' S ∧ RV X.K ρ σ' H' S env ∧ wpS X.K X.mg W ρ H' S Dn (wloop mc mb n env S), fun σ' H' q => ⟨n, Nat.lt_succ_self n, q⟩, ρ1, env, S1, R1, V1, ?_⟩
          have w2 := wpS_up (mg := X.mg) (W := W) (Dn := Dn) U1 w1
          simp only at w2
          split at w2
          · rename_i e2 S2 eb
            rw [eb]
            exact fun ρ4 σ4 H4 R4 V4 U4 => ⟨ρ4, e2, S2, R4, V4, wpS_up U4 w2⟩
          · rename_i e2 S2 eb
            rw [eb]
            exact fun ρ4 σ4 H4 R4 V4 U4 => ⟨ρ4, e2, S2, R4, V4, wpS_up U4 w2⟩
          · rename_i e2 S2 eb
            rw [eb]
            exact w2
          · rename_i n1 n2 n3
            cases eb : mb env S1 with
            | nx e2 S2 => exact absurd eb (n1 e2 S2)
            | ct e2 S2 => exact absurd eb (n2 e2 S2)
            | brk e2 S2 => exact absurd eb (n3 e2 S2)
            | ret d S2 => rw [eb] at w2; exact w2
            | exc c fs e2 S2 => rw [eb] at w2; exact w2
            | err => rw [eb] at w2; exact w2.elim
    · exact w.elim
/-! #### sources -/
/-- a range -/
def rgL (a b : Int) : List D := (List.range (b - a).toNat).map fun (i : Nat) => .int (a + i)
theorem good_range {K : PySem.W.Frag} {ρ0 : List Addr} {H0 : Hp} {S0 : Sto} {lo hi : Int} : GoodIt K ρ0 H0 S0 (okSrc []) (Itr lo (hi - lo).toNat) (rgL lo hi) := fun ρ H S R U _ => by
  have hl : (rgL lo hi).length = (hi - lo).toNat := by simp [rgL]
  rw [hl]
  refine ⟨fun i hi => hi, Nat.le_refl _, fun i d x H' e y => ?_⟩
  obtain ⟨rfl, rfl⟩ := y
  have hi' : i < (hi - lo).toNat := by rw [← hl]; exact (List.getElem?_eq_some_iff.mp e).1
  simp only [rgL, List.getElem?_map, List.getElem?_range hi', Option.map_some] at e
  cases e
  exact ⟨Same.refl _, rfl⟩
def i_rg1 (l : LM) : IM := fun env S => bd (l env S) fun ds S1 => match ds with
  | [.int j] => if -(2 ^ 62) ≤ j ∧ j < 2 ^ 62 then .ok (rgL 0 j, []) S1 else .err
  | _ => .err
def i_rg2 (l : LM) : IM := fun env S => bd (l env S) fun ds S1 => match ds with
  | [.int i, .int j] => if -(2 ^ 62) ≤ i ∧ i < 2 ^ 62 ∧ -(2 ^ 62) ≤ j ∧ j < 2 ^ 62 then .ok (rgL i j, []) S1 else .err
  | _ => .err
variable {l : LM} {p : Pos}
theorem y_rg1 (hm : X.mg "range" = none) (ha : PA X [a] (tA X.K X.mg W l)) (hg : Gl X "range" := by rfl) (hs : starEach [a] X.env = [(false, eval a X.env)] := by rfl) : PI X tg (.Call (.Name "range" p) [a] [] pos) (tI X.K X.mg W (i_rg1 l)) :=
  PI_imp (pi_range1 hg hm ha hs) fun σ H Q ⟨ρ, env, S, R, V, w⟩ => tA_seq R V (wpM_mono (wpM_bd w) (fun ds S1 w1 ρ1 vs H1 R1 V1 U1 r1 => by
    split at w1
    · rename_i j
      split at w1
      · rename_i hj
        obtain ⟨x, xs, rfl, h1, h2⟩ := r1
        have h1' : x = .int j := h1
        have h2' : xs = [] := h2
        subst h1' h2'
        refine ⟨j, rfl, hj.1, hj.2, w1 ρ1 H1 _ R1 U1 ?_⟩
        have := good_range (K := X.K) (ρ0 := ρ1) (H0 := H1) (S0 := S1) (lo := 0) (hi := j)
        rw [Int.sub_zero] at this
        exact this
      · exact w1.elim
    · exact w1.elim) fun _ _ _ q => q)
theorem y_rg2 {b : Expr} (hm : X.mg "range" = none) (ha : PA X [a, b] (tA X.K X.mg W l)) (hg : Gl X "range" := by rfl) (hs : starEach [a, b] X.env = [(false, eval a X.env), (false, eval b X.env)] := by rfl) (hs2 : starEach [b] X.env = [(false, eval b X.env)] := by rfl) :
    PI X tg (.Call (.Name "range" p) [a, b] [] pos) (tI X.K X.mg W (i_rg2 l)) :=
  PI_imp (pi_range2 hg hm ha hs hs2) fun σ H Q ⟨ρ, env, S, R, V, w⟩ => tA_seq R V (wpM_mono (wpM_bd w) (fun ds S1 w1 ρ1 vs H1 R1 V1 U1 r1 => by
    split at w1
    · rename_i i j
      split at w1
      · rename_i hj
        obtain ⟨x, xs, rfl, h1, y, ys, rfl, h2, h3⟩ := r1
        have h1' : x = .int i := h1
        have h2' : y = .int j := h2
        have h3' : ys = [] := h3
        subst h1' h2' h3'
        exact ⟨i, j, rfl, hj, w1 ρ1 H1 _ R1 U1 good_range⟩
      · exact w1.elim
    · exact w1.elim) fun _ _ _ q => q)
/-- what a for walks of a value: a tuple, a list, a text -/
def sgns (z : Str) : List D := z.cps.toList.map fun c => .str ⟨#[c]⟩
def srcOf (S : Sto) : D → Option (List D × List (Nat × List D))
  | .tup ds => some (ds, [])
  | .lst ds => some (ds, [])
  | .str z => some (sgns z, [])
  | .ref n => match S[n]? with
    | some (some (.lst ds)) => some (ds, [(n, ds)])
    | _ => none
  | _ => none
def i_of (m : EM) : IM := fun env S => bd (m env S) fun d S1 => lf (srcOf S1 d) S1
def iAny (K : PySem.W.Frag) (tl : TE) : TI := fun σ H R => tl σ H fun x H1 => (∃ a, x = .ref a ∧ (∃ xs, SqL K H1 a xs) ∧ R (Itl K a) H1) ∨ (∃ a, x = .ref a ∧ (∃ xs, SqT K H1 a xs) ∧ R (Itt K a) H1) ∨ ∃ z, x = .str z ∧ R (Its z) H1
theorem pi_any {tl : TE} (hl : PE X e tl) : PI X tg e (iAny X.K tl) := by
  refine ⟨fun pins s σ H R I h => ?_⟩
  refine thn (hl.run pins s σ H _ I h) fun v s1 ⟨x, H1, I1, r1, q1⟩ => ?_
  rcases q1 with ⟨a, rfl, ⟨xs, hq⟩, q⟩ | ⟨a, rfl, ⟨xs, hq⟩, q⟩ | ⟨z, rfl, q⟩
  · cases r1
    obtain ⟨its, rv, p, hz⟩ := I1.list hq
    refine wpAny_pyIter_list p.isList ?_
    refine ⟨s1.heap.objs.size, [s1.heap.objs.size], _, _, H1, rfl, I1.kept (t' := s1.toks) fun b o e => Heap.get?_push_of_some _ e, turn_list a _, ⟨_, Heap.get?_push_size _ rfl, rfl, rfl⟩, fun b hb => ?_, q⟩
    have e : b = s1.heap.objs.size := by simpa using hb
    subst e
    exact I1.fpOk (Nat.le_refl _) (I1.hok.fresh (Nat.le_refl _))
  · cases r1
    obtain ⟨its, rv, p, hz⟩ := I1.tuple hq
    refine wpAny_pyIter_tuple (show s1.heap.IsTuple a its.toArray from p) ?_
    refine ⟨s1.heap.objs.size, [s1.heap.objs.size], _, _, H1, rfl, I1.kept (t' := s1.toks) fun b o e => Heap.get?_push_of_some _ e, turn_tuple a _, ⟨_, Heap.get?_push_size _ rfl, rfl, rfl⟩, fun b hb => ?_, q⟩
    have e : b = s1.heap.objs.size := by simpa using hb
    subst e
    exact I1.fpOk (Nat.le_refl _) (I1.hok.fresh (Nat.le_refl _))
  · obtain ⟨t, rfl⟩ := r1
    cases ha : z.cps.all (· < 128)
    · exact wpAny_pyIter_wide ha (pi_one (tk := s1.toks) I1 _ (turn_str _ z t "str_iterator" (.inr rfl)) ⟨_, Heap.get?_push_size _ rfl, rfl, rfl⟩ q)
    · exact wpAny_pyIter_ascii ha (pi_one (tk := s1.toks) I1 _ (turn_str _ z t "str_ascii_iterator" (.inl rfl)) ⟨_, Heap.get?_push_size _ rfl, rfl, rfl⟩ q)
theorem y_iter (ha : PE X e (tE X.K X.mg W m)) : PI X tg e (tI X.K X.mg W (i_of m)) :=
  PI_imp (pi_any ha) fun σ H Q ⟨ρ, env, S, R, V, w⟩ => tE_seq R V (wpM_mono (wpM_bd w) (fun d S1 w1 ρ1 v H1 R1 V1 U1 r1 => by
    obtain ⟨p, e1, q⟩ := wpM_lf w1
    cases d with
    | tup ds =>
      cases e1
      obtain ⟨a, xs, rfl, h1, h2⟩ := r1
      refine .inr (.inl ⟨a, rfl, ⟨xs, h1⟩, q ρ1 H1 _ R1 U1 fun ρ2 H2 S2 R2 U2 _ => ?_⟩)
      have h1' := U2.tup a xs h1
      have h2' := U2.relL h2
      refine ⟨fun i hi => ⟨xs, xs[i]'(by rw [h2.length]; exact hi), h1', by simp [h2.length, hi]⟩, ⟨xs, h1', by rw [h2.length]; exact Nat.le_refl _⟩, fun i d x H' e2 y => ?_⟩
      obtain ⟨rfl, y⟩ := y
      obtain ⟨v, f1, f2⟩ := h2'.get e2
      rw [y xs h1'] at f1
      cases f1
      exact ⟨Same.refl _, f2⟩
    | lst ds =>
      cases e1
      obtain ⟨a, xs, rfl, h1, h2⟩ := r1
      refine .inl ⟨a, rfl, ⟨xs, h1.sq⟩, q ρ1 H1 _ R1 U1 fun ρ2 H2 S2 R2 U2 _ => ?_⟩
      have h1' : SqL X.K H2 a xs := (U2.fz h1).sq
      have h2' := U2.relL h2
      refine ⟨fun i hi => ⟨xs, xs[i]'(by rw [h2.length]; exact hi), h1', by simp [h2.length, hi]⟩, ⟨xs, h1', by rw [h2.length]; exact Nat.le_refl _⟩, fun i d x H' e2 y => ?_⟩
      obtain ⟨rfl, y⟩ := y
      obtain ⟨v, f1, f2⟩ := h2'.get e2
      rw [y xs h1'] at f1
      cases f1
      exact ⟨Same.refl _, f2⟩
    | ref n =>
      simp only [srcOf] at e1
      split at e1
      · rename_i ds hS
        cases e1
        obtain ⟨a, rfl, ha⟩ := r1
        obtain ⟨xs, h1, h2⟩ := R1.obj n _ a hS ha
        refine .inl ⟨a, rfl, ⟨xs, .inl (.inl h1)⟩, q ρ1 H1 _ R1 U1 fun ρ2 H2 S2 R2 U2 hG => ?_⟩
        obtain ⟨ys, k1, k2⟩ := R2.obj n _ a (hG (n, ds) List.mem_cons_self) (U2.pre n a ha)
        have h1' : SqL X.K H2 a ys := .inl (.inl k1)
        refine ⟨fun i hi => ⟨ys, ys[i]'(by rw [k2.length]; exact hi), h1', by simp [k2.length, hi]⟩, ⟨ys, h1', by rw [k2.length]; exact Nat.le_refl _⟩, fun i d x H' e2 y => ?_⟩
        obtain ⟨rfl, y⟩ := y
        obtain ⟨v, f1, f2⟩ := k2.get e2
        rw [y ys h1'] at f1
        cases f1
        exact ⟨Same.refl _, f2⟩
      · cases e1
    | str z =>
      cases e1
      have r1' : v = .str z := r1
      subst r1'
      refine .inr (.inr ⟨z, rfl, q ρ1 H1 _ R1 U1 fun ρ2 H2 S2 R2 U2 _ => ?_⟩)
      have hl : (sgns z).length = z.cps.size := by simp [sgns]
      rw [hl]
      refine ⟨fun i hi => hi, Nat.le_refl _, fun i d x H' e2 y => ?_⟩
      obtain ⟨rfl, c, e3, rfl⟩ := y
      have e4 : z.cps.toList[i]? = some c := by rw [Array.getElem?_toList]; exact e3
      simp only [sgns, List.getElem?_map, e4, Option.map_some] at e2
      cases e2
      exact ⟨Same.refl _, rfl⟩
    | _ => cases e1) fun _ _ _ q => q)

/-! ### comprehensions -/
theorem wipe_wipe {σ : L2.St} {ix : List Nat} : wipe (wipe σ ix) ix = wipe σ ix := by
  apply List.ext_getElem?
  intro j
  rw [wipe_get, wipe_get]
  by_cases hj : j ∈ ix
  · rw [if_pos hj, if_pos hj]; cases σ[j]? <;> rfl
  · rw [if_neg hj, if_neg hj]
def wipeE (env : En) : List Nat → En
  | [] => env
  | v :: vs => (wipeE env vs).set v none
theorem RV.wipe {K : PySem.W.Frag} {ρ : List Addr} {σ : L2.St} {H : Hp} {S : Sto} {env : En} (h : RV K ρ σ H S env) : ∀ vs : List Nat, RV K ρ (L2.wipe σ vs) H S (wipeE env vs)
  | [] => h
  | v :: vs => by
    have ih := RV.wipe h vs
    unfold L2.wipe wipeE
    refine ⟨by simp [ih.1], fun i d e => ?_⟩
    by_cases hi : v = i
    · subst hi
      rw [List.getElem?_set] at e
      simp only [if_true] at e
      split at e <;> cases e
    · rw [List.getElem?_set_ne hi] at e ⊢
      exact ih.2 i d e
abbrev W0 : WX := fun _ _ _ _ => False
/-- the turns: the new list at n0 -/
def clp (tg : TgM) (ts : TM) (el : EM) (env0 : En) (n0 : Nat) (G : Sto → Bool) : List D → Sto → Res Unit
  | [], S => if G S then .ok () S else .err
  | d :: ds, S => if G S then match tg d env0 with
    | none => .err
    | some env1 => match ts env1 S with
      | .ok true S1 => match el env1 S1 with
        | .ok x S2 => match S2[n0]? with
          | some (some (.lst acc)) => if acc.length < sizeLine then clp tg ts el env0 n0 G ds (S2.set n0 (some (.lst (acc ++ [x])))) else .err
          | _ => .err
        | _ => .err
      | .ok false S1 => clp tg ts el env0 n0 G ds S1
      | _ => .err else .err
theorem clp_ne {tg : TgM} {ts : TM} {el : EM} {env0 : En} {n0 : Nat} {G : Sto → Bool} {c : Str} {fs : List (Str × D)} {S' : Sto} : ∀ (ds : List D) (S : Sto), clp tg ts el env0 n0 G ds S ≠ .exc c fs S'
  | [], S => by
    unfold clp
    split <;> (intro h; cases h)
  | d :: ds, S => by
    unfold clp
    split
    · split
      · intro h; cases h
      · split
        · split
          · split
            · split
              · exact clp_ne ds _
              · intro h; cases h
            · intro h; cases h
          · intro h; cases h
        · exact clp_ne ds _
        · intro h; cases h
    · intro h; cases h
open Classical in
noncomputable def okB (src : List (Nat × List D)) (S : Sto) : Bool := decide (okSrc src S)
open Classical in
theorem okB_iff {src : List (Nat × List D)} {S : Sto} : okB src S = true ↔ okSrc src S := by unfold okB; exact decide_eq_true_iff
noncomputable def compN (it : IM) (tg : TgM) (ts : TM) (el : EM) (vs : List Nat) : EM := fun env S => bd (it env S) fun p S1 =>
  bd (clp tg ts el (wipeE env vs) S1.length (okB p.2) p.1 (S1 ++ [some (.lst [])])) fun _ S2 => .ok (.ref S1.length) S2
/-- .. that nobody will change any more -/
noncomputable def compF (it : IM) (tg : TgM) (ts : TM) (el : EM) (vs : List Nat) : EM := fun env S => bd (it env S) fun p S1 =>
  bd (clp tg ts el (wipeE env vs) S1.length (okB p.2) p.1 (S1 ++ [some (.lst [])])) fun _ S2 => match S2[S1.length]? with
    | some (some (.lst ds)) => if belL S1.length ds then .ok (.lst ds) (trunc S1 (S2.set S1.length none)) else .ok (.lst ds) (S2.set S1.length none)
    | _ => .err
def yesT : TM := fun _ S => .ok true S
theorem y_yes : PTs X [] (tT X.K X.mg W yesT) := ⟨fun pins s σ H Q I h => pts_nil.run pins s σ H Q I (by
  obtain ⟨ρ, env, S, R, V, w⟩ := h
  exact (show PostB X.K ρ H S Q true S from w) ρ H R Up.refl)⟩
theorem y_tst {c : Expr} {mt : TM} (h : PT X c (tT X.K X.mg W mt)) : PTs X [c] (tT X.K X.mg W mt) := pts_one h
section
variable {elt iter : Expr} {ifs : List Expr} {scope : Scope} {own : List (Str × Nat)} {ts : TM} {el : EM}
theorem comp_imp {k : Sto → Res Unit → Res D}
    (hk : ∀ (ρ1 : List Addr) (H1 : Hp) (S1 : Sto) (ρ2 : List Addr) (H2 : Hp) (S2 : Sto) (D0 : Addr) (Q : VK) (E : Str → List (Str × D) → Sto → Prop), RS X.K ρ1 H1 S1 → RS X.K ρ2 H2 S2 → Up X.K ρ1 H1 S1 ρ2 H2 S2 → ρ2[S1.length]? = some D0 → wpM (k S1 (.ok () S2)) (PostV X.K ρ1 H1 S1 Q) E → Q (.ref D0) H2)
    (hk2 : ∀ S1 (Q : D → Sto → Prop) (E : Str → List (Str × D) → Sto → Prop), ¬ wpM (k S1 .err) Q E) :
    ∀ σ H Q, tE X.K X.mg W (fun env S => bd (mi env S) fun p S1 => k S1 (clp g ts el (wipeE env (own.map (·.2))) S1.length (okB p.2) p.1 (S1 ++ [some (.lst [])]))) σ H Q →
      tLc (tI X.K X.mg W mi) (tG X.K (own.map (·.2)) g) (tT X.K X.mg W0 ts) (tE X.K X.mg W0 el) (own.map (·.2)) σ H Q := fun σ H Q ⟨ρ, env, S, R, V, w⟩ => ⟨ρ, env, S, R, V, wpM_mono (wpM_bd w) (fun p S1 w1 ρ1 H1 J R1 U1 GI D0 hD => by
    obtain ⟨all, src⟩ := p
    simp only at w1 GI
    generalize hvs : own.map (·.2) = vs at w1 ⊢
    obtain ⟨S2, hS2⟩ : ∃ S2, clp g ts el (wipeE env vs) S1.length (okB src) all (S1 ++ [some (.lst [])]) = .ok () S2 := by
      cases e : clp g ts el (wipeE env vs) S1.length (okB src) all (S1 ++ [some (.lst [])]) with
      | ok a S2 => exact ⟨S2, rfl⟩
      | exc c fs S2 => exact absurd e (clp_ne _ _)
      | err => rw [e] at w1; exact (hk2 _ _ _ w1).elim
    rw [hS2] at w1
    have sm0 : Same H1 (upd H1 D0 (.lst [])) := same_new hD
    have Ru : RS X.K (ρ1 ++ [D0]) (upd H1 D0 (.lst [])) (S1 ++ [some (.lst [])]) := R1.new hD sm0 upd_same RelL.nil
    have Uu : Up X.K ρ1 H1 S1 (ρ1 ++ [D0]) (upd H1 D0 (.lst [])) (S1 ++ [some (.lst [])]) := Up.new R1.len hD sm0
    have hix : (ρ1 ++ [D0])[S1.length]? = some D0 := by rw [← R1.len]; simp
    refine ⟨fun i n H' => n = all.length - i ∧ i ≤ all.length ∧ ∃ ρ' S', RS X.K ρ' H' S' ∧ Up X.K (ρ1 ++ [D0]) (upd H1 D0 (.lst [])) (S1 ++ [some (.lst [])]) ρ' H' S' ∧ clp g ts el (wipeE env vs) S1.length (okB src) (all.drop i) S' = .ok () S2,
      ⟨all.length, by simp, Nat.zero_le _, _, _, Ru, Up.refl, by simpa using hS2⟩, ?_⟩
    rintro i n H' ⟨rfl, hi, ρ', S', R', U', w'⟩
    have VV : RV X.K ρ' (L2.wipe σ vs) H' S' (wipeE env vs) := ((U1.trans (Uu.trans U')).rv V).wipe vs
    by_cases hlt : i < all.length
    · rw [List.drop_eq_getElem_cons hlt] at w'
      unfold clp at w'
      split at w'
      · rename_i hsrc
        obtain ⟨g1, g2, g3⟩ := GI ρ' H' S' R' (Uu.trans U') (okB_iff.mp hsrc)
        refine .inr ⟨g1 i hlt, fun H2 => ∃ ρ2 S2', RS X.K ρ2 H2 S2' ∧ Up X.K (ρ1 ++ [D0]) (upd H1 D0 (.lst [])) (S1 ++ [some (.lst [])]) ρ2 H2 S2' ∧ clp g ts el (wipeE env vs) S1.length (okB src) (all.drop (i + 1)) S2' = .ok () S2,
          fun H2 q => ⟨all.length - (i + 1), by omega, rfl, hlt, q⟩, fun x H2 y => ?_⟩
        obtain ⟨sm, rd⟩ := g3 i all[i] x H2 (List.getElem?_eq_getElem hlt) y
        have U2 : Up X.K ρ' H' S' ρ' H2 S' := Up.same sm
        split at w'
        · cases w'
        · rename_i env1 e1
          refine ⟨ρ', wipeE env vs, S', all[i], env1, R'.same sm, U2.rv VV, rd, e1, fun σ3 V3 hw3 => ⟨by rw [hw3]; exact wipe_wipe, ?_⟩⟩
          split at w'
          · rename_i S3 e3
            refine tT_seq (R'.same sm) V3 ?_
            rw [e3]
            intro ρ4 H4 R4 V4 U4
            refine iteT ?_
            split at w'
            · rename_i x5 S5 e5
              refine tE_seq R4 V4 ?_
              rw [e5]
              intro ρ6 y6 H6 R6 V6 U6 r6
              have Uall := ((U'.trans U2).trans U4).trans U6
              split at w'
              · rename_i acc e7
                split at w'
                · rename_i hlen
                  have hD6 : ρ6[S1.length]? = some D0 := Uall.pre _ _ hix
                  obtain ⟨xs, h8, h9⟩ := R6.obj _ _ D0 e7 hD6
                  exact ⟨xs, h8, by rw [h9.length]; exact hlen, ρ6, _, R6.set e7 hD6 h8 (h9.append (RelL.cons r6 RelL.nil)), Uall.trans (Up.set e7 hD6 h8), w'⟩
                · cases w'
              · cases w'
            · cases w'
          · rename_i S3 e3
            refine tT_seq (R'.same sm) V3 ?_
            rw [e3]
            intro ρ4 H4 R4 V4 U4
            exact iteF ⟨ρ4, S3, R4, (U'.trans U2).trans U4, w'⟩
          · cases w'
      · cases w'
    · have ei : i = all.length := by omega
      subst ei
      rw [List.drop_length] at w'
      unfold clp at w'
      split at w'
      · rename_i hsrc
        cases w'
        obtain ⟨g1, g2, g3⟩ := GI ρ' H' S2 R' (Uu.trans U') (okB_iff.mp hsrc)
        exact .inl ⟨g2, hk ρ1 H1 S1 ρ' H' S2 D0 Q _ R1 R' (Uu.trans U') (U'.pre _ _ hix) (wpM_mono w1 (fun d S3 q => q.up U1) fun _ _ _ q => q)⟩
      · cases w') fun _ _ _ q => q⟩
theorem compN_imp : ∀ σ H Q, tE X.K X.mg W (compN mi g ts el (own.map (·.2))) σ H Q → tLc (tI X.K X.mg W mi) (tG X.K (own.map (·.2)) g) (tT X.K X.mg W0 ts) (tE X.K X.mg W0 el) (own.map (·.2)) σ H Q :=
  comp_imp (k := fun S1 r => bd r fun _ S2 => .ok (.ref S1.length) S2) (fun ρ1 H1 S1 ρ2 H2 S2 D0 Q E R1 R2 U hD w => (show PostV X.K ρ1 H1 S1 Q (.ref S1.length) S2 from w) ρ2 (.ref D0) H2 R2 U ⟨D0, rfl, hD⟩)
    fun _ _ _ w => w
theorem compF_imp : ∀ σ H Q, tE X.K X.mg W (compF mi g ts el (own.map (·.2))) σ H Q → tLc (tI X.K X.mg W mi) (tG X.K (own.map (·.2)) g) (tT X.K X.mg W0 ts) (tE X.K X.mg W0 el) (own.map (·.2)) σ H Q :=
  comp_imp (k := fun S1 r => bd r fun _ S2 => match S2[S1.length]? with
    | some (some (.lst ds)) => if belL S1.length ds then .ok (.lst ds) (trunc S1 (S2.set S1.length none)) else .ok (.lst ds) (S2.set S1.length none)
    | _ => .err) (fun ρ1 H1 S1 ρ2 H2 S2 D0 Q E R1 R2 U hD w => by
      simp only [bd] at w
      split at w
      · rename_i ds hS
        have fz := R2.frozen hS hD
        have U2 : Up X.K ρ1 H1 S1 ρ2 H2 (S2.set S1.length none) := U.trans Up.kill
        split at w
        · rename_i hb
          obtain ⟨ρ3, R3, U3, k⟩ := trunc_ok R1 U2 R2.kill
          exact (show PostV X.K ρ1 H1 S1 Q (.lst ds) (trunc S1 (S2.set S1.length none)) from w) ρ3 (.ref D0) H2 R3 U3 (k (.lst ds) _ hb fz)
        · exact (show PostV X.K ρ1 H1 S1 Q (.lst ds) (S2.set S1.length none) from w) ρ2 (.ref D0) H2 R2.kill U2 fz
      · exact w.elim)
    fun _ _ _ w => w
theorem y_comp {m : EM} (hm : ∀ σ H Q, tE X.K X.mg W m σ H Q → tLc (tI X.K X.mg W mi) (tG X.K (own.map (·.2)) g) (tT X.K X.mg W0 ts) (tE X.K X.mg W0 el) (own.map (·.2)) σ H Q) (hc : X.calm = true) (hN : X.N.Nodup) (hi : PI X tg iter (tI X.K X.mg W mi)) (ok : blkC X.N X.env.scope scope own = true)
    (hg : ∀ (s : Shared) (H : Hp) (C : Addr) (cl : List (Str × Addr)) (fp : List Addr), PG (X.blk s H scope (compEnvC scope cl C X.env) fp) tg (tG X.K (own.map (·.2)) g)) (ht : ∀ (s : Shared) (H : Hp) (C : Addr) (cl : List (Str × Addr)) (fp : List Addr), PTs (X.blk s H scope (compEnvC scope cl C X.env) fp) ifs (tT X.K X.mg W0 ts))
    (he : ∀ (s : Shared) (H : Hp) (C : Addr) (cl : List (Str × Addr)) (fp : List Addr), PE (X.blk s H scope (compEnvC scope cl C X.env) fp) elt (tE X.K X.mg W0 el)) (hs : ∀ x, foldedSetIterable iter X.env x = pure x := by intro _; rfl) :
    PE X (.ListComp elt [⟨tg, iter, ifs, 0⟩] scope pos) (tE X.K X.mg W m) := (pe_lc hc hN hi (blkOk_by ok) hg ht he hs).imp hm
/-- name = [..] -/
theorem s_setComp {m : EM} (i : Nat) {y : Str} {py spos : Pos} (hm : ∀ σ H Q, tE X.K X.mg W m σ H Q → tLc (tI X.K X.mg W mi) (tG X.K (own.map (·.2)) g) (tT X.K X.mg W0 ts) (tE X.K X.mg W0 el) (own.map (·.2)) σ H Q) (hc : X.calm = true) (hN : X.N.Nodup) (hyl : X.env.scope.names.lookup y = some .local)
    (hsw : swapsWith (.ListComp elt [⟨tg, iter, ifs, 0⟩] scope pos) (some (.Name y py)) spos.line X.env = pure true) (hi : PI X tg iter (tI X.K X.mg W mi)) (ok : blkC X.N X.env.scope scope own = true)
    (hg : ∀ (s : Shared) (H : Hp) (C : Addr) (cl : List (Str × Addr)) (fp : List Addr), PG (X.blk s H scope (compEnvC scope cl C X.env) fp) tg (tG X.K (own.map (·.2)) g)) (ht : ∀ (s : Shared) (H : Hp) (C : Addr) (cl : List (Str × Addr)) (fp : List Addr), PTs (X.blk s H scope (compEnvC scope cl C X.env) fp) ifs (tT X.K X.mg W0 ts))
    (he : ∀ (s : Shared) (H : Hp) (C : Addr) (cl : List (Str × Addr)) (fp : List Addr), PE (X.blk s H scope (compEnvC scope cl C X.env) fp) elt (tE X.K X.mg W0 el)) (hy : X.N[i]? = some y := by rfl) (hs : ∀ x, foldedSetIterable iter X.env x = pure x := by intro _; rfl) :
    PS X (.Assign [.Name y py] (.ListComp elt [⟨tg, iter, ifs, 0⟩] scope pos) spos) (tS X.K X.mg W (asg (tgN i) m)) :=
  (ps_setLc hc hN hy hyl hsw hi (blkOk_by ok) hg ht he hs).imp fun Dn σ H ⟨ρ, env, S, R, V, w⟩ => hm σ H _ (tE_seq R V (wpM_mono (wpS_bS V w) (fun d S1 w1 ρ1 v H1 R1 V1 U1 r1 => w1 ρ1 _ H1 R1 (V1.set r1) U1) fun _ _ _ q => q))
end
end
end Y

end
section
set_option Elab.async false
set_option linter.all false
set_option maxRecDepth 100000
set_option maxHeartbeats 4000000
set_option autoImplicit false
namespace Y
open PySem PySem.Spec L2

/-! ### built-in functions -/
def calB (f : Sto → List D → Option D) (l : LM) : EM := fun env S => bd (l env S) fun ds S1 => lf (f S1 ds) S1
def calF (f : Sto → List D → Option (List D)) (l : LM) : LM := fun env S => bd (l env S) fun ds S1 => lf (f S1 ds) S1
def CallS (K : PySem.W.Frag) (r : List V → Hp → VK → Prop) (f : Sto → List D → Option D) : Prop := ∀ (ρ : List Addr) (H : Hp) (S : Sto) (ds : List D) (d : D) (vs : List V) (Q : VK), RS K ρ H S → RelL K H (Al ρ S) ρ vs ds → f S ds = some d →
  (∀ w H', Same H H' → RelD K H' (Al ρ S) ρ w d → Q w H') → r vs H Q
def CallF (K : PySem.W.Frag) (r : List V → Hp → VK → Prop) (f : Sto → List D → Option (List D)) : Prop := ∀ (ρ : List Addr) (H : Hp) (S : Sto) (ds es : List D) (vs : List V) (Q : VK), RS K ρ H S → RelL K H (Al ρ S) ρ vs ds → f S ds = some es →
  (∀ p xs H', RelL K H (Al ρ S) ρ xs es → H p = none → Same H H' → H' p = some (.lst xs) → Q (.ref p) H') → r vs H Q
section
variable {X : Cx} {W : WX} {x : Str} {p pos : Pos} {e : Expr} {es : List Expr} {l : LM} {id T : String} {r : List V → Hp → VK → Prop} {f : Sto → List D → Option D} {g : Sto → List D → Option (List D)}
theorem calB_imp (hf : CallS X.K r f) : ∀ σ H Q, tE X.K X.mg W (calB f l) σ H Q → tCB r (tA X.K X.mg W l) σ H Q := fun σ H Q ⟨ρ, env, S, R, V, w⟩ => tA_seq R V (wpM_mono (wpM_bd w) (fun ds S1 w1 ρ1 vs H1 R1 V1 U1 r1 => by
  obtain ⟨d, e, q⟩ := wpM_lf w1
  exact hf ρ1 H1 S1 ds d vs Q R1 r1 e fun w' H' s k => q ρ1 w' H' (R1.same s) (U1.trans (Up.same s)) k) fun _ _ _ q => q)
theorem calF_imp (hf : CallF X.K r g) : ∀ σ H Q, tF X.K X.mg W (calF g l) σ H Q → tCB r (tA X.K X.mg W l) σ H Q := fun σ H Q ⟨ρ, env, S, R, V, w⟩ => tA_seq R V (wpM_mono (wpM_bd w) (fun ds S1 w1 ρ1 vs H1 R1 V1 U1 r1 => by
  obtain ⟨es, e, q⟩ := wpM_lf w1
  exact hf ρ1 H1 S1 ds es vs Q R1 r1 e fun p xs H' k np s hp => q ρ1 p xs H1 H' R1 U1 k np s hp) fun _ _ _ q => q)
theorem y_callB (hc : CallR X (.builtin id) r) (hf : CallS X.K r f) (hm : X.mg x = none) (hv : bootBuiltins x = some (.builtin id)) (ha : PA X (e :: es) (tA X.K X.mg W l)) (hg : Gl X x := by rfl) (hn : x ≠ "__name__" := by decide) (hdb : (x == ("__debug__" : Str)) = false := by decide)
    (he : starEach (e :: es) X.env = (false, eval e X.env) :: starEach es X.env := by rfl) (hpl : (backTo pos (starEach es X.env)).any (·.1) = false := by rfl) : PE X (.Call (.Name x p) (e :: es) [] pos) (tE X.K X.mg W (calB f l)) := (pe_callB hc hg hm hv ha hn hdb he hpl).imp (calB_imp hf)
theorem y_callTy (hc : CallR X (.type T) r) (hf : CallS X.K r f) (hm : X.mg x = none) (hv : bootBuiltins x = some (.type T)) (ha : PA X (e :: es) (tA X.K X.mg W l)) (hg : Gl X x := by rfl) (hn : x ≠ "__name__" := by decide) (hdb : (x == ("__debug__" : Str)) = false := by decide)
    (he : starEach (e :: es) X.env = (false, eval e X.env) :: starEach es X.env := by rfl) (hpl : (backTo pos (starEach es X.env)).any (·.1) = false := by rfl) : PE X (.Call (.Name x p) (e :: es) [] pos) (tE X.K X.mg W (calB f l)) := (pe_callTy hc hg hm hv ha hn hdb he hpl).imp (calB_imp hf)
theorem y_callBF (hc : CallR X (.builtin id) r) (hf : CallF X.K r g) (hm : X.mg x = none) (hv : bootBuiltins x = some (.builtin id)) (ha : PA X (e :: es) (tA X.K X.mg W l)) (hg : Gl X x := by rfl) (hn : x ≠ "__name__" := by decide) (hdb : (x == ("__debug__" : Str)) = false := by decide)
    (he : starEach (e :: es) X.env = (false, eval e X.env) :: starEach es X.env := by rfl) (hpl : (backTo pos (starEach es X.env)).any (·.1) = false := by rfl) : PE X (.Call (.Name x p) (e :: es) [] pos) (tF X.K X.mg W (calF g l)) := (pe_callB hc hg hm hv ha hn hdb he hpl).imp (calF_imp hf)
theorem y_callTyF (hc : CallR X (.type T) r) (hf : CallF X.K r g) (hm : X.mg x = none) (hv : bootBuiltins x = some (.type T)) (ha : PA X (e :: es) (tA X.K X.mg W l)) (hg : Gl X x := by rfl) (hn : x ≠ "__name__" := by decide) (hdb : (x == ("__debug__" : Str)) = false := by decide)
    (he : starEach (e :: es) X.env = (false, eval e X.env) :: starEach es X.env := by rfl) (hpl : (backTo pos (starEach es X.env)).any (·.1) = false := by rfl) : PE X (.Call (.Name x p) (e :: es) [] pos) (tF X.K X.mg W (calF g l)) := (pe_callTy hc hg hm hv ha hn hdb he hpl).imp (calF_imp hf)
end
/-- the items of a list, a tuple -/
def seqOf (S : Sto) : D → Option (List D)
  | .tup ds => some ds
  | .lst ds => some ds
  | .ref n => match S[n]? with
    | some (some (.lst ds)) => some ds
    | _ => none
  | _ => none
section
variable {K : PySem.W.Frag} {ρ : List Addr} {H : Hp} {S : Sto} {d : D} {ds es : List D} {v : V} {vs : List V}
theorem one_of (r : RelL K H (Al ρ S) ρ vs [d]) : ∃ v, vs = [v] ∧ RelD K H (Al ρ S) ρ v d := by
  obtain ⟨x, xs, rfl, h1, h2⟩ := r
  have h2' : xs = [] := h2
  subst h2'
  exact ⟨x, rfl, h1⟩
theorem two_of {e : D} (r : RelL K H (Al ρ S) ρ vs [d, e]) : ∃ v u, vs = [v, u] ∧ RelD K H (Al ρ S) ρ v d ∧ RelD K H (Al ρ S) ρ u e := by
  obtain ⟨x, xs, rfl, h1, h2⟩ := r
  obtain ⟨u, rfl, h3⟩ := one_of h2
  exact ⟨x, u, rfl, h1, h3⟩
theorem seq_relT (R : RS K ρ H S) (h : seqOf S d = some ds) (r : RelD K H (Al ρ S) ρ v d) : ∃ a xs, v = .ref a ∧ (SqL K H a xs ∨ TupT K H a xs) ∧ RelL K H (Al ρ S) ρ xs ds := by
  cases d with
  | tup es =>
    cases h
    obtain ⟨a, xs, e, h1, h2⟩ := r
    exact ⟨a, xs, e, .inr h1, h2⟩
  | lst es =>
    cases h
    obtain ⟨a, xs, e, h1, h2⟩ := r
    exact ⟨a, xs, e, .inl h1.sq, h2⟩
  | ref n =>
    simp only [seqOf] at h
    split at h
    · rename_i fs hS
      cases h
      obtain ⟨a, e, ha⟩ := r
      obtain ⟨xs, h1, h2⟩ := R.obj n _ a hS ha
      exact ⟨a, xs, e, .inl (.inl (.inl h1)), h2⟩
    · cases h
  | _ => cases h
theorem seq_rel (R : RS K ρ H S) (h : seqOf S d = some ds) (r : RelD K H (Al ρ S) ρ v d) : ∃ a xs, v = .ref a ∧ (SqL K H a xs ∨ SqT K H a xs) ∧ RelL K H (Al ρ S) ρ xs ds :=
  let ⟨a, xs, e, h1, h2⟩ := seq_relT R h r
  ⟨a, xs, e, h1.imp id TupT.sq, h2⟩
/-- .. of a list alone -/
def lstOf (S : Sto) : D → Option (List D)
  | .lst ds => some ds
  | .ref n => match S[n]? with
    | some (some (.lst ds)) => some ds
    | _ => none
  | _ => none
theorem lst_rel (R : RS K ρ H S) (h : lstOf S d = some ds) (r : RelD K H (Al ρ S) ρ v d) : ∃ a xs, v = .ref a ∧ SqL K H a xs ∧ RelL K H (Al ρ S) ρ xs ds := by
  cases d with
  | lst es =>
    cases h
    obtain ⟨a, xs, e, h1, h2⟩ := r
    exact ⟨a, xs, e, h1.sq, h2⟩
  | ref n =>
    simp only [lstOf] at h
    split at h
    · rename_i fs hS
      cases h
      obtain ⟨a, e, ha⟩ := r
      obtain ⟨xs, h1, h2⟩ := R.obj n _ a hS ha
      exact ⟨a, xs, e, .inl (.inl h1), h2⟩
    · cases h
  | _ => cases h
def o_len (S : Sto) : List D → Option D
  | [.str z] => if z.length ≤ sizeLine then some (.int z.length) else none
  | [d] => (seqOf S d).map fun ds => .int ds.length
  | _ => none
theorem cs_len : CallS K (fun xs H Q => ∃ x n, xs = [x] ∧ LenV K x H n ∧ Q (.int n) H) o_len := by
  intro ρ H S ds d vs Q R r e q
  cases ds with
  | nil => cases e
  | cons a t =>
    cases t with
    | cons b t => cases a <;> cases e
    | nil =>
      obtain ⟨v, rfl, rv⟩ := one_of r
      have gen : (seqOf S a).map (fun ds => D.int ds.length) = some d → ∃ x n, [v] = [x] ∧ LenV K x H n ∧ Q (.int n) H := fun e => by
        obtain ⟨ds, e1, rfl⟩ := Option.map_eq_some_iff.mp e
        obtain ⟨a', xs, rfl, h1, h2⟩ := seq_rel R e1 rv
        refine ⟨.ref a', xs.length, rfl, ?_, by rw [h2.length]; exact q _ H (Same.refl H) rfl⟩
        rcases h1 with h1 | h1
        · exact .inl ⟨xs, h1, rfl⟩
        · exact .inr ⟨xs, h1, rfl⟩
      cases a with
      | str z =>
        simp only [o_len] at e
        split at e
        · rename_i hl
          cases e
          have rv' : v = .str z := rv
          subst rv'
          exact ⟨.str z, z.length, rfl, ⟨hl, rfl⟩, q _ H (Same.refl H) rfl⟩
        · cases e
      | _ => exact gen e
def o_abs (_ : Sto) : List D → Option D
  | [.int i] => some (.int (if i < 0 then -i else i))
  | _ => none
theorem cs_abs : CallS K (fun xs H Q => ∃ i, xs = [.int i] ∧ Q (.int (if i < 0 then -i else i)) H) o_abs := by
  intro ρ H S ds d vs Q R r e q
  unfold o_abs at e
  split at e
  · rename_i i
    cases e
    obtain ⟨v, rfl, rv⟩ := one_of r
    have rv' : v = .int i := rv
    subst rv'
    exact ⟨i, rfl, q _ H (Same.refl H) rfl⟩
  · cases e
def o_int (_ : Sto) : List D → Option D
  | [.int i] => some (.int i)
  | [.bl k] => some (.int (if k then 1 else 0))
  | _ => none
theorem cs_int : CallS K (fun xs H Q => (∃ i, xs = [.int i] ∧ Q (.int i) H) ∨ ∃ k, xs = [.bl k] ∧ Q (.int (if k then 1 else 0)) H) o_int := by
  intro ρ H S ds d vs Q R r e q
  unfold o_int at e
  split at e
  · rename_i i
    cases e
    obtain ⟨v, rfl, rv⟩ := one_of r
    have rv' : v = .int i := rv
    subst rv'
    exact .inl ⟨i, rfl, q _ H (Same.refl H) rfl⟩
  · rename_i i
    cases e
    obtain ⟨v, rfl, rv⟩ := one_of r
    have rv' : v = .bl i := rv
    subst rv'
    exact .inr ⟨i, rfl, q _ H (Same.refl H) rfl⟩
  · cases e
def o_str (_ : Sto) : List D → Option D
  | [.int i] => if i.natAbs.log2 < 1920 then some (.str (toString i)) else none
  | _ => none
theorem cs_str : CallS K (fun xs H Q => ∃ i, xs = [.int i] ∧ i.natAbs.log2 < 1920 ∧ Q (.str (toString i)) H) o_str := by
  intro ρ H S ds d vs Q R r e q
  unfold o_str at e
  split at e
  · rename_i i
    split at e
    · rename_i hl
      cases e
      obtain ⟨v, rfl, rv⟩ := one_of r
      have rv' : v = .int i := rv
      subst rv'
      exact ⟨i, rfl, hl, q _ H (Same.refl H) rfl⟩
    · cases e
  · cases e
def o_max2 (_ : Sto) : List D → Option D
  | [.int i, .int j] => some (.int (if j > i then j else i))
  | _ => none
def o_min2 (_ : Sto) : List D → Option D
  | [.int i, .int j] => some (.int (if j < i then j else i))
  | _ => none
theorem cs_max2 : CallS K (fun xs H Q => ∃ i j, xs = [.int i, .int j] ∧ Q (.int (if j > i then j else i)) H) o_max2 := by
  intro ρ H S ds d vs Q R r e q
  unfold o_max2 at e
  split at e
  · rename_i i j
    cases e
    obtain ⟨v, u, rfl, rv, ru⟩ := two_of r
    have rv' : v = .int i := rv
    have ru' : u = .int j := ru
    subst rv' ru'
    exact ⟨i, j, rfl, q _ H (Same.refl H) rfl⟩
  · cases e
theorem cs_min2 : CallS K (fun xs H Q => ∃ i j, xs = [.int i, .int j] ∧ Q (.int (if j < i then j else i)) H) o_min2 := by
  intro ρ H S ds d vs Q R r e q
  unfold o_min2 at e
  split at e
  · rename_i i j
    cases e
    obtain ⟨v, u, rfl, rv, ru⟩ := two_of r
    have rv' : v = .int i := rv
    have ru' : u = .int j := ru
    subst rv' ru'
    exact ⟨i, j, rfl, q _ H (Same.refl H) rfl⟩
  · cases e
/-- tuple(x) -/
def o_tuple (S : Sto) : List D → Option D
  | [d] => (seqOf S d).map .tup
  | _ => none
theorem cs_tuple : CallS K (fun xs H Q => ∃ p ys, xs = [.ref p] ∧ ((SqL K H p ys ∧ ∀ l, H l = none → Q (.ref l) (upd H l (.tup ys))) ∨ (SqT K H p ys ∧ Q (.ref p) H))) o_tuple := by
  intro ρ H S ds d vs Q R r e q
  unfold o_tuple at e
  split at e
  · rename_i a
    obtain ⟨es, e1, rfl⟩ := Option.map_eq_some_iff.mp e
    obtain ⟨v, rfl, rv⟩ := one_of r
    obtain ⟨p, xs, rfl, h1, h2⟩ := seq_relT R e1 rv
    rcases h1 with h1 | h1
    · refine ⟨p, xs, rfl, .inl ⟨h1, fun l hl => ?_⟩⟩
      have s : Same H (upd H l (.tup xs)) := same_new hl
      exact q _ _ s ⟨l, xs, rfl, TupT.of upd_same, (Up.same (K := K) (ρ := ρ) (S := S) s).relL h2⟩
    · exact ⟨p, xs, rfl, .inr ⟨h1, q _ H (Same.refl H) ⟨p, xs, rfl, h1, h2⟩⟩⟩
  · cases e
/-- list(x) -/
def o_list (S : Sto) : List D → Option (List D)
  | [d] => seqOf S d
  | _ => none
theorem cf_list : CallF K (fun xs H Q => ∃ p ys, xs = [.ref p] ∧ (SqL K H p ys ∨ SqT K H p ys) ∧ ∀ l, H l = none → Q (.ref l) (upd H l (.lst ys))) o_list := by
  intro ρ H S ds es vs Q R r e q
  unfold o_list at e
  split at e
  · rename_i a
    obtain ⟨v, rfl, rv⟩ := one_of r
    obtain ⟨p, xs, rfl, h1, h2⟩ := seq_rel R e rv
    exact ⟨p, xs, rfl, h1, fun l hl => q l xs _ h2 hl (same_new hl) upd_same⟩
  · cases e
end

/-! ### isinstance -/
def tyN (S : Sto) : D → Option String
  | .non => some "NoneType"
  | .bl _ => some "bool"
  | .int _ => some "int"
  | .str _ => some "str"
  | .tup _ => some "tuple"
  | .lst _ => some "list"
  | .ref n => match S[n]? with
    | some (some (.lst _)) => some "list"
    | _ => none
def subT (a T : String) : Bool := a == T || (a == "bool" && T == "int")
def kindTs : List String := ["NoneType", "bool", "int", "str", "tuple", "list"]
def askTs : List String := ["bool", "int", "str", "tuple", "list", "dict"]
theorem kit_all : ∀ a ∈ kindTs, ∀ T ∈ askTs, kitB a T = some (subT a T) := by decide +kernel
def isiE (T : String) (m : EM) : EM := fun env S => bd (m env S) fun d S1 => lf ((tyN S1 d).map fun a => .bl (subT a T)) S1
def isiTE (Ts : List String) (m : EM) : EM := fun env S => bd (m env S) fun d S1 => if Ts.length ≤ 1000 then lf ((tyN S1 d).map fun a => .bl (Ts.any (subT a))) S1 else .err
section
variable {K : PySem.W.Frag} {ρ : List Addr} {H : Hp} {S : Sto} {d : D} {v : V} {a : String}
theorem tyN_mem (h : tyN S d = some a) : a ∈ kindTs := by
  cases d <;> first
    | (cases h; decide)
    | (simp only [tyN] at h; split at h <;> first | (cases h; decide) | cases h)
theorem tyN_ok (R : RS K ρ H S) (h : tyN S d = some a) (r : RelD K H (Al ρ S) ρ v d) : TyX K H v (.type a) := by
  have lst : ∀ {p : Addr} {xs : List V}, Rd H p (.lst xs) → TyX K H (.ref p) (.type "list") := fun {p xs} z => by
    rcases z with z | ⟨o, z⟩
    · exact .base (.lst z)
    · exact .base (.frz z)
  cases d with
  | non => cases h; have r' : v = .non := r; subst r'; exact .base .non
  | bl b => cases h; have r' : v = .bl b := r; subst r'; exact .base (.bl b)
  | int b => cases h; have r' : v = .int b := r; subst r'; exact .base (.int b)
  | str b => cases h; have r' : v = .str b := r; subst r'; exact .base (.str b)
  | tup ds =>
    cases h
    obtain ⟨p, xs, rfl, h1, _⟩ := r
    exact .base (.tup h1)
  | lst ds =>
    cases h
    obtain ⟨p, xs, rfl, h1, _⟩ := r
    rcases h1 with h1 | ⟨o, its, n, k1, k2, _⟩
    · exact lst h1.1
    · exact .kList k1 k2
  | ref n =>
    simp only [tyN] at h
    split at h
    · rename_i ds hS
      cases h
      obtain ⟨p, rfl, hp⟩ := r
      obtain ⟨xs, h1, _⟩ := R.obj n _ p hS hp
      exact lst (.inl h1)
    · cases h
end
section
variable {X : Cx} {W : WX} {pos p q : Pos} {e : Expr} {m : EM} {T x : String}
theorem y_isi (hT : T ∈ askTs) (he : PE X e (tE X.K X.mg W m)) (hm : X.mg "isinstance" = none) (hmT : X.mg (Str.ofString T) = none) (hvT : bootBuiltins (Str.ofString T) = some (.type T)) (hg : Gl X "isinstance" := by rfl) (hgT : Gl X (Str.ofString T) := by rfl) (hn : Str.ofString T ≠ "__name__" := by decide) (hdb : (Str.ofString T == ("__debug__" : Str)) = false := by decide)
    (h1 : starEach (e :: [.Name (Str.ofString T) q]) X.env = (false, eval e X.env) :: starEach [.Name (Str.ofString T) q] X.env := by rfl) : PE X (.Call (.Name "isinstance" p) [e, .Name (Str.ofString T) q] [] pos) (tE X.K X.mg W (isiE T m)) :=
  (pe_callB (he := h1) call_isi hg hm PyProof.Rows.boot_isinstance (pa_cons he (pa_cons (pe_bltn (v := .ty T) hgT hmT hvT rfl hn hdb) pa_nil) h1)).imp fun σ H Q ⟨ρ, env, S, R, V, w⟩ => tE_seq R V (wpM_mono (wpM_bd w) (fun d S1 w1 ρ1 v H1 R1 V1 U1 r1 => by
    obtain ⟨b, e1, k⟩ := wpM_lf w1
    obtain ⟨a, e2, rfl⟩ := Option.map_eq_some_iff.mp e1
    exact ⟨v, .ty T, .type a, .type T, subT a T, rfl, .ty T, tyN_ok R1 e2 r1, kit_ty (kit_all a (tyN_mem e2) T hT), k ρ1 _ H1 R1 U1 rfl⟩) fun _ _ _ q => q)
theorem kitAny_ts {K : PySem.W.Frag} {a : String} (ha : a ∈ kindTs) : ∀ Ts : List String, (∀ T ∈ Ts, T ∈ askTs) → PySem.W.kitAny K (.type a) (Ts.map Value.type) = some (Ts.any (subT a))
  | [], _ => kitAny_nil
  | T :: Ts, h => by
    have ih := kitAny_ts (K := K) ha Ts fun T' h' => h T' (List.mem_cons_of_mem _ h')
    have h1 := kit_ty (K := K) (kit_all a ha T (h T List.mem_cons_self))
    rw [List.any_cons]
    cases hb : subT a T with
    | true => exact kitAny_cons (b := true) (by rw [← hb]; exact h1) (fun z => by cases z) fun _ => by simp
    | false => exact kitAny_cons (b := false) (by rw [← hb]; exact h1) (fun _ => by simpa using ih) fun z => by cases z
/-- isinstance(e, (T, x)) -/
theorem y_isi2 {p2 q2 : Pos} {k : Nat} (hT : T ∈ askTs) (hx : x ∈ askTs) (he : PE X e (tE X.K X.mg W m)) (hm : X.mg "isinstance" = none) (hmT : X.mg (Str.ofString T) = none) (hmx : X.mg (Str.ofString x) = none) (hvT : bootBuiltins (Str.ofString T) = some (.type T)) (hvx : bootBuiltins (Str.ofString x) = some (.type x))
    (hg : Gl X "isinstance" := by rfl) (hgT : Gl X (Str.ofString T) := by rfl) (hgx : Gl X (Str.ofString x) := by rfl) (hn : Str.ofString T ≠ "__name__" := by decide) (hdb : (Str.ofString T == ("__debug__" : Str)) = false := by decide) (hn2 : Str.ofString x ≠ "__name__" := by decide) (hdb2 : (Str.ofString x == ("__debug__" : Str)) = false := by decide)
    (h1 : starEach (e :: [.Tuple [.Name (Str.ofString T) q, .Name (Str.ofString x) q2] k p2]) X.env = (false, eval e X.env) :: starEach [.Tuple [.Name (Str.ofString T) q, .Name (Str.ofString x) q2] k p2] X.env := by rfl) :
    PE X (.Call (.Name "isinstance" p) [e, .Tuple [.Name (Str.ofString T) q, .Name (Str.ofString x) q2] k p2] [] pos) (tE X.K X.mg W (isiTE [T, x] m)) :=
  (pe_callB (he := h1) call_isiT hg hm PyProof.Rows.boot_isinstance (pa_cons he (pa_cons (pe_tup (pa_cons (pe_bltn (v := .ty T) hgT hmT hvT rfl hn hdb) (pa_cons (pe_bltn (v := .ty x) hgx hmx hvx rfl hn2 hdb2) pa_nil))) pa_nil) h1)).imp fun σ H Q ⟨ρ, env, S, R, V, w⟩ => tE_seq R V (wpM_mono (wpM_bd w) (fun d S1 w1 ρ1 v H1 R1 V1 U1 r1 => by
    split at w1
    · obtain ⟨b, e1, k⟩ := wpM_lf w1
      obtain ⟨a, e2, rfl⟩ := Option.map_eq_some_iff.mp e1
      refine ⟨by show 2 ≤ sizeLine; decide, fun l hl => ?_⟩
      have s : Same H1 (upd H1 l (.tup [.ty T, .ty x])) := same_new hl
      exact ⟨v, l, [.ty T, .ty x], .type a, [.type T, .type x], _, rfl, upd_same, .cons (.ty T) (.cons (.ty x) .nil), tyN_ok (R1.same s) e2 ((Up.same (K := X.K) (ρ := ρ1) (S := S1) s).relD r1),
        kitAny_ts (tyN_mem e2) [T, x] (fun T' h => by rcases List.mem_cons.mp h with h | h; · rw [h]; exact hT
                                                      · rw [List.mem_singleton.mp h]; exact hx), k ρ1 _ _ (R1.same s) (U1.trans (Up.same s)) rfl⟩
    · exact w1.elim) fun _ _ _ q => q)
end

/-! ### methods -/
def tyD (T : String) (S : Sto) : D → Bool
  | .str _ => T == "str"
  | .int _ => T == "int"
  | .lst _ => T == "list"
  | .ref n => match S[n]? with
    | some (some (.lst _)) => T == "list"
    | _ => false
  | _ => false
theorem tyD_ok {K : PySem.W.Frag} {ρ : List Addr} {H : Hp} {S : Sto} {d : D} {v : V} {T : String} (R : RS K ρ H S) (h : tyD T S d = true) (r : RelD K H (Al ρ S) ρ v d) : tyV K T v H := by
  cases d with
  | str z => have r' : v = .str z := r; subst r'; exact eq_of_beq h
  | int z => have r' : v = .int z := r; subst r'; exact eq_of_beq h
  | lst ds =>
    obtain ⟨a, xs, rfl, h1, _⟩ := r
    exact .inl ⟨eq_of_beq h, xs, h1.sq⟩
  | ref n =>
    simp only [tyD] at h
    split at h
    · rename_i ds hS
      obtain ⟨a, rfl, ha⟩ := r
      obtain ⟨xs, h1, _⟩ := R.obj n _ a hS ha
      exact .inl ⟨eq_of_beq h, xs, .inl (.inl h1)⟩
    · cases h
  | _ => cases h
abbrev MF := Sto → D → List D → Option (D × Sto)
def meth (T : String) (f : MF) (o : EM) (l : LM) : EM := fun env S => bd (o env S) fun x S1 => if tyD T S1 x then bd (l env S1) fun ds S2 => match f S2 x ds with
  | some (d, S3) => .ok d S3
  | none => .err else .err
/-- f tells what a method's rule r needs -/
def MtS (K : PySem.W.Frag) (r : V → List V → Hp → VK → Prop) (f : MF) : Prop := ∀ (ρ : List Addr) (H : Hp) (S S' : Sto) (x d : D) (ds : List D) (v : V) (vs : List V) (Q : VK), RS K ρ H S → RelD K H (Al ρ S) ρ v x → RelL K H (Al ρ S) ρ vs ds → f S x ds = some (d, S') →
    (∀ ρ' w H', RS K ρ' H' S' → Up K ρ H S ρ' H' S' → RelD K H' (Al ρ' S') ρ' w d → Q w H') → r v vs H Q
section
variable {X : Cx} {W : WX} {apos cpos : Pos} {o e : Expr} {es : List Expr} {mo : EM} {l : LM} {T id : String} {name : Str} {r : V → List V → Hp → VK → Prop} {f : MF}
theorem y_bm (hm : MtR X id r) (h : MtS X.K r f) (pa : PlainAttrs T) (slot : Slot T name id) (hty : typeOf (.builtin id) = pure (.type "method_descriptor")) (ho : PE X o (tE X.K X.mg W mo)) (ha : PA X (e :: es) (tA X.K X.mg W l))
    (hbase : attributeBase o name X.env (eval o X.env) = eval o X.env := by rfl)
    (hfew : ((backTo cpos (starEach (e :: es) X.env)).all (fun x => !x.1) && (backToKw cpos (keywordEach [] X.env)).all (fun x => x.1.isSome)
      && decide ((e :: es).length + ([] : List Keyword).length + (if ([] : List Keyword).isEmpty then 0 else 1) < 30)) = true := by rfl)
    (hline : (apos.endLine == cpos.line) = true := by rfl) (hs : starEach (e :: es) X.env = (false, eval e X.env) :: starEach es X.env := by rfl) (hplain : (backTo cpos (starEach es X.env)).any (·.1) = false := by rfl) :
    PE X (.Call (.Attribute o name apos) (e :: es) [] cpos) (tE X.K X.mg W (meth T f mo l)) :=
  (pe_bm pa slot hty hm ho ha hbase hfew hline hs hplain).imp fun σ H Q ⟨ρ, env, S, R, V, w⟩ => tE_seq R V (wpM_mono (wpM_bd w) (fun x S1 w1 ρ1 v H1 R1 V1 U1 r1 => by
    split at w1
    · rename_i hty
      refine ⟨tyD_ok R1 hty r1, tA_seq R1 V1 (wpM_mono (wpM_bd w1) (fun ds S2 w2 ρ2 vs H2 R2 V2 U2 r2 => ?_) fun _ _ _ q => q.up U1)⟩
      split at w2
      · rename_i d S3 e3
        exact h ρ2 H2 S2 S3 x d ds v vs Q R2 (U2.relD r1) r2 e3 fun ρ' w' H' R' U' k => w2 ρ' w' H' R' ((U1.trans U2).trans U') k
      · exact w2.elim
    · exact w1.elim) fun _ _ _ q => q)
theorem y_bm0 (hm : MtR X id r) (h : MtS X.K r f) (pa : PlainAttrs T) (slot : Slot T name id) (hty : typeOf (.builtin id) = pure (.type "method_descriptor")) (ho : PE X o (tE X.K X.mg W mo))
    (hbase : attributeBase o name X.env (eval o X.env) = eval o X.env := by rfl) (hline : (apos.endLine == cpos.line) = true := by rfl) :
    PE X (.Call (.Attribute o name apos) [] [] cpos) (tE X.K X.mg W (meth T f mo lnil)) :=
  (pe_bm0 pa slot hty hm ho hbase hline).imp fun σ H Q ⟨ρ, env, S, R, V, w⟩ => tE_seq R V (wpM_mono (wpM_bd w) (fun x S1 w1 ρ1 v H1 R1 V1 U1 r1 => by
    split at w1
    · rename_i hty
      refine ⟨tyD_ok R1 hty r1, ?_⟩
      simp only [lnil, bd] at w1
      split at w1
      · rename_i d S3 e3
        exact h ρ1 H1 S1 S3 x d [] v [] Q R1 r1 rfl e3 fun ρ' w' H' R' U' k => w1 ρ' w' H' R' (U1.trans U') k
      · exact w1.elim
    · exact w1.elim) fun _ _ _ q => q)
end
section
variable {K : PySem.W.Frag}
/-- a method that changes the list at n -/
def chg (S : Sto) (x : D) (k : List D → Option (D × List D)) : Option (D × Sto) := match x with
  | .ref n => match S[n]? with
    | some (some (.lst ds)) => (k ds).map fun p => (p.1, S.set n (some (.lst p.2)))
    | _ => none
  | _ => none
theorem chg_ok {ρ : List Addr} {H : Hp} {S S' : Sto} {x d : D} {v : V} {k : List D → Option (D × List D)} (R : RS K ρ H S) (r : RelD K H (Al ρ S) ρ v x) (e : chg S x k = some (d, S')) :
    ∃ n a xs ds es, x = .ref n ∧ v = .ref a ∧ H a = some (.lst xs) ∧ RelL K H (Al ρ S) ρ xs ds ∧ k ds = some (d, es) ∧ S' = S.set n (some (.lst es)) ∧
      ∀ ys, RelL K H (Al ρ S) ρ ys es → RS K ρ (upd H a (.lst ys)) S' ∧ Up K ρ H S ρ (upd H a (.lst ys)) S' := by
  cases x with
  | ref n =>
    simp only [chg] at e
    split at e
    · rename_i ds hS
      obtain ⟨⟨d', es⟩, e1, e2⟩ := Option.map_eq_some_iff.mp e
      cases e2
      obtain ⟨a, rfl, ha⟩ := r
      obtain ⟨xs, h1, h2⟩ := R.obj n _ a hS ha
      exact ⟨n, a, xs, ds, es, rfl, rfl, h1, h2, e1, rfl, fun ys ry => ⟨R.set hS ha h1 ry, Up.set hS ha h1⟩⟩
    · cases e
  | _ => cases e
def m_append : MF := fun S x vs => match vs with
  | [y] => chg S x fun ds => if ds.length < sizeLine then some (.non, ds ++ [y]) else none
  | _ => none
theorem ms_append : MtS K rAppend m_append := by
  intro ρ H S S' x d ds v vs Q R rx rl e q
  unfold m_append at e
  split at e
  · rename_i y
    obtain ⟨n, a, xs, es, fs, rfl, rfl, h1, h2, e1, rfl, k⟩ := chg_ok R rx e
    obtain ⟨u, rfl, ru⟩ := one_of rl
    split at e1
    · rename_i hl
      cases e1
      obtain ⟨R', U'⟩ := k (xs ++ [u]) (h2.append (RelL.cons ru RelL.nil))
      exact ⟨a, xs, u, rfl, rfl, h1, by rw [h2.length]; exact hl, q ρ .non _ R' U' rfl⟩
    · cases e1
  · cases e
def m_pop : MF := fun S x vs => match vs with
  | [] => chg S x fun ds => (ds[ds.length - 1]?).map fun y => (y, ds.dropLast)
  | _ => none
theorem ms_pop : MtS K rPop m_pop := by
  intro ρ H S S' x d ds v vs Q R rx rl e q
  unfold m_pop at e
  split at e
  · obtain ⟨n, a, xs, es, fs, rfl, rfl, h1, h2, e1, rfl, k⟩ := chg_ok R rx e
    have rl' : vs = [] := rl
    obtain ⟨y, e2, e3⟩ := Option.map_eq_some_iff.mp e1
    cases e3
    obtain ⟨u, f1, f2⟩ := h2.getLast e2
    obtain ⟨R', U'⟩ := k xs.dropLast h2.dropLast
    exact ⟨a, xs, u, rfl, rl', h1, f1, q ρ u _ R' U' (U'.relD f2)⟩
  · cases e
def m_popAt : MF := fun S x vs => match vs with
  | [.int i] => if -(2 ^ 63) ≤ i ∧ i < 2 ^ 63 then chg S x fun ds => (seqIndex? i ds.length).bind fun k => (ds[k]?).map fun y => (y, ds.eraseIdx k) else none
  | _ => none
theorem ms_popAt : MtS K rPopAt m_popAt := by
  intro ρ H S S' x d ds v vs Q R rx rl e q
  unfold m_popAt at e
  split at e
  · rename_i i
    split at e
    · rename_i hi
      obtain ⟨n, a, xs, es, fs, rfl, rfl, h1, h2, e1, rfl, k⟩ := chg_ok R rx e
      obtain ⟨u, rfl, ru⟩ := one_of rl
      have ru' : u = .int i := ru
      subst ru'
      obtain ⟨j, e2, e3⟩ := Option.bind_eq_some_iff.mp e1
      obtain ⟨y, e4, e5⟩ := Option.map_eq_some_iff.mp e3
      cases e5
      obtain ⟨w, f1, f2⟩ := h2.get e4
      obtain ⟨R', U'⟩ := k (xs.eraseIdx j) (h2.erase j)
      exact ⟨a, xs, i, j, w, rfl, rfl, h1, hi.1, hi.2, by rw [h2.length]; exact e2, f1, q ρ w _ R' U' (U'.relD f2)⟩
    · cases e
  · cases e
def strsOf : List D → Option (List Str)
  | [] => some []
  | .str s :: ds => (strsOf ds).map fun l => s :: l
  | _ => none
theorem strsOf_map : ∀ {ds : List D} {ys : List Str}, strsOf ds = some ys → ds = ys.map D.str
  | [], ys, h => by cases h; rfl
  | .str s :: ds, ys, h => by
    have h' : (strsOf ds).map (fun l => s :: l) = some ys := h
    obtain ⟨l, e, rfl⟩ := Option.map_eq_some_iff.mp h'
    rw [strsOf_map e]; rfl
  | .non :: _, _, h => by cases h
  | .bl _ :: _, _, h => by cases h
  | .int _ :: _, _, h => by cases h
  | .tup _ :: _, _, h => by cases h
  | .lst _ :: _, _, h => by cases h
  | .ref _ :: _, _, h => by cases h
def m_join : MF := fun S x vs => match x, vs with
  | .str a, [d] => (seqOf S d).bind fun ds => (strsOf ds).bind fun ys => if (ys.map (·.length)).sum + ys.length * a.length ≤ 16777216 then some (.str (Txt.join a ys), S) else none
  | _, _ => none
theorem ms_join : MtS K (fun x xs H Q => ∃ a p, ∃ ys : List Str, x = .str a ∧ xs = [.ref p] ∧ (SqL K H p (ys.map V.str) ∨ SqT K H p (ys.map V.str)) ∧ (ys.map (·.length)).sum + ys.length * a.length ≤ 16777216 ∧ Q (.str (Txt.join a ys)) H) m_join := by
  intro ρ H S S' x d ds v vs Q R rx rl e q
  unfold m_join at e
  split at e
  · rename_i a d'
    obtain ⟨es, e1, e2⟩ := Option.bind_eq_some_iff.mp e
    obtain ⟨ys, e3, e4⟩ := Option.bind_eq_some_iff.mp e2
    split at e4
    · rename_i hz
      cases e4
      have rx' : v = .str a := rx
      obtain ⟨u, rfl, ru⟩ := one_of rl
      obtain ⟨p, xs, rfl, h1, h2⟩ := seq_rel R e1 ru
      rw [strsOf_map e3] at h2
      have h3 := RelL.of_strs h2
      subst h3
      exact ⟨a, p, ys, rx', rfl, h1, hz, q ρ _ H R Up.refl rfl⟩
    · cases e4
  · cases e
end

/-! ### parts -/
abbrev OM := En → Sto → Res (Option Int)
def tOi (K : PySem.W.Frag) (mg : Str → Option Value) (W : WX) (m : OM) : TO := fun σ H Q => ∃ ρ env S, RS K ρ H S ∧ RV K ρ σ H S env ∧ wpM (m env S) (fun o S' => ∀ ρ' H', RS K ρ' H' S' → Up K ρ H S ρ' H' S' → Q o H') (PostX K mg W ρ σ H S)
def onoM : OM := fun _ S => .ok none S
def osmM (m : EM) : OM := fun env S => bd (m env S) fun d S1 => match d with
  | .int i => .ok (some i) S1
  | _ => .err
/-- the items from lo to hi -/
def cutL (xs : List D) (lo hi : Option Int) : List D := (xs.drop (HT.sIx xs.length 0 lo)).take (HT.sIx xs.length xs.length hi - HT.sIx xs.length 0 lo)
def o_cut (S : Sto) (d : D) (lo hi : Option Int) : Option D := match d with
  | .tup ds => some (.tup (cutL ds lo hi))
  | .str z => if z.length ≤ sizeLine then some (.str (cutS z lo hi)) else none
  | _ => none
def cut (f : Sto → D → Option Int → Option Int → Option D) (m : EM) (a b : OM) : EM := fun env S => bd (m env S) fun d S1 => bd (a env S1) fun lo S2 => bd (b env S2) fun hi S3 => lf (f S3 d lo hi) S3
def cutF (m : EM) (a b : OM) : LM := fun env S => bd (m env S) fun d S1 => bd (a env S1) fun lo S2 => bd (b env S2) fun hi S3 => lf ((lstOf S3 d).map fun ds => cutL ds lo hi) S3
section
variable {X : Cx} {W : WX} {pos p2 : Pos} {e : Expr} {m : EM} {lo hi : Option Expr} {a b : OM}
theorem PO_imp {e : Option Expr} {t t' : TO} (h : PO X e t) (i : ∀ σ H Q, t' σ H Q → t σ H Q) : PO X e t' := ⟨fun pins s σ H Q I q => h.run pins s σ H Q I (i σ H Q q)⟩
theorem y_ono : PO X none (tOi X.K X.mg W onoM) := PO_imp po_none fun σ H Q ⟨ρ, env, S, R, V, w⟩ => w ρ H R Up.refl
theorem y_osm (h : PE X e (tE X.K X.mg W m)) : PO X (some e) (tOi X.K X.mg W (osmM m)) := PO_imp (po_some h) fun σ H Q ⟨ρ, env, S, R, V, w⟩ => tE_seq R V (wpM_mono (wpM_bd w) (fun d S1 w1 ρ1 v H1 R1 V1 U1 r1 => by
  cases d with
  | int i => exact ⟨i, r1, w1 ρ1 H1 R1 U1⟩
  | _ => exact w1.elim) fun _ _ _ q => q)
theorem relL_cut {K : PySem.W.Frag} {H : Hp} {A : Addr → Prop} {ρ : List Addr} {xs : List V} {ds : List D} (r : RelL K H A ρ xs ds) (lo hi : Option Int) : RelL K H A ρ (cutV xs lo hi) (cutL ds lo hi) := by
  unfold cutV cutL
  rw [r.length]
  exact (r.drop _).take _
theorem cutL_all {ds : List D} {lo hi : Option Int} (h : HT.sIx ds.length 0 lo = 0 ∧ HT.sIx ds.length ds.length hi = ds.length) : cutL ds lo hi = ds := by
  unfold cutL
  rw [h.1, h.2]; simp
def rCutA (K : PySem.W.Frag) : V → Option Int → Option Int → Hp → VK → Prop := fun x lo hi H Q => rSlA K x lo hi H Q ∨ rSlS x lo hi H Q
theorem y_cut (h : PE X e (tE X.K X.mg W m)) (ha : PO X lo (tOi X.K X.mg W a)) (hb : PO X hi (tOi X.K X.mg W b)) : PE X (.Subscript e (.Slice lo hi none p2) pos) (tE X.K X.mg W (cut o_cut m a b)) :=
  (pe_slice (sl_tupA.or sl_str) h ha hb).imp fun σ H Q ⟨ρ, env, S, R, V, w⟩ => tE_seq R V (wpM_mono (wpM_bd w) (fun d S1 w1 ρ1 v H1 R1 V1 U1 r1 => ⟨ρ1, env, S1, R1, V1, wpM_mono (wpM_bd w1) (fun lo S2 w2 ρ2 H2 R2 U2 =>
    ⟨ρ2, env, S2, R2, U2.rv V1, wpM_mono (wpM_bd w2) (fun hi S3 w3 ρ3 H3 R3 U3 => by
      obtain ⟨c, e1, k⟩ := wpM_lf w3
      have U := (U1.trans U2).trans U3
      have r3 := (U2.trans U3).relD r1
      cases d with
      | tup ds =>
        cases e1
        obtain ⟨p, xs, rfl, h1, h2⟩ := r3
        refine .inl ⟨p, xs, rfl, h1, fun z => ?_, fun z n np => ?_⟩
        · rw [h2.length] at z
          exact k ρ3 _ H3 R3 U ⟨p, xs, rfl, h1, by rw [cutL_all z]; exact h2⟩
        · have s : Same H3 (upd H3 n (.tup (cutV xs lo hi))) := same_new np
          exact k ρ3 _ _ (R3.same s) (U.trans (Up.same s)) ⟨n, _, rfl, TupT.of upd_same, (Up.same (K := X.K) (ρ := ρ3) (S := S3) s).relL (relL_cut h2 lo hi)⟩
      | str z =>
        simp only [o_cut] at e1
        split at e1
        · rename_i hl
          cases e1
          exact .inr ⟨z, r3, hl, k ρ3 _ H3 R3 U rfl⟩
        · cases e1
      | _ => cases e1) fun _ _ _ q => q.up (U1.trans U2)⟩) fun _ _ _ q => q.up U1⟩) fun _ _ _ q => q)
theorem y_cutF (h : PE X e (tE X.K X.mg W m)) (ha : PO X lo (tOi X.K X.mg W a)) (hb : PO X hi (tOi X.K X.mg W b)) : PE X (.Subscript e (.Slice lo hi none p2) pos) (tF X.K X.mg W (cutF m a b)) :=
  (pe_slice sl_list h ha hb).imp fun σ H Q ⟨ρ, env, S, R, V, w⟩ => tE_seq R V (wpM_mono (wpM_bd w) (fun d S1 w1 ρ1 v H1 R1 V1 U1 r1 => ⟨ρ1, env, S1, R1, V1, wpM_mono (wpM_bd w1) (fun lo S2 w2 ρ2 H2 R2 U2 =>
    ⟨ρ2, env, S2, R2, U2.rv V1, wpM_mono (wpM_bd w2) (fun hi S3 w3 ρ3 H3 R3 U3 => by
      obtain ⟨c, e1, k⟩ := wpM_lf w3
      obtain ⟨ds, e2, rfl⟩ := Option.map_eq_some_iff.mp e1
      have U := (U1.trans U2).trans U3
      obtain ⟨p, xs, rfl, h1, h2⟩ := lst_rel R3 e2 ((U2.trans U3).relD r1)
      exact ⟨p, xs, rfl, h1, fun n np => k ρ3 n _ H3 _ R3 U (relL_cut h2 lo hi) np (same_new np) upd_same⟩) fun _ _ _ q => q.up (U1.trans U2)⟩) fun _ _ _ q => q.up U1⟩) fun _ _ _ q => q)
end
end Y

end
section
set_option Elab.async false
set_option linter.all false
set_option maxRecDepth 100000
set_option maxHeartbeats 4000000
set_option autoImplicit false
/-! enumerate of a tuple -/
namespace PySem
theorem y_meets_enum {v : Value} {o : Obj} {H : Heap → Prop} (B : Begins v o H) :
    Meets (Builtin.«enumerate.__new__» ⟨[.type "enumerate", v], []⟩) (fun _ R s => H s.heap ∧
      R (.ok (.ret (.ref (s.heap.push o).objs.size))) { s with heap := (s.heap.push o).push { cls := .type "enumerate", data := .fields #[.none, .bool false, .ref s.heap.objs.size, rawInt 0, .none, .none] } }) :=
  .of_wp fun prog w A R s h => by
    obtain ⟨hp, g, d, tk, os⟩ := s
    obtain ⟨h1, h⟩ := h
    have hsub := sub_enumerate
    have q1 : ∀ {A' : Around} {E : Value → Shared → Prop} {Q : Value → Shared → Prop}, Q (.ref hp.objs.size) ⟨(hp.push o), g, d, tk, os⟩ → wpAny (model prog w) A' (pyIter v) Q E ⟨hp, g, d, tk, os⟩ :=
      fun q => B.iter prog w _ _ ⟨hp, g, d, tk, os⟩ _ h1 q
    wp_walk
    refine wpAny_stack_any fun st => wpAny_pure ?_
    split
    · rename_i c _ _ _ _ _
      cases (c == Value.type "enumerate")
      · wp_walk using q1
        exact ⟨_, rfl, h⟩
      · wp_walk using q1
        exact ⟨_, rfl, h⟩
    · wp_walk using q1
      exact ⟨_, rfl, h⟩
theorem y_call_enum {prog : Program} {w : World} {A : Around} {E : Value → Shared → Prop} {s : Shared} {v : Value} {o : Obj} {H : Heap → Prop} {Q : Value → Shared → Prop} (B : Begins v o H) (hs : H s.heap)
    (h : ∀ h', IsEnum h' (s.heap.objs.size + 1) s.heap.objs.size 0 .none → h'.get? s.heap.objs.size = some o → h'.objs.size = s.heap.objs.size + 2 →
      (∀ b o, s.heap.get? b = some o → h'.get? b = some o) → Q (.ref (s.heap.objs.size + 1)) { s with heap := h' }) :
    wpAny (model prog w) A (call (.type "enumerate") [v]) Q E s := by
  refine callType_new F.called_enumerate (by decide) (F.typeCall_enumerate_1 _) (F.newCall_enumerate_1 _) (fun obj => F.args_object_init_2 obj _) F.entry_enumerate_new
    (y_meets_enum B) ⟨hs, ?_⟩
  have hz : (s.heap.push o).objs.size = s.heap.objs.size + 1 := Heap.size_push ..
  show _ ∧ _
  rw [hz]
  have he : IsEnum ((s.heap.push o).push { cls := .type "enumerate", data := .fields #[.none, .bool false, .ref s.heap.objs.size, rawInt 0, .none, .none] }) (s.heap.objs.size + 1) s.heap.objs.size 0 .none := by
    have := Heap.get?_push_size (s.heap.push o)
      (o := { cls := .type "enumerate", data := .fields #[.none, .bool false, .ref s.heap.objs.size, rawInt 0, .none, .none] }) rfl
    rw [hz] at this; exact this
  exact ⟨⟨_, he, rfl⟩, h _ he (Heap.get?_push_of_some _ (Heap.get?_push_size _ B.free)) (by rw [Heap.size_push, hz]) fun b o x => Heap.get?_push_of_some _ (Heap.get?_push_of_some _ x)⟩
end PySem
namespace L2
open PySem PySem.Spec PyProof.Rows
/-- the tuple at a, each item in a new pair -/
def IteT (K : PySem.W.Frag) (a : Addr) : It :=
  ⟨fun i H => ∃ (xs : List V) (x : V), SqT K H a xs ∧ xs[i]? = some x, fun i H v H' => ∃ T x, v = .ref T ∧ H T = none ∧ H' = upd H T (.tup [.int (i : Nat), x]) ∧ ∀ xs, SqT K H a xs → xs[i]? = some x, fun i H => ∃ xs : List V, SqT K H a xs ∧ xs.length = i⟩
theorem turn_enumT {P : Program} {w : World} {K : PySem.W.Frag} {elts : List Expr} {kk : Nat} {tpos : Pos} (a e it : Addr) :
    Turn P w K (.Tuple elts kk tpos) (IteT K a) [e, it] e (fun i h => (∃ old, IsEnum h e it ((i : Nat) : Int) old) ∧ h.IsTupleIter it a i ∧ e ≠ it ∧ a ≠ it ∧ e ≠ a) where
  mem := by simp
  obj := fun i h st b hb => by
    obtain ⟨⟨old, he⟩, ⟨o, ho, hc, hd⟩, _⟩ := st
    have e' : b = e ∨ b = it := by simpa using hb
    rcases e' with z | z
    · rw [z]; exact ⟨_, he, fun v q => nomatch q⟩
    · rw [z]; exact ⟨o, ho, fun v q => by rw [hd] at q; cases q⟩
  keep := fun i h h' st k => let ⟨⟨old, he⟩, hi, hne⟩ := st; ⟨⟨old, k e (by simp) _ he⟩, hi.at fun o q => k it (by simp) o q, hne⟩
  item := by
    intro X hP hw hK hc i pins s σ H E I hf st hg
    subst hP hw hK
    obtain ⟨⟨old, he⟩, hit, hne, hai, hea⟩ := st
    obtain ⟨xs, x, hq, hx⟩ := hg
    obtain ⟨its, rv, p, hz⟩ := I.tuple hq
    obtain ⟨u, hu, ru⟩ := rv.get hx
    have hel : e < s.heap.objs.size := Heap.lt_size he
    have hil : it < s.heap.objs.size := by obtain ⟨_, q, _⟩ := hit; exact Heap.lt_size q
    have hlt : i < its.toArray.size := by
      rw [List.size_toArray]; exact (List.getElem?_eq_some_iff.mp hu).1
    have p' : s.heap.IsTuple a its.toArray := p
    refine wpAny_pyNext_enum_itemD (Draws.tuple (A := X.A.in1) (I.ok.hd hc) it a hai its.toArray) he ⟨hit, p'⟩ hlt hne (by simp [hne, hea]) fun u' h' tk hx' ho st' hT hsz hk => ?_
    obtain ⟨hit', _⟩ := st'
    have eu : u' = u := by
      have e1 : its[i]? = some u' := by simpa using hx'
      rw [hu] at e1; exact (Option.some.inj e1).symm
    subst eu
    refine ⟨_, rfl, wpAny_letOwnedTupleGo_enum (s := { s with heap := h', toks := tk + 1 }) ho fun h'' he' sb => ?_⟩
    have hT2 : h''.get? s.heap.objs.size = some { cls := .type "tuple", data := .seq #[.int i tk, u'] } := (sb.2 _ (Nat.ne_of_gt hel)).trans hT
    have new : ObjOk X.prog X.w (upd H s.heap.objs.size (.tup [.int (i : Nat), x])) h'' s.heap.objs.size (.tup [.int (i : Nat), x]) :=
      ⟨by show 2 ≤ sizeLine; decide, [.int i tk, u'], .cons ⟨_, rfl⟩ (.cons ru .nil), ⟨_, hT2, rfl, _, rfl⟩⟩
    have I1 : Inv X pins σ (upd H s.heap.objs.size (.tup [.int (i : Nat), x])) { s with heap := h'', toks := tk + 1 } :=
      I.turnedNew (ch := [e, it]) (fun b ob hb q => (sb.2 b (fun z => hb (by simp [z]))).trans (hk b ob (fun z => hb (by simp [z])) (fun z => hb (by simp [z])) q)) hf (Nat.le_refl _) new
    refine ⟨.ref s.heap.objs.size, _, I1, rfl, ⟨_, x, rfl, I.hok.fresh (Nat.le_refl _), rfl, fun ys hy => by rw [I.tuple_inj hy hq]; exact hx⟩, ⟨⟨u', ?_⟩, hit'.at fun o q => (sb.2 it (Ne.symm hne)).trans q, hne, hai, hea⟩, fun b hb => ?_⟩
    · have e1 : ((i + 1 : Nat) : Int) = (i : Int) + 1 := by omega
      rw [e1]; exact he'
    · have hb' : b < s.heap.objs.size := by
        have e' : b = e ∨ b = it := by simpa using hb
        rcases e' with z | z
        · rw [z]; exact hel
        · rw [z]; exact hil
      rw [upd_ne (Nat.ne_of_lt hb')]
      exact (hf b hb).1
  done := by
    intro X hP hw hK hc i pins s σ H E I hf st hg
    subst hP hw hK
    obtain ⟨⟨old, he⟩, hit, hne, hai, hea⟩ := st
    obtain ⟨xs, hq, hx⟩ := hg
    obtain ⟨its, rv, p, hz⟩ := I.tuple hq
    obtain ⟨f0, f1, f2, f3, f4, f5⟩ := hf it (by simp)
    have hl := rv.length
    have p' : s.heap.IsTuple a its.toArray := p
    have hi : its.toArray.size = i := by rw [List.size_toArray]; omega
    subst hi
    exact wpAny_pyNext_enum_endD (Draws.tuple (A := X.A.in1) (I.ok.hd hc) it a hai its.toArray) he ⟨hit, p'⟩ fun h' eb => ⟨rfl, I.turned (t' := s.toks) (fun b o hb q => eb b o hb q) f0 f1 f3 f4 f5⟩
  self := fun A i s Q E st h => let ⟨⟨_, he⟩, _⟩ := st; wpAny_pyIter_enum he h
def iEnumA (K : PySem.W.Frag) (ta : TA) : TI := fun σ H R => ta σ H fun vs H1 => ∃ a xs, vs = [.ref a] ∧ ((SqL K H1 a xs ∧ R (Ite K a) H1) ∨ (SqT K H1 a xs ∧ R (IteT K a) H1))
theorem pi_enumA {X : Cx} {e : Expr} {ta : TA} {p pos tpos : Pos} {elts : List Expr} {kk : Nat} (hg : Gl X "enumerate") (hm : X.mg "enumerate" = none) (ha : PA X [e] ta) (hs : starEach [e] X.env = [(false, eval e X.env)] := by rfl) :
    PI X (.Tuple elts kk tpos) (.Call (.Name "enumerate" p) [e] [] pos) (iEnumA X.K ta) := by
  refine ⟨fun pins s σ H R I h => ?_⟩
  refine Call_ (ld_blt I hg hm boot_enumerate (PyProof.Rows.callWith_type1 (thn (ha.run pos pins s σ H _ I h) fun us s1 ⟨vs, H1, I1, r1, q1⟩ => ?_) hs rfl))
  obtain ⟨a, xs, ex, q1⟩ := q1
  subst ex
  cases r1 with
  | cons r rr =>
    cases rr
    cases r
    have fresh2 : ∀ b ∈ [s1.heap.objs.size + 1, s1.heap.objs.size], FpOk X pins H1 b := fun b hb => by
      have e' : b = s1.heap.objs.size + 1 ∨ b = s1.heap.objs.size := by simpa using hb
      have hle : s1.heap.objs.size ≤ b := by
        rcases e' with z | z
        · rw [z]; exact Nat.le_add_right _ _
        · rw [z]; exact Nat.le_refl _
      exact I1.fpOk hle (I1.hok.fresh hle)
    rcases q1 with ⟨hq, q⟩ | ⟨hq, q⟩
    · obtain ⟨its, rv, p', hz⟩ := I1.list hq
      refine call_enumerate_list p'.isList fun h' he hit hsz hk => wpAny_pyIter_enum he ?_
      have I2 : Inv X pins σ H1 { s1 with heap := h' } := I1.kept (t' := s1.toks) hk
      exact ⟨s1.heap.objs.size + 1, [s1.heap.objs.size + 1, s1.heap.objs.size], _, _, H1, rfl, I2, turn_enum a (s1.heap.objs.size + 1) s1.heap.objs.size, ⟨⟨.none, he⟩, hit, Nat.succ_ne_self _⟩, fresh2, q⟩
    · obtain ⟨its, rv, p', hz⟩ := I1.tuple hq
      have pt : s1.heap.IsTuple a its.toArray := p'
      refine y_call_enum (begins_tuple a its.toArray) pt fun h' he hit hsz hk => wpAny_pyIter_enum he ?_
      have I2 : Inv X pins σ H1 { s1 with heap := h' } := I1.kept (t' := s1.toks) hk
      have hal : a < s1.heap.objs.size := p'.lt
      exact ⟨s1.heap.objs.size + 1, [s1.heap.objs.size + 1, s1.heap.objs.size], _, _, H1, rfl, I2, turn_enumT a (s1.heap.objs.size + 1) s1.heap.objs.size, ⟨⟨.none, he⟩, ⟨_, hit, rfl, rfl⟩, Nat.succ_ne_self _, Nat.ne_of_lt hal, Nat.ne_of_gt (Nat.lt_succ_of_lt hal)⟩, fresh2, q⟩
end L2
namespace Y
open PySem PySem.Spec L2
/-- (0, d0), (1, d1), .. -/
def enL (k : Nat) : List D → List D
  | [] => []
  | d :: ds => .tup [.int k, d] :: enL (k + 1) ds
theorem enL_get : ∀ {ds : List D} {k i : Nat} {d : D}, (enL k ds)[i]? = some d → ∃ x, ds[i]? = some x ∧ d = .tup [.int (k + i : Nat), x]
  | [], _, i, d, h => by simp [enL] at h
  | x :: ds, k, 0, d, h => by
    have h' : D.tup [.int k, x] = d := Option.some.inj h
    exact ⟨x, rfl, by rw [← h']; rfl⟩
  | x :: ds, k, i + 1, d, h => by
    have h' : (enL (k + 1) ds)[i]? = some d := h
    obtain ⟨y, e1, e2⟩ := enL_get h'
    refine ⟨y, e1, ?_⟩
    rw [e2, show k + 1 + i = k + (i + 1) by omega]
theorem enL_length : ∀ {ds : List D} {k : Nat}, (enL k ds).length = ds.length
  | [], _ => rfl
  | d :: ds, k => by rw [enL, List.length_cons, List.length_cons, enL_length]
/-- what enumerate, zip take -/
def seqSrc (S : Sto) : D → Option (Bool × List D × List (Nat × List D))
  | .tup ds => some (true, ds, [])
  | .lst ds => some (false, ds, [])
  | .ref n => match S[n]? with
    | some (some (.lst ds)) => some (false, ds, [(n, ds)])
    | _ => none
  | _ => none
/-- where it stands at every later state that the sources suit -/
theorem seqSrc_ok {K : PySem.W.Frag} {ρ : List Addr} {H : Hp} {S : Sto} {d : D} {v : V} {b : Bool} {ds : List D} {src : List (Nat × List D)} (R : RS K ρ H S) (r : RelD K H (Al ρ S) ρ v d) (e : seqSrc S d = some (b, ds, src)) :
    ∃ a, v = .ref a ∧ ∀ ρ' H' S', RS K ρ' H' S' → Up K ρ H S ρ' H' S' → okSrc src S' → ∃ xs, (b = true → SqT K H' a xs) ∧ (b = false → SqL K H' a xs) ∧ RelL K H' (Al ρ' S') ρ' xs ds := by
  cases d with
  | tup es =>
    cases e
    obtain ⟨a, xs, rfl, h1, h2⟩ := r
    exact ⟨a, rfl, fun ρ' H' S' R' U _ => ⟨xs, fun _ => U.tup a xs h1, fun z => (by cases z), U.relL h2⟩⟩
  | lst es =>
    cases e
    obtain ⟨a, xs, rfl, h1, h2⟩ := r
    exact ⟨a, rfl, fun ρ' H' S' R' U _ => ⟨xs, fun z => (by cases z), fun _ => (U.fz h1).sq, U.relL h2⟩⟩
  | ref n =>
    simp only [seqSrc] at e
    split at e
    · rename_i es hS
      cases e
      obtain ⟨a, rfl, ha⟩ := r
      refine ⟨a, rfl, fun ρ' H' S' R' U ok => ?_⟩
      obtain ⟨ys, k1, k2⟩ := R'.obj n _ a (ok (n, _) List.mem_cons_self) (U.pre n a ha)
      exact ⟨ys, fun z => (by cases z), fun _ => .inl (.inl k1), k2⟩
    · cases e
  | _ => cases e
theorem okSrc_here {K : PySem.W.Frag} {ρ : List Addr} {H : Hp} {S : Sto} {d : D} {b : Bool} {ds : List D} {src : List (Nat × List D)} (e : seqSrc S d = some (b, ds, src)) : okSrc src S := by
  cases d with
  | tup es => cases e; intro p hp; cases hp
  | lst es => cases e; intro p hp; cases hp
  | ref n =>
    simp only [seqSrc] at e
    split at e
    · rename_i es hS
      cases e
      intro p hp
      rw [List.mem_singleton.mp hp]; exact hS
    · cases e
  | _ => cases e
def i_enum (l : LM) : IM := fun env S => bd (l env S) fun ds S1 => match ds with
  | [d] => lf ((seqSrc S1 d).map fun p => (enL 0 p.2.1, p.2.2)) S1
  | _ => .err
def zipL : List D → List D → List D
  | x :: xs, y :: ys => .tup [x, y] :: zipL xs ys
  | _, _ => []
theorem zipL_get : ∀ {xs ys : List D} {i : Nat} {d : D}, (zipL xs ys)[i]? = some d → ∃ x y, xs[i]? = some x ∧ ys[i]? = some y ∧ d = .tup [x, y]
  | [], _, i, d, h => by simp [zipL] at h
  | _ :: _, [], i, d, h => by simp [zipL] at h
  | x :: xs, y :: ys, 0, d, h => ⟨x, y, rfl, rfl, (Option.some.inj h).symm⟩
  | x :: xs, y :: ys, i + 1, d, h => by
    have h' : (zipL xs ys)[i]? = some d := h
    have := zipL_get (xs := xs) (ys := ys) (i := i) h'
    exact this
theorem zipL_length : ∀ {xs ys : List D}, (zipL xs ys).length = min xs.length ys.length
  | [], ys => by simp [zipL]
  | _ :: _, [] => by simp [zipL]
  | x :: xs, y :: ys => by simp [zipL, zipL_length]
def i_zip (l : LM) : IM := fun env S => bd (l env S) fun ds S1 => match ds with
  | [x, y] => lf ((seqSrc S1 x).bind fun p => (seqSrc S1 y).bind fun q => if p.1 = q.1 then some (zipL p.2.1 q.2.1, p.2.2 ++ q.2.2) else none) S1
  | _ => .err
section
variable {X : Cx} {W : WX} {pos tpos p : Pos} {e e2 : Expr} {l : LM} {elts : List Expr} {kk : Nat}
theorem y_enum (hm : X.mg "enumerate" = none) (ha : PA X [e] (tA X.K X.mg W l)) (hg : Gl X "enumerate" := by rfl) (hs : starEach [e] X.env = [(false, eval e X.env)] := by rfl) :
    PI X (.Tuple elts kk tpos) (.Call (.Name "enumerate" p) [e] [] pos) (tI X.K X.mg W (i_enum l)) :=
  PI_imp (pi_enumA hg hm ha hs) fun σ H Q ⟨ρ, env, S, R, V, w⟩ => tA_seq R V (wpM_mono (wpM_bd w) (fun ds S1 w1 ρ1 vs H1 R1 V1 U1 r1 => by
    split at w1
    · rename_i d
      obtain ⟨q, e1, k⟩ := wpM_lf w1
      obtain ⟨⟨b, es, src⟩, e2, rfl⟩ := Option.map_eq_some_iff.mp e1
      obtain ⟨v, rfl, rv⟩ := one_of r1
      obtain ⟨a, rfl, at'⟩ := seqSrc_ok R1 rv e2
      obtain ⟨xs0, t0, l0, _⟩ := at' ρ1 H1 S1 R1 Up.refl (okSrc_here (K := X.K) (ρ := ρ1) (H := H1) e2)
      refine ⟨a, xs0, rfl, ?_⟩
      cases b with
      | false =>
        refine .inl ⟨l0 rfl, k ρ1 H1 _ R1 U1 fun ρ2 H2 S2 R2 U2 ok => ?_⟩
        obtain ⟨xs, _, hl, rl⟩ := at' ρ2 H2 S2 R2 U2 ok
        have hl := hl rfl
        have len := rl.length
        simp only [enL_length]
        refine ⟨fun i hi => ⟨xs, xs[i]'(by omega), hl, by simp [len, hi]⟩, ⟨xs, hl, by omega⟩, fun i d x H' ed y => ?_⟩
        obtain ⟨T, u, rfl, hT, rfl, y⟩ := y
        obtain ⟨x0, f1, rfl⟩ := enL_get ed
        obtain ⟨w', g1, g2⟩ := rl.get f1
        rw [y xs hl] at g1
        cases g1
        have s : Same H2 (upd H2 T (.tup [.int (i : Nat), u])) := same_new hT
        refine ⟨s, T, _, rfl, TupT.of upd_same, RelL.cons (by rw [Nat.zero_add]; rfl) (RelL.cons ((Up.same (K := X.K) (ρ := ρ2) (S := S2) s).relD g2) RelL.nil)⟩
      | true =>
        refine .inr ⟨t0 rfl, k ρ1 H1 _ R1 U1 fun ρ2 H2 S2 R2 U2 ok => ?_⟩
        obtain ⟨xs, hl, _, rl⟩ := at' ρ2 H2 S2 R2 U2 ok
        have hl := hl rfl
        have len := rl.length
        simp only [enL_length]
        refine ⟨fun i hi => ⟨xs, xs[i]'(by omega), hl, by simp [len, hi]⟩, ⟨xs, hl, by omega⟩, fun i d x H' ed y => ?_⟩
        obtain ⟨T, u, rfl, hT, rfl, y⟩ := y
        obtain ⟨x0, f1, rfl⟩ := enL_get ed
        obtain ⟨w', g1, g2⟩ := rl.get f1
        rw [y xs hl] at g1
        cases g1
        have s : Same H2 (upd H2 T (.tup [.int (i : Nat), u])) := same_new hT
        refine ⟨s, T, _, rfl, TupT.of upd_same, RelL.cons (by rw [Nat.zero_add]; rfl) (RelL.cons ((Up.same (K := X.K) (ρ := ρ2) (S := S2) s).relD g2) RelL.nil)⟩
    · exact w1.elim) fun _ _ _ q => q)
theorem y_zip (hm : X.mg "zip" = none) (ha : PA X [e, e2] (tA X.K X.mg W l)) (hg : Gl X "zip" := by rfl) (hs : starEach [e, e2] X.env = (false, eval e X.env) :: starEach [e2] X.env := by rfl) (hpl : (backTo pos (starEach [e2] X.env)).any (·.1) = false := by rfl) :
    PI X (.Tuple elts kk tpos) (.Call (.Name "zip" p) [e, e2] [] pos) (tI X.K X.mg W (i_zip l)) :=
  PI_imp (RZ.pi_zipA hg hm ha hs hpl) fun σ H Q ⟨ρ, env, S, R, V, w⟩ => tA_seq R V (wpM_mono (wpM_bd w) (fun ds S1 w1 ρ1 vs H1 R1 V1 U1 r1 => by
    split at w1
    · rename_i d1 d2
      obtain ⟨q, e0, k⟩ := wpM_lf w1
      obtain ⟨⟨b, es, src⟩, e1, e0⟩ := Option.bind_eq_some_iff.mp e0
      obtain ⟨⟨b', fs, src'⟩, e2, e0⟩ := Option.bind_eq_some_iff.mp e0
      split at e0
      · rename_i hb
        have hb' : b = b' := hb
        subst hb'
        cases e0
        obtain ⟨v, vs', rfl, rv, rr⟩ := r1
        obtain ⟨v', rfl, rv'⟩ := one_of rr
        obtain ⟨a, rfl, at1⟩ := seqSrc_ok R1 rv e1
        obtain ⟨a', rfl, at2⟩ := seqSrc_ok R1 rv' e2
        obtain ⟨xs0, t0, l0, _⟩ := at1 ρ1 H1 S1 R1 Up.refl (okSrc_here (K := X.K) (ρ := ρ1) (H := H1) e1)
        obtain ⟨ys0, t1, l1, _⟩ := at2 ρ1 H1 S1 R1 Up.refl (okSrc_here (K := X.K) (ρ := ρ1) (H := H1) e2)
        refine ⟨a, a', xs0, ys0, rfl, ?_⟩
        cases b with
        | false =>
          refine .inl ⟨l0 rfl, l1 rfl, k ρ1 H1 _ R1 U1 fun ρ2 H2 S2 R2 U2 ok => ?_⟩
          obtain ⟨xs, _, hl, rl⟩ := at1 ρ2 H2 S2 R2 U2 fun p hp => ok p (List.mem_append_left _ hp)
          obtain ⟨ys, _, hl', rl'⟩ := at2 ρ2 H2 S2 R2 U2 fun p hp => ok p (List.mem_append_right _ hp)
          have hl := hl rfl
          have hl' := hl' rfl
          have len := rl.length
          have len' := rl'.length
          simp only [zipL_length]
          refine ⟨fun i hi => ⟨xs, ys, xs[i]'(by omega), ys[i]'(by omega), hl, hl', by simp, by simp⟩, ⟨xs, ys, hl, hl', by omega⟩, fun i d x H' ed y => ?_⟩
          obtain ⟨T, u, u', rfl, hT, rfl, y, y'⟩ := y
          obtain ⟨x0, y0, f1, f2, rfl⟩ := zipL_get ed
          obtain ⟨w', g1, g2⟩ := rl.get f1
          obtain ⟨w'', g3, g4⟩ := rl'.get f2
          rw [y xs hl] at g1
          rw [y' ys hl'] at g3
          cases g1; cases g3
          have s : Same H2 (upd H2 T (.tup [u, u'])) := same_new hT
          have U := Up.same (K := X.K) (ρ := ρ2) (S := S2) s
          exact ⟨s, T, _, rfl, TupT.of upd_same, RelL.cons (U.relD g2) (RelL.cons (U.relD g4) RelL.nil)⟩
        | true =>
          refine .inr ⟨t0 rfl, t1 rfl, k ρ1 H1 _ R1 U1 fun ρ2 H2 S2 R2 U2 ok => ?_⟩
          obtain ⟨xs, hl, _, rl⟩ := at1 ρ2 H2 S2 R2 U2 fun p hp => ok p (List.mem_append_left _ hp)
          obtain ⟨ys, hl', _, rl'⟩ := at2 ρ2 H2 S2 R2 U2 fun p hp => ok p (List.mem_append_right _ hp)
          have hl := hl rfl
          have hl' := hl' rfl
          have len := rl.length
          have len' := rl'.length
          simp only [zipL_length]
          refine ⟨fun i hi => ⟨xs, ys, xs[i]'(by omega), ys[i]'(by omega), hl, hl', by simp, by simp⟩, ⟨xs, ys, hl, hl', by omega⟩, fun i d x H' ed y => ?_⟩
          obtain ⟨T, u, u', rfl, hT, rfl, y, y'⟩ := y
          obtain ⟨x0, y0, f1, f2, rfl⟩ := zipL_get ed
          obtain ⟨w', g1, g2⟩ := rl.get f1
          obtain ⟨w'', g3, g4⟩ := rl'.get f2
          rw [y xs hl] at g1
          rw [y' ys hl'] at g3
          cases g1; cases g3
          have s : Same H2 (upd H2 T (.tup [u, u'])) := same_new hT
          have U := Up.same (K := X.K) (ρ := ρ2) (S := S2) s
          exact ⟨s, T, _, rfl, TupT.of upd_same, RelL.cons (U.relD g2) (RelL.cons (U.relD g4) RelL.nil)⟩
      · cases e0
    · exact w1.elim) fun _ _ _ q => q)
end
end Y

end
section
set_option Elab.async false
set_option linter.all false
set_option maxRecDepth 100000
set_option maxHeartbeats 4000000
set_option autoImplicit false
/-! t[::-1] -/
namespace HT
open PySem PyProof.Rows L2
section
variable {prog : Program} {w : World} {A : Around} {E : Value → Shared → Prop} {s : Shared}
theorem y_sliceRev {sl : Addr} {t : Tok} {n : Nat} {Q : Int × Int × Nat → Shared → Prop} (hs : s.heap.IsSliceOf sl .none .none (.int (-1) t)) (h : Q ((n : Int) - 1, -1, n) s) :
    wpAny (model prog w) A (Builtin.Slice.sliceApplied (.ref sl) (pure (n : Int))) Q E s := by
  obtain ⟨os, hos, hcs, hds⟩ := id hs
  unfold Builtin.Slice.sliceApplied Builtin.Slice.sliceFields
  refine wpAny_bind (wpAny_bind (wpAny_field hos hds (x := .none) rfl (wpAny_bind (wpAny_field hos hds (x := .none) rfl (wpAny_bind (wpAny_field hos hds (x := .int (-1) t) rfl (wpAny_pure ?_)))))))
  refine wpAny_bind (slicePart_int ?_)
  show wpAny _ _ (if ((-1 : Int) == 0) = true then _ else _) _ _ s
  rw [if_neg (by decide)]
  refine wpAny_bind (slicePart_none (wpAny_bind (slicePart_none (wpAny_bind (wpAny_pure ?_)))))
  have e : Builtin.Slice.sliceAdjust none none (-1) (n : Int) = ((n : Int) - 1, -1) := by
    unfold Builtin.Slice.sliceAdjust
    simp
  have e2 : Builtin.Slice.slicePlaces ((n : Int) - 1) (-1) (-1) = n := by
    unfold Builtin.Slice.slicePlaces
    have h1 : ¬ ((-1 : Int) > 0) := by decide
    simp only [h1, if_false]
    split
    · rw [show (- (-1 : Int)) = 1 by decide, Int.ediv_one]; omega
    · omega
  show wpAny _ _ (match Builtin.Slice.sliceAdjust none none (-1) (n : Int) with | (lo, hi) => pure (lo, (-1 : Int), Builtin.Slice.slicePlaces lo hi (-1))) _ _ s
  rw [e]
  show wpAny _ _ (pure ((n : Int) - 1, (-1 : Int), Builtin.Slice.slicePlaces ((n : Int) - 1) (-1) (-1))) _ _ s
  rw [e2]
  exact wpAny_pure h
theorem y_fmCongr {α β : Type} {f g : α → Option β} : ∀ l : List α, (∀ x ∈ l, f x = g x) → l.filterMap f = l.filterMap g
  | [], _ => rfl
  | x :: l, h => by
    rw [List.filterMap_cons, List.filterMap_cons, h x List.mem_cons_self, y_fmCongr l fun y hy => h y (List.mem_cons_of_mem _ hy)]
theorem y_pickRev (xs : Array Value) : ((List.range xs.size).filterMap fun (m : Nat) => xs[(((xs.size : Int) - 1) + (m : Int) * -1).toNat]?).toArray = xs.toList.reverse.toArray := by
  have e : (List.range xs.size).filterMap (fun (m : Nat) => xs[(((xs.size : Int) - 1) + (m : Int) * -1).toNat]?) = ((List.range xs.size).map fun k => xs.size - 1 - k).filterMap (xs[·]?) := by
    rw [List.filterMap_map]
    refine y_fmCongr _ fun m hm => ?_
    have hm' := List.mem_range.mp hm
    show _ = xs[xs.size - 1 - m]?
    have : (((xs.size : Int) - 1) + (m : Int) * -1).toNat = xs.size - 1 - m := by omega
    rw [this]
  rw [e, PySem.W.krv_range, List.filterMap_reverse, PySem.W.krv_all]
theorem y_getRev {t sl : Addr} {items : Array Value} {tk : Tok} {Q : Value → Shared → Prop} (ht : IsTup s.heap t items) (hs : s.heap.IsSliceOf sl .none .none (.int (-1) tk))
    (h : Q (.ref s.heap.objs.size) { s with heap := s.heap.push { cls := .type "tuple", data := .seq items.toList.reverse.toArray } })
    (hsz : items.size ≤ sizeLine) : wpAny (model prog w) A (getItem (.ref t) (.ref sl)) Q E s := by
  have htake : sizeOk (.seq items.toList.reverse.toArray) := by
    show items.toList.reverse.toArray.size ≤ sizeLine
    rw [List.size_toArray, List.length_reverse, Array.length_toList]
    exact hsz
  obtain ⟨os, hos, hcs, hds⟩ := id hs
  have hTs : s.TypeIs (.ref sl) "slice" := ⟨os, hos, hcs⟩
  unfold getItem
  try with_reducible refine wpAny_holding ?_
  first | refine wpAny_bind (wpAny_pure ?_) | skip
  refine wpAny_bind (wpAny_sequenceKey ht.typeIs (by decide) ?_)
  refine wpAny_bind (wpAny_callSpecial?_slot (name := Str.ofString "__getitem__") ht.typeIs PyProof.Rows.slot_tuple_getitem
    (wpAny_call_entry PyProof.Rows.slot_tuple_getitem ht.typeIs entry_tuple_getitem ?_ (args_tuple_getitem _ _)))
  show wpAny _ _ (Builtin.Tuple.tupleItemsOf (.ref t) >>= _) _ _ s
  refine wpAny_bind (tupleItemsOf_ ht ?_)
  refine wpAny_bind (wpAny_typeOf hTs ?_)
  rw [if_pos (by decide)]
  refine wpAny_bind (y_sliceRev hs ?_)
  have hno : ¬ ((((items.size : Int) - 1 == 0) && ((-1 : Int) == 1) && (items.size == items.size)) = true) := by
    have : ((-1 : Int) == 1) = false := by decide
    rw [this, Bool.and_false, Bool.false_and]; exact Bool.false_ne_true
  show wpAny _ _ (if (((items.size : Int) - 1 == 0) && ((-1 : Int) == 1) && (items.size == items.size)) = true then _ else _) _ _ s
  rw [if_neg hno, y_pickRev]
  first
    | exact wpAny_bind (m := Builtin.Tuple.tupleExact _) (wpAny_newObj_type (wpAny_pure ⟨_, rfl, wpAny_pure h⟩) htake)
    | exact wpAny_bind (m := Builtin.Tuple.tupleExact _) (wpAny_newObj_type (wpAny_bind (wpAny_pure (wpAny_pure ⟨_, rfl, wpAny_pure h⟩))) htake)
    | exact wpAny_bind (wpAny_bind (m := Builtin.Tuple.tupleExact _) (wpAny_newObj_type (wpAny_pure (wpAny_pure ⟨_, rfl, wpAny_pure h⟩)) htake))
    | exact wpAny_bind (wpAny_bind (m := Builtin.Tuple.tupleExact _) (wpAny_newObj_type (wpAny_pure ⟨_, rfl, wpAny_pure h⟩) htake))
end
end HT
namespace L2
open PySem PySem.Spec PyProof.Rows
def tRevT (K : PySem.W.Frag) (te : TE) : TE := fun σ H Q => te σ H fun x H1 => ∃ a xs, x = .ref a ∧ SqT K H1 a xs ∧ ∀ p, H1 p = none → Q (.ref p) (upd H1 p (.tup xs.reverse))
theorem pe_revT {X : Cx} {e : Expr} {te : TE} {k : Nat} {p1 p2 p3 pos : Pos} (he : PE X e te) : PE X (.Subscript e (.Slice none none (some (.UnaryOp .USub (.Constant (.int 1) k p1) p2)) p3) pos) (tRevT X.K te) := by
  refine ⟨fun pins s σ H Q I h => ?_⟩
  refine Subscript_ (thn (he.run pins s σ H _ I h) fun v s1 ⟨x, H1, I1, r1, q1⟩ => ?_)
  obtain ⟨a, xs, ex, hx, q⟩ := q1
  subst ex
  cases r1
  have hst : PO X (some (.UnaryOp .USub (.Constant (.int 1) k p1) p2)) (tPart (tUn (rU fun i => .int (-i)) (tC (.int 1)))) := po_some (pe_un un_neg pe_int)
  refine wpAny_Slice (thn (po_none.run pins s1 σ H1 (fun o H2 => o = none ∧ H2 = H1) I1 ⟨rfl, rfl⟩) fun vl s2 ⟨l, H2, I2, pl, el, e2⟩ => ?_)
  subst el e2
  refine thn (po_none.run pins s2 σ H2 (fun o H3 => o = none ∧ H3 = H2) I2 ⟨rfl, rfl⟩) fun vu s3 ⟨u, H3, I3, pu, eu, e3⟩ => ?_
  subst eu e3
  refine thn (hst.run pins s3 σ H3 (fun o H4 => o = some (-1) ∧ H4 = H3) I3 ⟨1, rfl, -1, rfl, rfl, rfl⟩) fun vs s4 ⟨o, H4, I4, ps, eo, e4⟩ => ?_
  subst eo e4
  cases pl
  cases pu
  cases ps with
  | int _ tk =>
    have I5 : Inv X pins σ H4 { s4 with heap := s4.heap.push { cls := .type "slice", data := .fields #[.none, .none, .int (-1) tk] } } := I4.kept (t' := s4.toks) fun b ob q => Heap.get?_push_of_some _ q
    obtain ⟨its, r, ht, hz⟩ := I5.tuple hx
    have hlen := r.length
    show wpAny (model X.prog X.w) X.A (subscriptTail e (.Slice none none (some (.UnaryOp .USub (.Constant (.int 1) k p1) p2)) p3) (.ref a) (.ref s4.heap.objs.size)) (EP X pins σ Q) X.xe { s4 with heap := s4.heap.push { cls := .type "slice", data := .fields #[.none, .none, .int (-1) tk] } }
    refine tail_any (ops := [.ref a, .ref s4.heap.objs.size]) ht.typeIs (PyProof.Rows.slot_tuple_getitem.lookup) ?_ (by with_unfolding_all rfl)
    refine HT.y_getRev ht (Heap.IsSliceOf.new _ .none .none (.int (-1) tk)) ?_ (by rw [List.size_toArray]; omega)
    refine ⟨.ref _, _, I5.laid (t' := s4.toks) (o := .tup xs.reverse) (fun b ob q => Heap.get?_push_of_some _ q) (Nat.le_refl _) ?_, rfl, q _ (I5.hok.fresh (Nat.le_refl _))⟩
    exact ⟨by rw [List.length_reverse]; exact hz, _, r.reverse, ⟨_, Heap.get?_push_size _ rfl, rfl, _, rfl⟩⟩

/-! list(text) -/
def sgnV (z : Str) : List V := z.cps.toList.map fun c => .str ⟨#[c]⟩
theorem cr_listStr {X : Cx} (hc : X.calm = true) : CallR X (.type "list") (fun vs H Q => ∃ z : Str, vs = [.str z] ∧ z.cps.size ≤ sizeLine ∧ ∀ p, H p = none → Q (.ref p) (upd H p (.lst (sgnV z)))) := by
  intro pins s σ H vs us Q I r h
  obtain ⟨z, rfl, hz, q⟩ := h
  obtain ⟨u, rfl, ru⟩ := vals1 r
  obtain ⟨t, rfl⟩ := ru
  refine call_list_str (I.ok.hd hc) z t (hn := hz) fun h' tk acc c' hk e' hi => ?_
  have hl : (sgnV z).length = acc.toList.length := by
    unfold sgnV
    rw [List.length_map, Array.length_toList, Array.length_toList, hi.1]
  refine ⟨.ref s.heap.objs.size, upd H s.heap.objs.size (.lst (sgnV z)), I.laid hk (Nat.le_refl _) (show ObjOk X.prog X.w _ _ _ (.lst (sgnV z)) from ⟨?_, acc.toList, c', vals_of_at hl fun j x u h1 h2 => ?_, ?_⟩), rfl, q _ (I.hok.fresh (Nat.le_refl _))⟩
  · unfold sgnV; rw [List.length_map, Array.length_toList]; exact hz
  · obtain ⟨c, u', e1, rfl⟩ := hi.2 j u (by rw [← h2, Array.getElem?_toList])
    unfold sgnV at h1
    rw [List.getElem?_map, Array.getElem?_toList, e1] at h1
    cases h1
    exact ⟨_, rfl⟩
  · rw [Array.toArray_toList]; exact e'

/-! l.count(x) -/
def rCountD (K : PySem.W.Frag) : V → List V → Hp → VK → Prop := fun x xs H Q => ∃ (a : Addr) (y : V) (d : PyData) (ds : List PyData), x = V.ref a ∧ xs = [y] ∧ Dp K H (V.ref a) (.list ds) ∧ Dp K H y d ∧
  SeqAt.shaped (.list ds) = true ∧ SeqAt.shaped d = true ∧ Q (.int (ds.countP (fun z => PyData.eqv z d) : Nat)) H
theorem mt_countD {X : Cx} (hu : X.A.units + 65 < cLine) : MtR X "list.count" (rCountD X.K) := by
  intro pins s σ H x xs v us Q I rx rxs h
  obtain ⟨a, y, d, ds, rfl, rfl, hl, hy, sl, sd, q⟩ := h
  cases rx
  cases rxs with
  | cons ry rt =>
    rename_i uy ut
    cases rt
    obtain ⟨bs, r1⟩ := Dp.reads I d y uy hy ry
    have hxs : PyData.canLayAll0 ds = true := SeqAt.canLay_of_shaped sl
    have hroom : X.A.units + 1 + min (PyData.depthAll ds) d.depth < cLine := room_in_shaped sd hu
    cases hl with
    | lst hs ha =>
      obtain ⟨its, rv, ⟨⟨cls, dd, data, sls⟩, n, ho, hc, hdn, hdt⟩, hlen⟩ := I.list hs
      simp only at hc hdt
      subst hc hdt
      obtain ⟨as, h4⟩ := Dp.readsAll I ds _ its ha rv
      have hmap : its.map (SeqAt.readOf s.heap) = ds := SeqAt.readsAll_map ds its as hxs h4
      refine call_meets PySem.F.slot_list_count ⟨_, ho, rfl⟩ PySem.F.entry_list_count (PySem.F.args_list_count_2 _ _)
        (SeqAt.list_countAt a its.toArray n dd sls uy (fun u => PyData.eqv (SeqAt.readOf s.heap u) d)) ⟨ho, SeqAt.items_eqAt (vs := its.toArray) (show ReadsAll s.heap its.toArray.toList ds as from h4) r1 hxs (SeqAt.canLay_of_shaped sd) hroom, ?_⟩
      have ec : its.toArray.toList.countP (fun u => PyData.eqv (SeqAt.readOf s.heap u) d) = ds.countP fun z => PyData.eqv z d := by
        rw [← hmap, List.countP_map]; rfl
      refine ⟨.int (ds.countP (fun z => PyData.eqv z d) : Nat), H, I.tok _, ⟨s.toks, ?_⟩, q⟩
      show Value.int ((its.toArray.toList.countP _ : Nat) : Int) s.toks = _
      rw [ec]
end L2

end
section
set_option Elab.async false
set_option linter.all false
set_option maxRecDepth 100000
set_option maxHeartbeats 4000000
set_option autoImplicit false
namespace L2
open PySem PySem.Spec PyProof.Rows PySem.W
section
variable {β : Type} {X : Cx} {H : Hp} {s : Shared}
theorem each_vals : ∀ {xs : List V} {us : List Value} {es : List β}, Vals xs us → xs.length = es.length → EachIs (fun u (b : V × β) => RelV b.1 u) us (xs.zip es)
  | [], _, [], h, _ => by cases h; exact .nil
  | x :: xs, _, e :: es, h, hl => by
    cases h with
    | cons h1 h2 => exact .cons h1 (each_vals h2 (by simpa using hl))
  | [], _, _ :: _, _, hl => by simp at hl
  | _ :: _, _, [], _, hl => by simp at hl
theorem vals_each : ∀ {us : List Value} {bs : List (V × β)}, EachIs (fun u (b : V × β) => RelV b.1 u) us bs → Vals (bs.map Prod.fst) us
  | _, _, .nil => .nil
  | _, _, .cons h t => .cons h (vals_each t)
theorem zip_snd : ∀ {xs : List V} {es : List β}, xs.length = es.length → (xs.zip es).map Prod.snd = es
  | [], [], _ => rfl
  | x :: xs, e :: es, h => by rw [List.zip_cons_cons, List.map_cons, zip_snd (by simpa using h)]
  | [], _ :: _, h => by simp at h
  | _ :: _, [], h => by simp at h
/-- sorted(l), items that read as data -/
def rSortD (K : PySem.W.Frag) (enc : β → PyData) : List V → Hp → VK → Prop := fun vs H Q => ∃ (a : Addr) (xs : List V) (es : List β), vs = [V.ref a] ∧ SqL K H a xs ∧ xs.length = es.length ∧ DpAll K H xs (es.map enc) ∧ AllAlike (es.map enc) ∧ Sortable (es.map enc) ∧ (∀ e ∈ es, (enc e).depth ≤ 64) ∧
  ∀ p, H p = none → Q (.ref p) (upd H p (.lst (((xs.zip es).mergeSort (dataLe false fun b => enc b.2)).map Prod.fst)))
theorem cr_sortD {enc : β → PyData} (hu : X.A.units + 200 < cLine) : CallR X (.builtin "sorted") (rSortD X.K enc) := by
  intro pins s σ H vs us Q I r h
  obtain ⟨a, xs, es, rfl, hs, hlen, hd, hal, hso, hdp, q⟩ := h
  obtain ⟨its, rv, hl, hz⟩ := I.list hs
  rw [Vals.ref1 r]
  have hvl := rv.length
  obtain ⟨as, rd⟩ := Dp.readsAll I (es.map enc) xs its hd rv
  have ez : (xs.zip es).map (fun b => enc b.2) = es.map enc := by
    rw [show (fun b : V × β => enc b.2) = enc ∘ Prod.snd from rfl, ← List.map_map, zip_snd hlen]
  have zl : (xs.zip es).length = xs.length := by rw [List.length_zip]; omega
  refine sorted_data (R := fun u (b : V × β) => RelV b.1 u) (enc := fun b => enc b.2) hl.isList (each_vals rv hlen) (readsAll_each (fun b : V × β => enc b.2) (as := as) (by rw [ez]; exact rd)) (by rw [ez]; exact hal) (by rw [ez]; exact hso) (by omega) (fun b hb => ?_) fun out h1 h2 => ?_
  · have := hdp b.2 (by
      have := List.mem_map_of_mem (f := Prod.snd) hb
      rwa [zip_snd hlen] at this)
    omega
  · obtain ⟨ep, he'⟩ := PyProof.Rows.sortedAll_at s.heap its out.toArray
    have hv := vals_each h2
    have hln : (((xs.zip es).mergeSort (dataLe false fun b => enc b.2)).map Prod.fst).length ≤ sizeLine := by
      rw [List.length_map, List.length_mergeSort]; omega
    exact ⟨.ref _, upd H (s.heap.objs.size + 1) (.lst (((xs.zip es).mergeSort (dataLe false fun b => enc b.2)).map Prod.fst)), I.laid (t' := s.toks) (fun _ _ => PyProof.Rows.sortedAll_old) (Nat.le_succ _) ⟨hln, out, ep, hv, he'⟩, rfl, q _ (I.hok.fresh (Nat.le_succ _))⟩
end
end L2
namespace Y
open PySem PySem.Spec L2 PySem.W
noncomputable def pD (d : D) : PyData := (toP d).getD .none
theorem toPL_map : ∀ {ds : List D} {ps : List PyData}, toPL ds = some ps → ds.map pD = ps
  | [], _, h => by
    have h' : some [] = some _ := h
    cases h'; rfl
  | d :: ds, ps, h => by
    have h' : (toP d).bind (fun p => (toPL ds).map fun ps => p :: ps) = some ps := h
    obtain ⟨p, e1, h2⟩ := Option.bind_eq_some_iff.mp h'
    obtain ⟨qs, e2, rfl⟩ := Option.map_eq_some_iff.mp h2
    rw [List.map_cons, toPL_map e2, pD, e1]; rfl
noncomputable def leD (a b : D) : Bool := dataLe false pD a b
open Classical in
noncomputable def o_sorted (S : Sto) : List D → Option (List D)
  | [d] => (lstOf S d).bind fun es => (toPL es).bind fun ps => if AllAlike ps ∧ Sortable ps ∧ (∀ p ∈ ps, p.depth ≤ 64) then some (es.mergeSort leD) else none
  | _ => none
section
variable {K : PySem.W.Frag}
theorem relL_zip {H : Hp} {A : Addr → Prop} {ρ : List Addr} : ∀ {ds : List D} {vs : List V}, RelL K H A ρ vs ds → ∀ p ∈ vs.zip ds, RelD K H A ρ p.1 p.2
  | [], _, h, p, hp => by
    have h' : _ = [] := h
    rw [h'] at hp; cases hp
  | d :: ds, _, ⟨x, xs, e, h1, h2⟩, p, hp => by
    rw [e, List.zip_cons_cons] at hp
    rcases List.mem_cons.mp hp with z | z
    · rw [z]; exact h1
    · exact relL_zip h2 p z
theorem relL_pairs {H : Hp} {A : Addr → Prop} {ρ : List Addr} : ∀ {zs : List (V × D)}, (∀ p ∈ zs, RelD K H A ρ p.1 p.2) → RelL K H A ρ (zs.map Prod.fst) (zs.map Prod.snd)
  | [], _ => rfl
  | z :: zs, h => RelL.cons (h z List.mem_cons_self) (relL_pairs fun p hp => h p (List.mem_cons_of_mem _ hp))
theorem cf_sorted : CallF K (rSortD K pD) o_sorted := by
  intro ρ H S ds es vs Q R r e q
  unfold o_sorted at e
  split at e
  · rename_i a
    obtain ⟨fs, e1, e2⟩ := Option.bind_eq_some_iff.mp e
    obtain ⟨ps, e3, e4⟩ := Option.bind_eq_some_iff.mp e2
    split at e4
    · rename_i hh
      cases e4
      obtain ⟨hal, hso, hdp⟩ := hh
      obtain ⟨v, rfl, rv⟩ := one_of r
      obtain ⟨p, xs, rfl, h1, h2⟩ := lst_rel R e1 rv
      have em := toPL_map e3
      refine ⟨p, xs, fs, rfl, h1, h2.length, by rw [em]; exact dpAll_of fs ps xs e3 h2, by rw [em]; exact hal, by rw [em]; exact hso, fun d hd => hdp _ (by rw [← em]; exact List.mem_map_of_mem hd), fun l hl => ?_⟩
      refine q l _ _ ?_ hl (same_new hl) upd_same
      have hz : ((xs.zip fs).mergeSort (dataLe false fun b => pD b.2)).map Prod.snd = fs.mergeSort leD := by
        have := List.map_mergeSort (r := dataLe false fun b : V × D => pD b.2) (s := leD) (f := Prod.snd) (l := xs.zip fs) (fun a _ b _ => rfl)
        rw [this, zip_snd h2.length]
      rw [← hz]
      exact relL_pairs fun p hp => relL_zip h2 p (List.mem_mergeSort.mp hp)
    · cases e4
  · cases e
/-- list(x), a text too -/
def o_listA (S : Sto) : List D → Option (List D)
  | [.str z] => if z.cps.size ≤ sizeLine then some (sgns z) else none
  | [d] => seqOf S d
  | _ => none
def rListA (K : PySem.W.Frag) : List V → Hp → VK → Prop := fun vs H Q => (∃ p ys, vs = [.ref p] ∧ (SqL K H p ys ∨ SqT K H p ys) ∧ ∀ l, H l = none → Q (.ref l) (upd H l (.lst ys))) ∨ ∃ z : Str, vs = [.str z] ∧ z.cps.size ≤ sizeLine ∧ ∀ p, H p = none → Q (.ref p) (upd H p (.lst (sgnV z)))
theorem cr_listA {X : Cx} (hc : X.calm = true) : CallR X (.type "list") (rListA X.K) := fun pins s σ H vs us Q I r h => h.elim (fun h => call_list_of pins s σ H vs us Q I r h) fun h => cr_listStr hc pins s σ H vs us Q I r h
theorem sgn_rel {H : Hp} {A : Addr → Prop} {ρ : List Addr} (z : Str) : RelL K H A ρ (sgnV z) (sgns z) := by
  unfold sgnV sgns
  induction z.cps.toList with
  | nil => rfl
  | cons c l ih => exact RelL.cons rfl ih
theorem cf_listA : CallF K (rListA K) o_listA := by
  intro ρ H S ds es vs Q R r e q
  cases ds with
  | nil => cases e
  | cons a t =>
    cases t with
    | cons b t => cases a <;> cases e
    | nil =>
      have gen : seqOf S a = some es → rListA K vs H Q := fun e => .inl (cf_list ρ H S [a] es vs Q R r e q)
      cases a with
      | str z =>
        simp only [o_listA] at e
        split at e
        · rename_i hl
          cases e
          obtain ⟨v, rfl, rv⟩ := one_of r
          have rv' : v = .str z := rv
          subst rv'
          exact .inr ⟨z, rfl, hl, fun p hp => q p _ _ (sgn_rel z) hp (same_new hp) upd_same⟩
        · cases e
      | _ => exact gen e
/-- l.count(x) -/
def m_count : MF := fun S x vs => match vs with
  | [y] => (toP y).bind fun d => (toPS S x).bind fun l => match l with
    | .list ps => if (SeqAt.shaped d && SeqAt.shaped (.list ps)) = true then some (.int (ps.countP fun z => PyData.eqv z d : Nat), S) else none
    | _ => none
  | _ => none
theorem ms_count : MtS K (rCountD K) m_count := by
  intro ρ H S S' x d ds v vs Q R rx rl e q
  unfold m_count at e
  split at e
  · rename_i y
    obtain ⟨u, rfl, ru⟩ := one_of rl
    obtain ⟨p, e1, e2⟩ := Option.bind_eq_some_iff.mp e
    obtain ⟨p2, e3, e4⟩ := Option.bind_eq_some_iff.mp e2
    cases p2 with
    | list ps =>
      simp only at e4
      split at e4
      · rename_i h
        cases e4
        obtain ⟨h1, h2⟩ := Bool.and_eq_true_iff.mp h
        have dl := dpS_of R e3 rx
        have : ∃ a, v = .ref a := by cases dl; exact ⟨_, rfl⟩
        obtain ⟨a, rfl⟩ := this
        exact ⟨a, u, p, ps, rfl, rfl, dl, dp_of _ _ _ e1 ru, h2, h1, q ρ _ H R Up.refl rfl⟩
      · cases e4
    | _ => cases e4
  · cases e
end
/-- t[::-1] -/
def revT (m : EM) : EM := fun env S => bd (m env S) fun d S1 => match d with
  | .tup ds => .ok (.tup ds.reverse) S1
  | _ => .err
def revF (m : EM) : LM := fun env S => bd (m env S) fun d S1 => lf ((lstOf S1 d).map List.reverse) S1
/-- tuple(range(..)) -/
def tupRg (l : LM) : EM := fun env S => bd (l env S) fun ds S1 => match ds with
  | [.int j] => if -(2 ^ 62) ≤ j ∧ j ≤ 2 ^ 24 then .ok (.tup (rgL 0 j)) S1 else .err
  | _ => .err
section
variable {X : Cx} {W : WX} {e a : Expr} {m : EM} {l : LM} {k : Nat} {p p1 p2 p3 pos pos' : Pos}
theorem y_revT (h : PE X e (tE X.K X.mg W m)) : PE X (.Subscript e (.Slice none none (some (.UnaryOp .USub (.Constant (.int 1) k p1) p2)) p3) pos) (tE X.K X.mg W (revT m)) :=
  (pe_revT h).imp fun σ H Q ⟨ρ, env, S, R, V, w⟩ => tE_seq R V (wpM_mono (wpM_bd w) (fun d S1 w1 ρ1 v H1 R1 V1 U1 r1 => by
    cases d with
    | tup ds =>
      obtain ⟨a, xs, rfl, h1, h2⟩ := r1
      refine ⟨a, xs, rfl, h1, fun p hp => ?_⟩
      have s : Same H1 (upd H1 p (.tup xs.reverse)) := same_new hp
      exact w1 ρ1 _ _ (R1.same s) (U1.trans (Up.same s)) ⟨p, _, rfl, TupT.of upd_same, (Up.same (K := X.K) (ρ := ρ1) (S := S1) s).relL h2.reverse⟩
    | _ => exact w1.elim) fun _ _ _ q => q)
theorem y_revF (h : PE X e (tE X.K X.mg W m)) : PE X (.Subscript e (.Slice none none (some (.UnaryOp .USub (.Constant (.int 1) k p1) p2)) p3) pos) (tF X.K X.mg W (revF m)) :=
  (pe_revL h).imp fun σ H Q ⟨ρ, env, S, R, V, w⟩ => tE_seq R V (wpM_mono (wpM_bd w) (fun d S1 w1 ρ1 v H1 R1 V1 U1 r1 => by
    obtain ⟨c, e1, q⟩ := wpM_lf w1
    obtain ⟨ds, e2, rfl⟩ := Option.map_eq_some_iff.mp e1
    obtain ⟨p, xs, rfl, h1, h2⟩ := lst_rel R1 e2 r1
    exact ⟨p, xs, rfl, h1, fun n np => q ρ1 n _ H1 _ R1 U1 h2.reverse np (same_new np) upd_same⟩) fun _ _ _ q => q)
theorem rg_rel {K : PySem.W.Frag} {H : Hp} {A : Addr → Prop} {ρ : List Addr} (i j : Int) : RelL K H A ρ (rgV i j) (rgL i j) := by
  unfold rgV rgL
  induction List.range (j - i).toNat with
  | nil => rfl
  | cons c l ih => exact RelL.cons rfl ih
theorem y_tupRg (hc : X.calm = true) (hmt : X.mg "tuple" = none) (hm : X.mg "range" = none) (ha : PE X a (tE X.K X.mg W m)) (hg : Gl X "tuple" := by rfl) (hgr : Gl X "range" := by rfl) (na : starEach [a] X.env = (false, eval a X.env) :: starEach [] X.env := by rfl)
    (nb : starEach [.Call (.Name "range" p) [a] [] pos] X.env = (false, eval (.Call (.Name "range" p) [a] [] pos) X.env) :: starEach [] X.env := by rfl) :
    PE X (.Call (.Name "tuple" p2) [.Call (.Name "range" p) [a] [] pos] [] pos') (tE X.K X.mg W (tupRg (lcons m lnil))) :=
  (pe_tupRg hc hg hmt (prg_1 hgr hm ha na) nb).imp fun σ H Q ⟨ρ, env, S, R, V, w⟩ => tE_seq R V (by
    have w := wpM_bd w
    unfold lcons at w
    refine wpM_mono (wpM_bd w) (fun d S1 w1 ρ1 v H1 R1 V1 U1 r1 => ?_) fun _ _ _ q => q
    simp only [lnil, bd] at w1
    have w1 : wpM (match [d] with
      | [.int j] => if -(2 ^ 62) ≤ j ∧ j ≤ 2 ^ 24 then Res.ok (D.tup (rgL 0 j)) S1 else .err
      | _ => .err) (PostV X.K ρ H S Q) (PostX X.K X.mg W ρ σ H S) := w1
    cases d with
    | int j =>
      simp only at w1
      split at w1
      · rename_i hj
        have r1' : v = .int j := r1
        subst r1'
        refine ⟨j, rfl, ⟨by omega, by omega, by omega, by omega, by omega⟩, fun q hq => ?_⟩
        have s : Same H1 (upd H1 q (.tup (rgV 0 j))) := same_new hq
        exact w1 ρ1 _ _ (R1.same s) (U1.trans (Up.same s)) ⟨q, _, rfl, TupT.of upd_same, rg_rel 0 j⟩
      · exact w1.elim
    | _ => exact w1.elim)
end
end Y

end
section
set_option Elab.async false
set_option linter.all false
set_option maxRecDepth 100000
set_option maxHeartbeats 4000000
set_option autoImplicit false
namespace Y
open PySem PySem.Spec L2

/-! ### __init__ of an own exception: self.f = x, .. -/
/-- what C.__init__(self, ..) does: the fields fs are the arguments -/
def spI (C : Addr) (fs : List Str) : Sp := fun vs H Q E => ∃ (a : Addr) (ws : List V), vs = .ref a :: ws ∧ ws.length = fs.length ∧ H a = some (exo a C none) ∧
  ∀ (d : Addr) (H2 : Hp), H d = none → d ≠ a → H2 a = some (exo a C (some d)) → H2 d = some (exd d (fs.zip ws).reverse) → (∀ b, b ≠ a → b ≠ d → H2 b = H b) → Q .non H2
section
variable {X : Cx} {s x1 x2 f1 f2 : Str} {p1 p2 p3 p4 q1 q2 q3 q4 : Pos} {C : Addr}
def tI1 (X : Cx) (C : Addr) (f1 : Str) : TS := fun D σ H => ∃ a y1, σ[0]? = some (some (V.ref a)) ∧ σ[1]? = some (some y1) ∧ H a = some (exo a C none) ∧
  ∀ d H2, H d = none → d ≠ a → H2 a = some (exo a C (some d)) → H2 d = some (exd d [(f1, y1)]) → (∀ b, b ≠ a → b ≠ d → H2 b = H b) → D.nx σ H2
def tI2 (X : Cx) (C : Addr) (f1 f2 : Str) : TS := fun D σ H => ∃ a y1 y2, σ[0]? = some (some (V.ref a)) ∧ σ[1]? = some (some y1) ∧ σ[2]? = some (some y2) ∧ H a = some (exo a C none) ∧
  ∀ d H2, H d = none → d ≠ a → H2 a = some (exo a C (some d)) → H2 d = some (exd d [(f2, y2), (f1, y1)]) → (∀ b, b ≠ a → b ≠ d → H2 b = H b) → D.nx σ H2
theorem ss_init1 (T : OexC X.K C) (n1 : PySem.W.findIn X.K (.ref C) f1 = some none)
    (hs : PE X (.Name s p1) (tVar 0)) (h1 : PE X (.Name x1 p3) (tVar 1)) (w1 : swapsWith (.Name x1 p3) (some (.Attribute (.Name s p1) f1 p2)) p4.line X.env = pure false := by rfl) :
    PSs X [.Assign [.Attribute (.Name s p1) f1 p2] (.Name x1 p3) p4] (tI1 X C f1) :=
  (pss_one (ps_ost hs h1 w1)).imp fun Dn σ H ⟨a, y1, e0, e1, ha, q⟩ => by
    refine ⟨y1, e1, .ref a, e0, a, C, rfl, T, n1, .inl ⟨ha, fun d hd ne => ?_⟩⟩
    refine q d _ hd ne upd_same ?_ fun b h1 h2 => ?_
    · rw [upd_ne ne]; exact upd_same
    · rw [upd_ne h1, upd_ne h2]
theorem ss_init2 (T : OexC X.K C) (n1 : PySem.W.findIn X.K (.ref C) f1 = some none) (n2 : PySem.W.findIn X.K (.ref C) f2 = some none)
    (hs : PE X (.Name s p1) (tVar 0)) (h1 : PE X (.Name x1 p3) (tVar 1)) (hs' : PE X (.Name s q1) (tVar 0)) (h2 : PE X (.Name x2 q3) (tVar 2)) (w1 : swapsWith (.Name x1 p3) (some (.Attribute (.Name s p1) f1 p2)) p4.line X.env = pure false := by rfl)
    (w2 : swapsWith (.Name x2 q3) (some (.Attribute (.Name s q1) f2 q2)) q4.line X.env = pure false := by rfl) :
    PSs X [.Assign [.Attribute (.Name s p1) f1 p2] (.Name x1 p3) p4, .Assign [.Attribute (.Name s q1) f2 q2] (.Name x2 q3) q4] (tI2 X C f1 f2) :=
  (pss_cons (ps_ost hs h1 w1) (pss_one (ps_ost hs' h2 w2))).imp fun Dn σ H ⟨a, y1, y2, e0, e1, e2, ha, q⟩ => by
    refine ⟨y1, e1, .ref a, e0, a, C, rfl, T, n1, .inl ⟨ha, fun d hd ne => ?_⟩⟩
    refine ⟨y2, e2, .ref a, e0, a, C, rfl, T, n2, .inr ⟨d, [(f1, y1)], upd_same, by rw [upd_ne ne]; exact upd_same, by simp, ?_⟩⟩
    refine q d _ hd ne ?_ upd_same fun b h1 h2 => ?_
    · rw [upd_ne (Ne.symm ne)]; exact upd_same
    · rw [upd_ne h2, upd_ne h1, upd_ne h2]
end
section
variable {P : Program} {w : World} {K : PySem.W.Frag} {mg : Str → Option Value} {base : Heap}
theorem ok_init1 {x qual : Str} {st : Stmt} {f : Addr} {fd : FuncData} {N ps : List Str} {k : Nat} {C : Addr} {f1 : Str} (F : Fun K x qual st f fd) (Sc : FnScope N ps (defScope st)) (hp : ps.length = 2)
    (hb : ∀ (cdv : Value) (A : Around) (outer : List Env) (s : Shared) (H : Hp) (E : XK), PSs (cxOf (L2.CX P w) P w K mg base N qual (defScope st) f cdv A outer s H E) (defBody st) (tI1 (cxOf (L2.CX P w) P w K mg base N qual (defScope st) f cdv A outer s H E) C f1)) :
    FnOk P w K mg base (L2.CX P w) (k + 1) f fd ps (spI C [f1]) := by
  refine F.okX Sc (fun vs H Q E ⟨a, ws, e, hl, _⟩ => by rw [e, hp]; simp [hl]) fun cdv A outer s H vs Q E hr h => ⟨_, hb cdv A outer s H E, ?_⟩
  obtain ⟨a, ws, rfl, hl, ha, q⟩ := h
  match ws, hl with
  | [y1], _ => exact ⟨a, y1, rfl, rfl, ha, fun d H2 h1 h2 h3 h4 h5 => q d H2 h1 h2 h3 h4 h5⟩
theorem ok_init2 {x qual : Str} {st : Stmt} {f : Addr} {fd : FuncData} {N ps : List Str} {k : Nat} {C : Addr} {f1 f2 : Str} (F : Fun K x qual st f fd) (Sc : FnScope N ps (defScope st)) (hp : ps.length = 3)
    (hb : ∀ (cdv : Value) (A : Around) (outer : List Env) (s : Shared) (H : Hp) (E : XK), PSs (cxOf (L2.CX P w) P w K mg base N qual (defScope st) f cdv A outer s H E) (defBody st) (tI2 (cxOf (L2.CX P w) P w K mg base N qual (defScope st) f cdv A outer s H E) C f1 f2)) :
    FnOk P w K mg base (L2.CX P w) (k + 1) f fd ps (spI C [f1, f2]) := by
  refine F.okX Sc (fun vs H Q E ⟨a, ws, e, hl, _⟩ => by rw [e, hp]; simp [hl]) fun cdv A outer s H vs Q E hr h => ⟨_, hb cdv A outer s H E, ?_⟩
  obtain ⟨a, ws, rfl, hl, ha, q⟩ := h
  match ws, hl with
  | [y1, y2], _ => exact ⟨a, y1, y2, rfl, rfl, rfl, ha, fun d H2 h1 h2 h3 h4 h5 => q d H2 h1 h2 h3 h4 h5⟩
end
/-! ### raise C(..) -/
def raiS (c : Str) (fs : List Str) (l : LM) : SM := fun env S => bS (l env S) env fun ds S1 => if ds.length = fs.length then .exc c (fs.zip ds) env S1 else .err
/-- names all different -/
theorem lookup_zip_rev {α β : Type} [BEq α] [LawfulBEq α] {fs : List α} {ws : List β} {f : α} {w : β} (hn : fs.Nodup) (hl : ws.length = fs.length) (h : (f, w) ∈ fs.zip ws) : (fs.zip ws).reverse.lookup f = some w := by
  have key : ∀ (l : List (α × β)), (l.map Prod.fst).Nodup → (f, w) ∈ l → l.lookup f = some w := fun l => by
    induction l with
    | nil => intro _ h; cases h
    | cons p l ih =>
      intro hn h
      obtain ⟨g, u⟩ := p
      rw [List.map_cons, List.nodup_cons] at hn
      rcases List.mem_cons.mp h with e | h'
      · cases e; simp [List.lookup]
      · have ne : (f == g) = false := by
          rw [beq_eq_false_iff_ne]
          intro e
          subst e
          exact hn.1 (List.mem_map.mpr ⟨_, h', rfl⟩)
        rw [List.lookup, ne]
        exact ih hn.2 h'
  refine key _ ?_ (List.mem_reverse.mpr h)
  rw [List.map_reverse, List.map_fst_zip (by omega)]
  exact List.pairwise_reverse.mpr (hn.imp Ne.symm)
theorem relL_mem {K : PySem.W.Frag} {H : Hp} {A : Addr → Prop} {ρ : List Addr} : ∀ {fs : List Str} {vs : List V} {ds : List D} {f : Str} {d : D}, RelL K H A ρ vs ds → (f, d) ∈ fs.zip ds → ∃ v, (f, v) ∈ fs.zip vs ∧ RelD K H A ρ v d
  | [], _, _, _, _, _, h => by simp at h
  | g :: fs, _, [], _, _, _, h => by simp at h
  | g :: fs, vs, d :: ds, f, d', ⟨x, xs, e, h1, h2⟩, h => by
    subst e
    rw [List.zip_cons_cons] at h
    rcases List.mem_cons.mp h with z | z
    · cases z; exact ⟨x, by simp, h1⟩
    · obtain ⟨v, k1, k2⟩ := relL_mem h2 z
      exact ⟨v, by rw [List.zip_cons_cons]; exact List.mem_cons_of_mem _ k1, k2⟩
section
variable {X : Cx} {W : WX} {x : Str} {e : Expr} {es : List Expr} {l : LM} {p pos pos' : Pos} {C fI : Addr} {k : Nat} {fd : FuncData} {ps fs : List Str}
theorem s_raise (hc : X.calm = true) (tk : Takes X W) (T : OexC X.K C) (iC : PySem.W.findIn X.K (.ref C) "__init__" = some (some (.ref fI))) (tI : PySem.W.typeIn X.K (.ref fI) = some (.type "function"))
    (F1 : FnOk X.prog X.w X.K X.mg X.base (L2.CX X.prog X.w) k fI fd ps (spI C fs)) (hr : Room (k + 1) X.A) (hb : Binds X.K fd ps []) (hm : X.mg x = some (.ref C)) (ha : PA X (e :: es) (tA X.K X.mg W l)) (hfs : fs.Nodup ∧ fs.length ≤ 1000) (hg : Gl X x := by rfl)
    (hdb : (x == ("__debug__" : Str)) = false := by decide) (he : starEach (e :: es) X.env = (false, eval e X.env) :: starEach es X.env := by rfl) (hpl : (backTo pos (starEach es X.env)).any (·.1) = false := by rfl) :
    PS X (.Raise (some (.Call (.Name x p) (e :: es) [] pos)) none pos') (tS X.K X.mg W (raiS x fs l)) :=
  (ps_raise hc tk (pmk_oex (CX := L2.CX X.prog X.w) T iC tI F1 hr hb .nil (L2.passL (X := X)) hg hm ha hdb he hpl)).imp fun Dn σ H ⟨ρ, env, S, R, V, w⟩ => tA_seq R V (wpM_mono (wpS_bS V w) (fun ds S1 w1 ρ1 vs H1 R1 V1 U1 r1 => by
    split at w1
    · rename_i hl
      have hvl : vs.length = fs.length := by rw [r1.length]; exact hl
      refine ⟨by omega, fun a na => ⟨a, vs, by rw [List.append_nil], hvl, upd_same, fun d H2 hd ne h1 h2 h3 => ⟨rfl, d, _, h1, h2, ?_, ?_⟩⟩⟩
      · rw [upd_ne ne] at hd; exact hd
      · have hd1 : H1 d = none := by rw [upd_ne ne] at hd; exact hd
        have eH : upd (del H2 a) d (.xd (fs.zip vs).reverse) = upd H1 d (.xd (fs.zip vs).reverse) := by
          funext b
          by_cases hbd : b = d
          · subst hbd; rw [upd_same, upd_same]
          · rw [upd_ne hbd, upd_ne hbd]
            by_cases hba : b = a
            · subst hba; rw [del_same, na]
            · rw [del_ne hba, h3 b hba hbd, upd_ne hba]
        rw [eH]
        have s : Same H1 (upd H1 d (.xd (fs.zip vs).reverse)) := same_new hd1
        have U2 : Up X.K ρ1 H1 S1 ρ1 (upd H1 d (.xd (fs.zip vs).reverse)) S1 := Up.same s
        refine w1 ρ1 σ _ _ _ (R1.same s) (U2.rv V1) (U1.trans U2) ⟨C, d, _, hm, rfl, rfl, upd_same, fun q hq => ?_⟩
        obtain ⟨v, k1, k2⟩ := relL_mem (f := q.1) (d := q.2) r1 hq
        exact ⟨v, lookup_zip_rev hfs.1 hvl k1, U2.relD k2⟩
    · exact w1.elim) fun _ _ _ q => q)
end
/-! ### try: .. except C as e: return .. -/
def tryS (body : SM) (yes : Str → Option Bool) (i : Nat) (suite : Str → List (Str × D) → SM) : SM := fun env S => match body env S with
  | .exc c fs env1 S1 => if i < env1.length then match yes c with
    | some true => match suite c fs (env1.set i none) S1 with
      | .nx env2 S2 => .nx (env2.set i none) S2
      | .brk env2 S2 => .brk (env2.set i none) S2
      | .ct env2 S2 => .ct (env2.set i none) S2
      | .exc _ _ _ _ => .err
      | r => r
    | some false => .exc c fs env1 S1
    | none => .err else .err
  | r => r
/-- a suite's readings: e stands at i -/
def ExS (K : PySem.W.Frag) (mg : Str → Option Value) (i : Nat) (a : Addr) (cls : Value) (d : Option Addr) (ρ : List Addr) (σ : L2.St) (H : Hp) (S : Sto) (c : Str) (fs : List (Str × D)) : Prop := σ[i]? = some (some (V.ref a)) ∧ ExcR K mg H (Al ρ S) ρ c fs cls d
section
variable (K : PySem.W.Frag) (mg : Str → Option Value) (i : Nat) (a : Addr) (cls : Value) (d : Option Addr)
def uE (m : Str → List (Str × D) → EM) : TE := fun σ H Q => ∃ ρ env S c fs, RS K ρ H S ∧ RV K ρ σ H S env ∧ ExS K mg i a cls d ρ σ H S c fs ∧ wpM (m c fs env S) (PostV K ρ H S Q) (PostX K mg W0 ρ σ H S)
def uA (m : Str → List (Str × D) → LM) : TA := fun σ H Q => ∃ ρ env S c fs, RS K ρ H S ∧ RV K ρ σ H S env ∧ ExS K mg i a cls d ρ σ H S c fs ∧ wpM (m c fs env S) (PostL K ρ H S Q) (PostX K mg W0 ρ σ H S)
def uF (m : Str → List (Str × D) → LM) : TE := fun σ H Q => ∃ ρ env S c fs, RS K ρ H S ∧ RV K ρ σ H S env ∧ ExS K mg i a cls d ρ σ H S c fs ∧ wpM (m c fs env S) (PostF K ρ H S Q) (PostX K mg W0 ρ σ H S)
def uS (m : Str → List (Str × D) → SM) : TS := fun Dn σ H => ∃ ρ env S c fs, RS K ρ H S ∧ RV K ρ σ H S env ∧ ExS K mg i a cls d ρ σ H S c fs ∧ wpS K mg W0 ρ H S Dn (m c fs env S)
end
theorem ExcR.up {K : PySem.W.Frag} {mg : Str → Option Value} {ρ ρ' : List Addr} {H H' : Hp} {S S' : Sto} {c : Str} {fs : List (Str × D)} {cls : Value} {d : Option Addr} (R : RS K ρ H S) (U : Up K ρ H S ρ' H' S') (h : ExcR K mg H (Al ρ S) ρ c fs cls d) : ExcR K mg H' (Al ρ' S') ρ' c fs cls d := by
  obtain ⟨C, dd, ys, h1, h2, h3, h4, h5⟩ := h
  refine ⟨C, dd, ys, h1, h2, h3, (U.ext dd _ h4 fun q => ?_).1, fun p hp => let ⟨v, e, r⟩ := h5 p hp; ⟨v, e, U.relD r⟩⟩
  obtain ⟨o, xs, e⟩ := R.alive q
  rw [h4] at e; cases o <;> cases e
theorem ExS.up {K : PySem.W.Frag} {mg : Str → Option Value} {i : Nat} {a : Addr} {ρ ρ' : List Addr} {σ : L2.St} {H H' : Hp} {S S' : Sto} {c : Str} {fs : List (Str × D)} {cls : Value} {d : Option Addr} (R : RS K ρ H S) (U : Up K ρ H S ρ' H' S') (h : ExS K mg i a cls d ρ σ H S c fs) : ExS K mg i a cls d ρ' σ H' S' c fs := ⟨h.1, h.2.up R U⟩
section
variable {X : Cx} {i : Nat} {a : Addr} {cls : Value} {d : Option Addr} {e : Expr} {es : List Expr} {pos : Pos}
/-- what does not speak of e -/
theorem u_lift {m : EM} (h : PE X e (tE X.K X.mg W0 m)) : PE X e (uE X.K X.mg i a cls d fun _ _ => m) := h.imp fun σ H Q ⟨ρ, env, S, c, fs, R, V, x, w⟩ => ⟨ρ, env, S, R, V, w⟩
theorem u_nil : PA X [] (uA X.K X.mg i a cls d fun _ _ => lnil) := y_nil.imp fun σ H Q ⟨ρ, env, S, c, fs, R, V, x, w⟩ => ⟨ρ, env, S, R, V, w⟩
theorem u_cons {m : Str → List (Str × D) → EM} {l : Str → List (Str × D) → LM} (ha : PE X e (uE X.K X.mg i a cls d m)) (hr : PA X es (uA X.K X.mg i a cls d l)) (hs : starEach (e :: es) X.env = (false, eval e X.env) :: starEach es X.env := by rfl) :
    PA X (e :: es) (uA X.K X.mg i a cls d fun c fs => lcons (m c fs) (l c fs)) :=
  (pa_cons ha hr hs).imp fun σ H Q ⟨ρ, env, S, c, fs, R, V, x, w⟩ => by
    refine ⟨ρ, env, S, c, fs, R, V, x, wpM_mono (wpM_bd w) (fun d1 S1 w1 ρ1 v H1 R1 U1 r1 => ?_) fun _ _ _ q => q⟩
    refine ⟨ρ1, env, S1, c, fs, R1, U1.rv V, x.up R U1, wpM_mono (wpM_bd w1) (fun ds S2 w2 ρ2 vs H2 R2 U2 r2 => ?_) fun _ _ _ q => q.up U1⟩
    exact w2 ρ2 (v :: vs) H2 R2 (U1.trans U2) (RelL.cons (U2.relD r1) r2)
theorem u_lst {l : Str → List (Str × D) → LM} (h : PA X es (uA X.K X.mg i a cls d l)) : PE X (.List es pos) (uF X.K X.mg i a cls d fun c fs => lstF (l c fs)) :=
  (pe_lst h).imp fun σ H Q ⟨ρ, env, S, c, fs, R, V, x, w⟩ => ⟨ρ, env, S, c, fs, R, V, x, wpM_mono (wpM_bd w) (fun xs S1 w1 ρ1 vs H1 R1 U1 r1 => by
    split at w1
    · rename_i hl
      exact ⟨by rw [r1.length]; exact hl, fun p np => w1 ρ1 p vs H1 _ R1 U1 r1 np (same_new np) upd_same⟩
    · exact w1.elim) fun _ _ _ q => q⟩
theorem u_tup {k} {l : Str → List (Str × D) → LM} (h : PA X es (uA X.K X.mg i a cls d l)) : PE X (.Tuple es k pos) (uE X.K X.mg i a cls d fun c fs => tupE (l c fs)) :=
  (pe_tup h).imp fun σ H Q ⟨ρ, env, S, c, fs, R, V, x, w⟩ => ⟨ρ, env, S, c, fs, R, V, x, wpM_mono (wpM_bd w) (fun xs S1 w1 ρ1 vs H1 R1 U1 r1 => by
    split at w1
    · rename_i hl
      refine ⟨by rw [r1.length]; exact hl, fun p np => ?_⟩
      have s : Same H1 (upd H1 p (.tup vs)) := same_new np
      exact w1 ρ1 (.ref p) _ (R1.same s) (U1.trans (Up.same s)) ⟨p, vs, rfl, TupT.of upd_same, (Up.same (K := X.K) (ρ := ρ1) (S := S1) s).relL r1⟩
    · exact w1.elim) fun _ _ _ q => q⟩
theorem u_frz {l : Str → List (Str × D) → LM} (h : PE X e (uF X.K X.mg i a cls d l)) : PE X e (uE X.K X.mg i a cls d fun c fs => frz (l c fs)) :=
  h.imp fun σ H Q ⟨ρ, env, S, c, fs, R, V, x, w⟩ => ⟨ρ, env, S, c, fs, R, V, x, wpM_mono (wpM_bd w) (fun xs S1 w1 ρ1 p ys H1 H2 R1 U1 r1 np s hp => by
    have U2 : Up X.K ρ1 H1 S1 ρ1 H2 S1 := Up.same s
    exact w1 ρ1 (.ref p) H2 (R1.same s) (U1.trans U2) ⟨p, ys, rfl, .inl ⟨.inl hp, R1.noal np⟩, U2.relL r1⟩) fun _ _ _ q => q⟩
theorem u_ret {m : Str → List (Str × D) → EM} (he : PE X e (uE X.K X.mg i a cls d m)) : PS X (.Return (some e) pos) (uS X.K X.mg i a cls d fun c fs => retS (m c fs)) :=
  (ps_ret he).imp fun Dn σ H ⟨ρ, env, S, c, fs, R, V, x, w⟩ => ⟨ρ, env, S, c, fs, R, V, x, wpM_mono (wpS_bS V w) (fun d S1 w1 ρ1 v H1 R1 U1 r1 => w1 ρ1 v H1 R1 U1 r1) fun _ _ _ q => q⟩
theorem u_one {st : Stmt} {m : Str → List (Str × D) → SM} (h : PS X st (uS X.K X.mg i a cls d m)) : PSs X [st] (uS X.K X.mg i a cls d m) := pss_one h
theorem u_liftS {st : Stmt} {m : SM} (h : PS X st (tS X.K X.mg W0 m)) : PS X st (uS X.K X.mg i a cls d fun _ _ => m) := h.imp fun Dn σ H ⟨ρ, env, S, c, fs, R, V, x, w⟩ => ⟨ρ, env, S, R, V, w⟩
end
/-- e.f, e of one of the classes cs -/
def fldE (cs : List Str) (f : Str) : Str → List (Str × D) → EM := fun c fs _ S => if c ∈ cs then lf (fs.lookup f) S else .err
theorem mem_of_lookup {fs : List (Str × D)} {f : Str} {d : D} (h : fs.lookup f = some d) : (f, d) ∈ fs := by
  induction fs with
  | nil => cases h
  | cons p l ih =>
    obtain ⟨g, u⟩ := p
    rw [List.lookup] at h
    split at h
    · rename_i e
      cases h
      rw [eq_of_beq e]; exact List.mem_cons_self
    · exact List.mem_cons_of_mem _ (ih h)
theorem u_fld {X : Cx} {i : Nat} {a : Addr} {cls : Value} {d : Option Addr} {oe : Obj} {pn : List (Addr × Obj)} {n f : Str} {p pos : Pos} {cs : List Str} (T : ∀ c ∈ cs, ∀ C, X.mg c = some (.ref C) → XfC X.K C ∧ PySem.W.findIn X.K (.ref C) f = some none)
    (hz : Zc cls d oe) (hf : ∃ vs, oe.data = .fields vs) (he : PE (X.suite a ((a, oe) :: pn)) (.Name n p) (tVar i)) (hb : attributeBase (.Name n p) f X.env (eval (.Name n p) X.env) = eval (.Name n p) X.env := by rfl) :
    PE (X.suite a ((a, oe) :: pn)) (.Attribute (.Name n p) f pos) (uE X.K X.mg i a cls d (fldE cs f)) := by
  by_cases h : ∃ C, cls = .ref C ∧ XfC X.K C ∧ PySem.W.findIn X.K (.ref C) f = some none
  · obtain ⟨C, hc, t1, t2⟩ := h
    refine (pe_xf t1 t2 hz hf he hb).imp fun σ H Q ⟨ρ, env, S, c, fs, R, V, x, w⟩ => ?_
    obtain ⟨x1, C', dd, ys, h1, h2, h3, h4, h5⟩ := x
    unfold fldE at w
    split at w
    · obtain ⟨v, e, q⟩ := wpM_lf w
      obtain ⟨u, k1, k2⟩ := h5 _ (mem_of_lookup e)
      exact ⟨.ref a, x1, rfl, hc, dd, ys, u, h3, h4, k1, q ρ u H R Up.refl k2⟩
    · exact w.elim
  · refine ⟨fun pins s σ H Q I q => ?_⟩
    obtain ⟨ρ, env, S, c, fs, R, V, x, w⟩ := q
    obtain ⟨x1, C', dd, ys, h1, h2, h3, h4, h5⟩ := x
    unfold fldE at w
    split at w
    · rename_i hcs
      obtain ⟨t1, t2⟩ := T c hcs C' h1
      exact absurd ⟨C', h2, t1, t2⟩ h
    · exact w.elim
theorem RV.hide {K : PySem.W.Frag} {ρ : List Addr} {σ : L2.St} {H : Hp} {S : Sto} {env : En} (hV : RV K ρ σ H S env) (i : Nat) (x : Option L2.V) : RV K ρ (σ.set i x) H S (env.set i none) := by
  refine ⟨by simp [hV.1], fun j e h => ?_⟩
  by_cases hj : i = j
  · subst hj
    by_cases hi : i < env.length
    · rw [List.getElem?_set_self hi] at h; cases h
    · rw [List.getElem?_eq_none (by simp; omega)] at h; cases h
  · rw [List.getElem?_set_ne hj] at h ⊢
    exact hV.2 j e h
theorem s_try {X : Cx} {W : WX} {x n : Str} {C : Addr} {i : Nat} {body suite : List Stmt} {b₀ : Stmt} {np pos pos' : Pos} {mb : SM} {ms : Str → List (Str × D) → SM} {yes : Str → Option Bool}
    (hs : X.stack = X.env :: X.outer) (hf : X.env.frame = some X.env.locals) (hN : X.N.Nodup) (hm : X.mg x = some (.ref C)) (tk : Takes X W)
    (hy : ∀ c C' b, X.mg c = some (.ref C') → yes c = some b → PySem.W.exmOne X.K (.ref C') (.ref C) = some b)
    (hb : ∀ (W : WX) (pn : List (Addr × Obj)) (xe : Value → Shared → Prop), Takes (X.tr pn xe) W → PassesOwn (model X.prog X.w) X.A X.env xe → PSs (X.tr pn xe) body (tS X.K X.mg W mb))
    (hsu : ∀ (a : Addr) (oe : Obj) (cls : Value) (d : Option Addr) (pn : List (Addr × Obj)), Zc cls d oe → (∃ vs, oe.data = .fields vs) → PSs (X.suite a ((a, oe) :: pn)) (b₀ :: suite) (uS X.K X.mg i a cls d ms))
    (hi : X.N[i]? = some n := by rfl) (hln : X.env.kindOf n = some .local := by rfl) (hg : Gl X x := by rfl) (hdb : (x == ("__debug__" : Str)) = false := by decide) :
    PS X (.Try body [.ExceptHandler (some (.Name x np)) (some n) (b₀ :: suite) pos'] [] [] pos) (tS X.K X.mg W (tryS mb yes i ms)) :=
  (ps_try_as (c := .ref C) (tb := fun W => tS X.K X.mg W mb) (ts := fun a cls d => uS X.K X.mg i a cls d ms) hs hf hN hi hln ⟨hg, hdb, .inl hm⟩ tk hb hsu).imp fun Dn σ H ⟨ρ, env, S, R, V, w⟩ => by
    refine ⟨ρ, env, S, R, V, ?_⟩
    unfold tryS at w
    cases e1 : mb env S with
    | nx env1 S1 => rw [e1] at w; exact w
    | brk env1 S1 => rw [e1] at w; exact w
    | ct env1 S1 => rw [e1] at w; exact w
    | ret d S1 => rw [e1] at w; exact w
    | err => rw [e1] at w; exact w
    | exc c fs env1 S1 =>
      rw [e1] at w
      simp only at w
      split at w
      · rename_i hi1
        intro ρ' σ' H' cls dx R' V' U' x'
        obtain ⟨C', dd, ys, h1, h2, h3, h4, h5⟩ := id x'
        subst h2
        cases e2 : yes c with
        | none => rw [e2] at w; exact w.elim
        | some b =>
          rw [e2] at w
          refine ⟨b, hy c C' b h1 e2, fun hb => ?_, fun hb => ?_⟩
          · subst hb
            simp only at w
            intro a ha
            refine ⟨ρ', env1.set i none, S1, c, fs, R', V'.hide i _, ⟨by rw [List.getElem?_set_self (by rw [← V'.1]; exact hi1)], x'⟩, ?_⟩
            cases e3 : ms c fs (env1.set i none) S1 with
            | nx env2 S2 => rw [e3] at w; exact fun ρ2 σ2 H2 R2 V2 U2 => w ρ2 (σ2.set i none) H2 R2 (V2.hide i none) (U'.trans U2)
            | brk env2 S2 => rw [e3] at w; exact fun ρ2 σ2 H2 R2 V2 U2 => w ρ2 (σ2.set i none) H2 R2 (V2.hide i none) (U'.trans U2)
            | ct env2 S2 => rw [e3] at w; exact fun ρ2 σ2 H2 R2 V2 U2 => w ρ2 (σ2.set i none) H2 R2 (V2.hide i none) (U'.trans U2)
            | ret d S2 => rw [e3] at w; exact fun ρ2 v H2 R2 U2 => w ρ2 v H2 R2 (U'.trans U2)
            | err => rw [e3] at w; exact w.elim
            | exc c2 fs2 env2 S2 => rw [e3] at w; exact w.elim
          · subst hb
            simp only at w
            exact w ρ' σ' H' (.ref C') dx R' V' U' x'
      · exact w.elim
end Y

end
section
set_option Elab.async false
set_option linter.all false
set_option maxRecDepth 100000
set_option maxHeartbeats 4000000
set_option autoImplicit false
namespace Y
open PySem PySem.Spec L2
section
variable (P : Program) (w : World) (K : PySem.W.Frag) (mg : Str → Option Value) (base : Heap)
/-- a def of the text, bound to its name -/
structure Fu (x : Str) (st : Stmt) (ps : List Str) : Prop where
  ex : ∃ f fd, Fun K x x st f fd ∧ mg x = some (.ref f) ∧ Binds K fd ps []
/-- a def whose mirror is mf -/
structure Cl (x : Str) (k : Nat) (ps : List Str) (mf : List D → Sto → Res D) : Prop where
  ex : ∃ f fd, FnOk P w K mg base (L2.CX P w) k f fd ps (spM K mg ps.length mf) ∧ mg x = some (.ref f) ∧ PySem.W.keepIn K (.ref f) = true ∧ Binds K fd ps []
/-- an own exception class whose __init__ keeps its arguments as fs -/
structure Ex (x : Str) (fs : List Str) : Prop where
  ex : ∃ C fI fd ps, OexC K C ∧ PySem.W.findIn K (.ref C) "__init__" = some (some (.ref fI)) ∧ PySem.W.typeIn K (.ref fI) = some (.type "function") ∧ FnOk P w K mg base (L2.CX P w) 1 fI fd ps (spI C fs) ∧ Binds K fd ps [] ∧ mg x = some (.ref C)
end
section
variable {P : Program} {w : World} {K : PySem.W.Frag} {mg : Str → Option Value} {base : Heap}
theorem Cl.mono {x : Str} {j k : Nat} {ps : List Str} {mf : List D → Sto → Res D} (C : Cl P w K mg base x j ps mf) (h : j ≤ k) : Cl P w K mg base x k ps mf := by
  obtain ⟨f, fd, F, r⟩ := C.ex
  exact ⟨f, fd, F.mono h, r⟩
theorem cl_fn {x : Str} {st : Stmt} {N ps : List Str} {k n : Nat} {m : SM} (F : Fu K mg x st ps) (Sc : FnScope N ps (defScope st)) (hn : N.length = n)
    (hb : ∀ (f : Addr) (cdv : Value) (A : Around) (outer : List Env) (s : Shared) (H : Hp) (E : XK), Room k (A.deeper (PyProof.Rows.envOfC x (defScope st) s.heap.objs.size f cdv)) →
      PSs (cxOf (L2.CX P w) P w K mg base N x (defScope st) f cdv A outer s H E) (defBody st) (tS K mg (fun cls d _ H => E cls d H) m)) : Cl P w K mg base x (k + 1) ps (fn n m) := by
  obtain ⟨f, fd, h1, h2, h3⟩ := F.ex
  exact ⟨f, fd, ok_fn h1 Sc hn (hb f), h2, h1.kp, h3⟩
theorem cl_run {x : Str} {st : Stmt} {N ps : List Str} {k n : Nat} {m : SM} (F : Fu K mg x st ps) (Sc : FnScope N ps (defScope st)) (hn : N.length = n)
    (hb : ∀ (f : Addr) (cdv : Value) (A : Around) (outer : List Env) (s : Shared) (H : Hp) (E : XK), Room k (A.deeper (PyProof.Rows.envOfC x (defScope st) s.heap.objs.size f cdv)) →
      PSs (cxOf (L2.CX P w) P w K mg base N x (defScope st) f cdv A outer s H E) (defBody st) (tS K mg (fun cls d _ H => E cls d H) m)) : Cl P w K mg base x (k + 1) ps (run n m) := by
  obtain ⟨f, fd, h1, h2, h3⟩ := F.ex
  exact ⟨f, fd, ok_run h1 Sc hn (hb f), h2, h1.kp, h3⟩
/-- a def of which nothing is told -/
theorem cl_none {x : Str} {st : Stmt} {ps : List Str} {k : Nat} (F : Fu K mg x st ps) : Cl P w K mg base x k ps (fun _ _ => .err) := by
  obtain ⟨f, fd, h1, h2, h3⟩ := F.ex
  have no : ∀ vs H Q E, spM K mg ps.length (fun _ _ => .err) vs H Q E → False := fun vs H Q E ⟨_, ρ, S, ds, _, _, w⟩ => w
  exact ⟨f, fd, ⟨fun vs H Q E h => (no _ _ _ _ h).elim, fun A outer s H args us vs Q E _ _ _ _ h => (no _ _ _ _ h).elim⟩, h2, h1.kp, h3⟩
end
section
variable {X : Cx} {W : WX} {k : Nat} {ps fs : List Str} {x : Str} {p pos pos' : Pos} {e : Expr} {es : List Expr} {l : LM} {mf : List D → Sto → Res D}
theorem y_fn (C : Cl X.prog X.w X.K X.mg X.base x k ps mf) (hr : Room k X.A) (tk : Takes X W) (ha : PA X (e :: es) (tA X.K X.mg W l)) (hn : Len l ps.length)
    (hg : Gl X x := by rfl) (hdb : (x == ("__debug__" : Str)) = false := by decide) (he : starEach (e :: es) X.env = (false, eval e X.env) :: starEach es X.env := by rfl) (hpl : (backTo pos (starEach es X.env)).any (·.1) = false := by rfl) :
    PE X (.Call (.Name x p) (e :: es) [] pos) (tE X.K X.mg W (cal mf l)) := by
  obtain ⟨f, fd, F, hm, hk, hb⟩ := C.ex
  exact y_call F hr tk hm hk hb ha hn hg hdb he hpl
theorem s_rais (hc : X.calm = true) (tk : Takes X W) (T : Ex X.prog X.w X.K X.mg X.base x fs) (hr : Room 2 X.A) (ha : PA X (e :: es) (tA X.K X.mg W l)) (hfs : fs.Nodup ∧ fs.length ≤ 1000) (hg : Gl X x := by rfl)
    (hdb : (x == ("__debug__" : Str)) = false := by decide) (he : starEach (e :: es) X.env = (false, eval e X.env) :: starEach es X.env := by rfl) (hpl : (backTo pos (starEach es X.env)).any (·.1) = false := by rfl) :
    PS X (.Raise (some (.Call (.Name x p) (e :: es) [] pos)) none pos') (tS X.K X.mg W (raiS x fs l)) := by
  obtain ⟨C, fI, fd, ps, T, iC, tI, F1, hb, hm⟩ := T.ex
  exact s_raise hc tk T iC tI F1 hr hb hm ha hfs hg hdb he hpl
end
/-! ### the end -/
/-- what the law's def promises -/
def spLaw (K : PySem.W.Frag) : Sp := fun vs H Q _ => ∃ (a : Addr) (ns : List Int), vs = [.ref a] ∧ SqL K H a (ns.map V.int) ∧ ns.length ≤ 63 ∧ ∀ H', Q (.bl true) H'
theorem law_end {P : Program} {w : World} {K : PySem.W.Frag} {mg : Str → Option Value} {base : Heap} {k : Nat} {ps : List Str} {mf : List D → Sto → Res D} {f : Addr} {fd : FuncData} (F : FnOk P w K mg base (L2.CX P w) k f fd ps (spM K mg ps.length mf)) (hp : ps.length = 1)
    (h : ∀ ns : List Int, ns.length ≤ 63 → ∃ S, mf [.lst (ns.map .int)] [] = .ok (.bl true) S) : FnOk P w K mg base (L2.CX P w) k f fd ps (spLaw K) :=
  F.imp fun vs H Q E ⟨a, ns, e, hS, hl, q⟩ => by
    subst e
    obtain ⟨S, hm⟩ := h ns hl
    refine ⟨by simp [hp], [], [], [.lst (ns.map .int)], ⟨rfl, fun n o a h => by simp at h, fun n m o o' a h => by simp at h⟩, RelL.cons ⟨a, _, rfl, ?_, RelL.ints ns⟩ RelL.nil, ?_⟩
    · rcases hS with hS | hS
      · exact .inl ⟨hS, fun ⟨n, o, h, _⟩ => by simp at h⟩
      · exact .inr hS
    · rw [hm]
      intro ρ' v H' R U r
      have r' : v = .bl true := r
      subst r'
      exact q H'
end Y

end
section
set_option Elab.async false
set_option linter.all false
set_option maxRecDepth 100000
set_option maxHeartbeats 4000000
set_option autoImplicit false
namespace Y
open PySem PySem.Spec L2
section
variable {A : Around} {k : Nat}
theorem hu0 (hr : Room k A) : A.units < cLine := by have := hr.un; omega
theorem hu64 (hr : Room k A) : A.units + 64 < cLine := by have := hr.un; omega
theorem hu65 (hr : Room k A) : A.units + 65 < cLine := by have := hr.un; omega
theorem hu200 (hr : Room k A) : A.units + 200 < cLine := by have := hr.un; omega
end
def yesL (l : List (Str × Bool)) : Str → Option Bool := fun c => l.lookup c
/-- the class that an except clause names -/
structure Hd (K : PySem.W.Frag) (mg : Str → Option Value) (x : Str) (yes : Str → Option Bool) : Prop where
  ex : ∃ C, mg x = some (.ref C) ∧ ∀ c C' b, mg c = some (.ref C') → yes c = some b → PySem.W.exmOne K (.ref C') (.ref C) = some b
theorem exm_self {K : PySem.W.Frag} {S : Addr} (h1 : PySem.W.subIn K (.ref S) (.type "BaseException") = some true) (h2 : PySem.W.isClsIn K S = true) (h3 : PySem.W.typeIn K (.ref S) = some (.type "type")) (h4 : PySem.W.subIn K (.ref S) (.ref S) = some true) :
    PySem.W.exmOne K (.ref S) (.ref S) = some true := by
  have e1 : (PySem.W.subIn K (.ref S) (.type "BaseException") == some true) = true := by rw [h1] <;> rfl
  have e2 : ((PySem.W.clsIn K S).isSome && PySem.W.typeIn K (.ref S) == some (.type "type")) = true := by
    have h2' : (PySem.W.clsIn K S).isSome = true := h2
    rw [h2', h3] <;> rfl
  show (if (PySem.W.subIn K (.ref S) (.type "BaseException") == some true) = true then (if ((PySem.W.clsIn K S).isSome && PySem.W.typeIn K (.ref S) == some (.type "type")) = true then PySem.W.subIn K (.ref S) (.ref S) else none) else none) = some true
  rw [if_pos e1, if_pos e2]
  exact h4
theorem hd_self {K : PySem.W.Frag} {mg : Str → Option Value} {x : Str} {C : Addr} (h : mg x = some (.ref C)) (e : PySem.W.exmOne K (.ref C) (.ref C) = some true) : Hd K mg x (yesL [(x, true)]) :=
  ⟨C, h, fun c C' b hc hy => by
    unfold yesL at hy
    rw [List.lookup] at hy
    split at hy
    · rename_i e1
      have e2 := eq_of_beq e1
      subst e2
      have e3 := hc.symm.trans h
      cases e3
      cases hy
      exact e
    · cases hy⟩
theorem s_tryH {X : Cx} {W : WX} {x n : Str} {i : Nat} {body suite : List Stmt} {b₀ : Stmt} {np pos pos' : Pos} {mb : SM} {ms : Str → List (Str × D) → SM} {yes : Str → Option Bool}
    (hs : X.stack = X.env :: X.outer) (hf : X.env.frame = some X.env.locals) (hN : X.N.Nodup) (h : Hd X.K X.mg x yes) (tk : Takes X W)
    (hb : ∀ (W : WX) (pn : List (Addr × Obj)) (xe : Value → Shared → Prop), Takes (X.tr pn xe) W → PassesOwn (model X.prog X.w) X.A X.env xe → PSs (X.tr pn xe) body (tS X.K X.mg W mb))
    (hsu : ∀ (a : Addr) (oe : Obj) (cls : Value) (d : Option Addr) (pn : List (Addr × Obj)), Zc cls d oe → (∃ vs, oe.data = .fields vs) → PSs (X.suite a ((a, oe) :: pn)) (b₀ :: suite) (uS X.K X.mg i a cls d ms))
    (hi : X.N[i]? = some n := by rfl) (hln : X.env.kindOf n = some .local := by rfl) (hg : Gl X x := by rfl) (hdb : (x == ("__debug__" : Str)) = false := by decide) :
    PS X (.Try body [.ExceptHandler (some (.Name x np)) (some n) (b₀ :: suite) pos'] [] [] pos) (tS X.K X.mg W (tryS mb yes i ms)) := by
  obtain ⟨C, hm, hy⟩ := h.ex
  exact s_try hs hf hN hm tk hy hb hsu hi hln hg hdb
def clsBody : Stmt → List Stmt
  | .ClassDef _ _ _ b .. => b
  | _ => []
theorem noCX {P : Program} {w : World} {H : Hp} {s : Shared} {e : Value} {s' : Shared} (h : L2.CX P w [] H s (fun _ _ _ => False) e s') : False := by
  obtain ⟨_, _, _, _, _, _, _, _, _, _, _, _, z⟩ := h
  exact z.elim
section
variable {X : Cx} {W : WX} {pos py spos : Pos} {elt iter tg : Expr} {ifs : List Expr} {scope : Scope} {own : List (Str × Nat)} {ts : TM} {el : EM} {mi : IM} {g : TgM} {y : Str}
theorem y_compF (hc : X.calm = true) (hN : X.N.Nodup) (hi : PI X tg iter (tI X.K X.mg W mi)) (ok : blkC X.N X.env.scope scope own = true)
    (hg : ∀ (s : Shared) (H : Hp) (C : Addr) (cl : List (Str × Addr)) (fp : List Addr), PG (X.blk s H scope (compEnvC scope cl C X.env) fp) tg (tG X.K (own.map (·.2)) g)) (ht : ∀ (s : Shared) (H : Hp) (C : Addr) (cl : List (Str × Addr)) (fp : List Addr), PTs (X.blk s H scope (compEnvC scope cl C X.env) fp) ifs (tT X.K X.mg W0 ts))
    (he : ∀ (s : Shared) (H : Hp) (C : Addr) (cl : List (Str × Addr)) (fp : List Addr), PE (X.blk s H scope (compEnvC scope cl C X.env) fp) elt (tE X.K X.mg W0 el)) (hs : ∀ x, foldedSetIterable iter X.env x = pure x := by intro _; rfl) :
    PE X (.ListComp elt [⟨tg, iter, ifs, 0⟩] scope pos) (tE X.K X.mg W (compF mi g ts el (own.map (·.2)))) := y_comp (compF_imp (X := X) (W := W) (own := own)) hc hN hi ok hg ht he hs
theorem s_setCompF (i : Nat) (hc : X.calm = true) (hN : X.N.Nodup) (hyl : X.env.scope.names.lookup y = some .local)
    (hsw : swapsWith (.ListComp elt [⟨tg, iter, ifs, 0⟩] scope pos) (some (.Name y py)) spos.line X.env = pure true) (hi : PI X tg iter (tI X.K X.mg W mi)) (ok : blkC X.N X.env.scope scope own = true)
    (hg : ∀ (s : Shared) (H : Hp) (C : Addr) (cl : List (Str × Addr)) (fp : List Addr), PG (X.blk s H scope (compEnvC scope cl C X.env) fp) tg (tG X.K (own.map (·.2)) g)) (ht : ∀ (s : Shared) (H : Hp) (C : Addr) (cl : List (Str × Addr)) (fp : List Addr), PTs (X.blk s H scope (compEnvC scope cl C X.env) fp) ifs (tT X.K X.mg W0 ts))
    (he : ∀ (s : Shared) (H : Hp) (C : Addr) (cl : List (Str × Addr)) (fp : List Addr), PE (X.blk s H scope (compEnvC scope cl C X.env) fp) elt (tE X.K X.mg W0 el)) (hy : X.N[i]? = some y := by rfl) (hs : ∀ x, foldedSetIterable iter X.env x = pure x := by intro _; rfl) :
    PS X (.Assign [.Name y py] (.ListComp elt [⟨tg, iter, ifs, 0⟩] scope pos) spos) (tS X.K X.mg W (asg (tgN i) (compF mi g ts el (own.map (·.2))))) := s_setComp i (compF_imp (X := X) (W := W) (own := own)) hc hN hyl hsw hi ok hg ht he hy hs
theorem y_compN (hc : X.calm = true) (hN : X.N.Nodup) (hi : PI X tg iter (tI X.K X.mg W mi)) (ok : blkC X.N X.env.scope scope own = true)
    (hg : ∀ (s : Shared) (H : Hp) (C : Addr) (cl : List (Str × Addr)) (fp : List Addr), PG (X.blk s H scope (compEnvC scope cl C X.env) fp) tg (tG X.K (own.map (·.2)) g)) (ht : ∀ (s : Shared) (H : Hp) (C : Addr) (cl : List (Str × Addr)) (fp : List Addr), PTs (X.blk s H scope (compEnvC scope cl C X.env) fp) ifs (tT X.K X.mg W0 ts))
    (he : ∀ (s : Shared) (H : Hp) (C : Addr) (cl : List (Str × Addr)) (fp : List Addr), PE (X.blk s H scope (compEnvC scope cl C X.env) fp) elt (tE X.K X.mg W0 el)) (hs : ∀ x, foldedSetIterable iter X.env x = pure x := by intro _; rfl) :
    PE X (.ListComp elt [⟨tg, iter, ifs, 0⟩] scope pos) (tE X.K X.mg W (compN mi g ts el (own.map (·.2)))) := y_comp (compN_imp (X := X) (W := W) (own := own)) hc hN hi ok hg ht he hs
theorem s_setCompN (i : Nat) (hc : X.calm = true) (hN : X.N.Nodup) (hyl : X.env.scope.names.lookup y = some .local)
    (hsw : swapsWith (.ListComp elt [⟨tg, iter, ifs, 0⟩] scope pos) (some (.Name y py)) spos.line X.env = pure true) (hi : PI X tg iter (tI X.K X.mg W mi)) (ok : blkC X.N X.env.scope scope own = true)
    (hg : ∀ (s : Shared) (H : Hp) (C : Addr) (cl : List (Str × Addr)) (fp : List Addr), PG (X.blk s H scope (compEnvC scope cl C X.env) fp) tg (tG X.K (own.map (·.2)) g)) (ht : ∀ (s : Shared) (H : Hp) (C : Addr) (cl : List (Str × Addr)) (fp : List Addr), PTs (X.blk s H scope (compEnvC scope cl C X.env) fp) ifs (tT X.K X.mg W0 ts))
    (he : ∀ (s : Shared) (H : Hp) (C : Addr) (cl : List (Str × Addr)) (fp : List Addr), PE (X.blk s H scope (compEnvC scope cl C X.env) fp) elt (tE X.K X.mg W0 el)) (hy : X.N[i]? = some y := by rfl) (hs : ∀ x, foldedSetIterable iter X.env x = pure x := by intro _; rfl) :
    PS X (.Assign [.Name y py] (.ListComp elt [⟨tg, iter, ifs, 0⟩] scope pos) spos) (tS X.K X.mg W (asg (tgN i) (compN mi g ts el (own.map (·.2))))) := s_setComp i (compN_imp (X := X) (W := W) (own := own)) hc hN hyl hsw hi ok hg ht he hy hs
end
end Y

end
section
set_option Elab.async false
set_option linter.all false
set_option maxRecDepth 100000
set_option maxHeartbeats 4000000
set_option autoImplicit false
/-! reasoning about mirrors -/
namespace Y
open PySem PySem.Spec L2
structure SK where
  nx : En → Sto → Prop
  bk : En → Sto → Prop
  ct : En → Sto → Prop
  rt : D → Sto → Prop
  ex : Str → List (Str × D) → En → Sto → Prop
def wS (r : SR) (k : SK) : Prop := match r with
  | .nx e S => k.nx e S
  | .brk e S => k.bk e S
  | .ct e S => k.ct e S
  | .ret d S => k.rt d S
  | .exc c fs e S => k.ex c fs e S
  | .err => False
section
variable {α β : Type} {env : En} {S : Sto} {k : SK} {Q : β → Sto → Prop} {E : Str → List (Str × D) → Sto → Prop}
theorem wS_seq {a b : SM} : wS (seqS a b env S) k = wS (a env S) ⟨fun e S => wS (b e S) k, k.bk, k.ct, k.rt, k.ex⟩ := by
  unfold seqS
  cases a env S <;> rfl
theorem wS_bS {r : Res α} {f : α → Sto → SR} : wS (bS r env f) k = wpM r (fun a S => wS (f a S) k) (fun c fs S => k.ex c fs env S) := by
  cases r <;> rfl
theorem wpM_bdE {r : Res α} {f : α → Sto → Res β} : wpM (bd r f) Q E = wpM r (fun a S => wpM (f a S) Q E) E := by
  cases r <;> rfl
theorem wS_if {c : TM} {a b : SM} : wS (ifS c a b env S) k = wpM (c env S) (fun t S1 => if t = true then wS (a env S1) k else wS (b env S1) k) (fun c fs S => k.ex c fs env S) := by
  unfold ifS
  cases c env S with
  | ok t S1 => cases t <;> rfl
  | exc c fs S1 => rfl
  | err => rfl
theorem wpM_ok {a : β} : wpM (.ok a S) Q E = Q a S := rfl
theorem wpM_lfE {o : Option β} : wpM (lf o S) Q E = match o with | some a => Q a S | none => False := by cases o <;> rfl
theorem wS_nx {e : En} : wS (.nx e S) k = k.nx e S := rfl
theorem wS_ret {d : D} : wS (.ret d S) k = k.rt d S := rfl
theorem wS_asg {g : TgM} {e : EM} : wS (asg g e env S) k = wpM (e env S) (fun d S1 => match g d env with | some env1 => k.nx env1 S1 | none => False) (fun c fs S => k.ex c fs env S) := by
  unfold asg
  rw [wS_bS]
  congr 1
  funext d S1
  cases g d env <;> rfl
theorem wS_exS {e : EM} : wS (exS e env S) k = wpM (e env S) (fun _ S1 => k.nx env S1) (fun c fs S => k.ex c fs env S) := by
  unfold exS; rw [wS_bS]; rfl
theorem wS_retS {e : EM} : wS (retS e env S) k = wpM (e env S) (fun d S1 => k.rt d S1) (fun c fs S => k.ex c fs env S) := by
  unfold retS; rw [wS_bS]; rfl
theorem wS_setS {e o i : EM} : wS (setS e o i env S) k = wpM (e env S) (fun d S1 => wpM (o env S1) (fun x S2 => wpM (i env S2) (fun j S3 => match setAt S3 x j d with | some S4 => k.nx env S4 | none => False) (fun c fs S => k.ex c fs env S)) (fun c fs S => k.ex c fs env S)) (fun c fs S => k.ex c fs env S) := by
  unfold setS
  simp only [wS_bS]
  congr 1; funext d S1; congr 1; funext x S2; congr 1; funext j S3
  cases setAt S3 x j d <;> rfl
theorem wS_rai {c : Str} {fs : List Str} {l : LM} : wS (raiS c fs l env S) k = wpM (l env S) (fun ds S1 => if ds.length = fs.length then k.ex c (fs.zip ds) env S1 else False) (fun c fs S => k.ex c fs env S) := by
  unfold raiS
  rw [wS_bS]
  congr 1; funext ds S1
  split <;> rfl
theorem wS_try {body : SM} {yes : Str → Option Bool} {i : Nat} {su : Str → List (Str × D) → SM} : wS (tryS body yes i su env S) k = wS (body env S) ⟨k.nx, k.bk, k.ct, k.rt, fun c fs env1 S1 => if i < env1.length then match yes c with
    | some true => wS (su c fs (env1.set i none) S1) ⟨fun e S => k.nx (e.set i none) S, fun e S => k.bk (e.set i none) S, fun e S => k.ct (e.set i none) S, k.rt, fun _ _ _ _ => False⟩
    | some false => k.ex c fs env1 S1
    | none => False else False⟩ := by
  unfold tryS
  cases body env S with
  | exc c fs env1 S1 =>
    by_cases hi : i < env1.length
    · simp only [if_pos hi]
      show _ = (if i < env1.length then _ else _)
      rw [if_pos hi]
      cases yes c with
      | none => rfl
      | some b =>
        cases b with
        | false => rfl
        | true => simp only; cases su c fs (env1.set i none) S1 <;> rfl
    · simp only [if_neg hi]
      show _ = (if i < env1.length then _ else _)
      rw [if_neg hi]; rfl
  | _ => rfl
theorem wS_nxS : wS (nxS env S) k = k.nx env S := rfl
theorem wpM_op2 {f : Sto → D → D → Option D} {a b : EM} {Q : D → Sto → Prop} : wpM (op2 f a b env S) Q E = wpM (a env S) (fun x S1 => wpM (b env S1) (fun y S2 => wpM (lf (f S2 x y) S2) Q E) E) E := by
  unfold op2; simp only [wpM_bdE]
theorem wpM_op1 {f : Sto → D → Option D} {a : EM} {Q : D → Sto → Prop} : wpM (op1 f a env S) Q E = wpM (a env S) (fun x S1 => wpM (lf (f S1 x) S1) Q E) E := by
  unfold op1; simp only [wpM_bdE]
theorem wpM_asT {a : EM} {Q : Bool → Sto → Prop} : wpM (asT a env S) Q E = wpM (a env S) (fun x S1 => match x with | .bl b => Q b S1 | _ => False) E := by
  unfold asT; rw [wpM_bdE]; congr 1; funext x S1; cases x <;> rfl
theorem wpM_trt {a : EM} {Q : Bool → Sto → Prop} : wpM (trt a env S) Q E = wpM (a env S) (fun x S1 => wpM (lf (tru S1 x) S1) Q E) E := by
  unfold trt; rw [wpM_bdE]
theorem wpM_notT {a : TM} {Q : Bool → Sto → Prop} : wpM (notT a env S) Q E = wpM (a env S) (fun x S1 => Q (!x) S1) E := by
  unfold notT; rw [wpM_bdE]; rfl
theorem wpM_andT {a b : TM} {Q : Bool → Sto → Prop} : wpM (andT a b env S) Q E = wpM (a env S) (fun x S1 => if x = true then wpM (b env S1) Q E else Q false S1) E := by
  unfold andT; rw [wpM_bdE]; congr 1; funext x S1; cases x <;> rfl
theorem wpM_orT {a b : TM} {Q : Bool → Sto → Prop} : wpM (orT a b env S) Q E = wpM (a env S) (fun x S1 => if x = true then Q true S1 else wpM (b env S1) Q E) E := by
  unfold orT; rw [wpM_bdE]; congr 1; funext x S1; cases x <;> rfl
theorem wpM_andV {a b : EM} {Q : D → Sto → Prop} : wpM (andV a b env S) Q E = wpM (a env S) (fun x S1 => wpM (lf (tru S1 x) S1) (fun t S2 => if t = true then wpM (b env S2) Q E else Q x S2) E) E := by
  unfold andV; simp only [wpM_bdE]; congr 1; funext x S1; congr 1; funext t S2; cases t <;> rfl
theorem wpM_notE {a : EM} {Q : D → Sto → Prop} : wpM (notE a env S) Q E = wpM (a env S) (fun x S1 => wpM (lf (tru S1 x) S1) (fun t S2 => Q (.bl (!t)) S2) E) E := by
  unfold notE; simp only [wpM_bdE]; rfl
theorem wpM_ifE {c : TM} {a b : EM} {Q : D → Sto → Prop} : wpM (ifE c a b env S) Q E = wpM (c env S) (fun t S1 => if t = true then wpM (a env S1) Q E else wpM (b env S1) Q E) E := by
  unfold ifE; rw [wpM_bdE]; congr 1; funext x S1; cases x <;> rfl
theorem wpM_lnil {Q : List D → Sto → Prop} : wpM (lnil env S) Q E = Q [] S := rfl
theorem wpM_lcons {a : EM} {l : LM} {Q : List D → Sto → Prop} : wpM (lcons a l env S) Q E = wpM (a env S) (fun x S1 => wpM (l env S1) (fun xs S2 => Q (x :: xs) S2) E) E := by
  unfold lcons; simp only [wpM_bdE]; rfl
theorem wpM_tupE {l : LM} {Q : D → Sto → Prop} : wpM (tupE l env S) Q E = wpM (l env S) (fun xs S1 => if xs.length ≤ sizeLine then Q (.tup xs) S1 else False) E := by
  unfold tupE; rw [wpM_bdE]; congr 1; funext x S1; split <;> rfl
theorem wpM_lstF {l : LM} {Q : List D → Sto → Prop} : wpM (lstF l env S) Q E = wpM (l env S) (fun xs S1 => if xs.length ≤ sizeLine then Q xs S1 else False) E := by
  unfold lstF; rw [wpM_bdE]; congr 1; funext x S1; split <;> rfl
theorem wpM_frz {l : LM} {Q : D → Sto → Prop} : wpM (frz l env S) Q E = wpM (l env S) (fun xs S1 => Q (.lst xs) S1) E := by
  unfold frz; rw [wpM_bdE]; rfl
theorem wpM_new {l : LM} {Q : D → Sto → Prop} : wpM (new l env S) Q E = wpM (l env S) (fun xs S1 => Q (.ref S1.length) (S1 ++ [some (.lst xs)])) E := by
  unfold new; rw [wpM_bdE]; rfl
theorem wpM_cal {f : List D → Sto → Res D} {l : LM} {Q : D → Sto → Prop} : wpM (cal f l env S) Q E = wpM (l env S) (fun xs S1 => wpM (f xs S1) Q E) E := by
  unfold cal; rw [wpM_bdE]
theorem wpM_calB {f : Sto → List D → Option D} {l : LM} {Q : D → Sto → Prop} : wpM (calB f l env S) Q E = wpM (l env S) (fun xs S1 => wpM (lf (f S1 xs) S1) Q E) E := by
  unfold calB; rw [wpM_bdE]
theorem wpM_calF {f : Sto → List D → Option (List D)} {l : LM} {Q : List D → Sto → Prop} : wpM (calF f l env S) Q E = wpM (l env S) (fun xs S1 => wpM (lf (f S1 xs) S1) Q E) E := by
  unfold calF; rw [wpM_bdE]
theorem wpM_isiE {T : String} {m : EM} {Q : D → Sto → Prop} : wpM (isiE T m env S) Q E = wpM (m env S) (fun d S1 => wpM (lf ((tyN S1 d).map fun a => .bl (subT a T)) S1) Q E) E := by
  unfold isiE; rw [wpM_bdE]
theorem wpM_isiTE {Ts : List String} {m : EM} {Q : D → Sto → Prop} : wpM (isiTE Ts m env S) Q E = wpM (m env S) (fun d S1 => if Ts.length ≤ 1000 then wpM (lf ((tyN S1 d).map fun a => .bl (Ts.any (subT a))) S1) Q E else False) E := by
  unfold isiTE; rw [wpM_bdE]; congr 1; funext d S1; split <;> rfl
theorem wpM_vr {i : Nat} {Q : D → Sto → Prop} : wpM (vr i env S) Q E = match env[i]? with | some (some d) => Q d S | _ => False := by
  unfold vr
  cases env[i]? with
  | none => rfl
  | some o => cases o <;> rfl
theorem wpM_ct {d : D} {Q : D → Sto → Prop} : wpM (ct d env S) Q E = Q d S := rfl
theorem wpM_meth {T : String} {f : MF} {o : EM} {l : LM} {Q : D → Sto → Prop} : wpM (meth T f o l env S) Q E = wpM (o env S) (fun x S1 => if tyD T S1 x = true then wpM (l env S1) (fun ds S2 => match f S2 x ds with | some (d, S3) => Q d S3 | none => False) E else False) E := by
  unfold meth
  rw [wpM_bdE]; congr 1; funext x S1
  split
  · rw [wpM_bdE]; congr 1; funext ds S2
    cases f S2 x ds with
    | none => rfl
    | some p => rfl
  · rfl
theorem wpM_chn {f g : Sto → D → D → Option D} {a b c : EM} {Q : D → Sto → Prop} : wpM (chn f g a b c env S) Q E = wpM (a env S) (fun x S1 => wpM (b env S1) (fun y S2 => wpM (lf (f S2 x y) S2) (fun t S3 => match t with
    | .bl true => wpM (c env S3) (fun z S4 => wpM (lf (g S4 y z) S4) Q E) E
    | .bl false => Q (.bl false) S3
    | _ => False) E) E) E := by
  unfold chn
  simp only [wpM_bdE]
  congr 1; funext x S1; congr 1; funext y S2; congr 1; funext t S3
  cases t with
  | bl b => cases b <;> simp only [wpM_bdE, wpM_ok]
  | _ => rfl
theorem wpM_cut {f : Sto → D → Option Int → Option Int → Option D} {m : EM} {a b : OM} {Q : D → Sto → Prop} : wpM (cut f m a b env S) Q E = wpM (m env S) (fun d S1 => wpM (a env S1) (fun lo S2 => wpM (b env S2) (fun hi S3 => wpM (lf (f S3 d lo hi) S3) Q E) E) E) E := by
  unfold cut; simp only [wpM_bdE]
theorem wpM_cutF {m : EM} {a b : OM} {Q : List D → Sto → Prop} : wpM (cutF m a b env S) Q E = wpM (m env S) (fun d S1 => wpM (a env S1) (fun lo S2 => wpM (b env S2) (fun hi S3 => wpM (lf ((lstOf S3 d).map fun ds => cutL ds lo hi) S3) Q E) E) E) E := by
  unfold cutF; simp only [wpM_bdE]
theorem wpM_ono {Q : Option Int → Sto → Prop} : wpM (onoM env S) Q E = Q none S := rfl
theorem wpM_osm {m : EM} {Q : Option Int → Sto → Prop} : wpM (osmM m env S) Q E = wpM (m env S) (fun d S1 => match d with | .int i => Q (some i) S1 | _ => False) E := by
  unfold osmM; rw [wpM_bdE]; congr 1; funext d S1; cases d <;> rfl
theorem wpM_revT {m : EM} {Q : D → Sto → Prop} : wpM (revT m env S) Q E = wpM (m env S) (fun d S1 => match d with | .tup ds => Q (.tup ds.reverse) S1 | _ => False) E := by
  unfold revT; rw [wpM_bdE]; congr 1; funext d S1; cases d <;> rfl
theorem wpM_mono' {r : Res β} {Q' : β → Sto → Prop} (h : wpM r Q' E) (hq : ∀ a S, Q' a S → Q a S) : wpM r Q E := wpM_mono h hq fun _ _ _ h => h
/-! loops -/
theorem wS_loop {src : List (Nat × List D)} {tg : TgM} {body : SM} (I : Nat → En → Sto → Prop) : ∀ (all : List D) (i : Nat) (env : En) (S : Sto), I i env S → (∀ j d env S, all[j]? = some d → I (i + j) env S → okSrc src S ∧ ∃ env1, tg d env = some env1 ∧ wS (body env1 S) ⟨I (i + j + 1), k.nx, I (i + j + 1), k.rt, k.ex⟩) →
    (∀ env S, I (i + all.length) env S → okSrc src S ∧ k.nx env S) → wS (loop src tg body all env S) k
  | [], i, env, S, h, hs, hd => by
    obtain ⟨h1, h2⟩ := hd env S h
    unfold loop
    rw [if_pos h1]; exact h2
  | d :: ds, i, env, S, h, hs, hd => by
    obtain ⟨h1, env1, h2, h3⟩ := hs 0 d env S rfl h
    unfold loop
    rw [if_pos h1, h2]
    simp only
    have next : ∀ e S1, I (i + 1) e S1 → wS (loop src tg body ds e S1) k := fun e S1 h' => wS_loop I ds (i + 1) e S1 h' (fun j d' env S hj hI => by
      have := hs (j + 1) d' env S hj (by rw [show i + (j + 1) = i + 1 + j by omega]; exact hI)
      rw [show i + (j + 1) + 1 = i + 1 + j + 1 by omega] at this
      exact this) fun env S h' => hd env S (by rw [List.length_cons, show i + (ds.length + 1) = i + 1 + ds.length by omega]; exact h')
    revert h3
    cases body env1 S with
    | nx e S1 => exact fun h3 => next e S1 h3
    | ct e S1 => exact fun h3 => next e S1 h3
    | brk e S1 => exact fun h3 => h3
    | ret d S1 => exact fun h3 => h3
    | exc c fs e S1 => exact fun h3 => h3
    | err => exact fun h3 => h3
theorem wS_for {it : IM} {tg : TgM} {body : SM} : wS (forS it tg body env S) k = wpM (it env S) (fun p S1 => wS (loop p.2 tg body p.1 env S1) k) (fun c fs S => k.ex c fs env S) := by
  unfold forS; rw [wS_bS]
theorem okSrc_nil : okSrc [] S := fun p hp => by cases hp
/-! comprehensions -/
theorem wpM_clp {tg : TgM} {ts : TM} {el : EM} {env0 : En} {n0 : Nat} {G : Sto → Bool} {Q : Unit → Sto → Prop} (I : Nat → Sto → Prop) : ∀ (all : List D) (i : Nat) (S : Sto), I i S → (∀ j d S, all[j]? = some d → I (i + j) S → G S = true ∧ ∃ env1, tg d env0 = some env1 ∧ wpM (ts env1 S) (fun t S1 => if t = true then
      wpM (el env1 S1) (fun x S2 => ∃ acc, S2[n0]? = some (some (.lst acc)) ∧ acc.length < sizeLine ∧ I (i + j + 1) (S2.set n0 (some (.lst (acc ++ [x]))))) (fun _ _ _ => False) else I (i + j + 1) S1) (fun _ _ _ => False)) →
    (∀ S, I (i + all.length) S → G S = true ∧ Q () S) → wpM (clp tg ts el env0 n0 G all S) Q E
  | [], i, S, h, hs, hd => by
    obtain ⟨h1, h2⟩ := hd S h
    unfold clp
    rw [if_pos h1]; exact h2
  | d :: ds, i, S, h, hs, hd => by
    obtain ⟨h1, env1, h2, h3⟩ := hs 0 d S rfl h
    unfold clp
    rw [if_pos h1, h2]
    simp only
    have next : ∀ S1, I (i + 1) S1 → wpM (clp tg ts el env0 n0 G ds S1) Q E := fun S1 h' => wpM_clp I ds (i + 1) S1 h' (fun j d' S hj hI => by
      have := hs (j + 1) d' S hj (by rw [show i + (j + 1) = i + 1 + j by omega]; exact hI)
      rw [show i + (j + 1) + 1 = i + 1 + j + 1 by omega] at this
      exact this) fun S h' => hd S (by rw [List.length_cons, show i + (ds.length + 1) = i + 1 + ds.length by omega]; exact h')
    revert h3
    cases ts env1 S with
    | ok t S1 =>
      cases t with
      | false => exact fun h3 => next S1 h3
      | true =>
        intro h3
        have h3 : wpM (el env1 S1) (fun x S2 => ∃ acc, S2[n0]? = some (some (.lst acc)) ∧ acc.length < sizeLine ∧ I (i + 0 + 1) (S2.set n0 (some (.lst (acc ++ [x]))))) (fun _ _ _ => False) := h3
        revert h3
        simp only
        cases el env1 S1 with
        | ok x S2 =>
          rintro ⟨acc, e1, e2, e3⟩
          simp only [e1, e2, if_true]
          exact next _ e3
        | exc c fs S2 => exact fun h => h.elim
        | err => exact fun h => h.elim
    | exc c fs S1 => exact fun h => h.elim
    | err => exact fun h => h.elim
theorem wpM_compF {it : IM} {tg : TgM} {ts : TM} {el : EM} {vs : List Nat} {Q : D → Sto → Prop} : wpM (compF it tg ts el vs env S) Q E = wpM (it env S) (fun p S1 => wpM (clp tg ts el (wipeE env vs) S1.length (okB p.2) p.1 (S1 ++ [some (.lst [])])) (fun _ S2 => match S2[S1.length]? with
    | some (some (.lst ds)) => if belL S1.length ds = true then Q (.lst ds) (trunc S1 (S2.set S1.length none)) else Q (.lst ds) (S2.set S1.length none)
    | _ => False) E) E := by
  unfold compF
  simp only [wpM_bdE]
  congr 1; funext p S1; congr 1; funext u S2
  cases S2[S1.length]? with
  | none => rfl
  | some o =>
    cases o with
    | none => rfl
    | some o => cases o with
      | lst ds => simp only; split <;> rfl
      | dK _ => rfl
      | dT _ => rfl
theorem okB_nil : okB [] S = true := okB_iff.mpr okSrc_nil
/-! defs -/
theorem trunc_self {X : Sto} : trunc S (S ++ X) = S := by
  unfold trunc
  rw [if_pos (.inl (by simp))]; simp
theorem trunc_same : trunc S S = S := by
  unfold trunc
  rw [if_pos (.inl (by simp))]; simp
theorem frzD_pure {n k : Nat} {d : D} (h : d.pure = true) : frzD n k d S = some (d, S) := by
  cases k <;> simp [frzD, h]
theorem mapS_pure {n k : Nat} : ∀ {ds : List D}, pureL ds = true → mapS (frzD n k) ds S = some (ds, S)
  | [], _ => rfl
  | d :: ds, h => by
    have h' : (d.pure && pureL ds) = true := h
    obtain ⟨h1, h2⟩ := Bool.and_eq_true_iff.mp h'
    simp only [mapS, frzD_pure h1, Option.bind_some, mapS_pure h2, Option.map_some]
theorem scope_pure {d : D} {S' : Sto} (h : d.pure = true) : scope S (.ok d S') = .ok d (trunc S S') := by
  simp only [scope, frzD_pure h]
  rw [if_pos (bel_of_pure d h)]
theorem scope_ref {n : Nat} {ds : List D} {S' : Sto} (hn : ¬ n < S.length) (h : S'[n]? = some (some (.lst ds))) (hp : pureL ds = true) : scope S (.ok (.ref n) S') = .ok (.lst ds) (trunc S (S'.set n none)) := by
  have e : frzD S.length 9 (.ref n) S' = some (.lst ds, S'.set n none) := by
    show frzD S.length (8 + 1) (.ref n) S' = some (.lst ds, S'.set n none)
    rw [frzD]
    rw [if_neg (show ¬ (D.ref n).pure = true from Bool.false_ne_true), if_neg hn, h]
    show Option.map (fun p => (D.lst p.1, p.2)) (mapS (frzD S.length 8) ds (S'.set n none)) = _
    rw [mapS_pure hp]; rfl
  simp only [scope, e]
  rw [if_pos (show (D.lst ds).bel S.length = true from belL_of_pure ds hp)]
theorem scope_exc {c : Str} {fs : List (Str × D)} {S' : Sto} (h : fs.all (fun p => p.2.pure) = true) : scope S (.exc c fs S') = .exc c fs (trunc S S') := by
  simp only [scope]
  rw [if_pos h]
theorem scope_bl {b : Bool} {S' : Sto} : scope S (.ok (.bl b) S') = .ok (.bl b) (trunc S S') := scope_pure rfl
theorem scope_int {b : Int} {S' : Sto} : scope S (.ok (.int b) S') = .ok (.int b) (trunc S S') := scope_pure rfl
theorem scope_str {b : Str} {S' : Sto} : scope S (.ok (.str b) S') = .ok (.str b) (trunc S S') := scope_pure rfl
theorem scope_non {S' : Sto} : scope S (.ok .non S') = .ok .non (trunc S S') := scope_pure rfl
theorem wpM_exc {c : Str} {fs : List (Str × D)} {Q : D → Sto → Prop} : wpM (.exc c fs S) Q E = E c fs S := rfl
/-- a def by its body -/
theorem wpM_fn {n : Nat} {m : SM} {ds : List D} {Q : D → Sto → Prop} (h : wS (m (ds.map some ++ List.replicate (n - ds.length) none) S) ⟨fun _ S' => wpM (scope S (.ok .non S')) Q E, fun _ _ => False, fun _ _ => False, fun d S' => wpM (scope S (.ok d S')) Q E, fun c fs _ S' => wpM (scope S (.exc c fs S')) Q E⟩) : wpM (fn n m ds S) Q E := by
  unfold fn run
  revert h
  cases m (ds.map some ++ List.replicate (n - ds.length) none) S <;> exact fun h => h
theorem wpM_run {n : Nat} {m : SM} {ds : List D} {Q : D → Sto → Prop} (h : wS (m (ds.map some ++ List.replicate (n - ds.length) none) S) ⟨fun _ S' => Q .non S', fun _ _ => False, fun _ _ => False, fun d S' => Q d S', fun c fs _ S' => E c fs S'⟩) : wpM (run n m ds S) Q E := by
  unfold run
  revert h
  cases m (ds.map some ++ List.replicate (n - ds.length) none) S <;> exact fun h => h
end
end Y

end
section
set_option Elab.async false
set_option linter.all false
set_option maxRecDepth 100000
set_option maxHeartbeats 4000000
namespace Y
open PySem PySem.Spec L2
/-! ### dicts: tables of data -/
section
variable {κ : Type} [DecidableEq κ]
def valD (kvs : List (κ × D)) (k : κ) : Option D := (kvs.find? fun kv => decide (kv.1 = k)).map (·.2)
def putD (kvs : List (κ × D)) (k : κ) (d : D) : List (κ × D) :=
  if (kvs.any fun kv => decide (kv.1 = k)) = true then kvs.map (fun kv => if kv.1 = k then (kv.1, d) else kv) else kvs ++ [(k, d)]
def tab (kvs : List (κ × D)) (xs : List V) : List (κ × V) := (kvs.map (·.1)).zip xs
variable {K : PySem.W.Frag} {H : Hp} {A : Addr → Prop} {ρ : List Addr}
theorem valD_rel (k : κ) : ∀ {kvs : List (κ × D)} {xs : List V}, RelL K H A ρ xs (kvs.map (·.2)) → (valD kvs k = none ∧ valV (tab kvs xs) k = none) ∨ ∃ d v, valD kvs k = some d ∧ valV (tab kvs xs) k = some v ∧ RelD K H A ρ v d
  | [], _, h => .inl ⟨rfl, rfl⟩
  | (k0, d0) :: kvs, _, ⟨x, xs, rfl, h1, h2⟩ => by
    by_cases e : k0 = k
    · exact .inr ⟨d0, x, by simp [valD, e], by simp [tab, valV, e], h1⟩
    · rcases valD_rel k h2 with ⟨a, b⟩ | ⟨d, v, a, b, c⟩
      · refine .inl ⟨?_, ?_⟩
        · simpa [valD, e] using a
        · simpa [tab, valV, e] using b
      · refine .inr ⟨d, v, ?_, ?_, c⟩
        · simpa [valD, e] using a
        · simpa [tab, valV, e] using b
theorem tab_any (k : κ) : ∀ {kvs : List (κ × D)} {xs : List V}, xs.length = kvs.length → ((tab kvs xs).any fun kv => decide (kv.1 = k)) = kvs.any fun kv => decide (kv.1 = k)
  | [], _, _ => rfl
  | p :: kvs, [], h => by cases h
  | p :: kvs, x :: xs, h => by
    have ih := tab_any k (kvs := kvs) (xs := xs) (by simpa using h)
    show (decide (p.1 = k) || (tab kvs xs).any _) = (decide (p.1 = k) || kvs.any _)
    rw [ih]
theorem putD_map (k : κ) {d : D} {v : V} (r : RelD K H A ρ v d) : ∀ {kvs : List (κ × D)} {xs : List V}, RelL K H A ρ xs (kvs.map (·.2)) →
    ∃ ys, (tab kvs xs).map (fun kv => if kv.1 = k then (kv.1, v) else kv) = tab (kvs.map (fun kv => if kv.1 = k then (kv.1, d) else kv)) ys ∧ RelL K H A ρ ys ((kvs.map (fun kv => if kv.1 = k then (kv.1, d) else kv)).map (·.2))
  | [], _, h => ⟨[], rfl, rfl⟩
  | (k0, d0) :: kvs, _, ⟨x, xs, rfl, h1, h2⟩ => by
    obtain ⟨ys, e, q⟩ := putD_map k r h2
    by_cases z : k0 = k
    · refine ⟨v :: ys, ?_, ?_⟩
      · show (if k0 = k then (k0, v) else (k0, x)) :: (tab kvs xs).map _ = _
        rw [e]; simp [tab, z]
      · rw [List.map_cons, if_pos z]; exact RelL.cons r q
    · refine ⟨x :: ys, ?_, ?_⟩
      · show (if k0 = k then (k0, v) else (k0, x)) :: (tab kvs xs).map _ = _
        rw [e]; simp [tab, z]
      · rw [List.map_cons, if_neg z]; exact RelL.cons h1 q
theorem putD_rel (k : κ) {d : D} {v : V} {kvs : List (κ × D)} {xs : List V} (h : RelL K H A ρ xs (kvs.map (·.2))) (r : RelD K H A ρ v d) :
    ∃ ys, putK (tab kvs xs) k v = tab (putD kvs k d) ys ∧ RelL K H A ρ ys ((putD kvs k d).map (·.2)) := by
  have hl : xs.length = kvs.length := by rw [h.length, List.length_map]
  unfold putK putD
  rw [tab_any k hl]
  by_cases z : (kvs.any fun kv => decide (kv.1 = k)) = true
  · rw [if_pos z, if_pos z]; exact putD_map k r h
  · rw [if_neg z, if_neg z]
    refine ⟨xs ++ [v], ?_, ?_⟩
    · unfold tab
      rw [List.map_append, List.zip_append (by rw [List.length_map, hl])]; rfl
    · rw [List.map_append]; exact h.append (RelL.cons r RelL.nil)
theorem tab_len {kvs : List (κ × D)} {xs : List V} (h : RelL K H A ρ xs (kvs.map (·.2))) : (tab kvs xs).length = kvs.length := by
  unfold tab
  rw [List.length_zip, h.length, List.length_map, List.length_map, Nat.min_self]
end
/-! ### keys -/
def keyD : D → Option Key
  | .int i => some (.inl i)
  | .str s => some (.inr s)
  | _ => none
def keysD : List D → Option (List Key)
  | [] => some []
  | d :: ds => (keyD d).bind fun k => (keysD ds).map fun ks => k :: ks
section
variable {K : PySem.W.Frag} {H : Hp} {A : Addr → Prop} {ρ : List Addr}
theorem keyD_ok {d : D} {v : V} {k : Key} (r : RelD K H A ρ v d) (h : keyD d = some k) : v = kV k := by
  cases d <;> cases h <;> exact r
theorem keysD_ok : ∀ {ds : List D} {vs : List V} {ks : List Key}, RelL K H A ρ vs ds → keysD ds = some ks → vs = ks.map kV
  | [], _, _, r, h => by cases h; exact r
  | d :: ds, _, _, ⟨x, xs, rfl, r1, r2⟩, h => by
    obtain ⟨k, e1, h1⟩ := Option.bind_eq_some_iff.mp h
    obtain ⟨ks, e2, e3⟩ := Option.map_eq_some_iff.mp h1
    cases e3
    rw [keyD_ok r1 e1, keysD_ok r2 e2]; rfl
end
/-- what a dict holds at a key, at a tuple's items -/
def dGetK (S : Sto) (x k : D) : Option (Option D) := match x with
  | .ref n => match S[n]? with
    | some (some (.dK kvs)) => (keyD k).map (valD kvs)
    | _ => none
  | _ => none
def dGetT (S : Sto) (x : D) (ks : List D) : Option (Option D) := match x with
  | .ref n => match S[n]? with
    | some (some (.dT kvs)) => (keysD ks).map (valD kvs)
    | _ => none
  | _ => none
def dPutK (S : Sto) (x k d : D) : Option Sto := match x with
  | .ref n => match S[n]? with
    | some (some (.dK kvs)) => (keyD k).bind fun k => if kvs.length < sizeLine then some (S.set n (some (.dK (putD kvs k d)))) else none
    | _ => none
  | _ => none
def dPutT (S : Sto) (x : D) (ks : List D) (d : D) : Option Sto := match x with
  | .ref n => match S[n]? with
    | some (some (.dT kvs)) => (keysD ks).bind fun k => if kvs.length < sizeLine then some (S.set n (some (.dT (putD kvs k d)))) else none
    | _ => none
  | _ => none
section
variable {K : PySem.W.Frag} {ρ : List Addr} {H : Hp} {S S' : Sto} {x y d : D} {u v : V}
def OptR (K : PySem.W.Frag) (H : Hp) (A : Addr → Prop) (ρ : List Addr) (o : Option D) (r : Option V) : Prop := (o = none ∧ r = none) ∨ ∃ d v, o = some d ∧ r = some v ∧ RelD K H A ρ v d
theorem dGetK_ok {o : Option D} (R : RS K ρ H S) (rx : RelD K H (Al ρ S) ρ u x) (ry : RelD K H (Al ρ S) ρ v y) (h : dGetK S x y = some o) : ∃ a r, u = .ref a ∧ DGet H a v r ∧ OptR K H (Al ρ S) ρ o r := by
  cases x with
  | ref n =>
    simp only [dGetK] at h
    split at h
    · rename_i kvs hS
      obtain ⟨k, e1, rfl⟩ := Option.map_eq_some_iff.mp h
      obtain ⟨a, rfl, ha⟩ := rx
      obtain ⟨xs, h1, h2⟩ := R.obj n _ a hS ha
      have e2 := keyD_ok ry e1
      subst e2
      exact ⟨a, _, rfl, DGet.k h1, valD_rel k h2⟩
    · cases h
  | _ => cases h
theorem dGetT_ok {o : Option D} {ys : List D} {vs : List V} {b : Addr} (R : RS K ρ H S) (rx : RelD K H (Al ρ S) ρ u x) (ry : RelL K H (Al ρ S) ρ vs ys) (hb : H b = some (.tup vs)) (h : dGetT S x ys = some o) : ∃ a r, u = .ref a ∧ DGet H a (.ref b) r ∧ OptR K H (Al ρ S) ρ o r := by
  cases x with
  | ref n =>
    simp only [dGetT] at h
    split at h
    · rename_i kvs hS
      obtain ⟨k, e1, rfl⟩ := Option.map_eq_some_iff.mp h
      obtain ⟨a, rfl, ha⟩ := rx
      obtain ⟨xs, h1, h2⟩ := R.obj n _ a hS ha
      have e2 := keysD_ok ry e1
      subst e2
      exact ⟨a, _, rfl, DGet.t h1 hb, valD_rel k h2⟩
    · cases h
  | _ => cases h
theorem dPutK_ok (R : RS K ρ H S) (rx : RelD K H (Al ρ S) ρ u x) (ry : RelD K H (Al ρ S) ρ v y) {w : V} (rd : RelD K H (Al ρ S) ρ w d) (h : dPutK S x y d = some S') : ∃ a H', u = .ref a ∧ DPut H a v w H' ∧ RS K ρ H' S' ∧ Up K ρ H S ρ H' S' := by
  cases x with
  | ref n =>
    simp only [dPutK] at h
    split at h
    · rename_i kvs hS
      obtain ⟨k, e1, h⟩ := Option.bind_eq_some_iff.mp h
      split at h
      · rename_i hl
        cases h
        obtain ⟨a, rfl, ha⟩ := rx
        obtain ⟨xs, h1, h2⟩ := R.obj n _ a hS ha
        have e2 := keyD_ok ry e1
        subst e2
        obtain ⟨zs, e3, e4⟩ := putD_rel k (kvs := kvs) h2 rd
        refine ⟨a, _, rfl, DPut.k h1 (by show (tab kvs xs).length < _; rw [tab_len h2]; exact hl), ?_, Up.setO hS ha h1⟩
        show RS K ρ (upd H a (.dK (putK (tab kvs xs) k w))) _
        rw [e3]
        exact R.setO (o2 := .dK (putD kvs k d)) hS ha h1 e4
      · cases h
    · cases h
  | _ => cases h
theorem dPutT_ok {ys : List D} {vs : List V} {b : Addr} (R : RS K ρ H S) (rx : RelD K H (Al ρ S) ρ u x) (ry : RelL K H (Al ρ S) ρ vs ys) (hb : H b = some (.tup vs)) {w : V} (rd : RelD K H (Al ρ S) ρ w d) (h : dPutT S x ys d = some S') : ∃ a H', u = .ref a ∧ DPut H a (.ref b) w H' ∧ RS K ρ H' S' ∧ Up K ρ H S ρ H' S' := by
  cases x with
  | ref n =>
    simp only [dPutT] at h
    split at h
    · rename_i kvs hS
      obtain ⟨k, e1, h⟩ := Option.bind_eq_some_iff.mp h
      split at h
      · rename_i hl
        cases h
        obtain ⟨a, rfl, ha⟩ := rx
        obtain ⟨xs, h1, h2⟩ := R.obj n _ a hS ha
        have e2 := keysD_ok ry e1
        subst e2
        obtain ⟨zs, e3, e4⟩ := putD_rel k (kvs := kvs) h2 rd
        refine ⟨a, _, rfl, DPut.t h1 hb (by show (tab kvs xs).length < _; rw [tab_len h2]; exact hl), ?_, Up.setO hS ha h1⟩
        show RS K ρ (upd H a (.dT (putK (tab kvs xs) k w))) _
        rw [e3]
        exact R.setO (o2 := .dT (putD kvs k d)) hS ha h1 e4
      · cases h
    · cases h
  | _ => cases h
end
/-- .. at a key: a tuple's items, an int, a text -/
def dGetD (S : Sto) (x k : D) : Option (Option D) := match k with
  | .tup ks => dGetT S x ks
  | _ => dGetK S x k
def dPutD (S : Sto) (x k d : D) : Option Sto := match k with
  | .tup ks => dPutT S x ks d
  | _ => dPutK S x k d
section
variable {K : PySem.W.Frag} {ρ : List Addr} {H : Hp} {S S' : Sto} {x y d : D} {u v : V}
theorem dGetD_ok {o : Option D} (R : RS K ρ H S) (rx : RelD K H (Al ρ S) ρ u x) (ry : RelD K H (Al ρ S) ρ v y) (h : dGetD S x y = some o) : ∃ a r, u = .ref a ∧ DGet H a v r ∧ OptR K H (Al ρ S) ρ o r := by
  unfold dGetD at h
  split at h
  · obtain ⟨b, vs, rfl, hb, rl⟩ := ry
    exact dGetT_ok R rx rl hb h
  · exact dGetK_ok R rx ry h
theorem dPutD_ok (R : RS K ρ H S) (rx : RelD K H (Al ρ S) ρ u x) (ry : RelD K H (Al ρ S) ρ v y) {w : V} (rd : RelD K H (Al ρ S) ρ w d) (h : dPutD S x y d = some S') : ∃ a H', u = .ref a ∧ DPut H a v w H' ∧ RS K ρ H' S' ∧ Up K ρ H S ρ H' S' := by
  unfold dPutD at h
  split at h
  · obtain ⟨b, vs, rfl, hb, rl⟩ := ry
    exact dPutT_ok R rx rl hb rd h
  · exact dPutK_ok R rx ry rd h
end
end Y

end
section
set_option Elab.async false
set_option linter.all false
set_option maxRecDepth 100000
set_option maxHeartbeats 4000000
namespace Y
open PySem PySem.Spec L2
/-! ### dicts: expressions and statements -/
def newD (o : Ob) : EM := fun _ S => .ok (.ref S.length) (S ++ [some o])
/-- d[k]; d[a, b] -/
def itemE (mo mk : EM) : EM := fun env S => bd (mo env S) fun x S1 => bd (mk env S1) fun k S2 => match dGetD S2 x k with
  | some (some d) => .ok d S2
  | _ => .err
def itemT (mo : EM) (ml : LM) : EM := fun env S => bd (mo env S) fun x S1 => bd (ml env S1) fun ks S2 => if ks.length ≤ sizeLine then match dGetT S2 x ks with
  | some (some d) => .ok d S2
  | _ => .err else .err
/-- k in d (neg: not in) -/
def hasE (neg : Bool) (mk mo : EM) : EM := fun env S => bd (mk env S) fun k S1 => bd (mo env S1) fun x S2 => match dGetD S2 x k with
  | some o => .ok (.bl (o.isSome != neg)) S2
  | _ => .err
def putE (m mo mk : EM) : SM := fun env S => bS (m env S) env fun d S1 => bS (mo env S1) env fun x S2 => bS (mk env S2) env fun k S3 => match dPutD S3 x k d with
  | some S4 => .nx env S4
  | none => .err
def putT (m mo : EM) (ml : LM) : SM := fun env S => bS (m env S) env fun d S1 => bS (mo env S1) env fun x S2 => bS (ml env S2) env fun ks S3 => if ks.length ≤ sizeLine then match dPutT S3 x ks d with
  | some S4 => .nx env S4
  | none => .err else .err
section
variable {X : Cx} {W : WX} {pos : Pos} {o i e : Expr} {mo mi m : EM} {es : List Expr} {l : LM}
theorem newD_ok {K : PySem.W.Frag} {ρ : List Addr} {H : Hp} {S : Sto} {Q : VK} {ob : Ob} (hp : ob.pay = []) (hh : ob.ho [] = u) (R : RS K ρ H S) (w : PostV K ρ H S Q (.ref S.length) (S ++ [some ob])) (p : Addr) (np : H p = none) : Q (.ref p) (upd H p u) := by
  refine w (ρ ++ [p]) (.ref p) _ (R.newO (xs := []) np (same_new np) (by rw [hh]; exact upd_same) (by rw [hp]; exact RelL.nil)) (Up.new R.len np (same_new np)) ⟨p, rfl, ?_⟩
  rw [← R.len]; simp
theorem y_newK : PE X (.Dict [] [] pos) (tE X.K X.mg W (newD (.dK []))) := pe_dnewK.imp fun σ H Q ⟨ρ, env, S, R, V, w⟩ p np => newD_ok rfl rfl R (show PostV _ _ _ _ _ _ _ from w) p np
theorem y_newT : PE X (.Dict [] [] pos) (tE X.K X.mg W (newD (.dT []))) := pe_dnewT.imp fun σ H Q ⟨ρ, env, S, R, V, w⟩ p np => newD_ok rfl rfl R (show PostV _ _ _ _ _ _ _ from w) p np
theorem y_item (hu : X.A.units + 1 < cLine) (ho : PE X o (tE X.K X.mg W mo)) (hi : PE X i (tE X.K X.mg W mi)) (hs : NoSl i := by intro _ _; rfl) : PE X (.Subscript o i pos) (tE X.K X.mg W (itemE mo mi)) :=
  (pe_dget hu ho hi hs).imp fun σ H Q ⟨ρ, env, S, R, V, w⟩ => tE_seq R V (wpM_mono (wpM_bd w) (fun x S1 w1 ρ1 u H1 R1 V1 U1 r1 => tE_seq R1 V1 (wpM_mono (wpM_bd (wpM_mono w1 (fun _ _ q => q.up U1) fun _ _ _ q => q.up U1)) (fun k S2 w2 ρ2 v H2 R2 V2 U2 r2 => by
    split at w2
    · rename_i d hd
      obtain ⟨a, r, ea, g, q⟩ := dGetD_ok R2 (U2.relD r1) r2 hd
      rcases q with ⟨z, _⟩ | ⟨d', v', z, rfl, rd⟩
      · cases z
      · cases z
        exact ⟨a, v', ea, g, (PostV.up U2 w2).same R2 (Same.refl H2) rd⟩
    · exact w2.elim) fun _ _ _ q => q)) fun _ _ _ q => q)
theorem y_itemT {kp : Pos} (hu : X.A.units + 1 < cLine) (ho : PE X o (tE X.K X.mg W mo)) (hi : PA X es (tA X.K X.mg W l)) (hs : NoSl (.Tuple es k kp) := by intro _ _; rfl) : PE X (.Subscript o (.Tuple es k kp) pos) (tE X.K X.mg W (itemT mo l)) :=
  (pe_dget hu ho (pe_tup hi) hs).imp fun σ H Q ⟨ρ, env, S, R, V, w⟩ => tE_seq R V (wpM_mono (wpM_bd w) (fun x S1 w1 ρ1 u H1 R1 V1 U1 r1 => tA_seq R1 V1 (wpM_mono (wpM_bd (wpM_mono w1 (fun _ _ q => q.up U1) fun _ _ _ q => q.up U1)) (fun k S2 w2 ρ2 vs H2 R2 V2 U2 r2 => by
    split at w2
    · rename_i hl
      refine ⟨by rw [r2.length]; exact hl, fun p np => ?_⟩
      have s2 : Same H2 (upd H2 p (.tup vs)) := same_new np
      have U3 : Up X.K ρ2 H2 S2 ρ2 (upd H2 p (.tup vs)) S2 := Up.same s2
      split at w2
      · rename_i d hd
        obtain ⟨a, r, ea, g, q⟩ := dGetT_ok (R2.same s2) (U3.relD (U2.relD r1)) (U3.relL r2) upd_same hd
        rcases q with ⟨z, _⟩ | ⟨d', v', z, rfl, rd⟩
        · cases z
        · cases z
          exact ⟨a, v', ea, g, (PostV.up U2 w2).same R2 s2 rd⟩
      · exact w2.elim
    · exact w2.elim) fun _ _ _ q => q)) fun _ _ _ q => q)
theorem y_has (hu : X.A.units + 1 < cLine) (hi : PE X i (tE X.K X.mg W mi)) (ho : PE X o (tE X.K X.mg W mo)) (hm : behindInMarks .In o = false := by first | exact nomark _ | with_unfolding_all rfl) : PE X (.Compare i [.In] [o] pos) (tE X.K X.mg W (hasE false mi mo)) :=
  (pe_cmp (pc_din hu hi ho) hm).imp fun σ H Q ⟨ρ, env, S, R, V, w⟩ => tE_seq R V (wpM_mono (wpM_bd w) (fun x S1 w1 ρ1 u H1 R1 V1 U1 r1 => tE_seq R1 V1 (wpM_mono (wpM_bd (wpM_mono w1 (fun _ _ q => q.up U1) fun _ _ _ q => q.up U1)) (fun k S2 w2 ρ2 v H2 R2 V2 U2 r2 => by
    split at w2
    · rename_i d hd
      obtain ⟨a, r, ea, g, q⟩ := dGetD_ok R2 r2 (U2.relD r1) hd
      have e : r.isSome = (d.isSome != false) := by
        rcases q with ⟨rfl, rfl⟩ | ⟨d', v', rfl, rfl, rd⟩ <;> rfl
      exact ⟨a, r, ea, g, (PostV.up U2 w2).same R2 (Same.refl H2) (by rw [← e]; rfl)⟩
    · exact w2.elim) fun _ _ _ q => q)) fun _ _ _ q => q)
theorem y_hasNot (hu : X.A.units + 1 < cLine) (hi : PE X i (tE X.K X.mg W mi)) (ho : PE X o (tE X.K X.mg W mo)) (hm : behindInMarks .NotIn o = false := by first | exact nomark _ | with_unfolding_all rfl) : PE X (.Compare i [.NotIn] [o] pos) (tE X.K X.mg W (hasE true mi mo)) :=
  (pe_cmp (pc_dnotin hu hi ho) hm).imp fun σ H Q ⟨ρ, env, S, R, V, w⟩ => tE_seq R V (wpM_mono (wpM_bd w) (fun x S1 w1 ρ1 u H1 R1 V1 U1 r1 => tE_seq R1 V1 (wpM_mono (wpM_bd (wpM_mono w1 (fun _ _ q => q.up U1) fun _ _ _ q => q.up U1)) (fun k S2 w2 ρ2 v H2 R2 V2 U2 r2 => by
    split at w2
    · rename_i d hd
      obtain ⟨a, r, ea, g, q⟩ := dGetD_ok R2 r2 (U2.relD r1) hd
      have e : (!r.isSome) = (d.isSome != true) := by
        rcases q with ⟨rfl, rfl⟩ | ⟨d', v', rfl, rfl, rd⟩ <;> rfl
      exact ⟨a, r, ea, g, (PostV.up U2 w2).same R2 (Same.refl H2) (by rw [← e]; rfl)⟩
    · exact w2.elim) fun _ _ _ q => q)) fun _ _ _ q => q)
theorem s_put {p2 : Pos} (hu : X.A.units + 1 < cLine) (he : PE X e (tE X.K X.mg W m)) (ho : PE X o (tE X.K X.mg W mo)) (hi : PE X i (tE X.K X.mg W mi)) (hs : swapsWith e (some (.Subscript o i p2)) pos.line X.env = pure false := by rfl) :
    PS X (.Assign [.Subscript o i p2] e pos) (tS X.K X.mg W (putE m mo mi)) :=
  (ps_dput hu ho hi he hs).imp fun Dn σ H ⟨ρ, env, S, R, V, w⟩ => tE_seq R V (wpM_mono (wpS_bS V w) (fun d S1 w1 ρ1 v H1 R1 V1 U1 r1 =>
    tE_seq R1 V1 (wpM_mono (wpS_bS V1 (wpS_up U1 w1)) (fun x S2 w2 ρ2 u H2 R2 V2 U2 r2 => tE_seq R2 V2 (wpM_mono (wpS_bS V2 (wpS_up U2 w2)) (fun k S3 w3 ρ3 t H3 R3 V3 U3 r3 => by
      cases e1 : dPutD S3 x k d with
      | none => rw [e1] at w3; exact w3.elim
      | some S4 =>
        rw [e1] at w3
        obtain ⟨a, H', ea, g, R4, U4⟩ := dPutD_ok R3 (U3.relD r2) r3 ((U2.trans U3).relD r1) e1
        exact ⟨a, H', ea, g, w3 ρ3 σ H' R4 (U4.rv V3) (U3.trans U4)⟩) fun _ _ _ q => q)) fun _ _ _ q => q)) fun _ _ _ q => q)
theorem s_putT {p2 kp : Pos} (hu : X.A.units + 1 < cLine) (he : PE X e (tE X.K X.mg W m)) (ho : PE X o (tE X.K X.mg W mo)) (hi : PA X es (tA X.K X.mg W l)) (hs : swapsWith e (some (.Subscript o (.Tuple es k kp) p2)) pos.line X.env = pure false := by rfl) :
    PS X (.Assign [.Subscript o (.Tuple es k kp) p2] e pos) (tS X.K X.mg W (putT m mo l)) :=
  (ps_dput hu ho (pe_tup hi) he hs).imp fun Dn σ H ⟨ρ, env, S, R, V, w⟩ => tE_seq R V (wpM_mono (wpS_bS V w) (fun d S1 w1 ρ1 v H1 R1 V1 U1 r1 =>
    tE_seq R1 V1 (wpM_mono (wpS_bS V1 (wpS_up U1 w1)) (fun x S2 w2 ρ2 u H2 R2 V2 U2 r2 => tA_seq R2 V2 (wpM_mono (wpS_bS V2 (wpS_up U2 w2)) (fun ks S3 w3 ρ3 vs H3 R3 V3 U3 r3 => by
      split at w3
      · rename_i hl
        refine ⟨by rw [r3.length]; exact hl, fun p np => ?_⟩
        have s3 : Same H3 (upd H3 p (.tup vs)) := same_new np
        have U3' : Up X.K ρ3 H3 S3 ρ3 (upd H3 p (.tup vs)) S3 := Up.same s3
        cases e1 : dPutT S3 x ks d with
        | none => rw [e1] at w3; exact w3.elim
        | some S4 =>
          rw [e1] at w3
          obtain ⟨a, H', ea, g, R4, U4⟩ := dPutT_ok (R3.same s3) (U3'.relD (U3.relD r2)) (U3'.relL r3) upd_same (U3'.relD ((U2.trans U3).relD r1)) e1
          exact ⟨a, H', ea, g, w3 ρ3 σ H' R4 (U4.rv (U3'.rv V3)) ((U3.trans U3').trans U4)⟩
      · exact w3.elim) fun _ _ _ q => q)) fun _ _ _ q => q)) fun _ _ _ q => q)
end
end Y

end
section
set_option Elab.async false
set_option linter.all false
set_option maxRecDepth 100000
set_option maxHeartbeats 4000000
namespace Y
open PySem PySem.Spec L2
/-! ### dicts: get -/
def isDD (S : Sto) : D → Bool
  | .ref n => match S[n]? with
    | some (some (.dK _)) => true
    | some (some (.dT _)) => true
    | _ => false
  | _ => false
/-- d.get(k), d.get(k, z) -/
def get1 (mo mk : EM) : EM := fun env S => bd (mo env S) fun x S1 => if isDD S1 x then bd (mk env S1) fun k S2 => match dGetD S2 x k with
  | some o => .ok (o.getD .non) S2
  | none => .err else .err
def get2 (mo mk mz : EM) : EM := fun env S => bd (mo env S) fun x S1 => if isDD S1 x then bd (mk env S1) fun k S2 => bd (mz env S2) fun z S3 => match dGetD S3 x k with
  | some o => .ok (o.getD z) S3
  | none => .err else .err
def get1T (mo : EM) (ml : LM) : EM := fun env S => bd (mo env S) fun x S1 => if isDD S1 x then bd (ml env S1) fun ks S2 => if ks.length ≤ sizeLine then match dGetT S2 x ks with
  | some o => .ok (o.getD .non) S2
  | none => .err else .err else .err
section
variable {X : Cx} {W : WX} {pos apos cpos kp : Pos} {o e f : Expr} {mo mk mz : EM} {es : List Expr} {l : LM}
theorem isDD_ok {K : PySem.W.Frag} {ρ : List Addr} {H : Hp} {S : Sto} {x : D} {u : V} (R : RS K ρ H S) (r : RelD K H (Al ρ S) ρ u x) (h : isDD S x = true) : ∃ a, u = .ref a ∧ IsD H a := by
  cases x with
  | ref n =>
    obtain ⟨a, rfl, ha⟩ := r
    refine ⟨a, rfl, ?_⟩
    simp only [isDD] at h
    split at h
    · rename_i kvs hS
      obtain ⟨xs, h1, _⟩ := R.obj n _ a hS ha
      exact .inl ⟨_, .inl h1⟩
    · rename_i kvs hS
      obtain ⟨xs, h1, _⟩ := R.obj n _ a hS ha
      exact .inr ⟨_, .inl h1⟩
    · cases h
  | _ => cases h
theorem y_get1 (hu : X.A.units + 1 < cLine) (ho : PE X o (tE X.K X.mg W mo)) (he : PE X e (tE X.K X.mg W mk)) (m : M1 X o "get" apos e cpos := by exact ⟨by rfl, by rfl, by rfl, by rfl⟩) : PE X (.Call (.Attribute o "get" apos) [e] [] cpos) (tE X.K X.mg W (get1 mo mk)) :=
  (pe_dget1 hu ho he m).imp fun σ H Q ⟨ρ, env, S, R, V, w⟩ => tE_seq R V (wpM_mono (wpM_bd w) (fun x S1 w1 ρ1 u H1 R1 V1 U1 r1 => by
    split at w1
    · rename_i hd
      obtain ⟨a, ea, ia⟩ := isDD_ok R1 r1 hd
      refine ⟨a, ea, ia, tE_seq R1 V1 (wpM_mono (wpM_bd (wpM_mono w1 (fun _ _ q => q.up U1) fun _ _ _ q => q.up U1)) (fun k S2 w2 ρ2 v H2 R2 V2 U2 r2 => ?_) fun _ _ _ q => q)⟩
      split at w2
      · rename_i d hd
        obtain ⟨a', r, ea', g, q⟩ := dGetD_ok R2 (U2.relD r1) r2 hd
        cases ea.symm.trans ea'
        refine ⟨r, g, ?_⟩
        rcases q with ⟨rfl, rfl⟩ | ⟨d', v', rfl, rfl, rd⟩
        · exact (PostV.up U2 w2).same R2 (Same.refl H2) rfl
        · exact (PostV.up U2 w2).same R2 (Same.refl H2) rd
      · exact w2.elim
    · exact w1.elim) fun _ _ _ q => q)
theorem y_get1T {k : Nat} (hu : X.A.units + 1 < cLine) (ho : PE X o (tE X.K X.mg W mo)) (he : PA X es (tA X.K X.mg W l)) (m : M1 X o "get" apos (.Tuple es k kp) cpos := by exact ⟨by rfl, by rfl, by rfl, by rfl⟩) : PE X (.Call (.Attribute o "get" apos) [.Tuple es k kp] [] cpos) (tE X.K X.mg W (get1T mo l)) :=
  (pe_dget1 hu ho (pe_tup he) m).imp fun σ H Q ⟨ρ, env, S, R, V, w⟩ => tE_seq R V (wpM_mono (wpM_bd w) (fun x S1 w1 ρ1 u H1 R1 V1 U1 r1 => by
    split at w1
    · rename_i hd
      obtain ⟨a, ea, ia⟩ := isDD_ok R1 r1 hd
      refine ⟨a, ea, ia, tA_seq R1 V1 (wpM_mono (wpM_bd (wpM_mono w1 (fun _ _ q => q.up U1) fun _ _ _ q => q.up U1)) (fun k S2 w2 ρ2 vs H2 R2 V2 U2 r2 => ?_) fun _ _ _ q => q)⟩
      split at w2
      · rename_i hl
        refine ⟨by rw [r2.length]; exact hl, fun p np => ?_⟩
        have s2 : Same H2 (upd H2 p (.tup vs)) := same_new np
        have U3 : Up X.K ρ2 H2 S2 ρ2 (upd H2 p (.tup vs)) S2 := Up.same s2
        split at w2
        · rename_i d hd
          obtain ⟨a', r, ea', g, q⟩ := dGetT_ok (R2.same s2) (U3.relD (U2.relD r1)) (U3.relL r2) upd_same hd
          cases ea.symm.trans ea'
          refine ⟨r, g, ?_⟩
          rcases q with ⟨rfl, rfl⟩ | ⟨d', v', rfl, rfl, rd⟩
          · exact (PostV.up U2 w2).same R2 s2 rfl
          · exact (PostV.up U2 w2).same R2 s2 rd
        · exact w2.elim
      · exact w2.elim
    · exact w1.elim) fun _ _ _ q => q)
theorem y_get2 (hu : X.A.units + 1 < cLine) (ho : PE X o (tE X.K X.mg W mo)) (he : PE X e (tE X.K X.mg W mk)) (hf : PE X f (tE X.K X.mg W mz)) (m : M2 X o "get" apos e f cpos := by exact ⟨by rfl, by rfl, by rfl, by rfl⟩) : PE X (.Call (.Attribute o "get" apos) [e, f] [] cpos) (tE X.K X.mg W (get2 mo mk mz)) :=
  (pe_dget2 hu ho he hf m).imp fun σ H Q ⟨ρ, env, S, R, V, w⟩ => tE_seq R V (wpM_mono (wpM_bd w) (fun x S1 w1 ρ1 u H1 R1 V1 U1 r1 => by
    split at w1
    · rename_i hd
      obtain ⟨a, ea, ia⟩ := isDD_ok R1 r1 hd
      refine ⟨a, ea, ia, tE_seq R1 V1 (wpM_mono (wpM_bd (wpM_mono w1 (fun _ _ q => q.up U1) fun _ _ _ q => q.up U1)) (fun k S2 w2 ρ2 v H2 R2 V2 U2 r2 =>
        tE_seq R2 V2 (wpM_mono (wpM_bd (wpM_mono w2 (fun _ _ q => q.up U2) fun _ _ _ q => q.up U2)) (fun z S3 w3 ρ3 y H3 R3 V3 U3 r3 => ?_) fun _ _ _ q => q)) fun _ _ _ q => q)⟩
      split at w3
      · rename_i d hd
        obtain ⟨a', r, ea', g, q⟩ := dGetD_ok R3 (U3.relD (U2.relD r1)) (U3.relD r2) hd
        cases ea.symm.trans ea'
        refine ⟨r, g, ?_⟩
        rcases q with ⟨rfl, rfl⟩ | ⟨d', v', rfl, rfl, rd⟩
        · exact (PostV.up U3 w3).same R3 (Same.refl H3) r3
        · exact (PostV.up U3 w3).same R3 (Same.refl H3) rd
      · exact w3.elim
    · exact w1.elim) fun _ _ _ q => q)
end
end Y

end
section
set_option Elab.async false
set_option linter.all false
set_option maxRecDepth 100000
set_option maxHeartbeats 4000000
namespace Y
open PySem PySem.Spec L2
theorem hu1 {A : Around} {k : Nat} (hr : Room k A) : A.units + 1 < cLine := by have := hr.un; omega
section
variable {S : Sto} {env : En} {Q : D → Sto → Prop} {E : Str → List (Str × D) → Sto → Prop} {m mo mk mz : EM} {l : LM} {b : Bool} {k : SK}
theorem wpM_newD {o : Ob} : wpM (newD o env S) Q E = Q (.ref S.length) (S ++ [some o]) := rfl
theorem wpM_itemE : wpM (itemE mo mk env S) Q E = wpM (mo env S) (fun x S1 => wpM (mk env S1) (fun k S2 => match dGetD S2 x k with
    | some (some d) => Q d S2
    | _ => False) E) E := by
  unfold itemE
  simp only [wpM_bdE]
  congr 1; funext x S1; congr 1; funext k S2
  rcases dGetD S2 x k with _ | _ | d <;> rfl
theorem wpM_itemT : wpM (itemT mo l env S) Q E = wpM (mo env S) (fun x S1 => wpM (l env S1) (fun ks S2 => ks.length ≤ sizeLine ∧ match dGetT S2 x ks with
    | some (some d) => Q d S2
    | _ => False) E) E := by
  unfold itemT
  simp only [wpM_bdE]
  congr 1; funext x S1; congr 1; funext ks S2
  by_cases h : ks.length ≤ sizeLine
  · rw [if_pos h]
    rcases dGetT S2 x ks with _ | _ | d <;> simp [h, wpM]
  · rw [if_neg h]; simp [h, wpM]
theorem wpM_hasE : wpM (hasE b mk mo env S) Q E = wpM (mk env S) (fun k S1 => wpM (mo env S1) (fun x S2 => match dGetD S2 x k with
    | some o => Q (.bl (o.isSome != b)) S2
    | none => False) E) E := by
  unfold hasE
  simp only [wpM_bdE]
  congr 1; funext x S1; congr 1; funext k S2
  rcases dGetD S2 k x with _ | d <;> rfl
theorem wpM_get1 : wpM (get1 mo mk env S) Q E = wpM (mo env S) (fun x S1 => isDD S1 x = true ∧ wpM (mk env S1) (fun k S2 => match dGetD S2 x k with
    | some o => Q (o.getD .non) S2
    | none => False) E) E := by
  unfold get1
  simp only [wpM_bdE]
  congr 1; funext x S1
  by_cases h : isDD S1 x = true
  · rw [if_pos h, wpM_bdE]
    simp only [h, true_and]
    congr 1; funext k S2
    rcases dGetD S2 x k with _ | d <;> rfl
  · rw [if_neg h]; simp [h, wpM]
theorem wpM_get2 : wpM (get2 mo mk mz env S) Q E = wpM (mo env S) (fun x S1 => isDD S1 x = true ∧ wpM (mk env S1) (fun k S2 => wpM (mz env S2) (fun z S3 => match dGetD S3 x k with
    | some o => Q (o.getD z) S3
    | none => False) E) E) E := by
  unfold get2
  simp only [wpM_bdE]
  congr 1; funext x S1
  by_cases h : isDD S1 x = true
  · rw [if_pos h, wpM_bdE]
    simp only [h, true_and, wpM_bdE]
    congr 1; funext k S2; congr 1; funext z S3
    rcases dGetD S3 x k with _ | d <;> rfl
  · rw [if_neg h]; simp [h, wpM]
theorem wS_putE : wS (putE m mo mk env S) k = wpM (m env S) (fun d S1 => wpM (mo env S1) (fun x S2 => wpM (mk env S2) (fun j S3 => match dPutD S3 x j d with | some S4 => k.nx env S4 | none => False) (fun c fs S => k.ex c fs env S)) (fun c fs S => k.ex c fs env S)) (fun c fs S => k.ex c fs env S) := by
  unfold putE
  simp only [wS_bS]
  congr 1; funext d S1; congr 1; funext x S2; congr 1; funext j S3
  cases dPutD S3 x j d <;> rfl
theorem wS_putT : wS (putT m mo l env S) k = wpM (m env S) (fun d S1 => wpM (mo env S1) (fun x S2 => wpM (l env S2) (fun ks S3 => ks.length ≤ sizeLine ∧ match dPutT S3 x ks d with | some S4 => k.nx env S4 | none => False) (fun c fs S => k.ex c fs env S)) (fun c fs S => k.ex c fs env S)) (fun c fs S => k.ex c fs env S) := by
  unfold putT
  simp only [wS_bS]
  congr 1; funext d S1; congr 1; funext x S2; congr 1; funext ks S3
  by_cases h : ks.length ≤ sizeLine
  · rw [if_pos h]
    cases dPutT S3 x ks d <;> simp [h, wS]
  · rw [if_neg h]; simp [h, wS]
end
end Y

end
section
set_option Elab.async false
set_option linter.all false
set_option maxRecDepth 100000
set_option maxHeartbeats 4000000
set_option autoImplicit false
namespace L2
open PySem PySem.Spec PyProof.Rows PySem.W
section
variable {β : Type} {X : Cx} {H : Hp} {s : Shared} {pins : List (Addr × Obj)} {σ : St} {E : Value → Shared → Prop} {Q : VK}
/-- sorted(u), when it is known what is collected -/
theorem sort_col {enc : β → PyData} {u : Value} {xs : List V} {es : List β} (hu : X.A.units + 200 < cLine) (I : Inv X pins σ H s)
    (hcol : ∀ (R : List Value → Shared → Prop), (∀ (h' : Heap) (tk : Nat) (acc : List Value), (∀ b o, s.heap.get? b = some o → h'.get? b = some o) → Vals xs acc → R acc { s with heap := h', toks := tk }) → wpAny (model X.prog X.w) X.A.in1 (collect u) R E s)
    (hlen : xs.length = es.length) (hd : DpAll X.K H xs (es.map enc)) (hal : AllAlike (es.map enc)) (hso : Sortable (es.map enc)) (hdp : ∀ e ∈ es, (enc e).depth ≤ 64) (hL : es.length ≤ sizeLine)
    (q : ∀ p, H p = none → Q (.ref p) (upd H p (.lst (((xs.zip es).mergeSort (dataLe false fun b => enc b.2)).map Prod.fst)))) :
    wpAny (model X.prog X.w) X.A (call (.builtin "sorted") [u]) (fun v s' => ∃ x H', Inv X pins σ H' s' ∧ RelV x v ∧ Q x H') E s := by
  refine Calls.call_function_entry PyProof.Rows.kind_sorted PyProof.Rows.plain_sorted PyProof.Rows.entry_sorted (PyProof.Rows.args_sorted1 _) ?_
  unfold Builtin.«sorted»
  refine wpAny_bind (m := checkCount "sorted" 1 1 _) (wpAny_pure ?_)
  refine wpAny_bind (hcol _ fun h' tk acc hk rv => ?_)
  have I1 : Inv X pins σ H { s with heap := h', toks := tk } := I.kept hk
  have hvl := rv.length
  refine wpAny_bind (wpAny_newList ?_ (by omega))
  have hoL : (h'.push (seqObj "list" acc.toArray 0)).get? h'.objs.size = some (seqObj "list" acc.toArray 0) := Heap.get?_push_size _ rfl
  show wpAny _ _ _ _ _ { s with heap := h'.push (seqObj "list" acc.toArray 0), toks := tk }
  obtain ⟨as, rd⟩ := Dp.readsAll I1 (es.map enc) xs acc hd rv
  have ez : (xs.zip es).map (fun b => enc b.2) = es.map enc := by
    rw [show (fun b : V × β => enc b.2) = enc ∘ Prod.snd from rfl, ← List.map_map, zip_snd hlen]
  have zl : (xs.zip es).length = xs.length := by rw [List.length_zip]; omega
  have er0 : EachIs (fun v (b : V × β) => ∃ as, Reads h' v (enc b.2) as) acc (xs.zip es) := readsAll_each (fun b : V × β => enc b.2) (as := as) (by rw [ez]; exact rd)
  have er' : EachIs (fun v (b : V × β) => ∃ as, Reads (sortingHeap (h'.push (seqObj "list" acc.toArray 0)) h'.objs.size acc) v (enc b.2) as) acc (xs.zip es) :=
    er0.mono fun _ _ ⟨as, r⟩ => ⟨as, PyProof.Rows.Reads.keeps (fun b o e => sortingHeap_old (Nat.ne_of_lt (Heap.lt_size e)) (Heap.get?_push_of_some _ e)) r⟩
  have ev : EachIs (fun u (b : V × β) => RelV b.1 u) acc (xs.zip es) := each_vals rv hlen
  have hdp' : ∀ b ∈ xs.zip es, (enc b.2).depth ≤ 64 := fun b hb => hdp b.2 (by
    have := List.mem_map_of_mem (f := Prod.snd) hb
    rwa [zip_snd hlen] at this)
  refine wpAny_bind (wpAny_holding (wpAny_call_entry PyProof.Rows.slot_list_sort ⟨_, hoL, rfl⟩ PyProof.Rows.entry_list_sort
    (list_sort_vals (κ := dataKind (sortingHeap (h'.push (seqObj "list" acc.toArray 0)) h'.objs.size acc) ((xs.zip es).map fun b => enc b.2)) (s := { s with heap := h'.push (seqObj "list" acc.toArray 0), toks := tk }) hoL
      (SortsAt.data (s := { s with heap := sortingHeap (h'.push (seqObj "list" acc.toArray 0)) h'.objs.size acc, toks := tk }) (each_map (R := fun v d => ∃ as, Reads (sortingHeap (h'.push (seqObj "list" acc.toArray 0)) h'.objs.size acc) v d as) (fun b : V × β => enc b.2) er') (by rw [ez]; exact hal) (by rw [ez]; exact hso)
        (bound_map fun b hb => by
          have := hdp' b hb
          show X.A.units + 1 + 1 + _ < cLine
          omega)) (by omega) ?_)
    (PyProof.Rows.args_list_sort _)))
  refine ⟨.none, rfl, ?_⟩
  have eo := sortVals_data false ev er' (by rw [ez]; exact hal)
  obtain ⟨e', he'⟩ := PyProof.Rows.sortedHeap_at (vs := acc) (out := (sortVals (dataKind (sortingHeap (h'.push (seqObj "list" acc.toArray 0)) h'.objs.size acc) ((xs.zip es).map fun b => enc b.2)) false acc acc).toArray) hoL
  have hv := vals_each eo
  have hln : (((xs.zip es).mergeSort (dataLe false fun b => enc b.2)).map Prod.fst).length ≤ sizeLine := by
    rw [List.length_map, List.length_mergeSort]; omega
  refine wpAny_pure ⟨_, rfl, .ref h'.objs.size, upd H h'.objs.size (.lst (((xs.zip es).mergeSort (dataLe false fun b => enc b.2)).map Prod.fst)), I1.laid (t' := tk) (fun b u e => ?_) (Nat.le_refl _) ⟨hln, _, e', hv, he'⟩, rfl, q _ (I1.hok.fresh (Nat.le_refl _))⟩
  have hb : b < h'.objs.size := Heap.lt_size e
  rw [PyProof.Rows.sortedHeap_old (Nat.ne_of_lt hb) (by rw [size_push']; exact Nat.lt_succ_of_lt hb)]
  exact Heap.get?_push_of_some _ e
/-- sorted(d), d a dict: its keys -/
def rSortT (K : PySem.W.Frag) (enc : β → PyData) : List V → Hp → VK → Prop := fun vs H Q => ∃ (a : Addr) (kvs : List (List Key × V)) (es : List β), vs = [V.ref a] ∧ Rd H a (.dT kvs) ∧ es.length = kvs.length ∧ (∀ bs, IsKeys H kvs bs → DpAll K H (bs.map V.ref) (es.map enc)) ∧ AllAlike (es.map enc) ∧ Sortable (es.map enc) ∧ (∀ e ∈ es, (enc e).depth ≤ 64) ∧
  ∀ p bs, IsKeys H kvs bs → H p = none → Q (.ref p) (upd H p (.lst ((((bs.map V.ref).zip es).mergeSort (dataLe false fun b => enc b.2)).map Prod.fst)))
theorem cr_sortT {enc : β → PyData} (hc : X.calm = true) (hu : X.A.units + 200 < cLine) : CallR X (.builtin "sorted") (rSortT X.K enc) := by
  intro pins s σ H vs us Q I r h
  obtain ⟨d, kvs, es0, rfl, hd, hle, hdp, hal, hso, hdep, q⟩ := h
  obtain ⟨u, rfl, rx⟩ := r.one
  cases rx
  obtain ⟨z, hs, ks, pr, o, es, ep, ho, hx, hdt, he, hn⟩ := (show ObjOk X.prog X.w H s.heap d (.dT kvs) from hd.ok I.hok)
  have l1 : es.size = ks.length := size_of_entries he
  have l2 : kvs.length = ks.length := Paired.length pr
  have ik := isKeys_of pr
  refine sort_col (xs := (ks.map fun x => x.2.1).map V.ref) (es := es0) hu I (fun R hR => ?_) (by rw [List.length_map, List.length_map]; omega) (hdp _ ik) hal hso hdep (by omega) (fun p hp => q p _ ik hp)
  refine PySem.W.kdu_collect (A := X.A.in1) (kdl_raw hs hx hdt) (I.ok.hd hc) ho (by omega) fun h' tk acc' hk it => ?_
  have ea : acc'.toList = ks.map fun x => Value.ref x.2.1 := by
    have hl : acc'.toList.length = ks.length := by rw [Array.length_toList, it.1]; exact l1
    apply List.ext_getElem?
    intro j
    rw [List.getElem?_map]
    cases hj : acc'.toList[j]? with
    | none =>
      have h1 := List.getElem?_eq_none_iff.mp hj
      rw [List.getElem?_eq_none (by omega)]
      all_goals rfl
    | some v =>
      obtain ⟨en, hen, hv⟩ := it.2 j v (by rw [← Array.getElem?_toList]; exact hj)
      have qe := entry_at he j
      rw [hen] at qe
      cases hb : ks[j]? with
      | none =>
        rw [hb] at qe
        exact nomatch (show some en = none from qe)
      | some b =>
        rw [hb] at qe
        have e2 : en = entryOfKey (tupleKind (mixKind X.prog X.w)) b := Option.some.inj qe
        rw [hv, e2]
        all_goals rfl
  have eb : acc'.toList = (ks.map fun x => x.2.1).map Value.ref := by rw [ea, List.map_map]; all_goals rfl
  exact hR h' tk acc'.toList hk (by rw [eb]; exact vals_refs _)
def rSortK (K : PySem.W.Frag) (enc : β → PyData) : List V → Hp → VK → Prop := fun vs H Q => ∃ (a : Addr) (kvs : List (Key × V)) (es : List β), vs = [V.ref a] ∧ Rd H a (.dK kvs) ∧ es.length = kvs.length ∧ DpAll K H (kvs.map fun kv => kV kv.1) (es.map enc) ∧ AllAlike (es.map enc) ∧ Sortable (es.map enc) ∧ (∀ e ∈ es, (enc e).depth ≤ 64) ∧
  ∀ p, H p = none → Q (.ref p) (upd H p (.lst ((((kvs.map fun kv => kV kv.1).zip es).mergeSort (dataLe false fun b => enc b.2)).map Prod.fst)))
theorem cr_sortK {enc : β → PyData} (hc : X.calm = true) (hu : X.A.units + 200 < cLine) : CallR X (.builtin "sorted") (rSortK X.K enc) := by
  intro pins s σ H vs us Q I r h
  obtain ⟨d, kvs, es0, rfl, hd, hle, hdp, hal, hso, hdep, q⟩ := h
  obtain ⟨u, rfl, rx⟩ := r.one
  cases rx
  obtain ⟨z, lo, vs, rel, dd⟩ := dk_rd I.hok hd
  obtain ⟨ep, hat⟩ := dd.dictAt
  have ek : (kvs.map fun kv => kV kv.1) = vs.map fun p => kV p.1 := by
    have e := congrArg (List.map kV) rel.keys
    rw [List.map_map, List.map_map] at e
    exact e
  have hvl : vs.length = kvs.length := by
    have e := congrArg List.length ek
    rw [List.length_map, List.length_map] at e
    exact e.symm
  refine sort_col (xs := kvs.map fun kv => kV kv.1) (es := es0) hu I (fun R hR => ?_) (by rw [List.length_map]; omega) hdp hal hso hdep (by omega) q
  refine PySem.W.kdu_collect (A := X.A.in1) (PySem.W.kdl_dict (knd := mixKind X.prog X.w) (kvs := vs) (ep := ep) lo) (I.ok.hd hc) hat (by omega) fun h' tk acc hk hacc => ?_
  refine hR h' tk acc.toList hk ?_
  rw [ek]
  have e0 : acc.size = vs.length := hacc.1
  refine vals_of_at (by rw [List.length_map]; exact e0.symm) fun j x u e1 e2 => ?_
  obtain ⟨k, v, e3, e4⟩ := hacc.2 j u (by rw [← Array.getElem?_toList]; exact e2)
  rw [List.getElem?_map, e3] at e1
  cases e1
  exact keyIs_rel e4
end
end L2
namespace Y
open PySem PySem.Spec L2 PySem.W
/-! sorted(d); upper -/
def kD : Key → D
  | .inl i => .int i
  | .inr s => .str s
section
variable {K : PySem.W.Frag} {H : Hp} {A : Addr → Prop} {ρ : List Addr}
theorem kD_rel (k : Key) : RelD K H A ρ (kV k) (kD k) := by cases k <;> rfl
theorem kDs_rel : ∀ ks : List Key, RelL K H A ρ (ks.map kV) (ks.map kD)
  | [] => rfl
  | k :: ks => RelL.cons (kD_rel k) (kDs_rel ks)
def ksT (kvs : List (List Key × D)) : List D := kvs.map fun kv => .tup (kv.1.map kD)
def ksK (kvs : List (Key × D)) : List D := kvs.map fun kv => kD kv.1
theorem ksT_rel : ∀ {kvs : List (List Key × D)} {xs : List V} {bs : List Addr}, xs.length = kvs.length → IsKeys H (tab kvs xs) bs → RelL K H A ρ (bs.map V.ref) (ksT kvs)
  | [], _, bs, _, h => by
    cases bs with
    | nil => rfl
    | cons b bs => exact nomatch h
  | kv :: kvs, [], _, e, _ => by cases e
  | kv :: kvs, x :: xs, bs, e, h => by
    cases bs with
    | nil => exact nomatch h
    | cons b bs =>
      cases h with
      | cons h1 h2 => exact RelL.cons ⟨b, kv.1.map kV, rfl, TupT.of h1, kDs_rel _⟩ (ksT_rel (xs := xs) (by simpa using e) h2)
theorem ksK_rel (kvs : List (Key × D)) : RelL K H A ρ (kvs.map fun kv => kV kv.1) (ksK kvs) := by
  induction kvs with
  | nil => rfl
  | cons kv kvs ih => exact RelL.cons (kD_rel _) ih
theorem tab_keys {kvs : List (Key × D)} {xs : List V} (h : xs.length = kvs.length) : ((tab kvs xs).map fun kv => kV kv.1) = kvs.map fun kv => kV kv.1 := by
  unfold tab
  rw [show (fun kv : Key × V => kV kv.1) = kV ∘ Prod.fst from rfl, ← List.map_map, List.map_fst_zip (by simp [h]), List.map_map]; rfl
end
open Classical in
noncomputable def sortK (es : List D) : Option (List D) := (toPL es).bind fun ps => if AllAlike ps ∧ Sortable ps ∧ (∀ p ∈ ps, p.depth ≤ 64) then some (es.mergeSort leD) else none
noncomputable def o_sortedT (S : Sto) : List D → Option (List D)
  | [.ref n] => match S[n]? with
    | some (some (.dT kvs)) => sortK (ksT kvs)
    | _ => none
  | _ => none
noncomputable def o_sortedK (S : Sto) : List D → Option (List D)
  | [.ref n] => match S[n]? with
    | some (some (.dK kvs)) => sortK (ksK kvs)
    | _ => none
  | _ => none
section
variable {K : PySem.W.Frag}
theorem sortK_ok {es rs : List D} (e : sortK es = some rs) : ∃ ps, toPL es = some ps ∧ es.map pD = ps ∧ AllAlike (es.map pD) ∧ Sortable (es.map pD) ∧ (∀ d ∈ es, (pD d).depth ≤ 64) ∧ rs = es.mergeSort leD := by
  unfold sortK at e
  obtain ⟨ps, e3, e4⟩ := Option.bind_eq_some_iff.mp e
  split at e4
  · rename_i hh
    obtain ⟨hal, hso, hdp⟩ := hh
    have em := toPL_map e3
    exact ⟨ps, e3, em, by rw [em]; exact hal, by rw [em]; exact hso, fun d hd => hdp _ (by rw [← em]; exact List.mem_map_of_mem hd), (Option.some.inj e4).symm⟩
  · cases e4
theorem sort_zip {H : Hp} {A : Addr → Prop} {ρ : List Addr} {vs : List V} {es : List D} (r : RelL K H A ρ vs es) : RelL K H A ρ (((vs.zip es).mergeSort (dataLe false fun b => pD b.2)).map Prod.fst) (es.mergeSort leD) := by
  have hz : ((vs.zip es).mergeSort (dataLe false fun b => pD b.2)).map Prod.snd = es.mergeSort leD := by
    have := List.map_mergeSort (r := dataLe false fun b : V × D => pD b.2) (s := leD) (f := Prod.snd) (l := vs.zip es) (fun a _ b _ => rfl)
    rw [this, zip_snd r.length]
  rw [← hz]
  exact relL_pairs fun p hp => relL_zip r p (List.mem_mergeSort.mp hp)
theorem cf_sortedT : CallF K (rSortT K pD) o_sortedT := by
  intro ρ H S ds es vs Q R r e q
  unfold o_sortedT at e
  split at e
  · rename_i n
    split at e
    · rename_i kvs hS
      obtain ⟨ps, e3, em, hal, hso, hdp, rfl⟩ := sortK_ok e
      obtain ⟨v, rfl, a, rfl, ha⟩ := one_of r
      obtain ⟨xs, h1, h2⟩ := R.obj n _ a hS ha
      have hl : xs.length = kvs.length := by rw [h2.length]; exact List.length_map _
      have tl : (tab kvs xs).length = kvs.length := tab_len h2
      refine ⟨a, tab kvs xs, ksT kvs, rfl, .inl h1, by rw [tl]; exact List.length_map _, fun bs hb => by rw [em]; exact dpAll_of (A := Al ρ S) (ρ := ρ) _ _ _ e3 (ksT_rel hl hb), hal, hso, hdp, fun p bs hb hp => ?_⟩
      exact q p _ _ (sort_zip (ksT_rel hl hb)) hp (same_new hp) upd_same
    · cases e
  · cases e
theorem cf_sortedK : CallF K (rSortK K pD) o_sortedK := by
  intro ρ H S ds es vs Q R r e q
  unfold o_sortedK at e
  split at e
  · rename_i n
    split at e
    · rename_i kvs hS
      obtain ⟨ps, e3, em, hal, hso, hdp, rfl⟩ := sortK_ok e
      obtain ⟨v, rfl, a, rfl, ha⟩ := one_of r
      obtain ⟨xs, h1, h2⟩ := R.obj n _ a hS ha
      have hl : xs.length = kvs.length := by rw [h2.length]; exact List.length_map _
      have tl : (tab kvs xs).length = kvs.length := tab_len h2
      refine ⟨a, tab kvs xs, ksK kvs, rfl, .inl h1, by rw [tl]; exact List.length_map _, by rw [em, tab_keys hl]; exact dpAll_of (A := Al ρ S) (ρ := ρ) _ _ _ e3 (ksK_rel kvs), hal, hso, hdp, fun p hp => ?_⟩
      rw [tab_keys hl]
      exact q p _ _ (sort_zip (ksK_rel kvs)) hp (same_new hp) upd_same
    · cases e
  · cases e
noncomputable def m_upper : MF := fun S x vs => match x, vs with
  | .str a, [] => if a.length ≤ 5592405 then some (.str (Txt.upper a), S) else none
  | _, _ => none
theorem ms_upper : MtS K (fun x xs H Q => ∃ a, x = .str a ∧ xs = [] ∧ a.length ≤ 5592405 ∧ Q (.str (Txt.upper a)) H) m_upper := by
  intro ρ H S S' x d ds v vs Q R rx rl e q
  unfold m_upper at e
  split at e
  · rename_i a
    split at e
    · rename_i hl
      cases e
      have rx' : v = .str a := rx
      have rl' : vs = [] := rl
      subst rx' rl'
      exact ⟨a, rfl, rfl, hl, q ρ _ H R Up.refl rfl⟩
    · cases e
  · cases e
def AllL (P : Str → Bool → Prop) : List (Str × Bool) → Prop
  | [] => True
  | p :: l => P p.1 p.2 ∧ AllL P l
theorem allL_of {P : Str → Bool → Prop} : ∀ {l : List (Str × Bool)} {c : Str} {b : Bool}, AllL P l → l.lookup c = some b → P c b
  | [], _, _, _, h => by cases h
  | (c0, b0) :: l, c, b, ⟨h1, h2⟩, h => by
    rw [List.lookup] at h
    split at h
    · rename_i e
      cases h
      rw [eq_of_beq e]; exact h1
    · exact allL_of h2 h
def AllM (P : Str → Prop) : List Str → Prop
  | [] => True
  | p :: l => P p ∧ AllM P l
theorem allM_of {P : Str → Prop} : ∀ {l : List Str} {c : Str}, AllM P l → c ∈ l → P c
  | [], _, _, h => by cases h
  | c0 :: l, c, ⟨h1, h2⟩, h => by
    rcases List.mem_cons.mp h with e | h
    · rw [e]; exact h1
    · exact allM_of h2 h
end
end Y

end
section
set_option Elab.async false
set_option linter.all false
set_option maxRecDepth 100000
set_option maxHeartbeats 4000000
set_option autoImplicit false
/-! except suites of several statements; isinstance of the caught error -/
namespace PySem.W
open PySem PySem.Spec PySem.Calls PyProof.Rows
section
variable {prog : Program} {w : World} {A : Around} {E : Value → Shared → Prop} {s : Shared} {K : Frag} {x D : Addr} {ox : Obj} {od : Option Obj}
theorem findObj_dataY {C : Addr} {name : Str} {a g : Value} (hc : (clsIn K C).isSome = true) (ha : findIn K (.ref C) name = some (some a)) (hg : specialIn K a "__get__" = some (some g)) (ht : takesIn K a = some true) : findObj K C od name = some (.bind g a) := by
  obtain ⟨cd, h1⟩ := Option.isSome_iff_exists.mp hc
  unfold findObj
  rw [h1, Option.bind_some, ha, Option.bind_some]
  simp only [hg, ht, Option.bind_some, if_true]
/-- the class of a caught error that has a dict -/
theorem y_clsOfErr {Q : Option Value → Shared → Prop} (C : L2.ExcC K D)
    (X : K.In s.heap) (I : InstAt s.heap x ox D od) (h : Q (some (.ref D)) { s with toks := s.toks + 1 }) : wpAny (model prog w) A (getAttr? (.ref x) "__class__") Q E s := by
  obtain ⟨c1, c2, c3, c4, c5, c6, c7, c8⟩ := C
  have cls : (clsIn K D).isSome = true := by
    obtain ⟨cd, e, _⟩ := any_some c4
    rw [e]; rfl
  have hf : findObj K D od "__class__" = some (.bind (.builtin "getset_descriptor.__get__") (.builtin "object.__class__")) := findObj_dataY cls c5 c6 c7
  obtain ⟨hp, g, d, t, os⟩ := s
  have a0 := I.type (M := model prog w)
  have a1 := looks_findIn (M := model prog w) X c1
  have a2 := looks_findIn (M := model prog w) X c2
  have a3 := looks_find (M := model prog w) X I hf
  have isExc : Looks (model prog w) hp (isInstance (.ref x) (.type "BaseException")) true := a0.andThen (looks_subIn X c3)
  have k0 : (false && onTheHeap (Value.builtin "BaseException.__getattribute__")) = false := rfl
  have k2 : (Value.builtin "BaseException.__getattribute__" == Value.builtin "object.__getattribute__") = false := by decide +kernel
  have k1 : (onTheHeap (Value.ref D) && Value.builtin "BaseException.__getattribute__" == Value.builtin "object.__getattribute__") = false := by rw [k2, Bool.and_false]
  unfold getAttr? getAttrBy? getAttrBy
  refine wpAny_bind (wpAny_mkText (wpAny_bind (wpAny_attempt (wpAny_holding (wpAny_bind (a0.at (wpAny_bind (a1.at ?_))))))))
  show wpAny _ _ (if (onTheHeap (Value.ref D) && Value.builtin "BaseException.__getattribute__" == Value.builtin "object.__getattribute__") = true then _ else _) _ _ _
  rw [k1, if_neg Bool.false_ne_true]
  unfold getAttrByItsOwn hookBefore
  refine wpAny_bind ?_
  rw [if_pos (by rfl : onTheHeap (Value.ref D) = true)]
  refine a2.at (wpAny_bind (wpAny_attempt (wpAny_holding ?_)))
  unfold callGetattribute
  rw [k0, if_neg Bool.false_ne_true]
  unfold boundAndCalled
  rw [PySem.F.excAttr_ValueError.ga.bind (.ref x)]
  refine wpAny_bind (wpAny_pure ?_)
  show wpAny _ _ (call (.builtin "BaseException.__getattribute__") [.ref x, .str "__class__" t]) _ _ _
  refine wpAny_call (codeAny_call_builtin PySem.F.excAttr_ValueError.ga.plain PySem.F.entry_bexc_ga ?_)
  refine @check_slot (model prog w) _ _ ⟨hp, g, d, t + 1, os⟩ "BaseException.__getattribute__" "BaseException" "__getattribute__" (.ref x) [.str "__class__" t] [] _ (by decide +kernel) (by decide +kernel) isExc (PySem.F.args_bexc_ga (.ref x) (.str "__class__" t)) ?_
  unfold Builtin.«object.__getattribute__»
  refine wpAny_bind (wpAny_of_eq (a := ((Value.ref x : Value), [Value.str "__class__" t])) (by first | rfl | (simp only [slotArgs]; rfl)) ?_)
  refine wpAny_bind (wpAny_pure (wpAny_bind (a0.at (wpAny_bind (a3.at ?_)))))
  show wpAny _ _ (holding [Value.builtin "object.__class__"] (call (.builtin "getset_descriptor.__get__") [.builtin "object.__class__", .ref x, .ref D]) >>= ret) _ _ _
  refine wpAny_bind (wpAny_holding (wpAny_call (class_get (s := ⟨hp, g, d, t + 1, os⟩) (ox := ox) (od := od) X I c8 (wpAny_pure ?_))))
  show wpAny _ _ (handedOut (.ref D)) _ _ _
  rw [handedOut_of (v := .ref D) rfl]
  first
    | exact wpAny_pure (wpAny_pure h)
    | exact wpAny_pure h
    | exact wpAny_pure (wpAny_bind (wpAny_pure (wpAny_pure h)))
theorem y_kitErr (C : L2.ExcC K D) : KitX K (.ref x) (.ref D) (fun h => InstAt h x ox D od) where
  ty := fun _ _ _ I => I.type
  it := fun _ _ X _ => by
    obtain ⟨cdD, hcD, _⟩ := any_some C.hd
    unfold clsIn at hcD
    split at hcD
    · rename_i ho
      intro _ _ _ _ kp kq
      exact wpAny_bind (wpAny_loadPart (kp _ _ (X _ _ ho)) (wpAny_pure kq))
    · cases hcD
  ne := fun h tp dd its n sl X htp => by
    obtain ⟨cdD, hcD, _⟩ := any_some C.hd
    refine Bool.eq_false_iff.mpr fun q => ?_
    obtain rfl : D = tp := Value.ref.inj (beq_iff_eq.mp q)
    unfold clsIn at hcD
    split at hcD
    · rename_i ho
      cases (X _ _ ho).symm.trans htp
    · cases hcD
  ca := fun X I k => y_clsOfErr C X I k
end
end PySem.W
namespace L2
open PySem PySem.Spec PyProof.Rows
/-- isinstance(e, c) of the caught error at a -/
def rIsY (K : PySem.W.Frag) (D a : Addr) (d : Option Addr) : List V → Hp → VK → Prop := fun xs H Q => ∃ (C dd : Addr) (ys : List (Str × V)) (b : Bool), xs = [.ref a, .ref C] ∧ d = some dd ∧ H dd = some (.xd ys) ∧ PySem.W.kitOne K (.ref D) (.ref C) = some b ∧ Q (.bl b) H
theorem call_isY {X : Cx} {a D : Addr} {d : Option Addr} {oe : Obj} {pn : List (Addr × Obj)} (C : ExcC X.K D) (hz : Zc (.ref D) d oe) (hf : ∃ vs, oe.data = .fields vs) : CallR (X.suite a ((a, oe) :: pn)) (.builtin "isinstance") (rIsY X.K D a d) := by
  intro pins s σ H xs us Q I r h
  obtain ⟨c, dd, ys, b, rfl, rfl, hdd, e, q⟩ := h
  cases r with
  | cons rx rr =>
    cases rr with
    | cons rt rr =>
      cases rr
      cases rx
      cases rt
      obtain ⟨hget, _⟩ := I.pin (a, oe) (List.mem_append_left _ List.mem_cons_self)
      obtain ⟨vs, hv⟩ := hf
      obtain ⟨mA, hns, hr⟩ := (show ObjOk X.prog X.w H s.heap dd (.xd ys) from I.hok dd _ hdd)
      obtain ⟨od, ho, hl⟩ := lookIn_ns hns
      have J : PySem.W.InstAt s.heap a oe D (some od) := ⟨hget, hz.1, by unfold PySem.W.notCls; rw [hv] <;> rfl, by rw [hz.2]; exact ho⟩
      exact PySem.W.kia_one (PySem.W.y_kitErr C) I.kIn J e (fun z => nomatch z) fun tk => ⟨.bl b, H, I.kept (t' := tk) fun _ _ z => z, rfl, q⟩
end L2
namespace Y
open PySem PySem.Spec L2
/-- isinstance(e, C), e of a class that the list names -/
def isErr (l : List (Str × Bool)) : Str → List (Str × D) → EM := fun c _ _ S => lf ((l.lookup c).map D.bl) S
structure Is (K : PySem.W.Frag) (mg : Str → Option Value) (x : Str) (l : List (Str × Bool)) : Prop where
  ex : ∃ C, mg x = some (.ref C) ∧ ∀ c C' b, mg c = some (.ref C') → l.lookup c = some b → ExcC K C' ∧ PySem.W.kitOne K (.ref C') (.ref C) = some b
section
variable {X : Cx} {i : Nat} {a : Addr} {cls : Value} {d : Option Addr} {oe : Obj} {pn : List (Addr × Obj)} {e : Expr} {n x y : Str} {p p1 p2 pos : Pos}
theorem u_isE {l : List (Str × Bool)} (T : Is X.K X.mg x l) (hz : Zc cls d oe) (hf : ∃ vs, oe.data = .fields vs) (he : PE (X.suite a ((a, oe) :: pn)) (.Name n p1) (tVar i)) (hm : X.mg "isinstance" = none)
    (hgx : Gl X x := by rfl) (hdx : (x == ("__debug__" : Str)) = false := by decide) (hg : Gl X "isinstance" := by rfl)
    (hs : starEach [.Name n p1, .Name x p2] X.env = (false, eval (.Name n p1) X.env) :: starEach [.Name x p2] X.env := by rfl) (hs2 : starEach [.Name x p2] X.env = (false, eval (.Name x p2) X.env) :: starEach [] X.env := by rfl) (hpl : (backTo pos (starEach [.Name x p2] X.env)).any (·.1) = false := by rfl) :
    PE (X.suite a ((a, oe) :: pn)) (.Call (.Name "isinstance" p) [.Name n p1, .Name x p2] [] pos) (uE X.K X.mg i a cls d (isErr l)) := by
  obtain ⟨C, hC, hT⟩ := T.ex
  by_cases h : ∃ D, cls = .ref D ∧ ExcC X.K D
  · obtain ⟨D, rfl, hD⟩ := h
    refine (pe_callB (X := X.suite a ((a, oe) :: pn)) (call_isY hD hz hf) hg hm PyProof.Rows.Boot.«isinstance» (pa_cons (X := X.suite a ((a, oe) :: pn)) he (pa_cons (X := X.suite a ((a, oe) :: pn)) (pe_glob (X := X.suite a ((a, oe) :: pn)) (v := .ref C) hgx hC rfl hdx) pa_nil hs2) hs) (by decide) (by decide) hs hpl).imp fun σ H Q ⟨ρ, env, S, c, fs, R, V, x, w⟩ => ?_
    obtain ⟨x1, C', dd, ys, h1, h2, h3, h4, h5⟩ := x
    cases h2
    unfold isErr at w
    obtain ⟨v, e1, q⟩ := wpM_lf w
    obtain ⟨b, e2, rfl⟩ := Option.map_eq_some_iff.mp e1
    exact ⟨.ref a, x1, C, dd, ys, b, rfl, h3, h4, (hT c D b h1 e2).2, q ρ (.bl b) H R Up.refl rfl⟩
  · refine ⟨fun pins s σ H Q I q => ?_⟩
    obtain ⟨ρ, env, S, c, fs, R, V, x, w⟩ := q
    obtain ⟨x1, C', dd, ys, h1, h2, h3, h4, h5⟩ := x
    unfold isErr at w
    obtain ⟨v, e1, q⟩ := wpM_lf w
    obtain ⟨b, e2, rfl⟩ := Option.map_eq_some_iff.mp e1
    exact absurd ⟨C', h2, (hT c C' b h1 e2).1⟩ h
/-- a name is set to what speaks of e, then the rest -/
theorem u_setSeq {j : Nat} {rest : List Stmt} {m : Str → List (Str × D) → EM} {r : Str → List (Str × D) → SM} {py : Pos} (hji : j ≠ i) (hN : X.N.Nodup) (he : PE X e (uE X.K X.mg i a cls d m)) (hr : PSs X rest (uS X.K X.mg i a cls d r)) (hi : X.N[j]? = some y := by rfl)
    (hx : Loc X.env.scope y := by first | exact Or.inl rfl | exact Or.inr rfl) (hs : swapsWith e (some (.Name y py)) pos.line X.env = pure false := by rfl) (hf : X.fn y = true ∨ X.env.scope.names.lookup y = some .local := by first | exact .inl rfl | exact .inr rfl | assumption) :
    PSs X (.Assign [.Name y py] e pos :: rest) (uS X.K X.mg i a cls d fun c fs => seqS (asg (tgN j) (m c fs)) (r c fs)) :=
  (pss_cons (ps_set hN hi hx he hs hf) hr).imp fun Dn σ H ⟨ρ, env, S, c, fs, R, V, x, w⟩ => by
    refine ⟨ρ, env, S, c, fs, R, V, x, ?_⟩
    simp only [seqS, asg] at w
    cases e1 : m c fs env S with
    | err => rw [e1] at w; exact w.elim
    | exc c' fs' S1 => rw [e1] at w; exact fun ρ' H' cls dx R' U' k => w ρ' σ H' cls dx R' (U'.rv V) U' k
    | ok d1 S1 =>
      rw [e1] at w
      intro ρ1 v H1 R1 U1 r1
      have x1 := x.up R U1
      have x2 : ExS X.K X.mg i a cls d ρ1 (σ.set j (some v)) H1 S1 c fs := ⟨by rw [List.getElem?_set_ne hji]; exact x1.1, x1.2⟩
      exact ⟨ρ1, env.set j (some d1), S1, c, fs, R1, (U1.rv V).set r1, x2, wpS_up U1 w⟩
theorem ret_no {m : EM} : ∀ env S e S', retS m env S ≠ .nx e S' := fun env S e S' h => by
  unfold retS bS at h
  cases e1 : m env S <;> rw [e1] at h <;> cases h
/-- if c: .. that goes nowhere on, then the rest -/
theorem u_ifSeq {cnd : Expr} {mc : TM} {p : List Stmt} {ma : SM} {rest : List Stmt} {r : Str → List (Str × D) → SM} (hc : PT X cnd (tT X.K X.mg W0 mc)) (ha : PSs X p (tS X.K X.mg W0 ma)) (hne : ∀ env S e S', ma env S ≠ .nx e S') (hr : PSs X rest (uS X.K X.mg i a cls d r)) :
    PSs X (.If cnd p [] pos :: rest) (uS X.K X.mg i a cls d fun c fs => seqS (ifS mc ma nxS) (r c fs)) :=
  (pss_cons (ps_if hc ha pss_nil) hr).imp fun Dn σ H ⟨ρ, env, S, c, fs, R, V, x, w⟩ => by
    simp only [seqS, ifS] at w
    refine tT_seq R V ?_
    cases e1 : mc env S with
    | err => rw [e1] at w; exact w.elim
    | exc c' fs' S1 => rw [e1] at w; exact fun ρ' H' cls dx R' U' k => w ρ' σ H' cls dx R' (U'.rv V) U' k
    | ok b S1 =>
      rw [e1] at w
      intro ρ1 H1 R1 V1 U1
      cases b with
      | true =>
        refine iteT ⟨ρ1, env, S1, R1, V1, ?_⟩
        have w := wpS_up U1 w
        simp only [bS] at w
        revert w
        cases e2 : ma env S1 with
        | nx e' S' => exact absurd e2 (hne _ _ _ _)
        | _ => exact fun w => w
      | false =>
        exact iteF ⟨ρ1, env, S1, c, fs, R1, V1, x.up R U1, wpS_up U1 w⟩
end
end Y

end
section
set_option Elab.async false
set_option linter.all false
set_option maxRecDepth 100000
set_option maxHeartbeats 4000000
set_option autoImplicit false
/-! enumerate of a text -/
namespace L2
open PySem PySem.Spec PyProof.Rows
def IteS (x : Str) : It :=
  ⟨fun i _ => i < x.cps.size, fun i H v H' => ∃ T c, v = .ref T ∧ H T = none ∧ H' = upd H T (.tup [.int (i : Nat), .str ⟨#[c]⟩]) ∧ x.cps[i]? = some c, fun i _ => x.cps.size = i⟩
theorem turn_enumS {P : Program} {w : World} {K : PySem.W.Frag} {elts : List Expr} {kk : Nat} {tpos : Pos} (x : Str) (t : Tok) (e it : Addr) :
    Turn P w K (.Tuple elts kk tpos) (IteS x) [e, it] e (fun i h => (∃ old, IsEnum h e it ((i : Nat) : Int) old) ∧ h.IsStrIter it (strIterType x) x t i ∧ e ≠ it) where
  mem := by simp
  obj := fun i h st b hb => by
    obtain ⟨⟨old, he⟩, ⟨o, ho, hc, hd⟩, _⟩ := st
    have e' : b = e ∨ b = it := by simpa using hb
    rcases e' with z | z
    · rw [z]; exact ⟨_, he, fun v q => nomatch q⟩
    · rw [z]; exact ⟨o, ho, fun v q => by rw [hd] at q; cases q⟩
  keep := fun i h h' st k => let ⟨⟨old, he⟩, ⟨o, ho, r⟩, hne⟩ := st; ⟨⟨old, k e (by simp) _ he⟩, ⟨o, k it (by simp) o ho, r⟩, hne⟩
  item := by
    intro X hP hw hK hc i pins s σ H E I hf st hg
    subst hP hw hK
    obtain ⟨⟨old, he⟩, hit, hne⟩ := st
    have hel : e < s.heap.objs.size := Heap.lt_size he
    have hil : it < s.heap.objs.size := by obtain ⟨_, q, _⟩ := hit; exact Heap.lt_size q
    refine wpAny_pyNext_enum_itemD (Draws.text (A := X.A.in1) (I.ok.hd hc) it x t) he hit hg hne (by simp [hne]) fun u' h' tk hx' ho st' hT hsz hk => ?_
    obtain ⟨c, tu, hcx, rfl⟩ := hx'
    refine ⟨_, rfl, wpAny_letOwnedTupleGo_enum (s := { s with heap := h', toks := tk + 1 }) ho fun h'' he' sb => ?_⟩
    have hT2 : h''.get? s.heap.objs.size = some { cls := .type "tuple", data := .seq #[.int i tk, .str ⟨#[c]⟩ tu] } := (sb.2 _ (Nat.ne_of_gt hel)).trans hT
    have new : ObjOk X.prog X.w (upd H s.heap.objs.size (.tup [.int (i : Nat), .str ⟨#[c]⟩])) h'' s.heap.objs.size (.tup [.int (i : Nat), .str ⟨#[c]⟩]) :=
      ⟨by show 2 ≤ sizeLine; decide, [.int i tk, .str ⟨#[c]⟩ tu], .cons ⟨_, rfl⟩ (.cons ⟨_, rfl⟩ .nil), ⟨_, hT2, rfl, _, rfl⟩⟩
    have I1 : Inv X pins σ (upd H s.heap.objs.size (.tup [.int (i : Nat), .str ⟨#[c]⟩])) { s with heap := h'', toks := tk + 1 } :=
      I.turnedNew (ch := [e, it]) (fun b ob hb q => (sb.2 b (fun z => hb (by simp [z]))).trans (hk b ob (fun z => hb (by simp [z])) (fun z => hb (by simp [z])) q)) hf (Nat.le_refl _) new
    refine ⟨.ref s.heap.objs.size, _, I1, rfl, ⟨_, c, rfl, I.hok.fresh (Nat.le_refl _), rfl, hcx⟩, ⟨⟨Value.str ⟨#[c]⟩ tu, ?_⟩, ?_, hne⟩, fun b hb => ?_⟩
    · have e1 : ((i + 1 : Nat) : Int) = (i : Int) + 1 := by omega
      rw [e1]; exact he'
    · obtain ⟨o, ho2, r⟩ := st'
      exact ⟨o, (sb.2 it (Ne.symm hne)).trans ho2, r⟩
    · have hb' : b < s.heap.objs.size := by
        have e' : b = e ∨ b = it := by simpa using hb
        rcases e' with z | z
        · rw [z]; exact hel
        · rw [z]; exact hil
      rw [upd_ne (Nat.ne_of_lt hb')]
      exact (hf b hb).1
  done := by
    intro X hP hw hK hc i pins s σ H E I hf st hg
    subst hP hw hK
    obtain ⟨⟨old, he⟩, hit, hne⟩ := st
    obtain ⟨f0, f1, f2, f3, f4, f5⟩ := hf it (by simp)
    have hi : x.cps.size = i := hg
    subst hi
    exact wpAny_pyNext_enum_endD (Draws.text (A := X.A.in1) (I.ok.hd hc) it x t) he hit fun h' eb => ⟨rfl, I.turned (t' := s.toks) (fun b o hb q => eb b o hb q) f0 f1 f3 f4 f5⟩
  self := fun A i s Q E st h => let ⟨⟨_, he⟩, _⟩ := st; wpAny_pyIter_enum he h
def iEnumB (K : PySem.W.Frag) (ta : TA) : TI := fun σ H R => ta σ H fun vs H1 => (∃ a xs, vs = [.ref a] ∧ ((SqL K H1 a xs ∧ R (Ite K a) H1) ∨ (SqT K H1 a xs ∧ R (IteT K a) H1))) ∨ ∃ z, vs = [.str z] ∧ R (IteS z) H1
theorem pi_enumB {X : Cx} {e : Expr} {ta : TA} {p pos tpos : Pos} {elts : List Expr} {kk : Nat} (hg : Gl X "enumerate") (hm : X.mg "enumerate" = none) (ha : PA X [e] ta) (hs : starEach [e] X.env = [(false, eval e X.env)] := by rfl) :
    PI X (.Tuple elts kk tpos) (.Call (.Name "enumerate" p) [e] [] pos) (iEnumB X.K ta) := by
  refine ⟨fun pins s σ H R I h => ?_⟩
  refine Call_ (ld_blt I hg hm boot_enumerate (PyProof.Rows.callWith_type1 (thn (ha.run pos pins s σ H _ I h) fun us s1 ⟨vs, H1, I1, r1, q1⟩ => ?_) hs rfl))
  have fresh2 : ∀ b ∈ [s1.heap.objs.size + 1, s1.heap.objs.size], FpOk X pins H1 b := fun b hb => by
    have hle : s1.heap.objs.size ≤ b := by
      simp at hb
      omega
    exact I1.fpOk hle (I1.hok.fresh hle)
  rcases q1 with ⟨a, xs, ex, q1⟩ | ⟨z, ex, q⟩
  · subst ex
    cases r1 with
    | cons r rr =>
      cases rr
      cases r
      rcases q1 with ⟨hq, q⟩ | ⟨hq, q⟩
      · obtain ⟨its, rv, p', hz⟩ := I1.list hq
        refine call_enumerate_list p'.isList fun h' he hit hsz hk => wpAny_pyIter_enum he ?_
        have I2 : Inv X pins σ H1 { s1 with heap := h' } := I1.kept (t' := s1.toks) hk
        exact ⟨s1.heap.objs.size + 1, [s1.heap.objs.size + 1, s1.heap.objs.size], _, _, H1, rfl, I2, turn_enum a (s1.heap.objs.size + 1) s1.heap.objs.size, ⟨⟨.none, he⟩, hit, Nat.succ_ne_self _⟩, fresh2, q⟩
      · obtain ⟨its, rv, p', hz⟩ := I1.tuple hq
        have pt : s1.heap.IsTuple a its.toArray := p'
        refine y_call_enum (begins_tuple a its.toArray) pt fun h' he hit hsz hk => wpAny_pyIter_enum he ?_
        have I2 : Inv X pins σ H1 { s1 with heap := h' } := I1.kept (t' := s1.toks) hk
        have hal : a < s1.heap.objs.size := p'.lt
        exact ⟨s1.heap.objs.size + 1, [s1.heap.objs.size + 1, s1.heap.objs.size], _, _, H1, rfl, I2, turn_enumT a (s1.heap.objs.size + 1) s1.heap.objs.size, ⟨⟨.none, he⟩, ⟨_, hit, rfl, rfl⟩, Nat.succ_ne_self _, Nat.ne_of_lt hal, Nat.ne_of_gt (Nat.lt_succ_of_lt hal)⟩, fresh2, q⟩
  · subst ex
    cases r1 with
    | cons r rr =>
      cases rr
      obtain ⟨t, rfl⟩ := r
      refine y_call_enum (begins_text z t) trivial fun h' he hit hsz hk => wpAny_pyIter_enum he ?_
      have I2 : Inv X pins σ H1 { s1 with heap := h' } := I1.kept (t' := s1.toks) hk
      exact ⟨s1.heap.objs.size + 1, [s1.heap.objs.size + 1, s1.heap.objs.size], _, _, H1, rfl, I2, turn_enumS z t (s1.heap.objs.size + 1) s1.heap.objs.size, ⟨⟨.none, he⟩, ⟨_, hit, rfl, rfl⟩, Nat.succ_ne_self _⟩, fresh2, q⟩
end L2
namespace Y
open PySem PySem.Spec L2
def enumSrc (S : Sto) : D → Option (List D × List (Nat × List D))
  | .str z => some (enL 0 (sgns z), [])
  | d => (seqSrc S d).map fun p => (enL 0 p.2.1, p.2.2)
def i_enumA (l : LM) : IM := fun env S => bd (l env S) fun ds S1 => match ds with
  | [d] => lf (enumSrc S1 d) S1
  | _ => .err
theorem sgns_get {z : Str} {i : Nat} {d : D} (h : (sgns z)[i]? = some d) : ∃ c, z.cps[i]? = some c ∧ d = .str ⟨#[c]⟩ := by
  unfold sgns at h
  rw [List.getElem?_map] at h
  obtain ⟨c, h1, h2⟩ := Option.map_eq_some_iff.mp h
  exact ⟨c, by rw [← Array.getElem?_toList]; exact h1, h2.symm⟩
theorem sgns_len {z : Str} : (sgns z).length = z.cps.size := by
  unfold sgns
  rw [List.length_map]; rfl
section
variable {X : Cx} {W : WX} {pos tpos p : Pos} {e : Expr} {l : LM} {elts : List Expr} {kk : Nat}
theorem y_enumA (hm : X.mg "enumerate" = none) (ha : PA X [e] (tA X.K X.mg W l)) (hg : Gl X "enumerate" := by rfl) (hs : starEach [e] X.env = [(false, eval e X.env)] := by rfl) :
    PI X (.Tuple elts kk tpos) (.Call (.Name "enumerate" p) [e] [] pos) (tI X.K X.mg W (i_enumA l)) :=
  PI_imp (pi_enumB hg hm ha hs) fun σ H Q ⟨ρ, env, S, R, V, w⟩ => tA_seq R V (wpM_mono (wpM_bd w) (fun ds S1 w1 ρ1 vs H1 R1 V1 U1 r1 => by
    split at w1
    · rename_i d
      obtain ⟨q, e1, k⟩ := wpM_lf w1
      obtain ⟨v, rfl, rv⟩ := one_of r1
      have old : (seqSrc S1 d).map (fun p => (enL 0 p.2.1, p.2.2)) = some q → (∃ a xs, [v] = [L2.V.ref a] ∧ ((SqL X.K H1 a xs ∧ Q (Ite X.K a) H1) ∨ (SqT X.K H1 a xs ∧ Q (IteT X.K a) H1))) := fun e1 => by
        obtain ⟨⟨b, es, src⟩, e2, rfl⟩ := Option.map_eq_some_iff.mp e1
        obtain ⟨a, rfl, at'⟩ := seqSrc_ok R1 rv e2
        obtain ⟨xs0, t0, l0, _⟩ := at' ρ1 H1 S1 R1 Up.refl (okSrc_here (K := X.K) (ρ := ρ1) (H := H1) e2)
        refine ⟨a, xs0, rfl, ?_⟩
        cases b with
        | false =>
          refine .inl ⟨l0 rfl, k ρ1 H1 _ R1 U1 fun ρ2 H2 S2 R2 U2 ok => ?_⟩
          obtain ⟨xs, _, hl, rl⟩ := at' ρ2 H2 S2 R2 U2 ok
          have hl := hl rfl
          have len := rl.length
          simp only [enL_length]
          refine ⟨fun i hi => ⟨xs, xs[i]'(by omega), hl, by simp [len, hi]⟩, ⟨xs, hl, by omega⟩, fun i d x H' ed y => ?_⟩
          obtain ⟨T, u, rfl, hT, rfl, y⟩ := y
          obtain ⟨x0, f1, rfl⟩ := enL_get ed
          obtain ⟨w', g1, g2⟩ := rl.get f1
          rw [y xs hl] at g1
          cases g1
          have s : Same H2 (upd H2 T (.tup [.int (i : Nat), u])) := same_new hT
          exact ⟨s, T, _, rfl, TupT.of upd_same, RelL.cons (by rw [Nat.zero_add]; rfl) (RelL.cons ((Up.same (K := X.K) (ρ := ρ2) (S := S2) s).relD g2) RelL.nil)⟩
        | true =>
          refine .inr ⟨t0 rfl, k ρ1 H1 _ R1 U1 fun ρ2 H2 S2 R2 U2 ok => ?_⟩
          obtain ⟨xs, hl, _, rl⟩ := at' ρ2 H2 S2 R2 U2 ok
          have hl := hl rfl
          have len := rl.length
          simp only [enL_length]
          refine ⟨fun i hi => ⟨xs, xs[i]'(by omega), hl, by simp [len, hi]⟩, ⟨xs, hl, by omega⟩, fun i d x H' ed y => ?_⟩
          obtain ⟨T, u, rfl, hT, rfl, y⟩ := y
          obtain ⟨x0, f1, rfl⟩ := enL_get ed
          obtain ⟨w', g1, g2⟩ := rl.get f1
          rw [y xs hl] at g1
          cases g1
          have s : Same H2 (upd H2 T (.tup [.int (i : Nat), u])) := same_new hT
          exact ⟨s, T, _, rfl, TupT.of upd_same, RelL.cons (by rw [Nat.zero_add]; rfl) (RelL.cons ((Up.same (K := X.K) (ρ := ρ2) (S := S2) s).relD g2) RelL.nil)⟩
      cases d with
      | str z =>
        cases e1
        have rv' : v = .str z := rv
        subst rv'
        refine .inr ⟨z, rfl, k ρ1 H1 _ R1 U1 fun ρ2 H2 S2 R2 U2 ok => ?_⟩
        simp only [enL_length, sgns_len]
        refine ⟨fun i hi => hi, rfl, fun i d x H' ed y => ?_⟩
        obtain ⟨T, c, rfl, hT, rfl, y⟩ := y
        obtain ⟨x0, f1, rfl⟩ := enL_get ed
        obtain ⟨c', g1, rfl⟩ := sgns_get f1
        rw [y] at g1
        cases g1
        have s : Same H2 (upd H2 T (.tup [.int (i : Nat), .str ⟨#[c]⟩])) := same_new hT
        exact ⟨s, T, _, rfl, TupT.of upd_same, RelL.cons (by rw [Nat.zero_add]; rfl) (RelL.cons rfl RelL.nil)⟩
      | _ => exact .inl (old e1)
    · exact w1.elim) fun _ _ _ q => q)
end
end Y

end
section
set_option Elab.async false
set_option linter.all false
set_option maxRecDepth 100000
set_option maxHeartbeats 4000000
set_option autoImplicit false
/-! list + list, text * int, text[::-1], tuple(text) -/
namespace L2
open PySem PySem.Spec PyProof.Rows
section
variable {X : Cx}
def rCatL (K : PySem.W.Frag) : R2 := fun x y H Q => ∃ l b xs zs, x = .ref l ∧ y = .ref b ∧ SqL K H l xs ∧ SqL K H b zs ∧ xs.length + zs.length ≤ sizeLine ∧ ∀ p, H p = none → Q (.ref p) (upd H p (.lst (xs ++ zs)))
theorem op_catL : OpR X (binaryOp .Add) (rCatL X.K) := by
  intro pins s σ H x y v u Q I rx ry h
  obtain ⟨l, b, xs, zs, rfl, rfl, hx, hy, hz, q⟩ := h
  cases rx
  cases ry
  obtain ⟨us, ru, pu, lu⟩ := I.list hx
  obtain ⟨ws, rw', pw, lw⟩ := I.list hy
  obtain ⟨⟨c1, d1, t1, s1⟩, o1, k1, n1, e1⟩ := pu.isList
  obtain ⟨⟨c2, d2, t2, s2⟩, o2, k2, n2, e2⟩ := pw.isList
  simp only at k1 e1 k2 e2
  subst k1 e1 k2 e2
  have l1 := ru.length
  have l2 := rw'.length
  refine concat_meets ⟨_, o1, rfl⟩ ⟨_, o2, rfl⟩ noFill_list_add seq_list_add PySem.F.slot_list_add PySem.F.entry_list_add (PySem.F.args_list_add_2 _ _) (list_addW l b us.toArray ws.toArray n1 n2 d1 d2 s1 s2 (by rw [List.size_toArray, List.size_toArray]; omega)) ⟨o1, o2, ?_⟩
  rw [show us.toArray ++ ws.toArray = (us ++ ws).toArray by simp]
  exact ⟨.ref _, _, I.lnew (t' := s.toks) (ru.append rw') (by rw [List.length_append]; omega), rfl, q _ I.fresh⟩
def rMulS : R2 := fun x y H Q => ∃ (z : Str) (n : Int), x = .str z ∧ y = .int n ∧ n ≤ 16777216 ∧ 0 ≤ n ∧ z.length * n.toNat ≤ sizeLine ∧ Q (.str (Txt.mul z n)) H
theorem op_mulS : OpR X (binaryOp .Mult) rMulS := by
  intro pins s σ H x y v u Q I rx ry h
  obtain ⟨z, n, rfl, rfl, h1, h0, hz, q⟩ := h
  obtain ⟨t, rfl⟩ := rx
  obtain ⟨t', rfl⟩ := ry
  have hs := sizeLine_eq
  refine SB.mul (n := n) ⟨?_, fun hn _ hc => ?_, fun hn _ => ?_⟩ fun t2 k => ⟨.str (Txt.mul z n), H, I.tok k, ⟨_, rfl⟩, q⟩
  · simp; omega
  · have hn1 : 1 ≤ n := by omega
    have a1 : (z.length : Int) ≤ 16777216 := by
      have : z.length * 1 ≤ z.length * n.toNat := Nat.mul_le_mul_left _ (by omega)
      omega
    have a2 : (16777216 : Int) ≤ (2 ^ 63 - 1) / n := Int.le_ediv_of_mul_le (by omega) (by omega)
    omega
  · show decide (_ > sizeLine) = false
    exact decide_eq_false (by omega)
def tRevA (K : PySem.W.Frag) (te : TE) : TE := fun σ H Q => te σ H fun x H1 => (∃ a xs, x = .ref a ∧ SqT K H1 a xs ∧ ∀ p, H1 p = none → Q (.ref p) (upd H1 p (.tup xs.reverse))) ∨ ∃ z : Str, x = .str z ∧ z.length ≤ sizeLine ∧ Q (.str (Txt.sliceBy z none none (-1, 0))) H1
theorem pe_revA {e : Expr} {te : TE} {k : Nat} {p1 p2 p3 pos : Pos} (he : PE X e te) : PE X (.Subscript e (.Slice none none (some (.UnaryOp .USub (.Constant (.int 1) k p1) p2)) p3) pos) (tRevA X.K te) := by
  refine ⟨fun pins s σ H Q I h => ?_⟩
  refine Subscript_ (thn (he.run pins s σ H _ I h) fun v s1 ⟨x, H1, I1, r1, q1⟩ => ?_)
  have hst : PO X (some (.UnaryOp .USub (.Constant (.int 1) k p1) p2)) (tPart (tUn (rU fun i => .int (-i)) (tC (.int 1)))) := po_some (pe_un un_neg pe_int)
  refine wpAny_Slice (thn (po_none.run pins s1 σ H1 (fun o H2 => o = none ∧ H2 = H1) I1 ⟨rfl, rfl⟩) fun vl s2 ⟨l, H2, I2, pl, el, e2⟩ => ?_)
  subst el e2
  refine thn (po_none.run pins s2 σ H2 (fun o H3 => o = none ∧ H3 = H2) I2 ⟨rfl, rfl⟩) fun vu s3 ⟨u, H3, I3, pu, eu, e3⟩ => ?_
  subst eu e3
  refine thn (hst.run pins s3 σ H3 (fun o H4 => o = some (-1) ∧ H4 = H3) I3 ⟨1, rfl, -1, rfl, rfl, rfl⟩) fun vs s4 ⟨o, H4, I4, ps, eo, e4⟩ => ?_
  subst eo e4
  cases pl
  cases pu
  cases ps with
  | int _ tk =>
    have I5 : Inv X pins σ H4 { s4 with heap := s4.heap.push { cls := .type "slice", data := .fields #[.none, .none, .int (-1) tk] } } := I4.kept (t' := s4.toks) fun b ob q => Heap.get?_push_of_some _ q
    rcases q1 with ⟨a, xs, ex, hx, q⟩ | ⟨z, ex, hz, q⟩
    · subst ex
      cases r1
      obtain ⟨its, r, ht, hz⟩ := I5.tuple hx
      have hlen := r.length
      show wpAny (model X.prog X.w) X.A (subscriptTail e (.Slice none none (some (.UnaryOp .USub (.Constant (.int 1) k p1) p2)) p3) (.ref a) (.ref s4.heap.objs.size)) (EP X pins σ Q) X.xe { s4 with heap := s4.heap.push { cls := .type "slice", data := .fields #[.none, .none, .int (-1) tk] } }
      refine tail_any (ops := [.ref a, .ref s4.heap.objs.size]) ht.typeIs (PyProof.Rows.slot_tuple_getitem.lookup) ?_ (by with_unfolding_all rfl)
      refine HT.y_getRev ht (Heap.IsSliceOf.new _ .none .none (.int (-1) tk)) ?_ (by rw [List.size_toArray]; omega)
      refine ⟨.ref _, _, I5.laid (t' := s4.toks) (o := .tup xs.reverse) (fun b ob q => Heap.get?_push_of_some _ q) (Nat.le_refl _) ?_, rfl, q _ (I5.hok.fresh (Nat.le_refl _))⟩
      exact ⟨by rw [List.length_reverse]; exact hz, _, r.reverse, ⟨_, Heap.get?_push_size _ rfl, rfl, _, rfl⟩⟩
    · subst ex
      obtain ⟨t, rfl⟩ := r1
      show wpAny (model X.prog X.w) X.A (subscriptTail e (.Slice none none (some (.UnaryOp .USub (.Constant (.int 1) k p1) p2)) p3) (.str z t) (.ref s4.heap.objs.size)) (EP X pins σ Q) X.xe { s4 with heap := s4.heap.push { cls := .type "slice", data := .fields #[.none, .none, .int (-1) tk] } }
      refine tail_any (ops := [.ref s4.heap.objs.size, .str z t]) (typeIs_str _ _ _) PySem.F.slot_str_getitem.lookup ?_ (by with_unfolding_all rfl)
      exact wpAny_getItem_str_slice (l := none) (u := none) (st := some (-1, tk)) ⟨_, Heap.get?_push_size _ rfl, rfl, rfl⟩ rfl
        (post_val_or_str ⟨Nat.le_trans (Txt.sliceBy_le z _ _ (-1, tk) (show (-1 : Int) ≠ 0 by decide)) hz, fun t' c => ⟨.str (Txt.sliceBy z none none (-1, 0)), H4, I5.tok c, ⟨t', rfl⟩, q⟩⟩)
def rTupS : List V → Hp → VK → Prop := fun vs H Q => ∃ z : Str, vs = [.str z] ∧ z.cps.size ≤ sizeLine ∧ ∀ p, H p = none → Q (.ref p) (upd H p (.tup (sgnV z)))
theorem cr_tupS (hc : X.calm = true) : CallR X (.type "tuple") rTupS := by
  intro pins s σ H vs us Q I r h
  obtain ⟨z, rfl, hz, q⟩ := h
  obtain ⟨u, rfl, ru⟩ := vals1 r
  obtain ⟨t, rfl⟩ := ru
  refine call_tuple_str (I.ok.hd hc) z t (hsz := hz) fun h' tk acc hk hi => ?_
  have hl : (sgnV z).length = acc.toList.length := by
    unfold sgnV
    rw [List.length_map]
    exact hi.1.symm
  have rv : Vals (sgnV z) acc.toList := vals_of_at hl fun j x u e1 e2 => by
    obtain ⟨c, w, g1, rfl⟩ := hi.2 j u (by rw [← Array.getElem?_toList]; exact e2)
    unfold sgnV at e1
    rw [List.getElem?_map, Array.getElem?_toList, g1] at e1
    cases e1
    exact ⟨w, rfl⟩
  have I1 : Inv X pins σ H { s with heap := h', toks := tk } := I.kept hk
  refine ⟨.ref h'.objs.size, _, I1.laid (t' := tk) (o := .tup (sgnV z)) (fun b ob q => Heap.get?_push_of_some _ q) (Nat.le_refl _) ?_, rfl, q _ (I1.hok.fresh (Nat.le_refl _))⟩
  exact ⟨by rw [hl, Array.length_toList, hi.1]; exact hz, acc.toList, rv, ⟨_, Heap.get?_push_size _ rfl, rfl, _, by rw [Array.toArray_toList]⟩⟩
end
end L2
namespace Y
open PySem PySem.Spec L2
def catF (a b : EM) : LM := fun env S => bd (a env S) fun x S1 => bd (b env S1) fun y S2 => lf ((lstOf S2 x).bind fun xs => (lstOf S2 y).bind fun ys => if xs.length + ys.length ≤ sizeLine then some (xs ++ ys) else none) S2
open Classical in
noncomputable def o_mulA (S : Sto) (x y : D) : Option D := match x, y with
  | .str z, .int n => if n ≤ 16777216 ∧ 0 ≤ n ∧ z.length * n.toNat ≤ sizeLine then some (.str (Txt.mul z n)) else none
  | x, y => o_mul S x y
def revS (z : Str) : Str := Txt.sliceBy z none none (-1, 0)
def revA (m : EM) : EM := fun env S => bd (m env S) fun d S1 => match d with
  | .tup ds => .ok (.tup ds.reverse) S1
  | .str z => if z.length ≤ sizeLine then .ok (.str (revS z)) S1 else .err
  | _ => .err
def o_tupleA (S : Sto) : List D → Option D
  | [.str z] => if z.cps.size ≤ sizeLine then some (.tup (sgns z)) else none
  | ds => o_tuple S ds
section
variable {X : Cx} {W : WX} {pos p1 p2 p3 : Pos} {a b e : Expr} {ma mb m : EM}
theorem y_cat (ha : PE X a (tE X.K X.mg W ma)) (hb : PE X b (tE X.K X.mg W mb)) : PE X (.BinOp a .Add b pos) (tF X.K X.mg W (catF ma mb)) :=
  (pe_op op_catL ha hb).imp fun σ H Q ⟨ρ, env, S, R, V, w⟩ => by
    refine tE_seq R V (wpM_mono (wpM_bd w) (fun x S1 w1 ρ1 v H1 R1 V1 U1 r1 => ?_) fun _ _ _ q => q)
    refine tE_seq R1 V1 (wpM_mono (wpM_bd w1) (fun y S2 w2 ρ2 u H2 R2 V2 U2 r2 => ?_) fun _ _ _ q => q.up U1)
    obtain ⟨ds, e0, q⟩ := wpM_lf w2
    obtain ⟨xs, e1, e2⟩ := Option.bind_eq_some_iff.mp e0
    obtain ⟨ys, e3, e4⟩ := Option.bind_eq_some_iff.mp e2
    split at e4
    · rename_i hl
      cases e4
      obtain ⟨l, us, rfl, h1, h2⟩ := lst_rel R2 e1 (U2.relD r1)
      obtain ⟨c, ws, rfl, h3, h4⟩ := lst_rel R2 e3 r2
      exact ⟨l, c, us, ws, rfl, rfl, h1, h3, by rw [h2.length, h4.length]; exact hl, fun p hp => q ρ2 p _ H2 _ R2 (U1.trans U2) (h2.append h4) hp (same_new hp) upd_same⟩
    · cases e4
theorem op_mulA : OpR X (binaryOp .Mult) (fun x y H Q => rMulS x y H Q ∨ rI IntMulOk (fun i j => .int (i * j)) x y H Q) := op_mulS.or op_mulG
theorem os_mulA {K : PySem.W.Frag} : OpS K (fun x y H Q => rMulS x y H Q ∨ rI IntMulOk (fun i j => .int (i * j)) x y H Q) o_mulA := by
  intro ρ H S x y d v u Q R r1 r2 e q
  have gen : o_mul S x y = some d → rMulS v u H Q ∨ rI IntMulOk (fun i j => .int (i * j)) v u H Q := fun e => .inr (os_mul ρ H S x y d v u Q R r1 r2 e q)
  cases x with
  | str z =>
    cases y with
    | int n =>
      simp only [o_mulA] at e
      split at e
      · rename_i h
        cases e
        have r1' : v = .str z := r1
        have r2' : u = .int n := r2
        subst r1' r2'
        exact .inl ⟨z, n, rfl, rfl, h.1, h.2.1, h.2.2, q _ H (Same.refl H) rfl⟩
      · cases e
    | _ => exact gen e
  | _ => exact gen e
theorem y_revA {k : Nat} (he : PE X e (tE X.K X.mg W m)) : PE X (.Subscript e (.Slice none none (some (.UnaryOp .USub (.Constant (.int 1) k p1) p2)) p3) pos) (tE X.K X.mg W (revA m)) :=
  (pe_revA he).imp fun σ H Q ⟨ρ, env, S, R, V, w⟩ => tE_seq R V (wpM_mono (wpM_bd w) (fun d S1 w1 ρ1 v H1 R1 V1 U1 r1 => by
    cases d with
    | tup ds =>
      obtain ⟨a, xs, rfl, h1, h2⟩ := r1
      refine .inl ⟨a, xs, rfl, h1, fun p hp => ?_⟩
      have s : Same H1 (upd H1 p (.tup xs.reverse)) := same_new hp
      exact w1 ρ1 (.ref p) _ (R1.same s) (U1.trans (Up.same s)) ⟨p, _, rfl, TupT.of upd_same, (Up.same (K := X.K) (ρ := ρ1) (S := S1) s).relL h2.reverse⟩
    | str z =>
      simp only at w1
      split at w1
      · rename_i hl
        have r1' : v = .str z := r1
        subst r1'
        exact .inr ⟨z, rfl, hl, w1 ρ1 _ H1 R1 U1 rfl⟩
      · exact w1.elim
    | _ => exact w1.elim) fun _ _ _ q => q)
theorem cr_tupA (hc : X.calm = true) : CallR X (.type "tuple") (fun xs H Q => rTupS xs H Q ∨ ∃ p ys, xs = [.ref p] ∧ ((SqL X.K H p ys ∧ ∀ l, H l = none → Q (.ref l) (upd H l (.tup ys))) ∨ (SqT X.K H p ys ∧ Q (.ref p) H))) := (cr_tupS hc).or call_tuple_of
theorem cs_tupA {K : PySem.W.Frag} : CallS K (fun xs H Q => rTupS xs H Q ∨ ∃ p ys, xs = [.ref p] ∧ ((SqL K H p ys ∧ ∀ l, H l = none → Q (.ref l) (upd H l (.tup ys))) ∨ (SqT K H p ys ∧ Q (.ref p) H))) o_tupleA := by
  intro ρ H S ds d vs Q R r e q
  unfold o_tupleA at e
  split at e
  · rename_i z
    split at e
    · rename_i hl
      cases e
      obtain ⟨v, rfl, rv⟩ := one_of r
      have rv' : v = .str z := rv
      subst rv'
      exact .inl ⟨z, rfl, hl, fun p hp => q _ _ (same_new hp) ⟨p, sgnV z, rfl, TupT.of upd_same, sgn_rel z⟩⟩
    · cases e
  · exact .inr (cs_tuple ρ H S _ d vs Q R r e q)
end
end Y

end
section
set_option Elab.async false
set_option linter.all false
set_option maxRecDepth 100000
set_option maxHeartbeats 4000000
namespace Y
open PySem PySem.Spec L2 PySem.W
/-! sum, sorted(tuple) -/
def intsD : List D → Option (List Int)
  | [] => some []
  | .int i :: ds => (intsD ds).map fun is => i :: is
  | _ :: _ => none
def o_sum (S : Sto) : List D → Option D
  | [x] => (lstOf S x).bind fun ds => (intsD ds).map fun is => .int is.sum
  | _ => none
theorem intsD_ok {K : PySem.W.Frag} {H : Hp} {A : Addr → Prop} {ρ : List Addr} : ∀ {ds : List D} {is : List Int} {vs : List V}, intsD ds = some is → RelL K H A ρ vs ds → vs = is.map V.int
  | [], _, _, h, r => by cases h; exact r
  | .int i :: ds, _, _, h, ⟨x, xs, rfl, r1, r2⟩ => by
    obtain ⟨is, e, rfl⟩ := Option.map_eq_some_iff.mp (show (intsD ds).map (fun is => i :: is) = some _ from h)
    rw [intsD_ok e r2, show x = .int i from r1]; rfl
  | .non :: ds, _, _, h, _ => by cases h
  | .bl _ :: ds, _, _, h, _ => by cases h
  | .str _ :: ds, _, _, h, _ => by cases h
  | .tup _ :: ds, _, _, h, _ => by cases h
  | .lst _ :: ds, _, _, h, _ => by cases h
  | .ref _ :: ds, _, _, h, _ => by cases h
theorem cs_sum {K : PySem.W.Frag} : CallS K (rSum K) o_sum := by
  intro ρ H S ds d vs Q R r e q
  unfold o_sum at e
  split at e
  · obtain ⟨fs, e1, e2⟩ := Option.bind_eq_some_iff.mp e
    obtain ⟨is, e3, rfl⟩ := Option.map_eq_some_iff.mp e2
    obtain ⟨v, rfl, rv⟩ := one_of r
    obtain ⟨p, xs, rfl, h1, h2⟩ := lst_rel R e1 rv
    have := intsD_ok e3 h2
    subst this
    exact ⟨p, is, rfl, h1, q _ H (Same.refl H) rfl⟩
  · cases e
end Y
namespace L2
open PySem PySem.Spec PyProof.Rows
/-! ### dict comprehensions, keys of any kind -/
theorem put_in {X : Cx} {pins : List (Addr × Obj)} {σ : St} {H H' : Hp} {s : Shared} {E : Value → Shared → Prop} {a : Addr} {y v : V} {u r : Value} {Q : Unit → Shared → Prop} (hu : X.A.units + 1 < cLine) (I : Inv X pins σ H s) (g : DPut H a y v H')
    (ry : RelV y u) (rv : RelV v r) (h : ∀ s', Inv X pins σ H' s' → Q () s') : wpAny (model X.prog X.w) X.A (dictSet a u r) Q E s := by
  rcases g with ⟨kvs, k, e, ey, l, eH⟩ | ⟨kvs, k, b, e, ey, eb, l, eH⟩
  · subst ey eH
    exact d_dictSet I e l ry rv h
  · subst ey eH
    cases (show u = Value.ref b from ry)
    obtain ⟨z, hd, xs, rel, dd⟩ := dt_of I.hok e
    have hl : (putK kvs k v).length ≤ sizeLine := Nat.le_trans (length_putK kvs k v) l
    refine wpAny_dictSet_heap (hsz := by rw [← Paired.length rel]; exact z) (show X.A.units < cLine from Nat.lt_of_succ_lt hu) (key_of I.hok eb) dd fun h' dd' hs => h _ ?_
    obtain ⟨q, es, ep, hq, h2, h3, h4, _, h5⟩ := dd'
    refine d_write I (by rw [e]; exact True.intro) hs ⟨q, hq⟩ ⟨hl, hd, _, (rel.put k eb rv).keeps fun c ys ec => ?_, q, es, ep, hq, h2, h3, h4, h5⟩
    rw [upd_ne (ne_of ec e (fun z => nomatch z))]
    exact ec
end L2
namespace L2
open PySem PySem.Spec PyProof.Rows
section
variable {X : Cx}
/-- a block's parts: the target, the key, the value, no tests -/
structure Blk (X : Cx) (scope : Scope) (tg kx vx : Expr) (g : TG) (tk tv : TE) : Prop where
  g : ∀ (s : Shared) (H : Hp) (C : Addr) (cl : List (Str × Addr)) (fp : List Addr), PG (X.blk s H scope (compEnvC scope cl C X.env) fp) tg g
  k : ∀ (s : Shared) (H : Hp) (C : Addr) (cl : List (Str × Addr)) (fp : List Addr), PE (X.blk s H scope (compEnvC scope cl C X.env) fp) kx tk
  v : ∀ (s : Shared) (H : Hp) (C : Addr) (cl : List (Str × Addr)) (fp : List Addr), PE (X.blk s H scope (compEnvC scope cl C X.env) fp) vx tv
/-- {k: v for target in iter}: D the new dict, ob what it is at first -/
def tDcP (ob : HO) (wi : TI) (g : TG) (tk tv : TE) (vs : List Nat) : TE := fun σ H Q => wi σ H fun J H1 => ∀ D, H1 D = none → ∃ W : Nat → Nat → Hp → Prop, (∃ m, W 0 m (upd H1 D ob)) ∧ ∀ i m H, W i m H →
  (J.stop i H ∧ Q (.ref D) H) ∨ (J.go i H ∧ ∃ Nx : Hp → Prop, (∀ H', Nx H' → ∃ m', m' < m ∧ W (i + 1) m' H') ∧ ∀ x H', J.yld i H x H' → g x (wipe σ vs) H' fun σ2 H2 => wipe σ2 vs = wipe σ vs ∧
    tk σ2 H2 fun y H4 => tv σ2 H4 fun z H5 => ∃ H6, DPut H5 D y z H6 ∧ Nx H6)
theorem dcP_core {pins : List (Addr × Obj)} {s : Shared} {σ : St} {H : Hp} {Q : VK} {ob : HO} {kx vx tg iter : Expr} {scope : Scope} {own : List (Str × Nat)} {pos pos' : Pos} {wi : TI} {g : TG} {tk tv : TE} {use : Option (Value → Sem Unit)} {Qf : Value → Shared → Prop} (hob : ob = .dK [] ∨ ob = .dT []) (hu : X.A.units + 1 < cLine) (hc : X.calm = true) (hN : X.N.Nodup)
    (I : Inv X pins σ H s) (hi : PI X tg iter wi) (ok : BlkOk X.N X.env.scope scope own) (B : Blk X scope tg kx vx g tk tv) (hs : ∀ x, foldedSetIterable iter X.env x = pure x) (h : tDcP ob wi g tk tv (own.map (·.2)) σ H Q)
    (hR : ∀ D C s' m H', Inv X pins σ H' s' → Q (.ref D) H' → s'.heap.Ns C m → FpOk X pins H' C → compPost (model X.prog X.w) X.A X.xe use Qf (.ref D) C (.ok .next) s') :
    wpAny (model X.prog X.w) X.A (comprehension (.DictComp kx vx [⟨tg, iter, [], 0⟩] scope pos) scope X.env pos' newDict false (eval iter X.env) use) Qf X.xe s := by
  have hfree : ∀ y ∈ scope.names, y.2 = .free → ∃ c, X.env.cells.lookup y.1 = some c := fun y hy e => I.ok.has _ (ok.free y hy e)
  refine wpAny_comprehension_free (use := use) rfl hs (closure_ok hfree) ok.kind (fun y hy e => by rw [ok.uniq y hy, e])
    (thn (hi.run pins s σ H _ I h) fun xv s1 hx => thn hx fun itv s2 ⟨it, fp, tn, J, H2, e, I2, T, st2, f2, q⟩ => ?_)
  subst e
  refine wpAny_newObj_type (newEnv_comp ?_)
  generalize hD : s2.heap.objs.size = D
  have hDn : H2 D = none := I2.hok.fresh (Nat.le_of_eq hD)
  obtain ⟨W, ⟨m0, w0⟩, turn⟩ := q D hDn
  generalize hs3 : ({ s2 with heap := s2.heap.push { cls := .type "dict", data := .dict #[] } } : Shared) = s3
  have I3 : Inv X pins σ (upd H2 D ob) s3 := by
    rw [← hs3]
    refine I2.laid (t' := s2.toks) (fun b o e => Heap.get?_push_of_some _ e) (Nat.le_of_eq hD) ?_
    rw [← hD]
    rcases hob with rfl | rfl
    · exact dk_empty s2.heap I2.big
    · exact dt_empty s2.heap I2.big
  have h3 : s3.heap = s2.heap.push { cls := .type "dict", data := .dict #[] } := by rw [← hs3]
  have sz : ∀ b ∈ fp, b < s2.heap.objs.size := fun b hb => (T.obj _ _ st2 b hb).elim fun _ z => Heap.lt_size z.1
  have f3 : ∀ b ∈ fp, FpOk X pins (upd H2 D ob) b ∧ b < s3.heap.objs.size := fun b hb => by
    refine ⟨⟨?_, (f2 b hb).2⟩, by rw [h3, Heap.size_push]; exact Nat.lt_succ_of_lt (sz b hb)⟩
    rw [upd_ne (by rw [← hD]; exact Nat.ne_of_lt (sz b hb))]
    exact (f2 b hb).1
  have st3 : tn 0 s3.heap := T.keep _ _ _ st2 fun b _ o e => by rw [h3]; exact Heap.get?_push_of_some _ e
  have I4 := block_start I3 ok hN f3
  show codeAny _ _ (.compStart (.DictComp kx vx [⟨tg, iter, [], 0⟩] scope pos) 0 (.ref it) (.ref D) (compEnvC scope (cellsFrom (s3.heap.objs.size + 1) scope.names (cloFrom X.env.cells scope.names [])) s3.heap.objs.size X.env)) (compPost (model X.prog X.w) X.A X.xe use Qf (.ref D) s3.heap.objs.size) { s3 with heap := pushCells (s3.heap.push { cls := .type "dict", data := .dict #[] }) scope.names }
  generalize hce : compEnvC scope (cellsFrom (s3.heap.objs.size + 1) scope.names (cloFrom X.env.cells scope.names [])) s3.heap.objs.size X.env = ce at I4 ⊢
  have bg : PG (X.blk s3 (upd H2 D ob) scope ce fp) tg g := hce ▸ B.g _ _ _ _ _
  have bk : PE (X.blk s3 (upd H2 D ob) scope ce fp) kx tk := hce ▸ B.k _ _ _ _ _
  have bv : PE (X.blk s3 (upd H2 D ob) scope ce fp) vx tv := hce ▸ B.v _ _ _ _ _
  have cL : ce.locals = s3.heap.objs.size := by subst hce; rfl
  have nfp : ∀ b ∈ fp, (upd H2 D ob) b = none := fun b hb => (f3 b hb).1.1
  generalize hH3 : upd H2 D ob = H3 at I3 I4 bg bk bv w0 nfp f3
  generalize hs4 : ({ s3 with heap := pushCells (s3.heap.push { cls := .type "dict", data := .dict #[] }) scope.names } : Shared) = s4 at I4 ⊢
  have st4 : tn 0 s4.heap := T.keep _ _ _ st3 fun b _ o e => by rw [← hs4]; exact pushCells_keeps _ _ _ _ (Heap.get?_push_of_some _ e)
  let Y : Cx := X.blk s3 H3 scope ce fp
  have stat : ∀ {σ' : St} {H' : Hp} {s' : Shared}, Inv Y [] σ' H' s' → (∀ b ∈ fp, H' b = none) → ∀ b ∈ fp, FpOk Y [] H' b := fun {σ' H' s'} I' hn b hb =>
    ⟨hn b hb, (I'.ok.exf b hb).1, I'.ok.exfs b hb, .inl hb, fun x c e => (I'.ok.exf b hb).2 x c e, fun p hp => absurd (show p ∈ ([] : List (Addr × Obj)) ++ [] from hp) (by simp)⟩
  refine (fun loop => codeAny_compStart_dict loop (T.self X.A 0 _ _ _ st4 loop)) (compLoop_anyD (fun n s' => ∃ i H', Inv Y [] (wipe σ (own.map (·.2))) H' s' ∧ tn i s'.heap ∧ (∀ b ∈ fp, H' b = none) ∧ W i n H') ?_ m0 ⟨0, H3, I4, st4, nfp, w0⟩)
  rintro n s5 ⟨i, H5, I5, st5, n5, w5⟩
  rcases turn i n H5 w5 with ⟨stop, qq⟩ | ⟨go, Nx, hNx, step⟩
  · refine thnF (T.done Y rfl rfl rfl hc i [] s5 _ H5 (fun _ _ => False) I5 (stat I5 n5) st5 stop) fun r s6 ⟨hr, I6⟩ => ?_
    subst hr
    have I7 : Inv X pins σ H5 s6 := I3.call' (ch := fp) I6.os I6.base I6.hok I6.bare fun b hb => ⟨(f3 b hb).1.2.2.2.1, (f3 b hb).1.2.1, (f3 b hb).1.2.2.2.2.1, (f3 b hb).1.2.2.2.2.2⟩
    have nC : H5 s3.heap.objs.size = none := cL ▸ (show H5 ce.locals = none from I6.free)
    obtain ⟨m, hn, _⟩ := I6.loc
    have hn : s6.heap.Ns s3.heap.objs.size m := cL ▸ (show s6.heap.Ns ce.locals m from hn)
    exact hR D s3.heap.objs.size s6 m H5 I7 qq hn (I3.fpOk (Nat.le_refl _) nC)
  · refine thnF (T.item Y rfl rfl rfl hc i [] s5 _ H5 (fun _ _ => False) I5 (stat I5 n5) st5 go) fun r s6 ⟨u, hr, h6⟩ => ?_
    subst hr
    refine thnF h6 fun _ s7 ⟨x, H7, I7, r7, y7, st7, n7⟩ => ?_
    have I7' := I7.pinned (stat I7 n7) (T.obj _ _ st7)
    refine thnF (bg.run _ s7 _ H7 x u _ I7' r7 (step x H7 y7)) fun _ s8 ⟨σ8, H8, I8, hw8, q8⟩ => ?_
    refine wpAny_of_eq (a := true) rfl ?_
    show wpAny _ _ _ _ _ s8
    refine thnF (bk.run _ s8 σ8 H8 _ I8 q8) fun z s10 ⟨yk, H10, I10, r10, q10⟩ => thnF (bv.run _ s10 σ8 H10 _ I10 q10) fun z2 s11 ⟨yv, H11, I11, r11, H12, pt, nx⟩ => ?_
    refine put_in (X := Y) hu I11 pt r10 r11 fun s' I' => ?_
    obtain ⟨m', hm, w'⟩ := hNx H12 nx
    have pin' : ∀ b ∈ fp, ∀ o, s7.heap.get? b = some o → s'.heap.get? b = some o ∧ H12 b = none := fun b hb o e =>
      let z := I'.pin (b, o) (List.mem_append_right _ (List.mem_append_right _ (mem_pinsAt hb e)))
      ⟨z.1, z.2.1⟩
    have hl : (wipe σ (own.map (·.2))).length = σ8.length := by rw [← hw8, wipe_length]
    refine ⟨m', hm, i + 1, H12, (I'.unpinned (pins := [])).weak hl (fun j v e => ?_), T.keep _ _ _ st7 fun b hb o e => (pin' b hb o e).1, fun b hb => ?_, w'⟩
    · rw [← hw8] at e
      exact (wipe_some e).1
    · obtain ⟨o, e, _⟩ := T.obj _ _ st7 b hb
      exact (pin' b hb o e).2
section
variable {ob : HO} {kx vx tg iter : Expr} {scope : Scope} {own : List (Str × Nat)} {pos spos py : Pos} {wi : TI} {g : TG} {tk tv : TE} {i : Nat} {y : Str}
theorem pe_dcP (hob : ob = .dK [] ∨ ob = .dT []) (hu : X.A.units + 1 < cLine) (hc : X.calm = true) (hN : X.N.Nodup) (hi : PI X tg iter wi) (ok : BlkOk X.N X.env.scope scope own) (B : Blk X scope tg kx vx g tk tv) (hs : ∀ x, foldedSetIterable iter X.env x = pure x := by intro _; rfl) :
    PE X (.DictComp kx vx [⟨tg, iter, [], 0⟩] scope pos) (tDcP ob wi g tk tv (own.map (·.2))) := ⟨fun pins s σ H Q I h => by
  rw [arm_eval_DictComp]
  exact dcP_core hob hu hc hN I hi ok B hs h fun D C s' m H' I' q hn ⟨f0, f1, _, f3, f4, f5⟩ => ⟨m, hn, fun h'' sb => ⟨.ref D, H', I'.turned (t' := s'.toks) (fun b o hb e => (sb.2 b hb).trans e) f0 f1 f3 f4 f5, rfl, q⟩⟩⟩
theorem ps_setDcP (hob : ob = .dK [] ∨ ob = .dT []) (hu : X.A.units + 1 < cLine) (hc : X.calm = true) (hN : X.N.Nodup) (hy : X.N[i]? = some y) (hyl : X.env.scope.names.lookup y = some .local)
    (hsw : swapsWith (.DictComp kx vx [⟨tg, iter, [], 0⟩] scope pos) (some (.Name y py)) spos.line X.env = pure true) (hi : PI X tg iter wi) (ok : BlkOk X.N X.env.scope scope own) (B : Blk X scope tg kx vx g tk tv) (hs : ∀ x, foldedSetIterable iter X.env x = pure x := by intro _; rfl) :
    PS X (.Assign [.Name y py] (.DictComp kx vx [⟨tg, iter, [], 0⟩] scope pos) spos) (tAsg (tDcP ob wi g tk tv (own.map (·.2))) (gName i)) := ⟨fun pins s σ H D I h => by
  rw [exec_Assign_Name_used _ _ _ _ hsw]
  refine wpAny_bind (wpAny_standAt (wpAny_bind ?_))
  have h : tDcP ob wi g tk tv (own.map (·.2)) σ H (fun x H1 => gName i x σ H1 D.nx) := h
  refine wpAny_bind (thn (dcP_core (pos' := firstIterPos [⟨tg, iter, [], 0⟩] pos) (use := some (assign (.Name y py) X.env)) (Qf := fun _ s' => SP X pins D .next s') hob hu hc hN I hi ok B hs h fun L C s' m H' I' q hn f => ?_) fun _ s' hq => wpAny_pure (wpAny_pure hq))
  show wpAny _ _ (assign (.Name y py) X.env (.ref L)) _ _ _
  refine wpAny_assign_Name (store_ok2 (v := V.ref L) I' hN hy (.inl hyl) rfl (fun s2 I2 ⟨a, sb, ha⟩ => ?_) (.inr hyl))
  obtain ⟨f0, f1, f2, f3, f4, f5⟩ := f
  have haC : C ≠ a := ha.elim (fun z => by rw [z]; exact f1) fun z e => f4 y a z e.symm
  exact ⟨m, hn.sameBut sb haC, fun h3 sb3 => ⟨_, H', I2.turned (t' := s2.toks) (fun b o hb e => (sb3.2 b hb).trans e) f0 f1 f3 f4 f5, q⟩⟩⟩
end
end
end L2
namespace Y
open PySem PySem.Spec L2 PySem.W
/-! ### dict comprehensions -/
/-- the turns: the new dict at n0 -/
def dcp (tg : TgM) (mk mv : EM) (env0 : En) (n0 : Nat) (G : Sto → Bool) : List D → Sto → Res Unit
  | [], S => if G S then .ok () S else .err
  | d :: ds, S => if G S then match tg d env0 with
    | none => .err
    | some env1 => match mk env1 S with
      | .ok k S1 => match mv env1 S1 with
        | .ok x S2 => match dPutD S2 (.ref n0) k x with
          | some S3 => dcp tg mk mv env0 n0 G ds S3
          | none => .err
        | _ => .err
      | _ => .err else .err
noncomputable def dcN (o : Ob) (it : IM) (tg : TgM) (mk mv : EM) (vs : List Nat) : EM := fun env S => bd (it env S) fun p S1 =>
  bd (dcp tg mk mv (wipeE env vs) S1.length (okB p.2) p.1 (S1 ++ [some o])) fun _ S2 => .ok (.ref S1.length) S2
section
variable {X : Cx} {W : WX} {mi : IM} {g : TgM} {mk mv : EM} {own : List (Str × Nat)}
theorem dcp_ok {α : Type} {env0 : En} {n0 : Nat} {G : Sto → Bool} {k : Unit → Sto → Res α} {Q : α → Sto → Prop} {E : Str → List (Str × D) → Sto → Prop} : ∀ (ds : List D) (S : Sto), wpM (bd (dcp g mk mv env0 n0 G ds S) k) Q E → ∃ S2, dcp g mk mv env0 n0 G ds S = .ok () S2
  | [], S, h => by
    unfold dcp at h ⊢
    split at h
    · rename_i hg; rw [if_pos hg]; exact ⟨S, rfl⟩
    · exact h.elim
  | d :: ds, S, h => by
    unfold dcp at h ⊢
    split at h
    · rename_i hg
      rw [if_pos hg]
      revert h
      split
      · exact fun h => h.elim
      · split
        · split
          · split
            · exact fun h => dcp_ok ds _ h
            · exact fun h => h.elim
          · exact fun h => h.elim
        · exact fun h => h.elim
    · exact h.elim
theorem dcN_imp {o : Ob} {ob : HO} (ho : o.pay = []) (hh : o.ho [] = ob) : ∀ σ H Q, tE X.K X.mg W (dcN o mi g mk mv (own.map (·.2))) σ H Q → tDcP ob (tI X.K X.mg W mi) (tG X.K (own.map (·.2)) g) (tE X.K X.mg W0 mk) (tE X.K X.mg W0 mv) (own.map (·.2)) σ H Q :=
  fun σ H Q ⟨ρ, env, S, R, V, w⟩ => ⟨ρ, env, S, R, V, wpM_mono (wpM_bd w) (fun p S1 w1 ρ1 H1 J R1 U1 GI D0 hD => by
    obtain ⟨all, src⟩ := p
    simp only at w1 GI
    generalize hvs : own.map (·.2) = vs at w1 ⊢
    obtain ⟨S2, hS2⟩ := dcp_ok _ _ w1
    rw [hS2] at w1
    have sm0 : Same H1 (upd H1 D0 ob) := same_new hD
    have Ru : RS X.K (ρ1 ++ [D0]) (upd H1 D0 ob) (S1 ++ [some o]) := R1.newO hD sm0 (by rw [hh]; exact upd_same) (xs := []) (by rw [ho]; exact RelL.nil)
    have Uu : Up X.K ρ1 H1 S1 (ρ1 ++ [D0]) (upd H1 D0 ob) (S1 ++ [some o]) := Up.new R1.len hD sm0
    have hix : (ρ1 ++ [D0])[S1.length]? = some D0 := by rw [← R1.len]; simp
    refine ⟨fun i n H' => n = all.length - i ∧ i ≤ all.length ∧ ∃ ρ' S', RS X.K ρ' H' S' ∧ Up X.K (ρ1 ++ [D0]) (upd H1 D0 ob) (S1 ++ [some o]) ρ' H' S' ∧ dcp g mk mv (wipeE env vs) S1.length (okB src) (all.drop i) S' = .ok () S2,
      ⟨all.length, by simp, Nat.zero_le _, _, _, Ru, Up.refl, by simpa using hS2⟩, ?_⟩
    rintro i n H' ⟨rfl, hi, ρ', S', R', U', w'⟩
    have VV : RV X.K ρ' (L2.wipe σ vs) H' S' (wipeE env vs) := ((U1.trans (Uu.trans U')).rv V).wipe vs
    by_cases hlt : i < all.length
    · rw [List.drop_eq_getElem_cons hlt] at w'
      unfold dcp at w'
      split at w'
      · rename_i hsrc
        obtain ⟨g1, g2, g3⟩ := GI ρ' H' S' R' (Uu.trans U') (okB_iff.mp hsrc)
        refine .inr ⟨g1 i hlt, fun H2 => ∃ ρ2 S2', RS X.K ρ2 H2 S2' ∧ Up X.K (ρ1 ++ [D0]) (upd H1 D0 ob) (S1 ++ [some o]) ρ2 H2 S2' ∧ dcp g mk mv (wipeE env vs) S1.length (okB src) (all.drop (i + 1)) S2' = .ok () S2,
          fun H2 q => ⟨all.length - (i + 1), by omega, rfl, hlt, q⟩, fun x H2 y => ?_⟩
        obtain ⟨sm, rd⟩ := g3 i all[i] x H2 (List.getElem?_eq_getElem hlt) y
        have U2 : Up X.K ρ' H' S' ρ' H2 S' := Up.same sm
        split at w'
        · cases w'
        · rename_i env1 e1
          refine ⟨ρ', wipeE env vs, S', all[i], env1, R'.same sm, U2.rv VV, rd, e1, fun σ3 V3 hw3 => ⟨by rw [hw3]; exact wipe_wipe, ?_⟩⟩
          split at w'
          · rename_i k3 S3 e3
            refine tE_seq (R'.same sm) V3 ?_
            rw [e3]
            intro ρ4 y4 H4 R4 V4 U4 r4
            split at w'
            · rename_i x5 S5 e5
              refine tE_seq R4 V4 ?_
              rw [e5]
              intro ρ6 y6 H6 R6 V6 U6 r6
              have Uall := ((U'.trans U2).trans U4).trans U6
              split at w'
              · rename_i S7 e7
                obtain ⟨a, H7, ea, pt, R7, U7⟩ := dPutD_ok R6 (show RelD X.K H6 (Al ρ6 S5) ρ6 (.ref D0) (.ref S1.length) from ⟨D0, rfl, Uall.pre _ _ hix⟩) (U6.relD r4) r6 e7
                cases ea
                exact ⟨H7, pt, ρ6, S7, R7, Uall.trans U7, w'⟩
              · cases w'
            · cases w'
          · cases w'
      · cases w'
    · have ei : i = all.length := by omega
      subst ei
      rw [List.drop_length] at w'
      unfold dcp at w'
      split at w'
      · rename_i hsrc
        cases w'
        obtain ⟨g1, g2, g3⟩ := GI ρ' H' S2 R' (Uu.trans U') (okB_iff.mp hsrc)
        exact .inl ⟨g2, (show PostV _ _ _ _ _ _ _ from w1) ρ' (.ref D0) H' R' (U1.trans (Uu.trans U')) ⟨D0, rfl, U'.pre _ _ hix⟩⟩
      · cases w') fun _ _ _ q => q⟩
section
variable {kx vx tg iter : Expr} {scope : Scope} {pos spos py : Pos} {i : Nat} {y : Str} {o : Ob} {ob : HO}
theorem y_dc (hob : ob = .dK [] ∨ ob = .dT []) (ho : o.pay = []) (hh : o.ho [] = ob) (hu : X.A.units + 1 < cLine) (hc : X.calm = true) (hN : X.N.Nodup) (hi : PI X tg iter (tI X.K X.mg W mi)) (ok : blkC X.N X.env.scope scope own = true)
    (hg : ∀ (s : Shared) (H : Hp) (C : Addr) (cl : List (Str × Addr)) (fp : List Addr), PG (X.blk s H scope (compEnvC scope cl C X.env) fp) tg (tG X.K (own.map (·.2)) g)) (hk : ∀ (s : Shared) (H : Hp) (C : Addr) (cl : List (Str × Addr)) (fp : List Addr), PE (X.blk s H scope (compEnvC scope cl C X.env) fp) kx (tE X.K X.mg W0 mk))
    (hv : ∀ (s : Shared) (H : Hp) (C : Addr) (cl : List (Str × Addr)) (fp : List Addr), PE (X.blk s H scope (compEnvC scope cl C X.env) fp) vx (tE X.K X.mg W0 mv)) (hs : ∀ x, foldedSetIterable iter X.env x = pure x := by intro _; rfl) :
    PE X (.DictComp kx vx [⟨tg, iter, [], 0⟩] scope pos) (tE X.K X.mg W (dcN o mi g mk mv (own.map (·.2)))) := (pe_dcP hob hu hc hN hi (blkOk_by ok) ⟨hg, hk, hv⟩ hs).imp (dcN_imp ho hh)
theorem s_setDc (i : Nat) (hob : ob = .dK [] ∨ ob = .dT []) (ho : o.pay = []) (hh : o.ho [] = ob) (hu : X.A.units + 1 < cLine) (hc : X.calm = true) (hN : X.N.Nodup) (hyl : X.env.scope.names.lookup y = some .local)
    (hsw : swapsWith (.DictComp kx vx [⟨tg, iter, [], 0⟩] scope pos) (some (.Name y py)) spos.line X.env = pure true) (hi : PI X tg iter (tI X.K X.mg W mi)) (ok : blkC X.N X.env.scope scope own = true)
    (hg : ∀ (s : Shared) (H : Hp) (C : Addr) (cl : List (Str × Addr)) (fp : List Addr), PG (X.blk s H scope (compEnvC scope cl C X.env) fp) tg (tG X.K (own.map (·.2)) g)) (hk : ∀ (s : Shared) (H : Hp) (C : Addr) (cl : List (Str × Addr)) (fp : List Addr), PE (X.blk s H scope (compEnvC scope cl C X.env) fp) kx (tE X.K X.mg W0 mk))
    (hv : ∀ (s : Shared) (H : Hp) (C : Addr) (cl : List (Str × Addr)) (fp : List Addr), PE (X.blk s H scope (compEnvC scope cl C X.env) fp) vx (tE X.K X.mg W0 mv)) (hy : X.N[i]? = some y := by rfl) (hs : ∀ x, foldedSetIterable iter X.env x = pure x := by intro _; rfl) :
    PS X (.Assign [.Name y py] (.DictComp kx vx [⟨tg, iter, [], 0⟩] scope pos) spos) (tS X.K X.mg W (asg (tgN i) (dcN o mi g mk mv (own.map (·.2))))) :=
  (ps_setDcP hob hu hc hN hy hyl hsw hi (blkOk_by ok) ⟨hg, hk, hv⟩ hs).imp fun Dn σ H ⟨ρ, env, S, R, V, w⟩ => dcN_imp ho hh σ H _ (tE_seq R V (wpM_mono (wpS_bS V w) (fun d S1 w1 ρ1 v H1 R1 V1 U1 r1 => w1 ρ1 _ H1 R1 (V1.set r1) U1) fun _ _ _ q => q))
end
end
end Y

end
section
set_option Elab.async false
set_option linter.all false
set_option maxRecDepth 100000
set_option maxHeartbeats 4000000
set_option autoImplicit true
namespace L2
open PySem PySem.Spec PySem.W
variable {β : Type}
/-! ### sorted of a tuple -/
def rSortV (K : PySem.W.Frag) (enc : β → PyData) : List V → Hp → VK → Prop := fun vs H Q => ∃ (a : Addr) (xs : List V) (es : List β), vs = [V.ref a] ∧ SqT K H a xs ∧ xs.length = es.length ∧ DpAll K H xs (es.map enc) ∧ AllAlike (es.map enc) ∧ Sortable (es.map enc) ∧ (∀ e ∈ es, (enc e).depth ≤ 64) ∧
  ∀ p, H p = none → Q (.ref p) (upd H p (.lst (((xs.zip es).mergeSort (dataLe false fun b => enc b.2)).map Prod.fst)))
theorem cr_sortV {X : Cx} {enc : β → PyData} (hu : X.A.units + 200 < cLine) : CallR X (.builtin "sorted") (rSortV X.K enc) := by
  intro pins s σ H vs us Q I r h
  obtain ⟨a, xs, es, rfl, hs, hlen, hd, hal, hso, hdp, q⟩ := h
  obtain ⟨its, rv, ⟨o, g0, g1, n, g2⟩, hz⟩ := I.tuple hs
  rw [Vals.ref1 r]
  have hvl := rv.length
  refine sort_col (xs := xs) (es := es) hu I (fun R hR => ?_) hlen hd hal hso hdp (by omega) q
  refine wpAny_collect_seq a (.inr rfl) g0 g1 g2 (fun h' hk => ?_) (by rw [List.size_toArray]; omega)
  exact hR h' s.toks its hk rv
end L2
namespace Y
open PySem PySem.Spec L2 PySem.W
noncomputable def o_sortedV (S : Sto) : List D → Option (List D)
  | [.tup es] => sortK es
  | _ => none
theorem cf_sortedV {K : PySem.W.Frag} : CallF K (rSortV K pD) o_sortedV := by
  intro ρ H S ds es vs Q R r e q
  unfold o_sortedV at e
  split at e
  · rename_i fs
    obtain ⟨ps, e3, em, hal, hso, hdp, rfl⟩ := sortK_ok e
    obtain ⟨v, rfl, p, xs, rfl, h1, h2⟩ := one_of r
    refine ⟨p, xs, fs, rfl, h1.sq, h2.length, by rw [em]; exact dpAll_of fs ps xs e3 h2, hal, hso, hdp, fun l hl => ?_⟩
    exact q l _ _ (sort_zip h2) hl (same_new hl) upd_same
  · cases e
/-! ### xs[i] op= e, ints in a list -/
def rdAt (S : Sto) (x k : D) : Option D := match x with
  | .ref _ => o_ix S x k
  | _ => none
def augS (f : Int → Int → Int) (mo mi m : EM) : SM := fun env S => bS (mo env S) env fun x S1 => bS (mi env S1) env fun k S2 => bS (lf (rdAt S2 x k) S2) env fun old S3 => bS (m env S3) env fun d S4 => match old, d with
  | .int i, .int j => match setAt S4 x k (.int (f i j)) with
    | some S5 => .nx env S5
    | none => .err
  | _, _ => .err
theorem get_item {X : Cx} : PGet X (rIxL X.K) := by
  intro pins s σ H x y v u Q I rx ry h
  obtain ⟨p, xs, i, z, rfl, rfl, hq, he, q⟩ := h
  cases rx
  obtain ⟨t, rfl⟩ := ry
  obtain ⟨its, r, pl, hz⟩ := I.list hq
  obtain ⟨j, h1, h2, h3, h4, h5⟩ := atI_get he
  obtain ⟨w, ew, rw'⟩ := r.get h2
  have hl := r.length
  have hn := line63
  have fin : EP X pins σ Q w s := ⟨z, H, I, rw', q⟩
  by_cases h0 : 0 ≤ i
  · have hj : i.toNat = j := by
      rw [seqIndex_of h0 h5] at h1
      exact Option.some.inj h1
    exact wpAny_getItem_list pl.isList h0 (by omega) (by rw [hj]; simpa using ew) fin
  · have hj : (i + (its.toArray.size : Int)).toNat = j := by
      rw [seqIndex_neg (by omega) h4] at h1
      rw [List.size_toArray, ← hl]
      exact Option.some.inj h1
    exact wpAny_getItem_list_neg pl.isList (by omega) (by rw [List.size_toArray] <;> omega) (by omega) (by rw [hj]; simpa using ew) fin
theorem s_augI {X : Cx} {W : WX} {o i e : Expr} {mo mi m : EM} {op : Operator} {f : Int → Int → Int} {p2 pos : Pos} (hp : PIp X op (ipI f)) (ho : PE X o (tE X.K X.mg W mo)) (hi : PE X i (tE X.K X.mg W mi)) (he : PE X e (tE X.K X.mg W m))
    (ha : ∀ ov iv new, augStore i ov iv new = (do holding [new, ov, iv] (setItem ov iv new); release [new, ov, iv] []; pure .next) := by intros; rfl) : PS X (.AugAssign (.Subscript o i p2) op e pos) (tS X.K X.mg W (augS f mo mi m)) :=
  (ps_augS ho hi get_item he hp set_list ha).imp fun Dn σ H ⟨ρ, env, S, R, V, w⟩ => tE_seq R V (wpM_mono (wpS_bS V w) (fun x S1 w1 ρ1 v H1 R1 V1 U1 r1 =>
    tE_seq R1 V1 (wpM_mono (wpS_bS V1 (wpS_up U1 w1)) (fun k S2 w2 ρ2 u H2 R2 V2 U2 r2 => by
      have w2 := wpS_bS V2 (wpS_up U2 w2)
      obtain ⟨old, e1, w2⟩ := wpM_lf w2
      cases x with
      | ref n =>
        cases k with
        | int j =>
          have r2' : u = .int j := r2
          subst r2'
          have e1 : o_ix S2 (.ref n) (.int j) = some old := e1
          obtain ⟨a, rfl, ha'⟩ := U2.relD r1
          simp only [o_ix] at e1
          split at e1
          · rename_i ds hS
            obtain ⟨xs, h1, h2⟩ := R2.obj n _ a hS ha'
            obtain ⟨v', k1, k2⟩ := relL_atI h2 e1
            refine ⟨a, xs, j, v', rfl, rfl, .inl (.inl h1), k1, tE_seq R2 V2 (wpM_mono (wpS_bS V2 w2) (fun d S4 w4 ρ4 t H4 R4 V4 U4 r4 => ?_) fun _ _ _ q => q)⟩
            cases old with
            | int i0 =>
              cases d with
              | int j0 =>
                cases (show v' = .int i0 from k2)
                cases (show t = .int j0 from r4)
                refine ⟨i0, j0, rfl, rfl, ?_⟩
                cases e5 : setAt S4 (.ref n) (.int j) (.int (f i0 j0)) with
                | none => simp only [e5] at w4; exact w4.elim
                | some S5 =>
                  simp only [e5] at w4
                  exact setAt_ok R4 (o := .ref n) (i := .int j) (d := .int (f i0 j0)) (v := .int (f i0 j0)) (U4.relD (show RelD X.K H2 (Al ρ2 S2) ρ2 (.ref a) (.ref n) from ⟨a, rfl, ha'⟩)) (iv := .int j) rfl rfl e5 fun H' R5 U5 => w4 ρ4 σ H' R5 (U5.rv V4) (U4.trans U5)
              | _ => exact w4.elim
            | _ => exact w4.elim
          · cases e1
        | _ => cases e1
      | _ => cases e1) fun _ _ _ q => q)) fun _ _ _ q => q)
/-! ### a suite's test -/
section
variable (K : PySem.W.Frag) (mg : Str → Option Value) (i : Nat) (a : Addr) (cls : Value) (d : Option Addr)
def uT (m : Str → List (Str × D) → TM) : TT := fun σ H Q => ∃ ρ env S c fs, RS K ρ H S ∧ RV K ρ σ H S env ∧ ExS K mg i a cls d ρ σ H S c fs ∧ wpM (m c fs env S) (PostB K ρ H S Q) (PostX K mg W0 ρ σ H S)
end
section
variable {X : Cx} {i : Nat} {a : Addr} {cls : Value} {d : Option Addr} {e : Expr} {pos : Pos} {ps rest : List Stmt} {mc : Str → List (Str × D) → TM} {ma r : Str → List (Str × D) → SM}
theorem u_truth {m : Str → List (Str × D) → EM} (h : PE X e (uE X.K X.mg i a cls d m)) (he : ∀ whole, isTrue e X.env whole = (do let v ← whole; standAt e.pos; holding [v] (truthy v)) := by intro _; rfl) : PT X e (uT X.K X.mg i a cls d fun c fs => trt (m c fs)) :=
  (pt_truth h he).imp fun σ H Q ⟨ρ, env, S, c, fs, R, V, x, w⟩ => ⟨ρ, env, S, c, fs, R, V, x, wpM_mono (wpM_bd w) (fun x S1 w1 ρ1 v H1 R1 U1 r1 => by
    obtain ⟨k, e, q⟩ := wpM_lf w1
    exact ⟨k, tru_ok' R1 r1 e, q ρ1 H1 R1 U1⟩) fun _ _ _ q => q⟩
/-- if c: .. at the end of a suite -/
theorem u_if1 (hc : PT X e (uT X.K X.mg i a cls d mc)) (ha : PSs X ps (uS X.K X.mg i a cls d ma)) : PS X (.If e ps [] pos) (uS X.K X.mg i a cls d fun c fs => ifS (mc c fs) (ma c fs) nxS) :=
  (ps_if hc ha pss_nil).imp fun Dn σ H ⟨ρ, env, S, c, fs, R, V, x, w⟩ => ⟨ρ, env, S, c, fs, R, V, x, wpM_mono (wpS_bS V w) (fun k S1 w1 ρ1 H1 R1 U1 => by
    cases k with
    | true => exact iteT ⟨ρ1, env, S1, c, fs, R1, U1.rv V, x.up R U1, wpS_up U1 w1⟩
    | false => exact iteF (w1 ρ1 σ H1 R1 (U1.rv V) U1)) fun _ _ _ q => q⟩
/-- .. and on -/
theorem u_ifSeqU (hc : PT X e (uT X.K X.mg i a cls d mc)) (ha : PSs X ps (uS X.K X.mg i a cls d ma)) (hne : ∀ c fs env S e S', ma c fs env S ≠ .nx e S') (hr : PSs X rest (uS X.K X.mg i a cls d r)) :
    PSs X (.If e ps [] pos :: rest) (uS X.K X.mg i a cls d fun c fs => seqS (ifS (mc c fs) (ma c fs) nxS) (r c fs)) :=
  (pss_cons (ps_if hc ha pss_nil) hr).imp fun Dn σ H ⟨ρ, env, S, c, fs, R, V, x, w⟩ => by
    simp only [seqS, ifS] at w
    refine ⟨ρ, env, S, c, fs, R, V, x, ?_⟩
    cases e1 : mc c fs env S with
    | err => rw [e1] at w; exact w.elim
    | exc c' fs' S1 => rw [e1] at w; exact fun ρ' H' cls dx R' U' k => w ρ' σ H' cls dx R' (U'.rv V) U' k
    | ok b S1 =>
      rw [e1] at w
      intro ρ1 H1 R1 U1
      cases b with
      | true =>
        refine iteT ⟨ρ1, env, S1, c, fs, R1, U1.rv V, x.up R U1, ?_⟩
        have w := wpS_up U1 w
        simp only [bS] at w
        revert w
        cases e2 : ma c fs env S1 with
        | nx e' S' => exact absurd e2 (hne _ _ _ _ _ _)
        | _ => exact fun w => w
      | false => exact iteF ⟨ρ1, env, S1, c, fs, R1, U1.rv V, x.up R U1, wpS_up U1 w⟩
end
/-! ### k in d as a test -/
section
variable {X : Cx} {W : WX} {pos : Pos} {o i : Expr} {mo mi : EM} {u : Nat}
theorem hasE_imp : ∀ σ H Q, tE X.K X.mg W (hasE false mi mo) σ H Q → tDIn (tE X.K X.mg W mi) (tE X.K X.mg W mo) σ H Q := fun σ H Q ⟨ρ, env, S, R, V, w⟩ => tE_seq R V (wpM_mono (wpM_bd w) (fun x S1 w1 ρ1 u H1 R1 V1 U1 r1 => tE_seq R1 V1 (wpM_mono (wpM_bd (wpM_mono w1 (fun _ _ q => q.up U1) fun _ _ _ q => q.up U1)) (fun k S2 w2 ρ2 v H2 R2 V2 U2 r2 => by
    split at w2
    · rename_i d hd
      obtain ⟨a, r, ea, g, q⟩ := dGetD_ok R2 r2 (U2.relD r1) hd
      have e : r.isSome = (d.isSome != false) := by
        rcases q with ⟨rfl, rfl⟩ | ⟨d', v', rfl, rfl, rd⟩ <;> rfl
      exact ⟨a, r, ea, g, (PostV.up U2 w2).same R2 (Same.refl H2) (by rw [← e]; rfl)⟩
    · exact w2.elim) fun _ _ _ q => q)) fun _ _ _ q => q)
theorem hasN_imp : ∀ σ H Q, tE X.K X.mg W (hasE true mi mo) σ H Q → tDNotIn (tE X.K X.mg W mi) (tE X.K X.mg W mo) σ H Q := fun σ H Q ⟨ρ, env, S, R, V, w⟩ => tE_seq R V (wpM_mono (wpM_bd w) (fun x S1 w1 ρ1 u H1 R1 V1 U1 r1 => tE_seq R1 V1 (wpM_mono (wpM_bd (wpM_mono w1 (fun _ _ q => q.up U1) fun _ _ _ q => q.up U1)) (fun k S2 w2 ρ2 v H2 R2 V2 U2 r2 => by
    split at w2
    · rename_i d hd
      obtain ⟨a, r, ea, g, q⟩ := dGetD_ok R2 r2 (U2.relD r1) hd
      have e : (!r.isSome) = (d.isSome != true) := by
        rcases q with ⟨rfl, rfl⟩ | ⟨d', v', rfl, rfl, rd⟩ <;> rfl
      exact ⟨a, r, ea, g, (PostV.up U2 w2).same R2 (Same.refl H2) (by rw [← e]; rfl)⟩
    · exact w2.elim) fun _ _ _ q => q)) fun _ _ _ q => q)
theorem y_thas (hu : X.A.units + 1 < cLine) (hi : PE X i (tE X.K X.mg W mi)) (ho : PE X o (tE X.K X.mg W mo)) (hm : behindInMarks .In o = false := by first | exact nomark _ | with_unfolding_all rfl) : PT X (.Compare i [.In] [o] pos) (tT X.K X.mg W (asT (hasE false mi mo))) := (pt_cmp (pc_din hu hi ho) hm).imp (asT_imp hasE_imp)
theorem y_thasNot (hu : X.A.units + 1 < cLine) (hi : PE X i (tE X.K X.mg W mi)) (ho : PE X o (tE X.K X.mg W mo)) (hm : behindInMarks .NotIn o = false := by first | exact nomark _ | with_unfolding_all rfl) : PT X (.Compare i [.NotIn] [o] pos) (tT X.K X.mg W (asT (hasE true mi mo))) := (pt_cmp (pc_dnotin hu hi ho) hm).imp (asT_imp hasN_imp)
end
/-! ### wp rules -/
section
variable {S : Sto} {env : En} {Q : D → Sto → Prop} {E : Str → List (Str × D) → Sto → Prop} {k : SK}
theorem wS_augS {f : Int → Int → Int} {mo mi m : EM} : wS (augS f mo mi m env S) k = wpM (mo env S) (fun x S1 => wpM (mi env S1) (fun j S2 => match rdAt S2 x j with
    | some old => wpM (m env S2) (fun d S4 => match old, d with
      | .int i, .int l => match setAt S4 x j (.int (f i l)) with
        | some S5 => k.nx env S5
        | none => False
      | _, _ => False) (fun c fs S => k.ex c fs env S)
    | none => False) (fun c fs S => k.ex c fs env S)) (fun c fs S => k.ex c fs env S) := by
  unfold augS
  simp only [wS_bS]
  congr 1; funext x S1; congr 1; funext j S2
  rw [wpM_lfE]
  cases rdAt S2 x j with
  | none => rfl
  | some old =>
    simp only
    congr 1; funext d S4
    split
    · rename_i i l
      cases setAt S4 x j (.int (f i l)) <;> rfl
    · rename_i h
      rfl
theorem wpM_dcN {o : Ob} {it : IM} {tg : TgM} {mk mv : EM} {vs : List Nat} : wpM (dcN o it tg mk mv vs env S) Q E = wpM (it env S) (fun p S1 => wpM (dcp tg mk mv (wipeE env vs) S1.length (okB p.2) p.1 (S1 ++ [some o])) (fun _ S2 => Q (.ref S1.length) S2) E) E := by
  unfold dcN
  simp only [wpM_bdE]; rfl
end
end Y

end
section
set_option Elab.async false
set_option linter.all false
set_option maxRecDepth 100000
set_option maxHeartbeats 4000000
set_option autoImplicit false
/-! tools for plain laws -/
namespace Y
open PySem PySem.Spec L2 PySem.W
section
variable {α β : Type} {env : En} {S : Sto} {k : SK} {Q : β → Sto → Prop} {E : Str → List (Str × D) → Sto → Prop}
theorem wpM_catF {a b : EM} {Q : List D → Sto → Prop} : wpM (catF a b env S) Q E = wpM (a env S) (fun x S1 => wpM (b env S1) (fun y S2 => wpM (lf ((lstOf S2 x).bind fun xs => (lstOf S2 y).bind fun ys => if xs.length + ys.length ≤ sizeLine then some (xs ++ ys) else none) S2) Q E) E) E := by
  unfold catF; simp only [wpM_bdE]
theorem wpM_revA {m : EM} {Q : D → Sto → Prop} : wpM (revA m env S) Q E = wpM (m env S) (fun d S1 => match d with | .tup ds => Q (.tup ds.reverse) S1 | .str z => (if z.length ≤ sizeLine then Q (.str (revS z)) S1 else False) | _ => False) E := by
  unfold revA; rw [wpM_bdE]; congr 1; funext d S1
  cases d with
  | str z => simp only; split <;> rfl
  | _ => rfl
@[irreducible] def rgOk (j : Int) : Prop := -(2 ^ 62) ≤ j ∧ j < 2 ^ 62
theorem rgOk_of {j : Int} (h0 : -4611686018427387904 ≤ j) (h1 : j < 4611686018427387904) : rgOk j := by
  unfold rgOk
  exact ⟨h0, h1⟩
theorem rgOk_nat {n : Nat} (h : n ≤ 16777216) : rgOk (n : Int) := rgOk_of (by omega) (by omega)
theorem wpM_rg1 {l : LM} {Q : List D × List (Nat × List D) → Sto → Prop} : wpM (i_rg1 l env S) Q E = wpM (l env S) (fun ds S1 => match ds with | [.int j] => rgOk j ∧ Q (rgL 0 j, []) S1 | _ => False) E := by
  unfold i_rg1
  rw [wpM_bdE]; congr 1; funext ds S1
  match ds with
  | [] => rfl
  | [.int j] =>
    show wpM (if -(2 ^ 62) ≤ j ∧ j < 2 ^ 62 then Res.ok (rgL 0 j, []) S1 else .err) Q E = (rgOk j ∧ Q (rgL 0 j, []) S1)
    unfold rgOk
    by_cases h : -(2 ^ 62) ≤ j ∧ j < 2 ^ 62
    · rw [if_pos h]; exact propext ⟨fun q => ⟨h, q⟩, fun q => q.2⟩
    · rw [if_neg h]; exact propext ⟨fun q => q.elim, fun q => h q.1⟩
  | [.non] => rfl
  | [.bl _] => rfl
  | [.str _] => rfl
  | [.tup _] => rfl
  | [.lst _] => rfl
  | [.ref _] => rfl
  | d :: _ :: _ => cases d <;> rfl
theorem wpM_rg2 {l : LM} {Q : List D × List (Nat × List D) → Sto → Prop} : wpM (i_rg2 l env S) Q E = wpM (l env S) (fun ds S1 => match ds with | [d, e] => (match d with | .int i => (match e with | .int j => rgOk i ∧ rgOk j ∧ Q (rgL i j, []) S1 | _ => False) | _ => False) | _ => False) E := by
  unfold i_rg2
  rw [wpM_bdE]; congr 1; funext ds S1
  match ds with
  | [] => rfl
  | [d] => cases d <;> rfl
  | [d, e] =>
    cases d <;> try rfl
    cases e <;> try rfl
    rename_i i j
    show wpM (if -(2 ^ 62) ≤ i ∧ i < 2 ^ 62 ∧ -(2 ^ 62) ≤ j ∧ j < 2 ^ 62 then Res.ok (rgL i j, []) S1 else .err) Q E = (rgOk i ∧ rgOk j ∧ Q (rgL i j, []) S1)
    unfold rgOk
    by_cases h : -(2 ^ 62) ≤ i ∧ i < 2 ^ 62 ∧ -(2 ^ 62) ≤ j ∧ j < 2 ^ 62
    · rw [if_pos h]; exact propext ⟨fun q => ⟨⟨h.1, h.2.1⟩, ⟨h.2.2.1, h.2.2.2⟩, q⟩, fun q => q.2.2⟩
    · rw [if_neg h]; exact propext ⟨fun q => q.elim, fun q => h ⟨q.1.1, q.1.2, q.2.1.1, q.2.1.2⟩⟩
  | d :: e :: _ :: _ => cases d <;> cases e <;> rfl
theorem wpM_enumA {l : LM} {Q : List D × List (Nat × List D) → Sto → Prop} : wpM (i_enumA l env S) Q E = wpM (l env S) (fun ds S1 => match ds with | [d] => wpM (lf (enumSrc S1 d) S1) Q E | _ => False) E := by
  unfold i_enumA
  rw [wpM_bdE]; congr 1; funext ds S1
  match ds with
  | [] => rfl
  | [d] => rfl
  | d :: _ :: _ => rfl
theorem wpM_iof {m : EM} {Q : List D × List (Nat × List D) → Sto → Prop} : wpM (i_of m env S) Q E = wpM (m env S) (fun d S1 => wpM (lf (srcOf S1 d) S1) Q E) E := by
  unfold i_of
  rw [wpM_bdE]
theorem wpM_lfS {a : β} : wpM (lf (some a) S) Q E = Q a S := rfl
theorem wpM_lfN : wpM (lf (none : Option β) S) Q E = False := rfl
/-- a run that is known -/
theorem eq_of_wp {r : Res β} {a : β} {S' : Sto} (h : wpM r (fun x S1 => x = a ∧ S1 = S') (fun _ _ _ => False)) : r = .ok a S' := by
  cases r with
  | ok x S1 => obtain ⟨rfl, rfl⟩ := h; rfl
  | exc c fs S1 => exact h.elim
  | err => exact h.elim
theorem wS_seqP {a b : SM} {env : En} {k : SK} (P : En → Sto → Prop) (h1 : wS (a env S) ⟨P, k.bk, k.ct, k.rt, k.ex⟩) (h2 : ∀ e S, P e S → wS (b e S) k) : wS (seqS a b env S) k := by
  rw [wS_seq]
  revert h1
  cases a env S with
  | nx e S1 => exact fun h => h2 e S1 h
  | _ => exact fun h => h
end
def mkR {γ : Type} (r : γ) : γ := r
theorem mkR_eq {γ : Type} {r : γ} : mkR r = r := by
  have h : mkR r = r ∧ True := ⟨rfl, trivial⟩
  exact h.1
/-! sizes -/
theorem le_sz {n : Nat} (h : Nat.ble n 16777216 = true) : n ≤ sizeLine := by
  have := sizeLine_eq
  have := Nat.le_of_ble_eq_true h
  omega
theorem le_szL {n : Nat} (h : n ≤ 16777216) : n ≤ sizeLine := by
  have := sizeLine_eq
  omega
/-! lists, stores -/
section
variable {S : Sto} {n : Nat} {ds : List D} {y : D}
theorem tyL (h : S[n]? = some (some (.lst ds))) : tyD "list" S (.ref n) = true := by simp [tyD, h]
theorem app_at (h : S[n]? = some (some (.lst ds))) (hl : ds.length < sizeLine) : m_append S (.ref n) [y] = some (.non, S.set n (some (.lst (ds ++ [y])))) := by
  simp [m_append, chg, h, hl]
theorem popAt_at {i : Int} {j : Nat} (h : S[n]? = some (some (.lst ds))) (hi : i = (j : Int)) (hj : j < ds.length) (hs : ds.length ≤ 1000000) : m_popAt S (.ref n) [.int i] = some (ds[j], S.set n (some (.lst (ds.eraseIdx j)))) := by
  subst hi
  have e : seqIndex? (j : Int) ds.length = some j := (by have := seqIndex_of (k := (j : Int)) (n := ds.length) (by omega) (by omega); simpa using this)
  simp only [m_popAt, chg, h]
  rw [if_pos (by omega)]
  simp [e, List.getElem?_eq_getElem hj]
theorem pop_last {a : D} (h : S[n]? = some (some (.lst (ds ++ [a])))) : m_pop S (.ref n) [] = some (a, S.set n (some (.lst ds))) := by
  simp [m_pop, chg, h]
theorem len_at (h : S[n]? = some (some (.lst ds))) : o_len S [.ref n] = some (.int ds.length) := by simp [o_len, seqOf, h]
theorem lst_at (h : S[n]? = some (some (.lst ds))) : lstOf S (.ref n) = some ds := by simp [lstOf, h]
theorem ix_at {j : Nat} {x : D} (h : S[n]? = some (some (.lst ds))) (hj : ds[j]? = some x) : o_ix S (.ref n) (.int (j : Int)) = some x := by
  simp only [o_ix, h]; exact atI_nat hj
theorem set_at {j : Nat} {x : D} (h : S[n]? = some (some (.lst ds))) (hj : j < ds.length) : setAt S (.ref n) (.int (j : Int)) x = some (S.set n (some (.lst (ds.set j x)))) := by
  have e : ixN ds.length (j : Int) = some j := by
    unfold ixN
    first
      | (have := seqIndex_of (k := (j : Int)) (n := ds.length) (by omega) (by omega); simpa using this)
      | simp [hj]
  simp [setAt, h, e]
theorem pureL_mem : ∀ {ds : List D}, (∀ d ∈ ds, d.pure = true) → pureL ds = true
  | [], _ => rfl
  | d :: ds, h => by
    show (d.pure && pureL ds) = true
    rw [h d List.mem_cons_self, pureL_mem fun x hx => h x (List.mem_cons_of_mem _ hx)]; rfl
theorem mem_pure : ∀ {ds : List D}, pureL ds = true → ∀ d ∈ ds, d.pure = true
  | [], _, d, h => by cases h
  | x :: ds, h, d, hd => by
    have h' : (x.pure && pureL ds) = true := h
    obtain ⟨h1, h2⟩ := Bool.and_eq_true_iff.mp h'
    rcases List.mem_cons.mp hd with e | hd
    · rw [e]; exact h1
    · exact mem_pure h2 d hd
theorem rgL_get {n j : Nat} {d : D} (h : (rgL 0 (n : Int))[j]? = some d) : d = .int j ∧ j < n := by
  unfold rgL at h
  rw [List.getElem?_map] at h
  cases e : (List.range ((n : Int) - 0).toNat)[j]? with
  | none => rw [e] at h; cases h
  | some z =>
    rw [e] at h
    obtain ⟨h1, h2⟩ := List.getElem?_eq_some_iff.mp e
    simp at h1 h2
    subst h2
    cases h
    exact ⟨by simp, by omega⟩
theorem rgL_len {n : Nat} : (rgL 0 (n : Int)).length = n := by simp [rgL]
theorem drop_at {α : Type} {ds : List α} {i : Nat} {d : α} (h : ds[i]? = some d) : ds.drop i = d :: ds.drop (i + 1) := by
  obtain ⟨h1, h2⟩ := List.getElem?_eq_some_iff.mp h
  rw [List.drop_eq_getElem_cons h1, h2]
/-! values -/
theorem ixT {j : Nat} {x : D} (h : ds[j]? = some x) : o_ix S (.tup ds) (.int (j : Int)) = some x := atI_nat h
theorem ixT0 {x : D} : o_ix S (.tup (x :: ds)) (.int 0) = some x := atI_nat (j := 0) rfl
theorem ixT1 {x y : D} : o_ix S (.tup (x :: y :: ds)) (.int 1) = some y := atI_nat (j := 1) rfl
theorem ixT2 {x y z : D} : o_ix S (.tup (x :: y :: z :: ds)) (.int 2) = some z := atI_nat (j := 2) rfl
theorem len_tup : o_len S [.tup ds] = some (.int ds.length) := rfl
theorem len_lst : o_len S [.lst ds] = some (.int ds.length) := rfl
theorem len_str {z : Str} (h : z.length ≤ 16777216) : o_len S [.str z] = some (.int z.length) := by simp only [o_len]; rw [if_pos (le_szL h)]
theorem eq_int {i j : Int} : o_eq S (.int i) (.int j) = some (.bl (i == j)) := by
  simp [o_eq, toPS, toP, SeqAt.shaped, PyData.canLay0, PyData.depth, PyData.eqv]
theorem ne_int {i j : Int} : o_ne S (.int i) (.int j) = some (.bl (!(i == j))) := by
  simp [o_ne, toPS, toP, SeqAt.shaped, PyData.canLay0, PyData.depth, PyData.eqv]
theorem eq_str {a b : Str} (h1 : PyData.strOk a = true) (h2 : PyData.strOk b = true) : o_eq S (.str a) (.str b) = some (.bl (a == b)) := by
  simp [o_eq, toPS, toP, SeqAt.shaped, PyData.canLay0, PyData.depth, PyData.eqv, h1, h2]
theorem ne_str {a b : Str} (h1 : PyData.strOk a = true) (h2 : PyData.strOk b = true) : o_ne S (.str a) (.str b) = some (.bl (!(a == b))) := by
  simp [o_ne, toPS, toP, SeqAt.shaped, PyData.canLay0, PyData.depth, PyData.eqv, h1, h2]
theorem eq_bl {a b : Bool} : o_eq S (.bl a) (.bl b) = some (.bl (a == b)) := by
  simp [o_eq, toPS, toP, SeqAt.shaped, PyData.canLay0, PyData.depth, PyData.eqv]
theorem strOk_of (w : String) : PyData.strOk (Str.ofString w) = true := by
  rw [Str.ofString_eq_toList]
  unfold PyData.strOk
  rw [Array.all_eq_true']
  intro x hx
  rw [List.mem_toArray] at hx
  obtain ⟨c, _, rfl⟩ := List.mem_map.mp hx
  refine decide_eq_true ?_
  have h := c.valid
  have h2 : c.toNat.isValidChar := h
  rcases h2 with h2 | h2
  · omega
  · exact h2.2
def isT : D → Bool | .tup _ => true | _ => false
def isS : D → Bool | .str _ => true | _ => false
def isI : D → Bool | .int _ => true | _ => false
def isB : D → Bool | .bl _ => true | _ => false
theorem isiT {d : D} (hd : d.pure = true) : (tyN S d).map (fun a => D.bl (subT a "tuple")) = some (.bl (isT d)) := by
  cases d <;> first | cases hd; done | simp [tyN, subT, isT]
theorem isiS {d : D} (hd : d.pure = true) : (tyN S d).map (fun a => D.bl (subT a "str")) = some (.bl (isS d)) := by
  cases d <;> first | cases hd; done | simp [tyN, subT, isS]
theorem isiB {d : D} (hd : d.pure = true) : (tyN S d).map (fun a => D.bl (subT a "bool")) = some (.bl (isB d)) := by
  cases d <;> first | cases hd; done | simp [tyN, subT, isB]
theorem isiI {d : D} (hd : d.pure = true) : (tyN S d).map (fun a => D.bl (subT a "int")) = some (.bl (isI d || isB d)) := by
  cases d <;> first | cases hd; done | simp [tyN, subT, isI, isB]
theorem str_at {z : Str} {j : Nat} {c : Nat} (h : z.cps[j]? = some c) (hl : z.length ≤ 16777216) : o_ix S (.str z) (.int (j : Int)) = some (.str ⟨#[c]⟩) := by
  simp only [o_ix]
  rw [if_pos (le_szL hl)]
  have e : atI z.cps.toList (j : Int) = some c := atI_nat (by rw [Array.getElem?_toList]; exact h)
  rw [e]; rfl
end
end Y

end
section
set_option Elab.async false
set_option linter.all false
set_option maxRecDepth 100000
set_option maxHeartbeats 4000000
set_option autoImplicit false
/-! a pool [great, mixed]: its list of ints at 0, itself at 1 -/
namespace Y
open PySem PySem.Spec L2 PySem.W
abbrev PSt (G : List Int) (m : Int) (rest : Sto) : Sto := some (.lst (G.map D.int)) :: some (.lst [.ref 0, .int m]) :: rest
def PP (rest S : Sto) : Prop := ∃ G m, (∀ g ∈ G, 0 ≤ g) ∧ G.length ≤ 64 ∧ 0 ≤ m ∧ m < 2147483648 ∧ S = PSt G m rest
theorem mul_ok {a b : Int} (h0 : 0 ≤ a) (h1 : a < 2 ^ 62) : PySem.IntMulOk a b := (CMul.ok (i := a) (j := b) (.inl ⟨by omega, by omega⟩))
theorem trunc_P {G G' : List Int} {m m' : Int} {rest X : Sto} : trunc (PSt G m rest) (PSt G' m' rest ++ X) = PSt G' m' rest := by
  unfold trunc
  rw [if_pos]
  · simp
  · refine .inr fun i o hi h => ?_
    match i with
    | 0 =>
      simp at h; subst h
      refine .inr ?_
      show belL _ (G'.map D.int) = true
      induction G' with
      | nil => rfl
      | cons g G' ih => simpa [belL, D.bel] using ih
    | 1 =>
      simp at h; subst h
      refine .inr ?_
      show belL _ [D.ref 0, D.int m'] = true
      simp [belL, D.bel]
    | i + 2 =>
      left
      simp only [List.cons_append, List.getElem?_cons_succ] at h ⊢
      simp only [List.length_cons] at hi
      rwa [List.getElem?_append_left (by omega)] at h
section
variable {rest S S0 X : Sto} {o : Option Ob}
theorem PP.len (h : PP rest S) : S.length = rest.length + 2 := by
  obtain ⟨G, m, _, _, _, _, rfl⟩ := h
  simp
theorem PP.getX {j : Nat} (h : PP (rest ++ X) S) : S[rest.length + 2 + j]? = X[j]? := by
  obtain ⟨G, m, _, _, _, _, rfl⟩ := h
  rw [show rest.length + 2 + j = (rest.length + j) + 1 + 1 by omega]
  simp only [List.getElem?_cons_succ]
  rw [List.getElem?_append_right (by omega)]
  congr 1; omega
theorem PP.setX {j : Nat} (h : PP (rest ++ X) S) : PP (rest ++ X.set j o) (S.set (rest.length + 2 + j) o) := by
  obtain ⟨G, m, h1, h2, h3, h4, rfl⟩ := h
  refine ⟨G, m, h1, h2, h3, h4, ?_⟩
  rw [show rest.length + 2 + j = (rest.length + j) + 1 + 1 by omega]
  simp only [List.set_cons_succ]
  rw [List.set_append_right _ _ (by omega), show rest.length + j - rest.length = j by omega]
theorem PP.app (h : PP rest S) : PP (rest ++ [o]) (S ++ [o]) := by
  obtain ⟨G, m, h1, h2, h3, h4, rfl⟩ := h
  exact ⟨G, m, h1, h2, h3, h4, by simp⟩
theorem PP.appX (h : PP (rest ++ X) S) : PP (rest ++ (X ++ [o])) (S ++ [o]) := by
  have := h.app (o := o)
  rwa [List.append_assoc] at this
theorem PP.nil (h : PP rest S) : PP (rest ++ []) S := by rwa [List.append_nil]
theorem PP.trunc (h0 : PP rest S0) (h : PP (rest ++ X) S) : PP rest (Y.trunc S0 S) := by
  obtain ⟨G, m, _, _, _, _, rfl⟩ := h0
  obtain ⟨G', m', h1, h2, h3, h4, rfl⟩ := h
  have := trunc_P (G := G) (G' := G') (m := m) (m' := m') (rest := rest) (X := X)
  rw [show PSt G' m' (rest ++ X) = PSt G' m' rest ++ X by simp, this]
  exact ⟨G', m', h1, h2, h3, h4, rfl⟩
theorem PP.trunc0 (h0 : PP rest S0) (h : PP rest S) : PP rest (Y.trunc S0 S) := h0.trunc h.nil
end
end Y

end
section
set_option Elab.async false
set_option linter.all false
set_option maxRecDepth 100000
set_option maxHeartbeats 4000000
set_option autoImplicit false
/-! data that is fine: texts of bounded length of real signs -/
namespace Y
open PySem PySem.Spec L2 PySem.W
def okS (z : Str) : Bool := decide (z.length ≤ 1000000) && PyData.strOk z
mutual
def fd : D → Bool
  | .non => true
  | .bl _ => true
  | .int _ => true
  | .str z => okS z
  | .tup ds => fdL ds
  | .lst ds => fdL ds
  | .ref _ => false
def fdL : List D → Bool
  | [] => true
  | d :: ds => fd d && fdL ds
end
mutual
theorem fd_pure : ∀ {d : D}, fd d = true → d.pure = true
  | .non, _ => rfl
  | .bl _, _ => rfl
  | .int _, _ => rfl
  | .str _, _ => rfl
  | .tup ds, h => fdL_pure (ds := ds) h
  | .lst ds, h => fdL_pure (ds := ds) h
  | .ref _, h => by cases h
theorem fdL_pure : ∀ {ds : List D}, fdL ds = true → pureL ds = true
  | [], _ => rfl
  | d :: ds, h => by
    have h' : (fd d && fdL ds) = true := h
    obtain ⟨h1, h2⟩ := Bool.and_eq_true_iff.mp h'
    show (d.pure && pureL ds) = true
    rw [fd_pure h1, fdL_pure h2]; rfl
end
theorem fdL_mem : ∀ {ds : List D}, fdL ds = true ↔ ∀ d ∈ ds, fd d = true
  | [] => ⟨fun _ d h => (nomatch h), fun _ => rfl⟩
  | d :: ds => by
    show (fd d && fdL ds) = true ↔ _
    rw [Bool.and_eq_true, fdL_mem (ds := ds)]
    simp
theorem fdL_nil : fdL [] = true := rfl
theorem fdL_cons {d : D} {ds : List D} : fdL (d :: ds) = (fd d && fdL ds) := rfl
theorem fdL_app {as bs : List D} : fdL (as ++ bs) = (fdL as && fdL bs) := by
  induction as with
  | nil => rfl
  | cons a as ih => rw [List.cons_append, fdL_cons, ih, fdL_cons, Bool.and_assoc]
theorem fdL_rev {as : List D} (h : fdL as = true) : fdL as.reverse = true := fdL_mem.mpr fun d hd => fdL_mem.mp h d (List.mem_reverse.mp hd)
theorem cutL_mem {ds : List D} {lo hi : Option Int} {x : D} (h : x ∈ cutL ds lo hi) : x ∈ ds := List.mem_of_mem_drop (List.mem_of_mem_take h)
theorem cutL_len {ds : List D} {lo hi : Option Int} : (cutL ds lo hi).length ≤ ds.length := by
  unfold cutL
  rw [List.length_take, List.length_drop]
  omega
theorem fdL_cut {ds : List D} {lo hi : Option Int} (h : fdL ds = true) : fdL (cutL ds lo hi) = true := fdL_mem.mpr fun d hd => fdL_mem.mp h d (cutL_mem hd)
theorem fd_tup {ds : List D} : fd (.tup ds) = fdL ds := rfl
theorem fd_lst {ds : List D} : fd (.lst ds) = fdL ds := rfl
theorem fd_int {i : Int} : fd (.int i) = true := rfl
theorem fd_bl {b : Bool} : fd (.bl b) = true := rfl
theorem fd_non : fd .non = true := rfl
theorem fd_str {z : Str} : fd (.str z) = okS z := rfl
/-! texts -/
theorem okS_len {z : Str} (h : okS z = true) : z.length ≤ 1000000 := of_decide_eq_true (Bool.and_eq_true_iff.mp h).1
theorem okS_ok {z : Str} (h : okS z = true) : PyData.strOk z = true := (Bool.and_eq_true_iff.mp h).2
/-- n signs at most, all of them real -/
structure FS (n : Nat) (z : Str) : Prop where
  len : z.length ≤ n
  ok : PyData.strOk z = true
theorem FS.okS {n : Nat} {z : Str} (h : FS n z) (hn : n ≤ 1000000) : okS z = true := Bool.and_eq_true_iff.mpr ⟨decide_eq_true (Nat.le_trans h.len hn), h.ok⟩
theorem FS.mono {n m : Nat} {z : Str} (h : FS n z) (hn : n ≤ m) : FS m z := ⟨Nat.le_trans h.len hn, h.ok⟩
theorem strOk_iff {z : Str} : PyData.strOk z = true ↔ ∀ c ∈ z.cps.toList, c < 0x110000 := by
  unfold PyData.strOk
  rw [← Array.all_toList, List.all_eq_true]
  exact ⟨fun h c hc => of_decide_eq_true (h c hc), fun h c hc => decide_eq_true (h c hc)⟩
theorem len_eq {z : Str} : z.length = z.cps.toList.length := rfl
theorem FS.of_lit (w : String) {n : Nat} (h : (Str.ofString w).length ≤ n := by decide) : FS n (Str.ofString w) := ⟨h, strOk_of w⟩
theorem app_cps {a b : Str} : (a ++ b).cps.toList = a.cps.toList ++ b.cps.toList := by
  show (Str.append a b).cps.toList = _
  first | rfl | simp [Str.append]
theorem FS.app {n m : Nat} {a b : Str} (h : FS n a) (h' : FS m b) : FS (n + m) (a ++ b) := by
  refine ⟨?_, strOk_iff.mpr fun c hc => ?_⟩
  · have := h.len
    have := h'.len
    rw [len_eq] at *
    rw [app_cps, List.length_append]; omega
  · rw [app_cps] at hc
    rcases List.mem_append.mp hc with hc | hc
    · exact strOk_iff.mp h.ok c hc
    · exact strOk_iff.mp h'.ok c hc
theorem FS.one {c : Nat} (h : c < 0x110000) : FS 1 ⟨#[c]⟩ := ⟨Nat.le_refl _, strOk_iff.mpr fun d hd => by
  have : d = c := by simpa using hd
  omega⟩
theorem FS.sub {n : Nat} {a b : Str} (h : FS n a) (hl : b.length ≤ a.length) (hm : ∀ c ∈ b.cps.toList, c ∈ a.cps.toList) : FS n b := ⟨Nat.le_trans hl h.len, strOk_iff.mpr fun c hc => strOk_iff.mp h.ok c (hm c hc)⟩
theorem cutS_cps {z : Str} {lo hi : Option Int} : (cutS z lo hi).cps.toList = (z.cps.toList.drop (HT.sIx z.length 0 lo)).take (HT.sIx z.length z.length hi - HT.sIx z.length 0 lo) := rfl
theorem cutS_mem {z : Str} {lo hi : Option Int} {c : Nat} (h : c ∈ (cutS z lo hi).cps.toList) : c ∈ z.cps.toList := by
  rw [cutS_cps] at h
  exact List.mem_of_mem_drop (List.mem_of_mem_take h)
theorem cutS_len {z : Str} {lo hi : Option Int} : (cutS z lo hi).length ≤ z.length := by
  rw [len_eq, len_eq, cutS_cps, List.length_take, List.length_drop]
  omega
theorem FS.cut {n : Nat} {z : Str} {lo hi : Option Int} (h : FS n z) : FS n (cutS z lo hi) := h.sub cutS_len fun c hc => cutS_mem hc
theorem revS_len {z : Str} : (revS z).length ≤ z.length := Txt.sliceBy_le z none none (-1, 0) (show (-1 : Int) ≠ 0 by decide)
theorem revS_mem {z : Str} {c : Nat} (h : c ∈ (revS z).cps.toList) : c ∈ z.cps.toList := by
  unfold revS Txt.sliceBy at h
  split at h
  · exact h
  · obtain ⟨i, _, e⟩ := List.mem_filterMap.mp (by simpa using h)
    rw [← Array.getElem?_toList] at e
    exact List.mem_of_getElem? e
theorem FS.rev {n : Nat} {z : Str} (h : FS n z) : FS n (revS z) := h.sub revS_len fun c hc => revS_mem hc
theorem foldl_app {β : Type} (a : Array β) : ∀ (n : Nat) (b : Array β), ((List.replicate n a).foldl (· ++ ·) b).toList = b.toList ++ (List.replicate n a.toList).flatten
  | 0, b => by simp
  | n + 1, b => by
    rw [List.replicate_succ, List.foldl_cons, foldl_app a n]
    simp [List.replicate_succ]
theorem mul_cps {z : Str} {n : Int} : ∃ k ≤ n.toNat, (Txt.mul z n).cps.toList = (List.replicate k z.cps.toList).flatten := by
  unfold Txt.mul
  split
  · exact ⟨0, Nat.zero_le _, rfl⟩
  · split
    · rename_i h1 h2
      exact ⟨1, by omega, by simp⟩
    · exact ⟨n.toNat, Nat.le_refl _, by rw [foldl_app]; simp⟩
theorem FS.mul {n k : Nat} {z : Str} {i : Int} (h : FS n z) (hi : i.toNat ≤ k) : FS (n * k) (Txt.mul z i) := by
  obtain ⟨j, hj, e⟩ := mul_cps (z := z) (n := i)
  refine ⟨?_, strOk_iff.mpr fun c hc => ?_⟩
  · rw [len_eq, e]
    simp only [List.length_flatten, List.map_replicate, List.sum_replicate_nat]
    have h1 : z.cps.toList.length ≤ n := h.len
    calc j * z.cps.toList.length ≤ k * n := Nat.mul_le_mul (by omega) h1
      _ = n * k := Nat.mul_comm _ _
  · rw [e] at hc
    obtain ⟨l, hl, hc⟩ := List.mem_flatten.mp hc
    rw [(List.mem_replicate.mp hl).2] at hc
    exact strOk_iff.mp h.ok c hc
/-- the operators on texts -/
theorem add_str {S : Sto} {n m : Nat} {a b : Str} (h : FS n a) (h' : FS m b) (hs : n + m ≤ 16777216) : o_add S (.str a) (.str b) = some (.str (a ++ b)) := by
  simp only [o_add]
  rw [if_pos (le_szL (by have := h.len; have := h'.len; omega))]
theorem mul_str {S : Sto} {n : Nat} {a : Str} {i : Int} (h : FS n a) (h0 : 0 ≤ i) (h1 : i ≤ 16777216) (hs : n * i.toNat ≤ 16777216) : o_mulA S (.str a) (.int i) = some (.str (Txt.mul a i)) := by
  simp only [o_mulA]
  rw [if_pos ⟨h1, h0, le_szL (Nat.le_trans (Nat.mul_le_mul_right _ h.len) hs)⟩]
theorem cut_str {S : Sto} {n : Nat} {a : Str} {lo hi : Option Int} (h : FS n a) (hs : n ≤ 16777216) : o_cut S (.str a) lo hi = some (.str (cutS a lo hi)) := by
  simp only [o_cut]
  rw [if_pos (le_szL (Nat.le_trans h.len hs))]
theorem cut_tup {S : Sto} {ds : List D} {lo hi : Option Int} : o_cut S (.tup ds) lo hi = some (.tup (cutL ds lo hi)) := rfl
theorem add_tup {S : Sto} {a b : List D} (h : a.length + b.length ≤ 16777216) : o_add S (.tup a) (.tup b) = some (.tup (a ++ b)) := by
  simp only [o_add]; rw [if_pos (le_szL h)]
theorem add_int {S : Sto} {i j : Int} : o_add S (.int i) (.int j) = some (.int (i + j)) := rfl
theorem sub_int {S : Sto} {i j : Int} : o_sub S (.int i) (.int j) = some (.int (i - j)) := rfl
theorem neg_int {S : Sto} {i : Int} : o_neg S (.int i) = some (.int (-i)) := rfl
theorem cmp_int {S : Sto} {f : Int → Int → Bool} {i j : Int} : o_cmp f S (.int i) (.int j) = some (.bl (f i j)) := rfl
theorem leI_int {S : Sto} {i j : Int} : o_leI S (.int i) (.int j) = some (.bl (decide (i ≤ j))) := rfl
theorem isN_non {S : Sto} {d : D} : o_is S d .non = some (.bl d.isN) := rfl
theorem notN_non {S : Sto} {d : D} : o_isnot S d .non = some (.bl (!d.isN)) := rfl
theorem inStr_one {L : Str} {c : Nat} : inStr ⟨#[c]⟩ L = decide (c ∈ L.cps.toList) := StrLaws.found_one L c
theorem inS_str {S : Sto} {x y : Str} {b : Bool} : o_inS b S (.str x) (.str y) = some (.bl (if b then !inStr x y else inStr x y)) := rfl
theorem sgns_mem {z : Str} {d : D} (h : d ∈ sgns z) : ∃ c, c ∈ z.cps.toList ∧ d = .str ⟨#[c]⟩ := by
  obtain ⟨c, hc, e⟩ := List.mem_map.mp h
  exact ⟨c, hc, e.symm⟩
theorem sgns_fd {z : Str} (h : PyData.strOk z = true) : fdL (sgns z) = true := fdL_mem.mpr fun d hd => by
  obtain ⟨c, hc, rfl⟩ := sgns_mem hd
  exact (FS.one (strOk_iff.mp h c hc)).okS (by omega)
/-! trues and ends of runs -/
theorem wpM_scP {S S' : Sto} {d : D} {Q : D → Sto → Prop} {E : Str → List (Str × D) → Sto → Prop} (h : d.pure = true) : wpM (scope S (.ok d S')) Q E = Q d (trunc S S') := by
  rw [scope_pure h]; rfl
theorem ok_eq {r : Res D} {d : D} {S : Sto} {Q : D → Sto → Prop} {E : Str → List (Str × D) → Sto → Prop} (h : r = .ok d S) (k : Q d S) : wpM r Q E := by rw [h]; exact k
end Y

end
section
set_option Elab.async false
set_option linter.all false
set_option maxRecDepth 100000
set_option maxHeartbeats 4000000
set_option autoImplicit false
/-! comprehensions, order, equality of tuples -/
namespace Y
open PySem PySem.Spec L2 PySem.W
section
variable {S : Sto}
theorem comp_mf {it : IM} {tg : TgM} {ts : TM} {el : EM} {vs : List Nat} {env : En} {all : List D} {src : List (Nat × List D)} {p : D → Bool} {f : D → D} (hit : it env S = .ok (all, src) S) (hG : ∀ X, okSrc src (S ++ X)) (hn : all.length ≤ 16777216) (hp : ∀ d ∈ all, (f d).pure = true)
    (h : ∀ d ∈ all, ∀ X, ∃ env1, tg d (wipeE env vs) = some env1 ∧ ts env1 (S ++ X) = .ok (p d) (S ++ X) ∧ (p d = true → el env1 (S ++ X) = .ok (f d) (S ++ X))) : compF it tg ts el vs env S = .ok (.lst ((all.filter p).map f)) S := by
  refine eq_of_wp ?_
  rw [wpM_compF, hit, wpM_ok]
  have okB : ∀ X, Y.okB src (S ++ X) = true := fun X => okB_iff.mpr (hG X)
  refine wpM_clp (fun i S' => S' = S ++ [some (.lst (((all.take i).filter p).map f))]) all 0 _ rfl ?_ ?_
  · rintro j d S' hj rfl
    rw [Nat.zero_add]
    obtain ⟨hjn, hjd⟩ := List.getElem?_eq_some_iff.mp hj
    obtain ⟨env1, e1, e2, e3⟩ := h d (List.mem_of_getElem? hj) [some (.lst (((all.take j).filter p).map f))]
    have et : all.take (j + 1) = all.take j ++ [d] := by rw [List.take_succ, hj]; rfl
    refine ⟨okB _, env1, e1, ?_⟩
    rw [e2, wpM_ok]
    rcases Bool.eq_false_or_eq_true (p d) with hpd | hpd
    · rw [hpd, if_pos rfl, e3 hpd, wpM_ok]
      refine ⟨((all.take j).filter p).map f, by simp, ?_, ?_⟩
      · have h1 := List.length_filter_le p (all.take j)
        rw [List.length_take] at h1
        rw [List.length_map]
        have := sizeLine_eq
        omega
      · rw [List.set_append_right _ _ (Nat.le_refl _), Nat.sub_self, List.set_cons_zero, et, List.filter_append, List.filter_cons_of_pos hpd, List.map_append]; rfl
    · rw [hpd, if_neg Bool.false_ne_true, et, List.filter_append, List.filter_cons_of_neg (by rw [hpd]; exact Bool.false_ne_true)]
      simp
  · rintro S' rfl
    refine ⟨okB _, ?_⟩
    rw [Nat.zero_add, List.take_length, List.getElem?_append_right (Nat.le_refl _), Nat.sub_self]
    simp only [List.getElem?_cons_zero]
    rw [if_pos (belL_of_pure _ (pureL_mem fun d hd => by
      obtain ⟨x, hx, rfl⟩ := List.mem_map.mp hd
      exact hp x (List.mem_filter.mp hx).1)), List.set_append_right _ _ (Nat.le_refl _), Nat.sub_self, List.set_cons_zero, trunc_self]
    exact ⟨by trivial, by trivial⟩
theorem okSrc_nilX (X : Sto) : okSrc [] (S ++ X) := okSrc_nil
theorem eq_tup2 {a b c d : Str} (h1 : PyData.strOk a = true) (h2 : PyData.strOk b = true) (h3 : PyData.strOk c = true) (h4 : PyData.strOk d = true) : o_eq S (.tup [.str a, .str b]) (.tup [.str c, .str d]) = some (.bl (a == c && b == d)) := by
  simp [o_eq, toPS, toP, toPL, SeqAt.shaped, PyData.canLay0, PyData.canLayAll0, PyData.depth, PyData.depthAll, PyData.eqv, PyData.eqvAll, h1, h2, h3, h4]
theorem le_tup2 {a b c d : Str} : o_le S (.tup [.str a, .str b]) (.tup [.str c, .str d]) = some (.bl (if (a == c) = true then (if (b == d) = true then true else strLe b d) else strLe a c)) := rfl
theorem le_tup3 {a b c d : Str} {i j : Int} : o_le S (.tup [.str a, .str b, .int i]) (.tup [.str c, .str d, .int j]) = some (.bl (if (a == c) = true then (if (b == d) = true then (if (i == j) = true then true else decide (i ≤ j)) else strLe b d) else strLe a c)) := rfl
end
end Y

end
section
set_option Elab.async false
set_option linter.all false
set_option maxRecDepth 100000
set_option maxHeartbeats 4000000
set_option autoImplicit false
/-! lists of texts, joined, sorted; comprehensions that draw from a pool -/
namespace Y
open PySem PySem.Spec L2 PySem.W
theorem sorted_ok {S : Sto} {ds : List D} {ps : List PyData} (hp : toPL ds = some ps) (h1 : AllAlike ps) (h2 : Sortable ps) (h3 : ∀ p ∈ ps, p.depth ≤ 64) : o_sorted S [.lst ds] = some (ds.mergeSort leD) := by
  simp only [o_sorted, lstOf, Option.bind_some, hp]
  rw [if_pos ⟨h1, h2, h3⟩]
theorem toPL_strs : ∀ ys : List Str, toPL (ys.map D.str) = some (ys.map PyData.str)
  | [] => rfl
  | y :: ys => by
    show (toP (.str y)).bind (fun p => (toPL (ys.map D.str)).map fun ps => p :: ps) = _
    rw [toPL_strs ys]; rfl
theorem strs_of_mem : ∀ {ds : List D}, (∀ d ∈ ds, ∃ c, d = .str ⟨#[c]⟩) → ∃ ys : List Str, ds = ys.map D.str ∧ ∀ y ∈ ys, y.length = 1
  | [], _ => ⟨[], rfl, fun y hy => by cases hy⟩
  | d :: ds, h => by
    obtain ⟨c, rfl⟩ := h d List.mem_cons_self
    obtain ⟨ys, e, hy⟩ := strs_of_mem fun x hx => h x (List.mem_cons_of_mem _ hx)
    refine ⟨⟨#[c]⟩ :: ys, by rw [e]; rfl, fun y hy' => ?_⟩
    rcases List.mem_cons.mp hy' with z | z
    · rw [z]; rfl
    · exact hy y z
theorem strsOf_strs : ∀ ys : List Str, strsOf (ys.map D.str) = some ys
  | [] => rfl
  | y :: ys => by
    show (strsOf (ys.map D.str)).map (fun l => y :: l) = _
    rw [strsOf_strs ys]; rfl
theorem sum_ones : ∀ {ys : List Str}, (∀ y ∈ ys, y.length = 1) → (ys.map (·.length)).sum = ys.length
  | [], _ => rfl
  | y :: ys, h => by
    rw [List.map_cons, List.sum_cons, h y List.mem_cons_self, sum_ones fun x hx => h x (List.mem_cons_of_mem _ hx), List.length_cons]; omega
theorem join_ones : ∀ {ys : List Str}, (∀ y ∈ ys, y.length = 1) → (Txt.join (Str.ofString "") ys).length = ys.length := fun {ys} h => by
  show (Builtin.Str.glued (Str.ofString "") ys).length = _
  rw [StrLaws.glued_eq_join]
  induction ys with
  | nil => rfl
  | cons x ys ih =>
    cases ys with
    | nil => exact h x List.mem_cons_self
    | cons y r =>
      show (x ++ Str.ofString "" ++ Str.join (Str.ofString "") (y :: r)).length = _
      rw [Str.length_append, Str.length_append, ih fun z hz => h z (List.mem_cons_of_mem _ hz), h x List.mem_cons_self]
      show 1 + 0 + _ = _
      simp only [List.length_cons]; omega
theorem join_mem0 : ∀ (ys : List Str) (c : Nat), c ∈ (Str.join (Str.ofString "") ys).cps.toList → ∃ y ∈ ys, c ∈ y.cps.toList
  | [], c, h => by cases h
  | [x], c, h => ⟨x, List.mem_cons_self, h⟩
  | x :: y :: r, c, h => by
    have h : c ∈ ((x.cps ++ (Str.ofString "").cps) ++ (Str.join (Str.ofString "") (y :: r)).cps).toList := h
    rw [Array.toList_append, Array.toList_append] at h
    rcases List.mem_append.mp h with h | h
    · rcases List.mem_append.mp h with h | h
      · exact ⟨x, List.mem_cons_self, h⟩
      · have e : (Str.ofString "").cps.toList = [] := by decide +kernel
        rw [e] at h; cases h
    · obtain ⟨z, h1, h2⟩ := join_mem0 (y :: r) c h
      exact ⟨z, List.mem_cons_of_mem _ h1, h2⟩
theorem join_mem {ys : List Str} {c : Nat} (h : c ∈ (Txt.join (Str.ofString "") ys).cps.toList) : ∃ y ∈ ys, c ∈ y.cps.toList := by
  have h : c ∈ (Builtin.Str.glued (Str.ofString "") ys).cps.toList := h
  rw [StrLaws.glued_eq_join] at h
  exact join_mem0 ys c h
theorem listA_str {S : Sto} {z : Str} (h : z.cps.size ≤ sizeLine) : o_listA S [.str z] = some (sgns z) := by
  simp only [o_listA]
  rw [if_pos h]
theorem sorted_strs {S : Sto} {ys : List Str} {ds : List D} (h : ds = ys.map D.str) : o_sorted S [.lst ds] = some (ds.mergeSort leD) := by
  refine sorted_ok (ps := ys.map PyData.str) (by rw [h, toPL_strs]) (AllAlike.of (enc := PyData.str) fun a b => by simp [alike]) (Sortable.others (enc := PyData.str) fun b => ⟨by simp, fun xs => by simp⟩) (fun p hp => ?_)
  obtain ⟨y, _, rfl⟩ := List.mem_map.mp hp
  simp [PyData.depth]
/-- "".join of single signs -/
theorem join_signs {S : Sto} {x : D} {ds : List D} (hx : seqOf S x = some ds) (h : ∀ d ∈ ds, ∃ c, d = .str ⟨#[c]⟩) (hl : ds.length ≤ 16777216) :
    ∃ z : Str, m_join S (.str (Str.ofString "")) [x] = some (.str z, S) ∧ z.length = ds.length ∧ ∀ c ∈ z.cps.toList, D.str ⟨#[c]⟩ ∈ ds := by
  obtain ⟨ys, e, hy⟩ := strs_of_mem h
  refine ⟨Txt.join (Str.ofString "") ys, ?_, ?_, fun c hc => ?_⟩
  · simp only [m_join, hx, Option.bind_some, e, strsOf_strs, sum_ones hy]
    rw [if_pos]
    have : ys.length = ds.length := by rw [e, List.length_map]
    show ys.length + ys.length * 0 ≤ 16777216
    omega
  · rw [join_ones hy, e, List.length_map]
  · obtain ⟨y, y1, y2⟩ := join_mem hc
    have hm : D.str y ∈ ds := by rw [e]; exact List.mem_map_of_mem y1
    obtain ⟨c', q⟩ := h _ hm
    cases q
    have : c = c' := by simpa using y2
    rw [this]; exact hm
theorem wpM_yesT {env : En} {S : Sto} {Q : Bool → Sto → Prop} {E : Str → List (Str × D) → Sto → Prop} : wpM (yesT env S) Q E = Q true S := rfl
theorem comp_pool {it : IM} {tg : TgM} {el : EM} {vs : List Nat} {env : En} {rest S : Sto} {A : List D → Prop} {R : D → Prop} {Q : D → Sto → Prop} {E : Str → List (Str × D) → Sto → Prop}
    (hit : wpM (it env S) (fun p S1 => p.2 = [] ∧ PP rest S1 ∧ p.1.length ≤ 16777216 ∧ A p.1) E)
    (step : ∀ all, A all → ∀ d ∈ all, ∀ X S', PP (rest ++ X) S' → ∃ env1, tg d (wipeE env vs) = some env1 ∧ wpM (el env1 S') (fun x S2 => R x ∧ x.pure = true ∧ PP (rest ++ X) S2) (fun _ _ _ => False))
    (k : ∀ all acc S', A all → PP rest S' → acc.length = all.length → (∀ d ∈ acc, R d) → Q (.lst acc) S') : wpM (compF it tg yesT el vs env S) Q E := by
  rw [wpM_compF]
  refine wpM_mono' hit ?_
  rintro ⟨all, src⟩ S1 ⟨rfl, hS, hn, hA⟩
  simp only
  have hn : all.length ≤ 16777216 := hn
  have hlen := hS.len
  refine wpM_clp (fun i S' => ∃ acc, PP (rest ++ [some (.lst acc)]) S' ∧ acc.length = i ∧ ∀ d ∈ acc, R d ∧ d.pure = true) all 0 _ ⟨[], hS.app, rfl, fun d hd => by cases hd⟩ ?_ ?_
  · rintro j d S' hj ⟨acc, hS', hl, hR⟩
    rw [Nat.zero_add] at hl ⊢
    obtain ⟨hjn, _⟩ := List.getElem?_eq_some_iff.mp hj
    obtain ⟨env1, e1, e2⟩ := step all hA d (List.mem_of_getElem? hj) _ S' hS'
    refine ⟨okB_nil, env1, e1, ?_⟩
    rw [wpM_yesT, if_pos rfl]
    refine wpM_mono' e2 ?_
    rintro x S2 ⟨r, p, h2⟩
    have g := h2.getX (j := 0)
    have st := h2.setX (j := 0) (o := some (.lst (acc ++ [x])))
    rw [Nat.add_zero] at g st
    rw [← hlen] at g st
    refine ⟨acc, g, ?_, acc ++ [x], st, by rw [List.length_append, List.length_singleton, hl], fun y hy => ?_⟩
    · have := sizeLine_eq
      omega
    · rcases List.mem_append.mp hy with hy | hy
      · exact hR y hy
      · rw [List.mem_singleton.mp hy]; exact ⟨r, p⟩
  · rintro S' ⟨acc, hS', hl, hR⟩
    refine ⟨okB_nil, ?_⟩
    have g := hS'.getX (j := 0)
    have st := hS'.setX (j := 0) (o := none)
    rw [Nat.add_zero] at g st
    rw [← hlen] at g st
    rw [show S'[S1.length]? = some (some (.lst acc)) from g]
    simp only
    rw [if_pos (belL_of_pure _ (pureL_mem fun d hd => (hR d hd).2))]
    exact k all acc _ hA (hS.trunc st) (by omega) fun d hd => (hR d hd).1
/-- a range of a drawn length -/
theorem rg_ok {S : Sto} {n : Nat} {l : LM} {env : En} {S1 : Sto} {Q : List D × List (Nat × List D) → Sto → Prop} {E : Str → List (Str × D) → Sto → Prop} (hl : l env S = .ok [.int (n : Int)] S1) (hn : n ≤ 16777216) (k : Q (rgL 0 n, []) S1) : wpM (i_rg1 l env S) Q E := by
  unfold i_rg1
  rw [wpM_bdE, hl, wpM_ok]
  simp only
  rw [if_pos (by omega), wpM_ok]
  exact k
end Y

end
section
set_option Elab.async false
set_option linter.all false
set_option maxRecDepth 100000
set_option maxHeartbeats 4000000
set_option autoImplicit false
/-! what an expression gives, by kinds: I holds of the store before and after -/
namespace Y
open PySem PySem.Spec L2 PySem.W
def NoX : Str → List (Str × D) → Sto → Prop := fun _ _ _ => False
def J (I : Sto → Prop) (env : En) (m : EM) (P : D → Prop) : Prop := ∀ S, I S → wpM (m env S) (fun d S1 => P d ∧ I S1) NoX
def JL (I : Sto → Prop) (env : En) (l : LM) (P : List D → Prop) : Prop := ∀ S, I S → wpM (l env S) (fun d S1 => P d ∧ I S1) NoX
def JO (I : Sto → Prop) (env : En) (o : OM) : Prop := ∀ S, I S → wpM (o env S) (fun _ S1 => I S1) NoX
def IsS (n : Nat) (d : D) : Prop := ∃ z, d = .str z ∧ FS n z
def IsI (lo hi : Int) (d : D) : Prop := ∃ v, d = .int v ∧ lo ≤ v ∧ v ≤ hi
def Fd (d : D) : Prop := fd d = true
def FdL (k : Nat) (d : D) : Prop := ∃ ds, d = .lst ds ∧ fdL ds = true ∧ ds.length ≤ k
def FL (k : Nat) (ds : List D) : Prop := fdL ds = true ∧ ds.length ≤ k
section
variable {I : Sto → Prop} {env : En} {m a b : EM} {l : LM} {lo hi : OM} {P A B : D → Prop} {PL : List D → Prop} {n k : Nat}
theorem wpM_noX {α : Type} {r : Res α} {Q Q' : α → Sto → Prop} {E : Str → List (Str × D) → Sto → Prop} (h : wpM r Q NoX) (hq : ∀ a S, Q a S → Q' a S) : wpM r Q' E := wpM_mono h hq fun _ _ _ h => h.elim
theorem J.use {S : Sto} {Q : D → Sto → Prop} {E : Str → List (Str × D) → Sto → Prop} (h : J I env m P) (hS : I S) (k : ∀ d S', P d → I S' → Q d S') : wpM (m env S) Q E := wpM_noX (h S hS) fun a S q => k a S q.1 q.2
theorem J.mono (h : J I env m A) (hp : ∀ d, A d → P d) : J I env m P := fun S hS => wpM_mono' (h S hS) fun a S q => ⟨hp a q.1, q.2⟩
theorem J_vr {i : Nat} {d : D} (h : env[i]? = some (some d)) (p : P d) : J I env (vr i) P := fun S hS => by
  rw [wpM_vr, h]; exact ⟨p, hS⟩
theorem J_ct {d : D} (p : P d) : J I env (ct d) P := fun S hS => ⟨p, hS⟩
theorem J_op2 {f : Sto → D → D → Option D} (ha : J I env a A) (hb : J I env b B) (h : ∀ S x y, A x → B y → ∃ d, f S x y = some d ∧ P d) : J I env (op2 f a b) P := fun S hS => by
  rw [wpM_op2]
  refine wpM_mono' (ha S hS) ?_
  rintro x S1 ⟨hx, h1⟩
  refine wpM_mono' (hb S1 h1) ?_
  rintro y S2 ⟨hy, h2⟩
  obtain ⟨d, e, p⟩ := h S2 x y hx hy
  rw [e]; exact ⟨p, h2⟩
theorem J_op1 {f : Sto → D → Option D} (ha : J I env a A) (h : ∀ S x, A x → ∃ d, f S x = some d ∧ P d) : J I env (op1 f a) P := fun S hS => by
  rw [wpM_op1]
  refine wpM_mono' (ha S hS) ?_
  rintro x S1 ⟨hx, h1⟩
  obtain ⟨d, e, p⟩ := h S1 x hx
  rw [e]; exact ⟨p, h1⟩
theorem JO_ono : JO I env onoM := fun S hS => hS
theorem JO_osm {x y : Int} (h : J I env m (IsI x y)) : JO I env (osmM m) := fun S hS => by
  rw [wpM_osm]
  refine wpM_mono' (h S hS) ?_
  rintro d S1 ⟨⟨v, rfl, _⟩, h1⟩
  exact h1
theorem J_cut {f : Sto → D → Option Int → Option Int → Option D} (ha : J I env a A) (hlo : JO I env lo) (hhi : JO I env hi) (h : ∀ S x i j, A x → ∃ d, f S x i j = some d ∧ P d) : J I env (cut f a lo hi) P := fun S hS => by
  rw [wpM_cut]
  refine wpM_mono' (ha S hS) ?_
  rintro x S1 ⟨hx, h1⟩
  refine wpM_mono' (hlo S1 h1) ?_
  intro i S2 h2
  refine wpM_mono' (hhi S2 h2) ?_
  intro j S3 h3
  obtain ⟨d, e, p⟩ := h S3 x i j hx
  rw [e]; exact ⟨p, h3⟩
theorem JL_nil (p : PL []) : JL I env lnil PL := fun S hS => ⟨p, hS⟩
theorem JL_cons {PR : List D → Prop} (ha : J I env a A) (hr : JL I env l PR) (h : ∀ x xs, A x → PR xs → PL (x :: xs)) : JL I env (lcons a l) PL := fun S hS => by
  rw [wpM_lcons]
  refine wpM_mono' (ha S hS) ?_
  rintro x S1 ⟨hx, h1⟩
  refine wpM_mono' (hr S1 h1) ?_
  rintro xs S2 ⟨hxs, h2⟩
  exact ⟨h x xs hx hxs, h2⟩
theorem JL.mono {PA : List D → Prop} (h : JL I env l PA) (hp : ∀ d, PA d → PL d) : JL I env l PL := fun S hS => wpM_mono' (h S hS) fun a S q => ⟨hp a q.1, q.2⟩
theorem FL_nil : JL I env lnil (FL 0) := JL_nil ⟨rfl, Nat.le_refl _⟩
theorem FL_cons (ha : J I env a Fd) (hr : JL I env l (FL k)) : JL I env (lcons a l) (FL (k + 1)) := JL_cons ha hr fun x xs hx hr => ⟨by rw [fdL_cons, show fd x = true from hx, hr.1]; rfl, by rw [List.length_cons]; exact Nat.succ_le_succ hr.2⟩
theorem J_tupF (h : JL I env l (FL k)) (hk : k ≤ 1000) : J I env (tupE l) Fd := fun S hS => by
  rw [wpM_tupE]
  refine wpM_mono' (h S hS) ?_
  rintro ds S1 ⟨hd, h1⟩
  rw [if_pos (le_szL (Nat.le_trans hd.2 (by omega)))]
  exact ⟨hd.1, h1⟩
theorem J_lstF (h : JL I env l (FL k)) (hk : k ≤ 1000) : J I env (frz (lstF l)) (FdL k) := fun S hS => by
  rw [wpM_frz, wpM_lstF]
  refine wpM_mono' (h S hS) ?_
  rintro ds S1 ⟨hd, h1⟩
  rw [if_pos (le_szL (Nat.le_trans hd.2 (by omega)))]
  exact ⟨⟨ds, rfl, hd.1, hd.2⟩, h1⟩
theorem J_cat (ha : J I env a (FdL n)) (hb : J I env b (FdL k)) (hk : n + k ≤ 1000000) : J I env (frz (catF a b)) (FdL (n + k)) := fun S hS => by
  rw [wpM_frz, wpM_catF]
  refine wpM_mono' (ha S hS) ?_
  rintro x S1 ⟨⟨ds, rfl, q1, q2⟩, h1⟩
  refine wpM_mono' (hb S1 h1) ?_
  rintro y S2 ⟨⟨es, rfl, q3, q4⟩, h2⟩
  simp only [lstOf, Option.bind_some]
  rw [if_pos (le_szL (by omega))]
  exact ⟨⟨_, rfl, by rw [fdL_app, q1, q3]; rfl, by rw [List.length_append]; omega⟩, h2⟩
theorem Fd_lst (h : J I env m (FdL k)) : J I env m Fd := h.mono fun d ⟨ds, e, q, _⟩ => by rw [e]; exact q
theorem Fd_str (h : J I env m (IsS n)) (hn : n ≤ 1000000) : J I env m Fd := h.mono fun d ⟨z, e, q⟩ => by rw [e]; exact q.okS hn
theorem Fd_int {x y : Int} (h : J I env m (IsI x y)) : J I env m Fd := h.mono fun d ⟨z, e, q⟩ => by rw [e]; rfl
theorem JS_vr {i : Nat} {z : Str} (h : env[i]? = some (some (.str z))) (p : FS n z) : J I env (vr i) (IsS n) := J_vr h ⟨z, rfl, p⟩
theorem JS_ct {w : String} (h : (Str.ofString w).length ≤ n) : J I env (ct (.str (Str.ofString w))) (IsS n) := J_ct ⟨_, rfl, h, strOk_of w⟩
theorem JS_add (ha : J I env a (IsS n)) (hb : J I env b (IsS k)) (h : n + k ≤ 1000000) : J I env (op2 o_add a b) (IsS (n + k)) := J_op2 ha hb fun S x y ⟨z, e1, p⟩ ⟨u, e2, q⟩ => by
  subst e1 e2
  exact ⟨_, add_str p q (by omega), _, rfl, p.app q⟩
theorem JS_cut (ha : J I env a (IsS n)) (hlo : JO I env lo) (hhi : JO I env hi) (h : n ≤ 1000000) : J I env (cut o_cut a lo hi) (IsS n) := J_cut ha hlo hhi fun S x i j ⟨z, e1, p⟩ => by
  subst e1
  exact ⟨_, cut_str p (by omega), _, rfl, p.cut⟩
theorem JS_rev (ha : J I env a (IsS n)) (h : n ≤ 1000000) : J I env (revA a) (IsS n) := fun S hS => by
  rw [wpM_revA]
  refine wpM_mono' (ha S hS) ?_
  rintro x S1 ⟨⟨z, rfl, p⟩, h1⟩
  simp only
  rw [if_pos (le_szL (Nat.le_trans p.len (by omega)))]
  exact ⟨⟨_, rfl, p.rev⟩, h1⟩
theorem JS_mul {i : Int} (ha : J I env a (IsS n)) (h0 : 0 ≤ i) (h1 : i ≤ 100000) (h2 : n * i.toNat ≤ 1000000) : J I env (op2 o_mulA a (ct (.int i))) (IsS (n * i.toNat)) := J_op2 ha (J_ct (P := fun d => d = .int i) rfl) fun S x y ⟨z, e1, p⟩ e2 => by
  subst e1 e2
  exact ⟨_, mul_str p h0 (by omega) (by omega), _, rfl, p.mul (Nat.le_refl _)⟩
theorem JI_vr {i : Nat} {v x y : Int} (h : env[i]? = some (some (.int v))) (p : x ≤ v) (q : v ≤ y) : J I env (vr i) (IsI x y) := J_vr h ⟨v, rfl, p, q⟩
theorem JI_ct {v : Int} : J I env (ct (.int v)) (IsI v v) := J_ct ⟨v, rfl, Int.le_refl _, Int.le_refl _⟩
theorem JI_add {x y x' y' : Int} (ha : J I env a (IsI x y)) (hb : J I env b (IsI x' y')) : J I env (op2 o_add a b) (IsI (x + x') (y + y')) := J_op2 ha hb fun S u v ⟨z, e1, p⟩ ⟨w, e2, q⟩ => by
  subst e1 e2
  exact ⟨_, rfl, _, rfl, by omega, by omega⟩
theorem JI_sub {x y x' y' : Int} (ha : J I env a (IsI x y)) (hb : J I env b (IsI x' y')) : J I env (op2 o_sub a b) (IsI (x - y') (y - x')) := J_op2 ha hb fun S u v ⟨z, e1, p⟩ ⟨w, e2, q⟩ => by
  subst e1 e2
  exact ⟨_, rfl, _, rfl, by omega, by omega⟩
theorem JI_neg {x y : Int} (ha : J I env a (IsI x y)) : J I env (op1 o_neg a) (IsI (-y) (-x)) := J_op1 ha fun S u ⟨z, e1, p⟩ => by
  subst e1
  exact ⟨_, rfl, _, rfl, by omega, by omega⟩
theorem ix_lst {ds : List D} {v : Int} (h0 : 0 ≤ v) (h1 : v < (ds.length : Int)) : ∃ d, d ∈ ds ∧ ∀ S, o_ix S (.lst ds) (.int v) = some d := by
  obtain ⟨i, rfl⟩ := Int.eq_ofNat_of_zero_le h0
  have hi : i < ds.length := by omega
  exact ⟨ds[i], List.getElem_mem hi, fun S => atI_nat (List.getElem?_eq_getElem hi)⟩
/-- statements -/
theorem asg_J {i : Nat} {r : SM} {S : Sto} {K : SK} (h : J I env m P) (hS : I S) (k : ∀ d S', P d → I S' → wS (r (env.set i (some d)) S') K) : wS (seqS (asg (tgN i) m) r env S) K := by
  rw [wS_seq, wS_asg]
  exact h.use hS fun d S' hd hS' => k d S' hd hS'
theorem exS_J {r : SM} {S : Sto} {K : SK} (h : J I env m P) (hS : I S) (k : ∀ d S', P d → I S' → wS (r env S') K) : wS (seqS (exS m) r env S) K := by
  rw [wS_seq, wS_exS]
  exact h.use hS k
end
end Y

end
section
set_option Elab.async false
set_option linter.all false
set_option maxRecDepth 100000
set_option maxHeartbeats 4000000
set_option autoImplicit false
/-! tuples of data; a list that grows -/
namespace Y
open PySem PySem.Spec L2 PySem.W PySem.Builtin
/-- simp only with the rules of Cg: mkR_eq stays in each -/
def IsT (n : Nat) (d : D) : Prop := ∃ ds, d = .tup ds ∧ fdL ds = true ∧ ds.length ≤ n
section
variable {I : Sto → Prop} {env : En} {m a b el : EM} {l : LM} {lo hi : OM} {P A B : D → Prop} {n k : Nat} {r S : Sto} {K : SK} {rest : SM} {i : Nat}
theorem Fd_tup (h : J I env m (IsT k)) : J I env m Fd := h.mono fun d ⟨ds, e, q, _⟩ => by rw [e]; exact q
theorem JT_vr {ds : List D} (h : env[i]? = some (some (.tup ds))) (hd : fdL ds = true) (hl : ds.length ≤ n) : J I env (vr i) (IsT n) := J_vr h ⟨ds, rfl, hd, hl⟩
theorem JT_tup (h : JL I env l (FL k)) (hk : k ≤ 1000) : J I env (tupE l) (IsT k) := fun S hS => by
  rw [wpM_tupE]
  refine wpM_mono' (h S hS) ?_
  rintro ds S1 ⟨hd, h1⟩
  rw [if_pos (le_szL (Nat.le_trans hd.2 (by omega)))]
  exact ⟨⟨ds, rfl, hd.1, hd.2⟩, h1⟩
theorem JT_add (ha : J I env a (IsT n)) (hb : J I env b (IsT k)) (h : n + k ≤ 1000000) : J I env (op2 o_add a b) (IsT (n + k)) := J_op2 ha hb fun S x y ⟨z, e1, p, q⟩ ⟨u, e2, p', q'⟩ => by
  subst e1 e2
  exact ⟨_, add_tup (by omega), _, rfl, by rw [fdL_app, p, p']; rfl, by rw [List.length_append]; omega⟩
theorem JT_cut (ha : J I env a (IsT n)) (hlo : JO I env lo) (hhi : JO I env hi) : J I env (cut o_cut a lo hi) (IsT n) := J_cut ha hlo hhi fun S x i j ⟨z, e1, p, q⟩ => by
  subst e1
  exact ⟨_, cut_tup, _, rfl, fdL_cut p, Nat.le_trans cutL_len q⟩
theorem JT_rev (ha : J I env a (IsT n)) : J I env (revA a) (IsT n) := fun S hS => by
  rw [wpM_revA]
  refine wpM_mono' (ha S hS) ?_
  rintro x S1 ⟨⟨z, rfl, p, q⟩, h1⟩
  exact ⟨⟨_, rfl, fdL_rev p, by rw [List.length_reverse]; exact q⟩, h1⟩
/-- one of a tuple at a place -/
theorem J_ixT {ds : List D} {v : Int} {j : Nat} (h : env[i]? = some (some (.tup ds))) (hj : env[j]? = some (some (.int v))) (h0 : 0 ≤ v) (h1 : v < (ds.length : Int)) (hp : ∀ d ∈ ds, P d) : J I env (op2 o_ix (vr i) (vr j)) P :=
  J_op2 (J_vr (P := fun d => d = .tup ds) h rfl) (J_vr (P := fun d => d = .int v) hj rfl) fun S x y e1 e2 => by
    subst e1 e2
    obtain ⟨k, rfl⟩ := Int.eq_ofNat_of_zero_le h0
    have hk : k < ds.length := by omega
    exact ⟨ds[k], ixT (List.getElem?_eq_getElem hk), hp _ (List.getElem_mem hk)⟩
theorem J_lenT {ds : List D} (h : env[i]? = some (some (.tup ds))) : J I env (calB o_len (lcons (vr i) lnil)) (fun d => d = .int ds.length) := fun S hS => by
  simp only [wpM_calB, wpM_lcons, wpM_lnil, wpM_vr, h, len_tup, wpM_lfS]
  exact ⟨by trivial, hS⟩
theorem J_listT {ds : List D} (h : env[i]? = some (some (.tup ds))) (hd : fdL ds = true) (hl : ds.length ≤ n) : J I env (frz (calF o_listA (lcons (vr i) lnil))) (FdL n) := fun S hS => by
  have e : o_listA S [.tup ds] = some ds := rfl
  rw [wpM_frz, wpM_calF, wpM_lcons, wpM_vr, h]
  simp only [wpM_lnil, e, wpM_lfS]
  exact ⟨⟨ds, rfl, hd, hl⟩, hS⟩
/-! a list that grows -/
theorem PP.last {o : Option Ob} (h : PP (r ++ [o]) S) : S[r.length + 2]? = some o := h.getX (j := 0)
theorem PP.setLast {o o' : Option Ob} (h : PP (r ++ [o]) S) : PP (r ++ [o']) (S.set (r.length + 2) o') := h.setX (j := 0)
def LI (r : Sto) (k : Nat) (S : Sto) : Prop := ∃ ds, PP (r ++ [some (.lst ds)]) S ∧ fdL ds = true ∧ ds.length ≤ k
theorem LI.mono (h : LI r k S) (hk : k ≤ n) : LI r n S := let ⟨ds, a, b, c⟩ := h; ⟨ds, a, b, Nat.le_trans c hk⟩
theorem J_ex (h : ∀ ds, J (PP (r ++ [some (.lst ds)])) env m P) : J (LI r k) env m P := fun S ⟨ds, hS, h1, h2⟩ => wpM_mono' (h ds S hS) fun x S1 q => ⟨q.1, ds, q.2, h1, h2⟩
theorem newF_J {l : LM} (h : ∀ S, PP r S → wpM (l env S) (fun ds S1 => FL k ds ∧ PP r S1) NoX) (hS : PP r S) (q : ∀ S', LI r k S' → wS (rest (env.set i (some (.ref (r.length + 2)))) S') K) : wS (seqS (asg (tgN i) (new l)) rest env S) K := by
  rw [wS_seq, wS_asg, wpM_new]
  refine wpM_noX (h S hS) ?_
  rintro ds S1 ⟨h1, hS1⟩
  rw [hS1.len]
  exact q _ ⟨ds, hS1.app, h1.1, h1.2⟩
theorem F_lst {l : LM} (h : JL I env l (FL k)) (hk : k ≤ 1000) : ∀ S, I S → wpM (lstF l env S) (fun ds S1 => FL k ds ∧ I S1) NoX := fun S hS => by
  rw [wpM_lstF]
  refine wpM_mono' (h S hS) ?_
  rintro ds S1 ⟨hd, h1⟩
  rw [if_pos (le_szL (Nat.le_trans hd.2 (by omega)))]
  exact ⟨hd, h1⟩
/-- the list at i, then more -/
theorem newC_J (hi : env[i]? = some (some (.ref (r.length + 2)))) (hb : ∀ ds, J (PP (r ++ [some (.lst ds)])) env b (FdL n)) (hS : LI r k S) (hk : k + n ≤ 1000000) (q : ∀ r' S', LI r' (k + n) S' → (∃ ds, r' = r ++ [some (.lst ds)]) → wS (rest (env.set i (some (.ref (r'.length + 2)))) S') K) : wS (seqS (asg (tgN i) (new (catF (vr i) b))) rest env S) K := by
  obtain ⟨ds, hS, h1, h2⟩ := hS
  rw [wS_seq, wS_asg, wpM_new, wpM_catF, wpM_vr, hi]
  simp only
  refine wpM_noX (hb ds S hS) ?_
  rintro x S1 ⟨⟨es, rfl, h3, h4⟩, hS1⟩
  have g := hS1.last
  simp only [lstOf, g, Option.bind_some]
  rw [if_pos (le_szL (by omega)), wpM_lfS, hS1.len]
  exact q _ _ ⟨_, hS1.app, by rw [fdL_app, h1, h3]; rfl, by rw [List.length_append]; omega⟩ ⟨ds, rfl⟩
theorem J_catR (hi : env[i]? = some (some (.ref (r.length + 2)))) (hb : ∀ ds, J (PP (r ++ [some (.lst ds)])) env b (FdL n)) (hk : k + n ≤ 1000000) : J (LI r k) env (frz (catF (vr i) b)) (FdL (k + n)) := fun S ⟨ds, hS, h1, h2⟩ => by
  rw [wpM_frz, wpM_catF, wpM_vr, hi]
  simp only
  refine wpM_mono' (hb ds S hS) ?_
  rintro x S1 ⟨⟨es, rfl, h3, h4⟩, hS1⟩
  have g := hS1.last
  simp only [lstOf, g, Option.bind_some]
  rw [if_pos (le_szL (by omega)), wpM_lfS]
  exact ⟨⟨_, rfl, by rw [fdL_app, h1, h3]; rfl, by rw [List.length_append]; omega⟩, ds, hS1, h1, h2⟩
theorem appE_J (hi : env[i]? = some (some (.ref (r.length + 2)))) (he : ∀ ds, J (PP (r ++ [some (.lst ds)])) env el Fd) (hS : LI r k S) (hk : k < 1000000) (q : ∀ S', LI r (k + 1) S' → K.nx env S') : wS (exS (meth "list" m_append (vr i) (lcons el lnil)) env S) K := by
  obtain ⟨ds, hS, h1, h2⟩ := hS
  rw [wS_exS, wpM_meth, wpM_vr, hi]
  simp only
  rw [if_pos (tyL hS.last), wpM_lcons]
  refine wpM_noX (he ds S hS) ?_
  rintro x S1 ⟨hx, hS1⟩
  rw [wpM_lnil, app_at hS1.last (Nat.lt_of_lt_of_le (show ds.length < 1000001 by omega) (le_sz rfl))]
  exact q _ ⟨_, hS1.setLast, by rw [fdL_app, h1, fdL_cons, show fd x = true from hx]; rfl, by rw [List.length_append, List.length_singleton]; omega⟩
theorem app_J (hi : env[i]? = some (some (.ref (r.length + 2)))) (he : ∀ ds, J (PP (r ++ [some (.lst ds)])) env el Fd) (hS : LI r k S) (hk : k < 1000000) (q : ∀ S', LI r (k + 1) S' → wS (rest env S') K) : wS (seqS (exS (meth "list" m_append (vr i) (lcons el lnil))) rest env S) K := by
  rw [wS_seq]
  exact appE_J hi he hS hk q
end
theorem wS_ifT {c : TM} {a b : SM} {env : En} {S : Sto} {K : SK} (h : c env S = .ok true S) (k : wS (a env S) K) : wS (ifS c a b env S) K := by
  rw [wS_if, h]; exact k
theorem wS_ifF {c : TM} {a b : SM} {env : En} {S : Sto} {K : SK} (h : c env S = .ok false S) (k : wS (b env S) K) : wS (ifS c a b env S) K := by
  rw [wS_if, h]; exact k
/-! upper -/
theorem upper_cps {z : Str} : (Txt.upper z).cps.toList = (z.cps.toList.map Unicode.upperOf).flatten := by
  show (placed z fun _ c => Unicode.upperOf c).toList = _
  unfold placed
  rw [Array.toList_flatten]
  congr 1
  apply List.ext_getElem?
  intro i
  simp [List.getElem?_mapIdx]
  cases z.cps[i]? <;> simp
end Y

end
section
set_option Elab.async false
set_option linter.all false
set_option maxRecDepth 100000
set_option maxHeartbeats 4000000
set_option autoImplicit false
/-! dict comprehensions; texts joined; one thing held against itself -/
namespace Y
open PySem PySem.Spec L2 PySem.W
section
variable {E : Str → List (Str × D) → Sto → Prop}
theorem wpM_dcp {tg : TgM} {mk mv : EM} {env0 : En} {n0 : Nat} {G : Sto → Bool} {Q : Unit → Sto → Prop} (I : Nat → Sto → Prop) : ∀ (all : List D) (i : Nat) (S : Sto), I i S → (∀ j d S, all[j]? = some d → I (i + j) S → G S = true ∧ ∃ env1, tg d env0 = some env1 ∧ wpM (mk env1 S) (fun k S1 => wpM (mv env1 S1) (fun x S2 => ∃ S3, dPutD S2 (.ref n0) k x = some S3 ∧ I (i + j + 1) S3) NoX) NoX) →
    (∀ S, I (i + all.length) S → G S = true ∧ Q () S) → wpM (dcp tg mk mv env0 n0 G all S) Q E
  | [], i, S, h, hs, hd => by
    obtain ⟨h1, h2⟩ := hd S h
    unfold dcp
    rw [if_pos h1]; exact h2
  | d :: ds, i, S, h, hs, hd => by
    obtain ⟨h1, env1, h2, h3⟩ := hs 0 d S rfl h
    unfold dcp
    rw [if_pos h1, h2]
    simp only
    have next : ∀ S1, I (i + 1) S1 → wpM (dcp tg mk mv env0 n0 G ds S1) Q E := fun S1 h' => wpM_dcp I ds (i + 1) S1 h' (fun j d' S hj hI => by
      have := hs (j + 1) d' S hj (by rw [show i + (j + 1) = i + 1 + j by omega]; exact hI)
      rw [show i + (j + 1) + 1 = i + 1 + j + 1 by omega] at this
      exact this) fun S h' => hd S (by rw [List.length_cons, show i + (ds.length + 1) = i + 1 + ds.length by omega]; exact h')
    revert h3
    cases mk env1 S with
    | ok k S1 =>
      intro h3
      have h3 : wpM (mv env1 S1) (fun x S2 => ∃ S3, dPutD S2 (.ref n0) k x = some S3 ∧ I (i + 0 + 1) S3) NoX := h3
      revert h3
      simp only
      cases mv env1 S1 with
      | ok x S2 =>
        rintro ⟨S3, e, h4⟩
        simp only [e]
        exact next S3 h4
      | exc c fs S2 => exact fun h3 => h3.elim
      | err => exact fun h3 => h3.elim
    | exc c fs S1 => exact fun h3 => h3.elim
    | err => exact fun h3 => h3.elim
end
/-- at the end of a store -/
theorem end_at {S : Sto} {o : Option Ob} : (S ++ [o])[S.length]? = some o := by simp
theorem end_set {S : Sto} {o o' : Option Ob} : (S ++ [o]).set S.length o' = S ++ [o'] := by simp
theorem putT_at {S : Sto} {n : Nat} {kvs : List (List Key × D)} {ds : List D} {ks : List Key} {d : D} (h : S[n]? = some (some (.dT kvs))) (hk : keysD ds = some ks) (hl : kvs.length < sizeLine) : dPutT S (.ref n) ds d = some (S.set n (some (.dT (putD kvs ks d)))) := by
  simp only [dPutT, h, hk, Option.bind_some]
  rw [if_pos hl]
theorem getT_at {S : Sto} {n : Nat} {kvs : List (List Key × D)} {ds : List D} {ks : List Key} (h : S[n]? = some (some (.dT kvs))) (hk : keysD ds = some ks) : dGetT S (.ref n) ds = some (valD kvs ks) := by
  simp only [dGetT, h, hk, Option.map_some]
theorem keys2 {a b : Str} : keysD [.str a, .str b] = some [.inr a, .inr b] := rfl
theorem put_len {κ : Type} [DecidableEq κ] {kvs : List (κ × D)} {k : κ} {d : D} : (putD kvs k d).length ≤ kvs.length + 1 := by
  unfold putD
  split
  · rw [List.length_map]; omega
  · rw [List.length_append]; exact Nat.le_refl _
theorem get_put {κ : Type} [DecidableEq κ] {kvs : List (κ × D)} {k j : κ} {d : D} : valD (putD kvs k d) j = if j = k then some d else valD kvs j := by
  unfold putD valD
  by_cases h : (kvs.any fun kv => decide (kv.1 = k)) = true
  · rw [if_pos h]
    induction kvs with
    | nil => cases h
    | cons p kvs ih =>
      rw [List.map_cons, List.find?_cons, List.find?_cons]
      by_cases hp : p.1 = k
      · rw [if_pos hp]
        by_cases hj : j = k
        · subst hj; simp [hp]
        · rw [if_neg hj]
          simp only [hp, decide_eq_false (fun e : k = j => hj e.symm)]
          by_cases ha : (kvs.any fun kv => decide (kv.1 = k)) = true
          · have := ih ha
            rw [if_neg hj] at this
            exact this
          · have e : (kvs.map fun kv => if kv.1 = k then (kv.1, d) else kv) = kvs := by
              have hb : ∀ q ∈ kvs, ¬ q.1 = k := fun q hq e => ha (List.any_eq_true.mpr ⟨q, hq, decide_eq_true e⟩)
              exact (List.map_congr_left (fun q hq => if_neg (hb q hq))).trans (List.map_id _)
            rw [e]
      · rw [if_neg hp]
        have ha : (kvs.any fun kv => decide (kv.1 = k)) = true := by
          rw [List.any_cons, decide_eq_false hp, Bool.false_or] at h; exact h
        by_cases hj : p.1 = j
        · simp only [decide_eq_true hj]
          rw [if_neg (fun e => hp (by rw [hj, e]))]
        · simp only [decide_eq_false hj]
          exact ih ha
  · rw [if_neg h]
    have hb : ∀ q ∈ kvs, ¬ q.1 = k := fun q hq e => h (List.any_eq_true.mpr ⟨q, hq, decide_eq_true e⟩)
    rw [List.find?_append]
    by_cases hj : j = k
    · subst hj
      rw [if_pos rfl, List.find?_eq_none.mpr fun q hq => by simp [hb q hq]]
      simp
    · rw [if_neg hj]
      have : (decide (k = j)) = false := decide_eq_false fun e => hj e.symm
      cases e : kvs.find? fun kv => decide (kv.1 = j) with
      | none => simp [this]
      | some q => simp
/-! "".join of texts -/
theorem join_len {ys : List Str} : (Txt.join (Str.ofString "") ys).length = (ys.map (·.length)).sum := by
  show (Builtin.Str.glued (Str.ofString "") ys).length = _
  rw [StrLaws.glued_eq_join]
  induction ys with
  | nil => rfl
  | cons x ys ih =>
    cases ys with
    | nil => show x.length = x.length + 0; omega
    | cons y r =>
      show (x ++ Str.ofString "" ++ Str.join (Str.ofString "") (y :: r)).length = _
      rw [Str.length_append, Str.length_append, ih]
      show x.length + 0 + _ = _
      simp only [List.map_cons, List.sum_cons]; omega
theorem sum_le {ys : List Str} {n : Nat} (h : ∀ y ∈ ys, FS n y) : (ys.map (·.length)).sum ≤ n * ys.length := by
  induction ys with
  | nil => exact Nat.zero_le _
  | cons x ys ih =>
    rw [List.map_cons, List.sum_cons, List.length_cons, Nat.mul_succ]
    have h1 := (h x List.mem_cons_self).len
    have h2 := ih fun y hy => h y (List.mem_cons_of_mem _ hy)
    show x.length + _ ≤ _
    omega
theorem FS.joined {ys : List Str} {n : Nat} (h : ∀ y ∈ ys, FS n y) : FS (n * ys.length) (Txt.join (Str.ofString "") ys) := by
  refine ⟨by rw [join_len]; exact sum_le h, strOk_iff.mpr fun c hc => ?_⟩
  obtain ⟨y, y1, y2⟩ := join_mem hc
  exact strOk_iff.mp (h y y1).ok c y2
theorem join_strs {S : Sto} {x : D} {ys : List Str} {n : Nat} (hx : seqOf S x = some (ys.map D.str)) (h : ∀ y ∈ ys, FS n y) (hl : n * ys.length ≤ 16777216) : m_join S (.str (Str.ofString "")) [x] = some (.str (Txt.join (Str.ofString "") ys), S) := by
  simp only [m_join, hx, Option.bind_some, strsOf_strs]
  rw [if_pos]
  have := sum_le h
  show (ys.map (·.length)).sum + ys.length * 0 ≤ 16777216
  omega
end Y

end
section
set_option Elab.async false
set_option linter.all false
set_option maxRecDepth 100000
set_option maxHeartbeats 4000000
set_option autoImplicit false
/-! a list that grows, its items told one by one -/
namespace Y
open PySem PySem.Spec L2 PySem.W
section
variable {I : Sto → Prop} {env : En} {m a b el : EM} {l : LM} {P A B : D → Prop} {n k : Nat} {r S : Sto} {K : SK} {rest : SM} {i : Nat} {ds : List D}
theorem PP.at {j : Nat} {o : Option Ob} (h : PP r S) (hj : r[j]? = some o) : S[j + 2]? = some o := by
  obtain ⟨G, m, _, _, _, _, rfl⟩ := h
  simpa using hj
theorem at_app {j : Nat} {o : Option Ob} {X : Sto} (hj : r[j]? = some o) : (r ++ X)[j]? = some o := by
  rw [List.getElem?_append_left (List.getElem?_eq_some_iff.mp hj).1]; exact hj
theorem newR_J {R : List D → Prop} (h : JL (PP r) env l R) (hk : ∀ ds, R ds → ds.length ≤ 1000) (hS : PP r S) (q : ∀ ds S', R ds → PP (r ++ [some (.lst ds)]) S' → wS (rest (env.set i (some (.ref (r.length + 2)))) S') K) : wS (seqS (asg (tgN i) (new (lstF l))) rest env S) K := by
  rw [wS_seq, wS_asg, wpM_new, wpM_lstF]
  refine wpM_noX (h S hS) ?_
  rintro ds S1 ⟨hd, h1⟩
  rw [if_pos (le_szL (Nat.le_trans (hk ds hd) (by omega))), h1.len]
  exact q ds _ hd h1.app
theorem newE0_J (hS : PP r S) (q : ∀ S', PP (r ++ [some (.lst [])]) S' → wS (rest (env.set i (some (.ref (r.length + 2)))) S') K) : wS (seqS (asg (tgN i) (new (lstF lnil))) rest env S) K :=
  newR_J (R := fun ds => ds = []) (JL_nil rfl) (fun ds h => by rw [h]; exact Nat.zero_le _) hS fun ds S' h h1 => by subst h; exact q S' h1
theorem newCR_J {R : List D → Prop} (hi : env[i]? = some (some (.ref (r.length + 2)))) (hb : J (PP (r ++ [some (.lst ds)])) env b (fun d => ∃ es, d = .lst es ∧ R es)) (hk : ∀ es, R es → ds.length + es.length ≤ 1000000) (hS : PP (r ++ [some (.lst ds)]) S)
    (q : ∀ es S', R es → PP (r ++ [some (.lst ds)] ++ [some (.lst (ds ++ es))]) S' → wS (rest (env.set i (some (.ref ((r ++ [some (Ob.lst ds)]).length + 2)))) S') K) : wS (seqS (asg (tgN i) (new (catF (vr i) b))) rest env S) K := by
  rw [wS_seq, wS_asg, wpM_new, wpM_catF, wpM_vr, hi]
  simp only
  refine wpM_noX (hb S hS) ?_
  rintro x S1 ⟨⟨es, rfl, h3⟩, hS1⟩
  simp only [lstOf, hS1.last, Option.bind_some]
  rw [if_pos (le_szL (Nat.le_trans (hk es h3) (by omega))), wpM_lfS, hS1.len]
  exact q es _ h3 hS1.app
theorem newCR1_J {R : List D → Prop} (hi : env[i]? = some (some (.ref (r.length + 2)))) (hb : J (PP (r ++ [some (.lst ds)])) env b (fun d => ∃ es, d = .lst es ∧ R es)) (hk : ∀ es, R es → ds.length + es.length ≤ 1000000) (hS : PP (r ++ [some (.lst ds)]) S)
    (q : ∀ es S', R es → PP (r ++ [some (.lst ds)] ++ [some (.lst (ds ++ es))]) S' → K.nx (env.set i (some (.ref ((r ++ [some (Ob.lst ds)]).length + 2)))) S') : wS (asg (tgN i) (new (catF (vr i) b)) env S) K := by
  rw [wS_asg, wpM_new, wpM_catF, wpM_vr, hi]
  simp only
  refine wpM_noX (hb S hS) ?_
  rintro x S1 ⟨⟨es, rfl, h3⟩, hS1⟩
  simp only [lstOf, hS1.last, Option.bind_some]
  rw [if_pos (le_szL (Nat.le_trans (hk es h3) (by omega))), wpM_lfS, hS1.len]
  exact q es _ h3 hS1.app
theorem J_catRR {R : List D → Prop} (hi : env[i]? = some (some (.ref (r.length + 2)))) (hb : J (PP (r ++ [some (.lst ds)])) env b (fun d => ∃ es, d = .lst es ∧ R es)) (hk : ∀ es, R es → ds.length + es.length ≤ 1000000) : J (PP (r ++ [some (.lst ds)])) env (frz (catF (vr i) b)) (fun d => ∃ es, d = .lst (ds ++ es) ∧ R es) := fun S hS => by
  rw [wpM_frz, wpM_catF, wpM_vr, hi]
  simp only
  refine wpM_mono' (hb S hS) ?_
  rintro x S1 ⟨⟨es, rfl, h3⟩, hS1⟩
  simp only [lstOf, hS1.last, Option.bind_some]
  rw [if_pos (le_szL (Nat.le_trans (hk es h3) (by omega))), wpM_lfS]
  exact ⟨⟨es, rfl, h3⟩, hS1⟩
theorem J_catFR {R T : List D → Prop} (ha : J I env a (fun d => ∃ ds, d = .lst ds ∧ T ds)) (hb : J I env b (fun d => ∃ es, d = .lst es ∧ R es)) (hk : ∀ ds es, T ds → R es → ds.length + es.length ≤ 1000000) : J I env (frz (catF a b)) (fun d => ∃ ds es, d = .lst (ds ++ es) ∧ T ds ∧ R es) := fun S hS => by
  rw [wpM_frz, wpM_catF]
  refine wpM_mono' (ha S hS) ?_
  rintro x S1 ⟨⟨ds, rfl, h1⟩, hS1⟩
  refine wpM_mono' (hb S1 hS1) ?_
  rintro y S2 ⟨⟨es, rfl, h2⟩, hS2⟩
  simp only [lstOf, Option.bind_some]
  rw [if_pos (le_szL (Nat.le_trans (hk ds es h1 h2) (by omega))), wpM_lfS]
  exact ⟨⟨ds, es, rfl, h1, h2⟩, hS2⟩
theorem appP1_J (hi : env[i]? = some (some (.ref (r.length + 2)))) (he : J (PP (r ++ [some (.lst ds)])) env el P) (hS : PP (r ++ [some (.lst ds)]) S) (hk : ds.length < 1000000) (q : ∀ x S', P x → PP (r ++ [some (.lst (ds ++ [x]))]) S' → K.nx env S') : wS (exS (meth "list" m_append (vr i) (lcons el lnil)) env S) K := by
  rw [wS_exS, wpM_meth, wpM_vr, hi]
  simp only
  rw [if_pos (tyL hS.last), wpM_lcons]
  refine wpM_noX (he S hS) ?_
  rintro x S1 ⟨hx, hS1⟩
  rw [wpM_lnil, app_at hS1.last (Nat.lt_of_lt_of_le (show ds.length < 1000001 by omega) (le_sz rfl))]
  exact q x _ hx hS1.setLast
theorem appP_J (hi : env[i]? = some (some (.ref (r.length + 2)))) (he : J (PP (r ++ [some (.lst ds)])) env el P) (hS : PP (r ++ [some (.lst ds)]) S) (hk : ds.length < 1000000) (q : ∀ x S', P x → PP (r ++ [some (.lst (ds ++ [x]))]) S' → wS (rest env S') K) : wS (seqS (exS (meth "list" m_append (vr i) (lcons el lnil))) rest env S) K := by
  rw [wS_seq]
  exact appP1_J hi he hS hk q
/-- rows of items of a kind, so many -/
def LP (P : D → Prop) (k : Nat) (ds : List D) : Prop := (∀ d ∈ ds, P d) ∧ ds.length = k
theorem LP_nil : JL I env lnil (LP P 0) := JL_nil ⟨fun d hd => (nomatch hd), rfl⟩
theorem LP_cons (ha : J I env m P) (hr : JL I env l (LP P k)) : JL I env (lcons m l) (LP P (k + 1)) := JL_cons ha hr fun x xs hx hr => ⟨fun d hd => by
  rcases List.mem_cons.mp hd with e | hd
  · rw [e]; exact hx
  · exact hr.1 d hd, by rw [List.length_cons, hr.2]⟩
theorem J_lstP (h : JL I env l (LP P k)) (hk : k ≤ 1000) : J I env (frz (lstF l)) (fun d => ∃ ds, d = .lst ds ∧ LP P k ds) := fun S hS => by
  rw [wpM_frz, wpM_lstF]
  refine wpM_mono' (h S hS) ?_
  rintro ds S1 ⟨h1, h3⟩
  rw [if_pos (le_szL (by have := h1.2; omega))]
  exact ⟨⟨ds, rfl, h1⟩, h3⟩
theorem LP.app {as bs : List D} {a b : Nat} (h : LP P a as) (h' : LP P b bs) : LP P (a + b) (as ++ bs) := ⟨fun d hd => (List.mem_append.mp hd).elim (h.1 d) (h'.1 d), by rw [List.length_append, h.2, h'.2]⟩
theorem LP.one {d : D} (h : P d) : LP P 1 [d] := ⟨fun x hx => by rw [List.mem_singleton.mp hx]; exact h, rfl⟩
theorem J_pickVT (h : env[i]? = some (some (.tup ds))) (hm : J I env m (IsI 0 ((ds.length : Int) - 1))) (hp : ∀ d ∈ ds, P d) : J I env (op2 o_ix (vr i) m) P :=
  J_op2 (J_vr (P := fun d => d = .tup ds) h rfl) hm fun S x y e1 ⟨v, e2, v0, v1⟩ => by
    subst e1 e2
    obtain ⟨k, hk⟩ := Int.eq_ofNat_of_zero_le v0
    have hkl : k < ds.length := by omega
    subst hk
    exact ⟨ds[k], ixT (List.getElem?_eq_getElem hkl), hp _ (List.getElem_mem hkl)⟩
end
end Y

end
section
set_option Elab.async false
set_option linter.all false
set_option maxRecDepth 100000
set_option maxHeartbeats 4000000
set_option autoImplicit false
namespace Z
open PySem PySem.Spec L2 Y
def topS (i : Nat) : Stmt := PySem.Challenge.pw_fewmends_k02_rows.main.body.getD i (.Pass ⟨0, 0, 0, 0⟩)
section
variable (P : Program) (w : World) (K : PySem.W.Frag) (mg : Str → Option Value) (base : Heap)
def yes_MendError : Str → Option Bool := yesL [("BadRow", true)]
def is_MendError_BadRow : List (Str × Bool) := [("BadRow", true)]
structure Zs : Prop where
  n_abs : mg "abs" = none
  n_bool : mg "bool" = none
  n_enumerate : mg "enumerate" = none
  n_int : mg "int" = none
  n_isinstance : mg "isinstance" = none
  n_len : mg "len" = none
  n_list : mg "list" = none
  n_max : mg "max" = none
  n_range : mg "range" = none
  n_sorted : mg "sorted" = none
  n_str : mg "str" = none
  n_sum : mg "sum" = none
  n_tuple : mg "tuple" = none
  c_ROW_MOST : ∃ t, mg "ROW_MOST" = some (.int 600 t)
  x_BadRow : Ex P w K mg base "BadRow" ["at", "word"]
  h_MendError : Hd K mg "MendError" yes_MendError
  f_MendError_at : ∀ c ∈ (["BadRow"] : List Str), ∀ C, mg c = some (.ref C) → XfC K C ∧ PySem.W.findIn K (.ref C) "at" = some none
  f_MendError_word : ∀ c ∈ (["BadRow"] : List Str), ∀ C, mg c = some (.ref C) → XfC K C ∧ PySem.W.findIn K (.ref C) "word" = some none
  i_MendError_BadRow : Is K mg "BadRow" is_MendError_BadRow
end
abbrev in_BadRow : Stmt := (clsBody (topS 3)).getD 0 (.Pass ⟨0, 0, 0, 0⟩)
theorem scI_BadRow : FnScope ["self", "at", "word"] ["self", "at", "word"] (defScope in_BadRow) := ⟨rfl, rfl, rfl, by decide +kernel, rfl, by decide +kernel, by decide +kernel⟩
section
variable {P : Program} {w : World} {K : PySem.W.Frag} {mg : Str → Option Value} {base : Heap}
abbrev st__law_pool : Stmt := topS 17
theorem sc__law_pool : FnScope ["script", "salt", "great", "mixed", "cell", "number"] ["script", "salt"] (defScope st__law_pool) := ⟨rfl, rfl, rfl, by decide +kernel, rfl, by decide +kernel, by decide +kernel⟩
noncomputable def m__law_pool : SM :=
  (seqS (asg (tgN 2) (new (lstF lnil)))
  (seqS (asg (tgN 3) (vr 1))
  (seqS (forS (i_of (frz (cutF (vr 0) onoM (osmM (ct (.int 63)))))) (tgN 4) (seqS (asg (tgN 5) (calB o_abs (lcons (calB o_int (lcons (vr 4) lnil)) lnil)))
  (seqS (ifS (asT (op2 o_ge (vr 5) (op2 o_pow (ct (.int 10)) (ct (.int 18))))) (exS (meth "list" m_append (vr 2) (lcons (op2 o_mod (calB o_int (lcons (vr 5) lnil)) (op2 o_mulA (op2 o_mulA (op2 o_pow (ct (.int 10)) (ct (.int 60))) (op2 o_pow (ct (.int 10)) (ct (.int 60)))) (op2 o_pow (ct (.int 10)) (ct (.int 60))))) lnil))) nxS)
  (asg (tgN 3) (op2 o_mod (calB o_int (lcons (op2 o_add (op2 o_add (op2 o_mulA (vr 3) (ct (.int 30307))) (op2 o_mulA (op2 o_mod (calB o_int (lcons (vr 5) lnil)) (ct (.int 2147483563))) (ct (.int 48271)))) (ct (.int 41))) lnil)) (ct (.int 2147483647)))))))
  (retS (new (lstF (lcons (vr 2) (lcons (vr 3) lnil))))))))
@[irreducible] noncomputable def M__law_pool : List D → Sto → Res D := run 6 m__law_pool
theorem ok__law_pool (z : Zs P w K mg base) (F : Fu K mg "_law_pool" st__law_pool ["script", "salt"])  : Cl P w K mg base "_law_pool" 1 ["script", "salt"] M__law_pool := by
  unfold M__law_pool
  exact cl_run (m := m__law_pool) F sc__law_pool rfl (fun f cdv A outer s H E hr =>
  (s_cons (s_set 2 sc__law_pool.nd (y_new (y_lst y_nil)))
  (s_cons (s_set 3 sc__law_pool.nd (y_vr 1))
  (s_cons (s_for (passes_of rfl) rfl (y_iter (y_frz (y_cutF (y_vr 0) y_ono (y_osm y_int)))) (g_name (ix := [4]) 4 sc__law_pool.nd) (s_cons (s_set 5 sc__law_pool.nd (y_callB call_abs cs_abs z.n_abs PyProof.Rows.Boot.«abs» (y_cons (y_callTy call_int1 cs_int z.n_int PyProof.Rows.Boot.«int» (y_cons (y_vr 4) y_nil)) y_nil)))
  (s_cons (s_if (y_tcmp op_ge os_cmp (y_vr 5) (y_op op_pow os_pow y_int y_int)) (s_one (s_expr (y_bm mt_append ms_append PySem.F.plainAttrs_list PySem.F.slot_list_append PySem.F.type_list_append (y_vr 2) (y_cons (y_op op_mod os_mod (y_callTy call_int1 cs_int z.n_int PyProof.Rows.Boot.«int» (y_cons (y_vr 5) y_nil)) (y_op op_mulA os_mulA (y_op op_mulA os_mulA (y_op op_pow os_pow y_int y_int) (y_op op_pow os_pow y_int y_int)) (y_op op_pow os_pow y_int y_int))) y_nil)))) s_nil)
  (s_one (s_set 3 sc__law_pool.nd (y_op op_mod os_mod (y_callTy call_int1 cs_int z.n_int PyProof.Rows.Boot.«int» (y_cons (y_op op_addA os_add (y_op op_addA os_add (y_op op_mulA os_mulA (y_vr 3) y_int) (y_op op_mulA os_mulA (y_op op_mod os_mod (y_callTy call_int1 cs_int z.n_int PyProof.Rows.Boot.«int» (y_cons (y_vr 5) y_nil)) y_int) y_int)) y_int) y_nil)) y_int))))))
  (s_one (s_ret (y_new (y_lst (y_cons (y_vr 2) (y_cons (y_vr 3) y_nil))))))))))
abbrev st__law_draw : Stmt := topS 18
theorem sc__law_draw : FnScope ["pool", "many", "number"] ["pool", "many"] (defScope st__law_draw) := ⟨rfl, rfl, rfl, by decide +kernel, rfl, by decide +kernel, by decide +kernel⟩
noncomputable def m__law_draw : SM :=
  (seqS (ifS (asT (op2 o_gt (calB o_len (lcons (op2 o_ix (vr 0) (ct (.int 0))) lnil)) (ct (.int 0)))) (seqS (asg (tgN 2) (meth "list" m_pop (op2 o_ix (vr 0) (ct (.int 0))) lnil))
  (seqS (ifS (asT (op2 o_ge (vr 2) (vr 1))) (exS (meth "list" m_append (op2 o_ix (vr 0) (ct (.int 0))) (lcons (op2 o_fdiv (vr 2) (vr 1)) lnil))) nxS)
  (retS (op2 o_mod (calB o_int (lcons (vr 2) lnil)) (vr 1))))) nxS)
  (seqS (setS (op2 o_mod (calB o_int (lcons (op2 o_add (op2 o_mulA (op2 o_ix (vr 0) (ct (.int 1))) (ct (.int 40692))) (ct (.int 1302))) lnil)) (ct (.int 2147483647))) (vr 0) (ct (.int 1)))
  (retS (op2 o_mod (calB o_int (lcons (op2 o_fdiv (op2 o_ix (vr 0) (ct (.int 1))) (ct (.int 71))) lnil)) (vr 1)))))
@[irreducible] noncomputable def M__law_draw : List D → Sto → Res D := fn 3 m__law_draw
theorem ok__law_draw (z : Zs P w K mg base) (F : Fu K mg "_law_draw" st__law_draw ["pool", "many"])  : Cl P w K mg base "_law_draw" 1 ["pool", "many"] M__law_draw := by
  unfold M__law_draw
  exact cl_fn (m := m__law_draw) F sc__law_draw rfl (fun f cdv A outer s H E hr =>
  (s_cons (s_if (y_tcmp op_gt os_cmp (y_callB call_len cs_len z.n_len PyProof.Rows.Boot.«len» (y_cons (y_ix ix_seq os_ix (y_vr 0) y_int (fun _ _ => rfl)) y_nil)) y_int) (s_cons (s_set 2 sc__law_draw.nd (y_bm0 mt_pop ms_pop PySem.F.plainAttrs_list PySem.F.slot_list_pop PySem.F.type_list_pop (y_ix ix_seq os_ix (y_vr 0) y_int (fun _ _ => rfl))))
  (s_cons (s_if (y_tcmp op_ge os_cmp (y_vr 2) (y_vr 1)) (s_one (s_expr (y_bm mt_append ms_append PySem.F.plainAttrs_list PySem.F.slot_list_append PySem.F.type_list_append (y_ix ix_seq os_ix (y_vr 0) y_int (fun _ _ => rfl)) (y_cons (y_op op_fdiv os_fdiv (y_vr 2) (y_vr 1)) y_nil)))) s_nil)
  (s_one (s_ret (y_op op_mod os_mod (y_callTy call_int1 cs_int z.n_int PyProof.Rows.Boot.«int» (y_cons (y_vr 2) y_nil)) (y_vr 1)))))) s_nil)
  (s_cons (s_sub (y_op op_mod os_mod (y_callTy call_int1 cs_int z.n_int PyProof.Rows.Boot.«int» (y_cons (y_op op_addA os_add (y_op op_mulA os_mulA (y_ix ix_seq os_ix (y_vr 0) y_int (fun _ _ => rfl)) y_int) y_int) y_nil)) y_int) (y_vr 0) y_int)
  (s_one (s_ret (y_op op_mod os_mod (y_callTy call_int1 cs_int z.n_int PyProof.Rows.Boot.«int» (y_cons (y_op op_fdiv os_fdiv (y_ix ix_seq os_ix (y_vr 0) y_int (fun _ _ => rfl)) y_int) y_nil)) (y_vr 1)))))))
abbrev st__law_shuffled : Stmt := topS 19
theorem sc__law_shuffled : FnScope ["pool", "things", "left", "out", "lap"] ["pool", "things"] (defScope st__law_shuffled) := ⟨rfl, rfl, rfl, by decide +kernel, rfl, by decide +kernel, by decide +kernel⟩
noncomputable def m__law_shuffled : SM :=
  (seqS (asg (tgN 2) (new (calF o_listA (lcons (vr 1) lnil))))
  (seqS (asg (tgN 3) (new (lstF lnil)))
  (seqS (forS (i_rg1 (lcons (calB o_len (lcons (vr 1) lnil)) lnil)) (tgN 4) (exS (meth "list" m_append (vr 3) (lcons (meth "list" m_popAt (vr 2) (lcons (cal M__law_draw (lcons (vr 0) (lcons (calB o_len (lcons (vr 2) lnil)) lnil))) lnil)) lnil))))
  (retS (vr 3)))))
@[irreducible] noncomputable def M__law_shuffled : List D → Sto → Res D := fn 5 m__law_shuffled
theorem ok__law_shuffled (z : Zs P w K mg base) (F : Fu K mg "_law_shuffled" st__law_shuffled ["pool", "things"]) (C__law_draw : Cl P w K mg base "_law_draw" 1 ["pool", "many"] M__law_draw) : Cl P w K mg base "_law_shuffled" 2 ["pool", "things"] M__law_shuffled := by
  unfold M__law_shuffled
  exact cl_fn (m := m__law_shuffled) F sc__law_shuffled rfl (fun f cdv A outer s H E hr =>
  (s_cons (s_set 2 sc__law_shuffled.nd (y_new (y_callTyF (cr_listA rfl) cf_listA z.n_list PyProof.Rows.Boot.«list» (y_cons (y_vr 1) y_nil))))
  (s_cons (s_set 3 sc__law_shuffled.nd (y_new (y_lst y_nil)))
  (s_cons (s_for (passes_of rfl) rfl (y_rg1 z.n_range (y_cons (y_callB call_len cs_len z.n_len PyProof.Rows.Boot.«len» (y_cons (y_vr 1) y_nil)) y_nil)) (g_name (ix := [4]) 4 sc__law_shuffled.nd) (s_one (s_expr (y_bm mt_append ms_append PySem.F.plainAttrs_list PySem.F.slot_list_append PySem.F.type_list_append (y_vr 3) (y_cons (y_bm mt_popAt ms_popAt PySem.F.plainAttrs_list PySem.F.slot_list_pop PySem.F.type_list_pop (y_vr 2) (y_cons (y_fn C__law_draw (hr.mono (by first | decide | omega)) (takes_of rfl rfl rfl rfl) (y_cons (y_vr 0) (y_cons (y_callB call_len cs_len z.n_len PyProof.Rows.Boot.«len» (y_cons (y_vr 2) y_nil)) y_nil)) (len_cons (len_cons len_nil))) y_nil)) y_nil)))))
  (s_one (s_ret (y_vr 3)))))))
abbrev st__law_letters : Stmt := topS 20
theorem sc__law_letters : FnScope ["pool", "many"] ["pool", "many"] (defScope st__law_letters) := ⟨rfl, rfl, rfl, by decide +kernel, rfl, by decide +kernel, by decide +kernel⟩
noncomputable def m__law_letters : SM :=
  (retS (meth "str" m_join (ct (.str (Str.ofString ""))) (lcons (frz (calF o_sorted (lcons (frz (cutF (cal M__law_shuffled (lcons (vr 0) (lcons (ct (.str (Str.ofString "abcdefghijklmnopqrstuvwxyz"))) lnil))) onoM (osmM (vr 1)))) lnil))) lnil)))
@[irreducible] noncomputable def M__law_letters : List D → Sto → Res D := fn 2 m__law_letters
theorem ok__law_letters (z : Zs P w K mg base) (F : Fu K mg "_law_letters" st__law_letters ["pool", "many"]) (C__law_shuffled : Cl P w K mg base "_law_shuffled" 2 ["pool", "things"] M__law_shuffled) : Cl P w K mg base "_law_letters" 3 ["pool", "many"] M__law_letters := by
  unfold M__law_letters
  exact cl_fn (m := m__law_letters) F sc__law_letters rfl (fun f cdv A outer s H E hr =>
  (s_one (s_ret (y_bm mt_join ms_join PySem.F.plainAttrs_str PySem.F.slot_str_join PySem.F.type_str_join y_str (y_cons (y_frz (y_callBF (cr_sortD (hu200 hr)) cf_sorted z.n_sorted PyProof.Rows.Boot.«sorted» (y_cons (y_frz (y_cutF (y_fn C__law_shuffled (hr.mono (by first | decide | omega)) (takes_of rfl rfl rfl rfl) (y_cons (y_vr 0) (y_cons y_str y_nil)) (len_cons (len_cons len_nil))) y_ono (y_osm (y_vr 1)))) y_nil))) y_nil)))))
abbrev st__law_text : Stmt := topS 21
theorem sc__law_text : FnScope ["pool", "letters", "most", "signs", "lap"] ["pool", "letters", "most"] (defScope st__law_text) := ⟨rfl, rfl, rfl, by decide +kernel, rfl, by decide +kernel, by decide +kernel⟩
noncomputable def m__law_text : SM :=
  (seqS (asg (tgN 3) (compF (i_rg1 (lcons (cal M__law_draw (lcons (vr 0) (lcons (op2 o_add (vr 2) (ct (.int 1))) lnil))) lnil)) (tgN 4) yesT (op2 o_ix (vr 1) (cal M__law_draw (lcons (vr 0) (lcons (calB o_len (lcons (vr 1) lnil)) lnil)))) [4]))
  (retS (meth "str" m_join (ct (.str (Str.ofString ""))) (lcons (vr 3) lnil))))
@[irreducible] noncomputable def M__law_text : List D → Sto → Res D := fn 5 m__law_text
theorem ok__law_text (z : Zs P w K mg base) (F : Fu K mg "_law_text" st__law_text ["pool", "letters", "most"]) (C__law_draw : Cl P w K mg base "_law_draw" 1 ["pool", "many"] M__law_draw) : Cl P w K mg base "_law_text" 2 ["pool", "letters", "most"] M__law_text := by
  unfold M__law_text
  exact cl_fn (m := m__law_text) F sc__law_text rfl (fun f cdv A outer s H E hr =>
  (s_cons (s_setCompF (own := [("lap", 4)]) 3 rfl sc__law_text.nd rfl rfl (y_rg1 z.n_range (y_cons (y_fn C__law_draw (hr.mono (by first | decide | omega)) (takes_of rfl rfl rfl rfl) (y_cons (y_vr 0) (y_cons (y_op op_addA os_add (y_vr 2) y_int) y_nil)) (len_cons (len_cons len_nil))) y_nil)) (by rfl) (fun _ _ _ _ _ => (g_name (ix := [4]) 4 sc__law_text.nd)) (fun _ _ _ _ _ => y_yes) (fun _ _ _ _ _ => (y_ix ix_seq os_ix (y_vr 1) (y_fn C__law_draw (hr.mono (by first | decide | omega)) takes0 (y_cons (y_vr 0) (y_cons (y_callB call_len cs_len z.n_len PyProof.Rows.Boot.«len» (y_cons (y_vr 1) y_nil)) y_nil)) (len_cons (len_cons len_nil))) (fun _ _ => rfl))))
  (s_one (s_ret (y_bm mt_join ms_join PySem.F.plainAttrs_str PySem.F.slot_str_join PySem.F.type_str_join y_str (y_cons (y_vr 3) y_nil))))))
abbrev st__law_book : Stmt := topS 22
theorem sc__law_book : FnScope ["pool", "letters", "many", "most", "edits", "lap", "read", "write"] ["pool", "letters", "many", "most"] (defScope st__law_book) := ⟨rfl, rfl, rfl, by decide +kernel, rfl, by decide +kernel, by decide +kernel⟩
noncomputable def m__law_book : SM :=
  (seqS (asg (tgN 4) (newD (.dT [])))
  (seqS (forS (i_rg1 (lcons (vr 2) lnil)) (tgN 5) (seqS (asg (tgN 6) (cal M__law_text (lcons (vr 0) (lcons (vr 1) (lcons (op2 o_ix (frz (lstF (lcons (ct (.int 1)) (lcons (ct (.int 1)) (lcons (ct (.int 2)) (lcons (ct (.int 3)) lnil)))))) (cal M__law_draw (lcons (vr 0) (lcons (ct (.int 4)) lnil)))) lnil)))))
  (seqS (asg (tgN 7) (cal M__law_text (lcons (vr 0) (lcons (vr 1) (lcons (op2 o_ix (frz (lstF (lcons (ct (.int 1)) (lcons (ct (.int 1)) (lcons (ct (.int 2)) (lcons (ct (.int 3)) lnil)))))) (cal M__law_draw (lcons (vr 0) (lcons (ct (.int 4)) lnil)))) lnil)))))
  (ifS (asT (op2 o_ne (vr 6) (vr 7))) (putT (op2 o_add (ct (.int 1)) (cal M__law_draw (lcons (vr 0) (lcons (vr 3) lnil)))) (vr 4) (lcons (vr 6) (lcons (vr 7) lnil))) nxS))))
  (retS (tupE (lcons (vr 1) (lcons (calB o_tupleA (lcons (compF (i_of (frz (calF o_sortedT (lcons (vr 4) lnil)))) (tgT [(tgN 6), (tgN 7)]) yesT (tupE (lcons (vr 6) (lcons (vr 7) (lcons (itemT (vr 4) (lcons (vr 6) (lcons (vr 7) lnil))) lnil)))) [6, 7]) lnil)) lnil))))))
@[irreducible] noncomputable def M__law_book : List D → Sto → Res D := fn 8 m__law_book
theorem ok__law_book (z : Zs P w K mg base) (F : Fu K mg "_law_book" st__law_book ["pool", "letters", "many", "most"]) (C__law_draw : Cl P w K mg base "_law_draw" 1 ["pool", "many"] M__law_draw) (C__law_text : Cl P w K mg base "_law_text" 2 ["pool", "letters", "most"] M__law_text) : Cl P w K mg base "_law_book" 3 ["pool", "letters", "many", "most"] M__law_book := by
  unfold M__law_book
  exact cl_fn (m := m__law_book) F sc__law_book rfl (fun f cdv A outer s H E hr =>
  (s_cons (s_set 4 sc__law_book.nd y_newT)
  (s_cons (s_for (passes_of rfl) rfl (y_rg1 z.n_range (y_cons (y_vr 2) y_nil)) (g_name (ix := [5]) 5 sc__law_book.nd) (s_cons (s_set 6 sc__law_book.nd (y_fn C__law_text (hr.mono (by first | decide | omega)) (takes_of rfl rfl rfl rfl) (y_cons (y_vr 0) (y_cons (y_vr 1) (y_cons (y_ix ix_seq os_ix (y_frz (y_lst (y_cons y_int (y_cons y_int (y_cons y_int (y_cons y_int y_nil)))))) (y_fn C__law_draw (hr.mono (by first | decide | omega)) (takes_of rfl rfl rfl rfl) (y_cons (y_vr 0) (y_cons y_int y_nil)) (len_cons (len_cons len_nil))) (fun _ _ => rfl)) y_nil))) (len_cons (len_cons (len_cons len_nil)))))
  (s_cons (s_set 7 sc__law_book.nd (y_fn C__law_text (hr.mono (by first | decide | omega)) (takes_of rfl rfl rfl rfl) (y_cons (y_vr 0) (y_cons (y_vr 1) (y_cons (y_ix ix_seq os_ix (y_frz (y_lst (y_cons y_int (y_cons y_int (y_cons y_int (y_cons y_int y_nil)))))) (y_fn C__law_draw (hr.mono (by first | decide | omega)) (takes_of rfl rfl rfl rfl) (y_cons (y_vr 0) (y_cons y_int y_nil)) (len_cons (len_cons len_nil))) (fun _ _ => rfl)) y_nil))) (len_cons (len_cons (len_cons len_nil)))))
  (s_one (s_if (y_tcmp (op_neD (hu64 hr)) os_ne (y_vr 6) (y_vr 7)) (s_one (s_putT (hu1 hr) (y_op op_addA os_add y_int (y_fn C__law_draw (hr.mono (by first | decide | omega)) (takes_of rfl rfl rfl rfl) (y_cons (y_vr 0) (y_cons (y_vr 3) y_nil)) (len_cons (len_cons len_nil)))) (y_vr 4) (y_cons (y_vr 6) (y_cons (y_vr 7) y_nil)))) s_nil)))))
  (s_one (s_ret (y_tup (y_cons (y_vr 1) (y_cons (y_callTy (cr_tupA rfl) cs_tupA z.n_tuple PyProof.Rows.Boot.«tuple» (y_cons (y_compF (own := [("read", 6), ("write", 7)]) rfl sc__law_book.nd (y_iter (y_frz (y_callBF (cr_sortT rfl (hu200 hr)) cf_sortedT z.n_sorted PyProof.Rows.Boot.«sorted» (y_cons (y_vr 4) y_nil)))) (by rfl) (fun _ _ _ _ _ => (g_tup rfl (g_cons (g_name (ix := [6, 7]) 6 sc__law_book.nd) (g_cons (g_name (ix := [6, 7]) 7 sc__law_book.nd) g_nil)))) (fun _ _ _ _ _ => y_yes) (fun _ _ _ _ _ => (y_tup (y_cons (y_vr 6) (y_cons (y_vr 7) (y_cons (y_itemT (hu1 hr) (y_vr 4) (y_cons (y_vr 6) (y_cons (y_vr 7) y_nil))) y_nil)))))) y_nil)) y_nil))))))))
abbrev st__law_costs : Stmt := topS 24
theorem sc__law_costs : FnScope ["book", "costs", "letter", "read", "write", "cost"] ["book"] (defScope st__law_costs) := ⟨rfl, rfl, rfl, by decide +kernel, rfl, by decide +kernel, by decide +kernel⟩
noncomputable def m__law_costs : SM :=
  (seqS (asg (tgN 1) (newD (.dT [])))
  (seqS (forS (i_of (op2 o_ix (vr 0) (ct (.int 0)))) (tgN 2) (putT (ct (.int 0)) (vr 1) (lcons (vr 2) (lcons (vr 2) lnil))))
  (seqS (forS (i_of (op2 o_ix (vr 0) (ct (.int 1)))) (tgT [(tgN 3), (tgN 4), (tgN 5)]) (putT (vr 5) (vr 1) (lcons (vr 3) (lcons (vr 4) lnil))))
  (retS (vr 1)))))
@[irreducible] noncomputable def M__law_costs : List D → Sto → Res D := run 6 m__law_costs
theorem ok__law_costs (z : Zs P w K mg base) (F : Fu K mg "_law_costs" st__law_costs ["book"])  : Cl P w K mg base "_law_costs" 1 ["book"] M__law_costs := by
  unfold M__law_costs
  exact cl_run (m := m__law_costs) F sc__law_costs rfl (fun f cdv A outer s H E hr =>
  (s_cons (s_set 1 sc__law_costs.nd y_newT)
  (s_cons (s_for (passes_of rfl) rfl (y_iter (y_ix ix_seq os_ix (y_vr 0) y_int (fun _ _ => rfl))) (g_name (ix := [2]) 2 sc__law_costs.nd) (s_one (s_putT (hu1 hr) y_int (y_vr 1) (y_cons (y_vr 2) (y_cons (y_vr 2) y_nil)))))
  (s_cons (s_for (passes_of rfl) rfl (y_iter (y_ix ix_seq os_ix (y_vr 0) y_int (fun _ _ => rfl))) (g_tup rfl (g_cons (g_name (ix := [3, 4, 5]) 3 sc__law_costs.nd) (g_cons (g_name (ix := [3, 4, 5]) 4 sc__law_costs.nd) (g_cons (g_name (ix := [3, 4, 5]) 5 sc__law_costs.nd) g_nil)))) (s_one (s_putT (hu1 hr) (y_vr 5) (y_vr 1) (y_cons (y_vr 3) (y_cons (y_vr 4) y_nil)))))
  (s_one (s_ret (y_vr 1)))))))
abbrev st__law_drawn_row : Stmt := topS 31
theorem sc__law_drawn_row : FnScope ["pool", "costs", "most", "ops", "habit", "row", "lap", "op"] ["pool", "costs", "most"] (defScope st__law_drawn_row) := ⟨rfl, rfl, rfl, by decide +kernel, rfl, by decide +kernel, by decide +kernel⟩
noncomputable def m__law_drawn_row : SM :=
  (seqS (asg (tgN 3) (frz (calF o_sortedT (lcons (vr 1) lnil))))
  (seqS (asg (tgN 4) (cal M__law_draw (lcons (vr 0) (lcons (ct (.int 3)) lnil))))
  (seqS (asg (tgN 5) (new (lstF lnil)))
  (seqS (forS (i_rg1 (lcons (cal M__law_draw (lcons (vr 0) (lcons (op2 o_add (vr 2) (ct (.int 1))) lnil))) lnil)) (tgN 6) (seqS (asg (tgN 7) (op2 o_ix (vr 3) (cal M__law_draw (lcons (vr 0) (lcons (calB o_len (lcons (vr 3) lnil)) lnil)))))
  (seqS (ifS (andT (asT (op2 o_eq (vr 4) (ct (.int 0)))) (asT (op2 o_eq (cal M__law_draw (lcons (vr 0) (lcons (ct (.int 2)) lnil))) (ct (.int 0))))) (asg (tgN 7) (op2 o_ix (vr 3) (ct (.int 0)))) nxS)
  (exS (meth "list" m_append (vr 5) (lcons (vr 7) lnil))))))
  (retS (calB o_tupleA (lcons (vr 5) lnil)))))))
@[irreducible] noncomputable def M__law_drawn_row : List D → Sto → Res D := fn 8 m__law_drawn_row
theorem ok__law_drawn_row (z : Zs P w K mg base) (F : Fu K mg "_law_drawn_row" st__law_drawn_row ["pool", "costs", "most"]) (C__law_draw : Cl P w K mg base "_law_draw" 1 ["pool", "many"] M__law_draw) : Cl P w K mg base "_law_drawn_row" 2 ["pool", "costs", "most"] M__law_drawn_row := by
  unfold M__law_drawn_row
  exact cl_fn (m := m__law_drawn_row) F sc__law_drawn_row rfl (fun f cdv A outer s H E hr =>
  (s_cons (s_set 3 sc__law_drawn_row.nd (y_frz (y_callBF (cr_sortT rfl (hu200 hr)) cf_sortedT z.n_sorted PyProof.Rows.Boot.«sorted» (y_cons (y_vr 1) y_nil))))
  (s_cons (s_set 4 sc__law_drawn_row.nd (y_fn C__law_draw (hr.mono (by first | decide | omega)) (takes_of rfl rfl rfl rfl) (y_cons (y_vr 0) (y_cons y_int y_nil)) (len_cons (len_cons len_nil))))
  (s_cons (s_set 5 sc__law_drawn_row.nd (y_new (y_lst y_nil)))
  (s_cons (s_for (passes_of rfl) rfl (y_rg1 z.n_range (y_cons (y_fn C__law_draw (hr.mono (by first | decide | omega)) (takes_of rfl rfl rfl rfl) (y_cons (y_vr 0) (y_cons (y_op op_addA os_add (y_vr 2) y_int) y_nil)) (len_cons (len_cons len_nil))) y_nil)) (g_name (ix := [6]) 6 sc__law_drawn_row.nd) (s_cons (s_set 7 sc__law_drawn_row.nd (y_ix ix_seq os_ix (y_vr 3) (y_fn C__law_draw (hr.mono (by first | decide | omega)) (takes_of rfl rfl rfl rfl) (y_cons (y_vr 0) (y_cons (y_callB call_len cs_len z.n_len PyProof.Rows.Boot.«len» (y_cons (y_vr 3) y_nil)) y_nil)) (len_cons (len_cons len_nil))) (fun _ _ => rfl)))
  (s_cons (s_if ((y_tand (y_tcmp (op_eqD (hu64 hr)) os_eq (y_vr 4) y_int) (y_tand1 (y_tcmp (op_eqD (hu64 hr)) os_eq (y_fn C__law_draw (hr.mono (by first | decide | omega)) (takes_of rfl rfl rfl rfl) (y_cons (y_vr 0) (y_cons y_int y_nil)) (len_cons (len_cons len_nil))) y_int)))).pt (s_one (s_set 7 sc__law_drawn_row.nd (y_ix ix_seq os_ix (y_vr 3) y_int (fun _ _ => rfl)))) s_nil)
  (s_one (s_expr (y_bm mt_append ms_append PySem.F.plainAttrs_list PySem.F.slot_list_append PySem.F.type_list_append (y_vr 5) (y_cons (y_vr 7) y_nil)))))))
  (s_one (s_ret (y_callTy (cr_tupA rfl) cs_tupA z.n_tuple PyProof.Rows.Boot.«tuple» (y_cons (y_vr 5) y_nil)))))))))
abbrev st__law_is_whole : Stmt := topS 23
theorem sc__law_is_whole : FnScope ["thing"] ["thing"] (defScope st__law_is_whole) := ⟨rfl, rfl, rfl, by decide +kernel, rfl, by decide +kernel, by decide +kernel⟩
noncomputable def m__law_is_whole : SM :=
  (retS (andV (isiE "int" (vr 0)) (notE (isiE "bool" (vr 0)))))
@[irreducible] noncomputable def M__law_is_whole : List D → Sto → Res D := fn 1 m__law_is_whole
theorem ok__law_is_whole (z : Zs P w K mg base) (F : Fu K mg "_law_is_whole" st__law_is_whole ["thing"])  : Cl P w K mg base "_law_is_whole" 1 ["thing"] M__law_is_whole := by
  unfold M__law_is_whole
  exact cl_fn (m := m__law_is_whole) F sc__law_is_whole rfl (fun f cdv A outer s H E hr =>
  (s_one (s_ret (y_and (y_isi (T := "int") (by decide) (y_vr 0) z.n_isinstance z.n_int PyProof.Rows.Boot.«int») (y_one (y_not (y_isi (T := "bool") (by decide) (y_vr 0) z.n_isinstance z.n_bool PyProof.Rows.Boot.«bool»)))))))
abbrev st__law_same : Stmt := topS 27
theorem sc__law_same : FnScope ["told", "due", "k"] ["told", "due"] (defScope st__law_same) := ⟨rfl, rfl, rfl, by decide +kernel, rfl, by decide +kernel, by decide +kernel⟩
noncomputable def m__law_same : SM :=
  (seqS (ifS (trt (isiE "str" (vr 1))) (retS (andV (isiE "str" (vr 0)) (op2 o_eq (vr 0) (vr 1)))) nxS)
  (seqS (ifS (trt (cal M__law_is_whole (lcons (vr 1) lnil))) (retS (andV (cal M__law_is_whole (lcons (vr 0) lnil)) (op2 o_eq (vr 0) (vr 1)))) nxS)
  (seqS (ifS (orT (notT (trt (isiE "tuple" (vr 0)))) (asT (op2 o_ne (calB o_len (lcons (vr 0) lnil)) (calB o_len (lcons (vr 1) lnil))))) (retS (ct (.bl false))) nxS)
  (seqS (forS (i_rg1 (lcons (calB o_len (lcons (vr 1) lnil)) lnil)) (tgN 2) (seqS (ifS (andT (trt (isiE "str" (op2 o_ix (vr 1) (vr 2)))) (orT (notT (trt (isiE "str" (op2 o_ix (vr 0) (vr 2))))) (asT (op2 o_ne (op2 o_ix (vr 0) (vr 2)) (op2 o_ix (vr 1) (vr 2)))))) (retS (ct (.bl false))) nxS)
  (ifS (andT (notT (trt (isiE "str" (op2 o_ix (vr 1) (vr 2))))) (orT (notT (trt (cal M__law_is_whole (lcons (op2 o_ix (vr 0) (vr 2)) lnil)))) (asT (op2 o_ne (op2 o_ix (vr 0) (vr 2)) (op2 o_ix (vr 1) (vr 2)))))) (retS (ct (.bl false))) nxS)))
  (retS (ct (.bl true)))))))
@[irreducible] noncomputable def M__law_same : List D → Sto → Res D := fn 3 m__law_same
theorem ok__law_same (z : Zs P w K mg base) (F : Fu K mg "_law_same" st__law_same ["told", "due"]) (C__law_is_whole : Cl P w K mg base "_law_is_whole" 1 ["thing"] M__law_is_whole) : Cl P w K mg base "_law_same" 2 ["told", "due"] M__law_same := by
  unfold M__law_same
  exact cl_fn (m := m__law_same) F sc__law_same rfl (fun f cdv A outer s H E hr =>
  (s_cons (s_if (y_truth (y_isi (T := "str") (by decide) (y_vr 1) z.n_isinstance z.n_str PyProof.Rows.Boot.«str»)) (s_one (s_ret (y_and (y_isi (T := "str") (by decide) (y_vr 0) z.n_isinstance z.n_str PyProof.Rows.Boot.«str») (y_one (y_cmp (op_eqD (hu64 hr)) os_eq (y_vr 0) (y_vr 1)))))) s_nil)
  (s_cons (s_if (y_truth (y_fn C__law_is_whole (hr.mono (by first | decide | omega)) (takes_of rfl rfl rfl rfl) (y_cons (y_vr 1) y_nil) (len_cons len_nil))) (s_one (s_ret (y_and (y_fn C__law_is_whole (hr.mono (by first | decide | omega)) (takes_of rfl rfl rfl rfl) (y_cons (y_vr 0) y_nil) (len_cons len_nil)) (y_one (y_cmp (op_eqD (hu64 hr)) os_eq (y_vr 0) (y_vr 1)))))) s_nil)
  (s_cons (s_if ((y_tor (y_tnot (y_truth (y_isi (T := "tuple") (by decide) (y_vr 0) z.n_isinstance z.n_tuple PyProof.Rows.Boot.«tuple»))) (y_tor1 (y_tcmp (op_neD (hu64 hr)) os_ne (y_callB call_len cs_len z.n_len PyProof.Rows.Boot.«len» (y_cons (y_vr 0) y_nil)) (y_callB call_len cs_len z.n_len PyProof.Rows.Boot.«len» (y_cons (y_vr 1) y_nil)))))).pt (s_one (s_ret y_bl)) s_nil)
  (s_cons (s_for (passes_of rfl) rfl (y_rg1 z.n_range (y_cons (y_callB call_len cs_len z.n_len PyProof.Rows.Boot.«len» (y_cons (y_vr 1) y_nil)) y_nil)) (g_name (ix := [2]) 2 sc__law_same.nd) (s_cons (s_if ((y_tand (y_truth (y_isi (T := "str") (by decide) (y_ix ix_seq os_ix (y_vr 1) (y_vr 2) (fun _ _ => rfl)) z.n_isinstance z.n_str PyProof.Rows.Boot.«str»)) (y_tand1 ((y_tor (y_tnot (y_truth (y_isi (T := "str") (by decide) (y_ix ix_seq os_ix (y_vr 0) (y_vr 2) (fun _ _ => rfl)) z.n_isinstance z.n_str PyProof.Rows.Boot.«str»))) (y_tor1 (y_tcmp (op_neD (hu64 hr)) os_ne (y_ix ix_seq os_ix (y_vr 0) (y_vr 2) (fun _ _ => rfl)) (y_ix ix_seq os_ix (y_vr 1) (y_vr 2) (fun _ _ => rfl)))))).pt))).pt (s_one (s_ret y_bl)) s_nil)
  (s_one (s_if ((y_tand (y_tnot (y_truth (y_isi (T := "str") (by decide) (y_ix ix_seq os_ix (y_vr 1) (y_vr 2) (fun _ _ => rfl)) z.n_isinstance z.n_str PyProof.Rows.Boot.«str»))) (y_tand1 ((y_tor (y_tnot (y_truth (y_fn C__law_is_whole (hr.mono (by first | decide | omega)) (takes_of rfl rfl rfl rfl) (y_cons (y_ix ix_seq os_ix (y_vr 0) (y_vr 2) (fun _ _ => rfl)) y_nil) (len_cons len_nil)))) (y_tor1 (y_tcmp (op_neD (hu64 hr)) os_ne (y_ix ix_seq os_ix (y_vr 0) (y_vr 2) (fun _ _ => rfl)) (y_ix ix_seq os_ix (y_vr 1) (y_vr 2) (fun _ _ => rfl)))))).pt))).pt (s_one (s_ret y_bl)) s_nil))))
  (s_one (s_ret y_bl)))))))
abbrev st_operation_costs : Stmt := topS 5
theorem sc_operation_costs : FnScope ["book", "costs", "read", "write", "cost", "letter"] ["book"] (defScope st_operation_costs) := ⟨rfl, rfl, rfl, by decide +kernel, rfl, by decide +kernel, by decide +kernel⟩
noncomputable def m_operation_costs : SM :=
  (seqS (asg (tgN 1) (dcN (.dT []) (i_of (op2 o_ix (vr 0) (ct (.int 0)))) (tgN 5) (tupE (lcons (vr 5) (lcons (vr 5) lnil))) (ct (.int 0)) [5]))
  (seqS (forS (i_of (op2 o_ix (vr 0) (ct (.int 1)))) (tgT [(tgN 2), (tgN 3), (tgN 4)]) (putT (vr 4) (vr 1) (lcons (vr 2) (lcons (vr 3) lnil))))
  (retS (vr 1))))
@[irreducible] noncomputable def M_operation_costs : List D → Sto → Res D := run 6 m_operation_costs
theorem ok_operation_costs (z : Zs P w K mg base) (F : Fu K mg "operation_costs" st_operation_costs ["book"])  : Cl P w K mg base "operation_costs" 1 ["book"] M_operation_costs := by
  unfold M_operation_costs
  exact cl_run (m := m_operation_costs) F sc_operation_costs rfl (fun f cdv A outer s H E hr =>
  (s_cons (s_setDc (own := [("letter", 5)]) 1 (.inr rfl) rfl rfl (hu1 hr) rfl sc_operation_costs.nd rfl rfl (y_iter (y_ix ix_seq os_ix (y_vr 0) y_int (fun _ _ => rfl))) (by rfl) (fun _ _ _ _ _ => (g_name (ix := [5]) 5 sc_operation_costs.nd)) (fun _ _ _ _ _ => (y_tup (y_cons (y_vr 5) (y_cons (y_vr 5) y_nil)))) (fun _ _ _ _ _ => y_int))
  (s_cons (s_for (passes_of rfl) rfl (y_iter (y_ix ix_seq os_ix (y_vr 0) y_int (fun _ _ => rfl))) (g_tup rfl (g_cons (g_name (ix := [2, 3, 4]) 2 sc_operation_costs.nd) (g_cons (g_name (ix := [2, 3, 4]) 3 sc_operation_costs.nd) (g_cons (g_name (ix := [2, 3, 4]) 4 sc_operation_costs.nd) g_nil)))) (s_one (s_putT (hu1 hr) (y_vr 4) (y_vr 1) (y_cons (y_vr 2) (y_cons (y_vr 3) y_nil)))))
  (s_one (s_ret (y_vr 1))))))
abbrev st_is_operation : Stmt := topS 6
theorem sc_is_operation : FnScope ["costs", "thing"] ["costs", "thing"] (defScope st_is_operation) := ⟨rfl, rfl, rfl, by decide +kernel, rfl, by decide +kernel, by decide +kernel⟩
noncomputable def m_is_operation : SM :=
  (seqS (ifS (orT (notT (trt (isiE "tuple" (vr 1)))) (asT (op2 o_ne (calB o_len (lcons (vr 1) lnil)) (ct (.int 2))))) (retS (ct (.bl false))) nxS)
  (retS (andV (isiE "str" (op2 o_ix (vr 1) (ct (.int 0)))) (andV (isiE "str" (op2 o_ix (vr 1) (ct (.int 1)))) (hasE false (vr 1) (vr 0))))))
@[irreducible] noncomputable def M_is_operation : List D → Sto → Res D := fn 2 m_is_operation
theorem ok_is_operation (z : Zs P w K mg base) (F : Fu K mg "is_operation" st_is_operation ["costs", "thing"])  : Cl P w K mg base "is_operation" 1 ["costs", "thing"] M_is_operation := by
  unfold M_is_operation
  exact cl_fn (m := m_is_operation) F sc_is_operation rfl (fun f cdv A outer s H E hr =>
  (s_cons (s_if ((y_tor (y_tnot (y_truth (y_isi (T := "tuple") (by decide) (y_vr 1) z.n_isinstance z.n_tuple PyProof.Rows.Boot.«tuple»))) (y_tor1 (y_tcmp (op_neD (hu64 hr)) os_ne (y_callB call_len cs_len z.n_len PyProof.Rows.Boot.«len» (y_cons (y_vr 1) y_nil)) y_int)))).pt (s_one (s_ret y_bl)) s_nil)
  (s_one (s_ret (y_and (y_isi (T := "str") (by decide) (y_ix ix_seq os_ix (y_vr 1) y_int (fun _ _ => rfl)) z.n_isinstance z.n_str PyProof.Rows.Boot.«str») (y_and (y_isi (T := "str") (by decide) (y_ix ix_seq os_ix (y_vr 1) y_int (fun _ _ => rfl)) z.n_isinstance z.n_str PyProof.Rows.Boot.«str») (y_one (y_has (hu1 hr) (y_vr 1) (y_vr 0)))))))))
abbrev st_row_fault : Stmt := topS 7
theorem sc_row_fault : FnScope ["book", "thing", "costs", "at", "operation"] ["book", "thing"] (defScope st_row_fault) := ⟨rfl, rfl, rfl, by decide +kernel, rfl, by decide +kernel, by decide +kernel⟩
noncomputable def m_row_fault : SM :=
  (seqS (ifS (notT (trt (isiE "tuple" (vr 1)))) (retS (tupE (lcons (op1 o_neg (ct (.int 1))) (lcons (ct (.str (Str.ofString "shape"))) lnil)))) nxS)
  (seqS (ifS (asT (op2 o_gt (calB o_len (lcons (vr 1) lnil)) (ct (.int 600)))) (retS (tupE (lcons (op1 o_neg (ct (.int 1))) (lcons (ct (.str (Str.ofString "limit"))) lnil)))) nxS)
  (seqS (asg (tgN 2) (cal M_operation_costs (lcons (vr 0) lnil)))
  (seqS (forS (i_enumA (lcons (vr 1) lnil)) (tgT [(tgN 3), (tgN 4)]) (ifS (notT (trt (cal M_is_operation (lcons (vr 2) (lcons (vr 4) lnil))))) (retS (tupE (lcons (vr 3) (lcons (ct (.str (Str.ofString "op"))) lnil)))) nxS))
  (retS (ct .non))))))
@[irreducible] noncomputable def M_row_fault : List D → Sto → Res D := fn 5 m_row_fault
theorem ok_row_fault (z : Zs P w K mg base) (F : Fu K mg "row_fault" st_row_fault ["book", "thing"]) (C_operation_costs : Cl P w K mg base "operation_costs" 1 ["book"] M_operation_costs) (C_is_operation : Cl P w K mg base "is_operation" 1 ["costs", "thing"] M_is_operation) : Cl P w K mg base "row_fault" 2 ["book", "thing"] M_row_fault := by
  unfold M_row_fault
  exact cl_fn (m := m_row_fault) F sc_row_fault rfl (fun f cdv A outer s H E hr =>
  (s_cons (s_if (y_tnot (y_truth (y_isi (T := "tuple") (by decide) (y_vr 1) z.n_isinstance z.n_tuple PyProof.Rows.Boot.«tuple»))) (s_one (s_ret (y_tup (y_cons (y_un un_neg us_neg y_int) (y_cons y_str y_nil))))) s_nil)
  (s_cons (s_if (y_tcmp op_gt os_cmp (y_callB call_len cs_len z.n_len PyProof.Rows.Boot.«len» (y_cons (y_vr 1) y_nil)) (y_globI z.c_ROW_MOST)) (s_one (s_ret (y_tup (y_cons (y_un un_neg us_neg y_int) (y_cons y_str y_nil))))) s_nil)
  (s_cons (s_set 2 sc_row_fault.nd (y_fn C_operation_costs (hr.mono (by first | decide | omega)) (takes_of rfl rfl rfl rfl) (y_cons (y_vr 0) y_nil) (len_cons len_nil)))
  (s_cons (s_for (passes_of rfl) rfl (y_enumA z.n_enumerate (y_cons (y_vr 1) y_nil)) (g_tup rfl (g_cons (g_name (ix := [3, 4]) 3 sc_row_fault.nd) (g_cons (g_name (ix := [3, 4]) 4 sc_row_fault.nd) g_nil))) (s_one (s_if (y_tnot (y_truth (y_fn C_is_operation (hr.mono (by first | decide | omega)) (takes_of rfl rfl rfl rfl) (y_cons (y_vr 2) (y_cons (y_vr 4) y_nil)) (len_cons (len_cons len_nil))))) (s_one (s_ret (y_tup (y_cons (y_vr 3) (y_cons y_str y_nil))))) s_nil)))
  (s_one (s_ret y_non)))))))
abbrev st_check_row : Stmt := topS 8
theorem sc_check_row : FnScope ["book", "thing", "fault"] ["book", "thing"] (defScope st_check_row) := ⟨rfl, rfl, rfl, by decide +kernel, rfl, by decide +kernel, by decide +kernel⟩
noncomputable def m_check_row : SM :=
  (seqS (asg (tgN 2) (cal M_row_fault (lcons (vr 0) (lcons (vr 1) lnil))))
  (seqS (ifS (asT (op2 o_isnot (vr 2) (ct .non))) (raiS "BadRow" ["at", "word"] (lcons (op2 o_ix (vr 2) (ct (.int 0))) (lcons (op2 o_ix (vr 2) (ct (.int 1))) lnil))) nxS)
  (retS (calB o_len (lcons (vr 1) lnil)))))
@[irreducible] noncomputable def M_check_row : List D → Sto → Res D := fn 3 m_check_row
theorem ok_check_row (z : Zs P w K mg base) (F : Fu K mg "check_row" st_check_row ["book", "thing"]) (C_row_fault : Cl P w K mg base "row_fault" 2 ["book", "thing"] M_row_fault) : Cl P w K mg base "check_row" 3 ["book", "thing"] M_check_row := by
  unfold M_check_row
  exact cl_fn (m := m_check_row) F sc_check_row rfl (fun f cdv A outer s H E hr =>
  (s_cons (s_set 2 sc_check_row.nd (y_fn C_row_fault (hr.mono (by first | decide | omega)) (takes_of rfl rfl rfl rfl) (y_cons (y_vr 0) (y_cons (y_vr 1) y_nil)) (len_cons (len_cons len_nil))))
  (s_cons (s_if (y_tcmp op_notN os_isnot (y_vr 2) y_non) (s_one (s_rais rfl (takes_of rfl rfl rfl rfl) z.x_BadRow (hr.mono (by first | decide | omega)) (y_cons (y_ix ix_seq os_ix (y_vr 2) y_int (fun _ _ => rfl)) (y_cons (y_ix ix_seq os_ix (y_vr 2) y_int (fun _ _ => rfl)) y_nil)) (by decide))) s_nil)
  (s_one (s_ret (y_callB call_len cs_len z.n_len PyProof.Rows.Boot.«len» (y_cons (y_vr 1) y_nil)))))))
abbrev st__law_check_told : Stmt := topS 26
theorem sc__law_check_told : FnScope ["book", "thing", "error"] ["book", "thing"] (defScope st__law_check_told) := ⟨rfl, rfl, rfl, by decide +kernel, rfl, by decide +kernel, by decide +kernel⟩
noncomputable def m__law_check_told : SM :=
  (seqS (tryS (retS (cal M_check_row (lcons (vr 0) (lcons (vr 1) lnil)))) yes_MendError 2 (fun c fs => ifS ((fun c fs => trt ((isErr is_MendError_BadRow) c fs)) c fs) ((fun c fs => retS ((fun c fs => tupE ((fun c fs => lcons ((fldE ["BadRow"] "at") c fs) ((fun c fs => lcons ((fldE ["BadRow"] "word") c fs) ((fun _ _ => lnil) c fs)) c fs)) c fs)) c fs)) c fs) nxS))
  (retS (tupE lnil)))
@[irreducible] noncomputable def M__law_check_told : List D → Sto → Res D := fn 3 m__law_check_told
theorem ok__law_check_told (z : Zs P w K mg base) (F : Fu K mg "_law_check_told" st__law_check_told ["book", "thing"]) (C_check_row : Cl P w K mg base "check_row" 3 ["book", "thing"] M_check_row) : Cl P w K mg base "_law_check_told" 4 ["book", "thing"] M__law_check_told := by
  unfold M__law_check_told
  exact cl_fn (m := m__law_check_told) F sc__law_check_told rfl (fun f cdv A outer s H E hr =>
  (s_cons (s_tryH rfl rfl sc__law_check_told.nd z.h_MendError (takes_of rfl rfl rfl rfl) (fun W pn xe tk pw => (s_one (s_ret (y_fn C_check_row (hr.mono (by first | decide | omega)) tk (y_cons (y_vr 0) (y_cons (y_vr 1) y_nil)) (len_cons (len_cons len_nil)))))) (fun a oe cls d pn hz hf => (u_one (u_if1 (u_truth (u_isE z.i_MendError_BadRow hz hf (pe_var (i := 2) rfl (by first | exact Or.inl rfl | exact Or.inr (Or.inl rfl))) z.n_isinstance)) (u_one (u_ret (u_tup (u_cons (u_fld (z.f_MendError_at) hz hf (pe_var (i := 2) rfl (by first | exact Or.inl rfl | exact Or.inr (Or.inl rfl)))) (u_cons (u_fld (z.f_MendError_word) hz hf (pe_var (i := 2) rfl (by first | exact Or.inl rfl | exact Or.inr (Or.inl rfl)))) u_nil)))))))))
  (s_one (s_ret (y_tup y_nil)))))
abbrev st_cost_of : Stmt := topS 11
theorem sc_cost_of : FnScope ["book", "row", "costs", "operation"] ["book", "row"] (defScope st_cost_of) := ⟨rfl, rfl, rfl, by decide +kernel, rfl, by decide +kernel, by decide +kernel⟩
noncomputable def m_cost_of : SM :=
  (seqS (asg (tgN 2) (cal M_operation_costs (lcons (vr 0) lnil)))
  (retS (calB o_sum (lcons (compF (i_of (vr 1)) (tgN 3) yesT (itemE (vr 2) (vr 3)) [3]) lnil))))
@[irreducible] noncomputable def M_cost_of : List D → Sto → Res D := fn 4 m_cost_of
theorem ok_cost_of (z : Zs P w K mg base) (F : Fu K mg "cost_of" st_cost_of ["book", "row"]) (C_operation_costs : Cl P w K mg base "operation_costs" 1 ["book"] M_operation_costs) : Cl P w K mg base "cost_of" 2 ["book", "row"] M_cost_of := by
  unfold M_cost_of
  exact cl_fn (m := m_cost_of) F sc_cost_of rfl (fun f cdv A outer s H E hr =>
  (s_cons (s_set 2 sc_cost_of.nd (y_fn C_operation_costs (hr.mono (by first | decide | omega)) (takes_of rfl rfl rfl rfl) (y_cons (y_vr 0) y_nil) (len_cons len_nil)))
  (s_one (s_ret (y_callB (cr_sum rfl) cs_sum z.n_sum PyProof.Rows.Boot.«sum» (y_cons (y_compF (own := [("operation", 3)]) rfl sc_cost_of.nd (y_iter (y_vr 1)) (by rfl) (fun _ _ _ _ _ => (g_name (ix := [3]) 3 sc_cost_of.nd)) (fun _ _ _ _ _ => y_yes) (fun _ _ _ _ _ => (y_item (hu1 hr) (y_vr 2) (y_vr 3)))) y_nil))))))
abbrev st_read_of : Stmt := topS 9
theorem sc_read_of : FnScope ["row", "operation"] ["row"] (defScope st_read_of) := ⟨rfl, rfl, rfl, by decide +kernel, rfl, by decide +kernel, by decide +kernel⟩
noncomputable def m_read_of : SM :=
  (retS (meth "str" m_join (ct (.str (Str.ofString ""))) (lcons (compF (i_of (vr 0)) (tgN 1) yesT (op2 o_ix (vr 1) (ct (.int 0))) [1]) lnil)))
@[irreducible] noncomputable def M_read_of : List D → Sto → Res D := fn 2 m_read_of
theorem ok_read_of (z : Zs P w K mg base) (F : Fu K mg "read_of" st_read_of ["row"])  : Cl P w K mg base "read_of" 1 ["row"] M_read_of := by
  unfold M_read_of
  exact cl_fn (m := m_read_of) F sc_read_of rfl (fun f cdv A outer s H E hr =>
  (s_one (s_ret (y_bm mt_join ms_join PySem.F.plainAttrs_str PySem.F.slot_str_join PySem.F.type_str_join y_str (y_cons (y_compF (own := [("operation", 1)]) rfl sc_read_of.nd (y_iter (y_vr 0)) (by rfl) (fun _ _ _ _ _ => (g_name (ix := [1]) 1 sc_read_of.nd)) (fun _ _ _ _ _ => y_yes) (fun _ _ _ _ _ => (y_ix ix_seq os_ix (y_vr 1) y_int (fun _ _ => rfl)))) y_nil)))))
abbrev st_written_of : Stmt := topS 10
theorem sc_written_of : FnScope ["row", "operation"] ["row"] (defScope st_written_of) := ⟨rfl, rfl, rfl, by decide +kernel, rfl, by decide +kernel, by decide +kernel⟩
noncomputable def m_written_of : SM :=
  (retS (meth "str" m_join (ct (.str (Str.ofString ""))) (lcons (compF (i_of (vr 0)) (tgN 1) yesT (op2 o_ix (vr 1) (ct (.int 1))) [1]) lnil)))
@[irreducible] noncomputable def M_written_of : List D → Sto → Res D := fn 2 m_written_of
theorem ok_written_of (z : Zs P w K mg base) (F : Fu K mg "written_of" st_written_of ["row"])  : Cl P w K mg base "written_of" 1 ["row"] M_written_of := by
  unfold M_written_of
  exact cl_fn (m := m_written_of) F sc_written_of rfl (fun f cdv A outer s H E hr =>
  (s_one (s_ret (y_bm mt_join ms_join PySem.F.plainAttrs_str PySem.F.slot_str_join PySem.F.type_str_join y_str (y_cons (y_compF (own := [("operation", 1)]) rfl sc_written_of.nd (y_iter (y_vr 0)) (by rfl) (fun _ _ _ _ _ => (g_name (ix := [1]) 1 sc_written_of.nd)) (fun _ _ _ _ _ => y_yes) (fun _ _ _ _ _ => (y_ix ix_seq os_ix (y_vr 1) y_int (fun _ _ => rfl)))) y_nil)))))
abbrev st_filled : Stmt := topS 13
theorem sc_filled : FnScope ["text", "width"] ["text", "width"] (defScope st_filled) := ⟨rfl, rfl, rfl, by decide +kernel, rfl, by decide +kernel, by decide +kernel⟩
noncomputable def m_filled : SM :=
  (retS (op2 o_add (vr 0) (op2 o_mulA (ct (.str (Str.ofString "-"))) (op2 o_sub (vr 1) (calB o_len (lcons (vr 0) lnil))))))
@[irreducible] noncomputable def M_filled : List D → Sto → Res D := fn 2 m_filled
theorem ok_filled (z : Zs P w K mg base) (F : Fu K mg "filled" st_filled ["text", "width"])  : Cl P w K mg base "filled" 1 ["text", "width"] M_filled := by
  unfold M_filled
  exact cl_fn (m := m_filled) F sc_filled rfl (fun f cdv A outer s H E hr =>
  (s_one (s_ret (y_op op_addA os_add (y_vr 0) (y_op op_mulA os_mulA y_str (y_op op_sub os_sub (y_vr 1) (y_callB call_len cs_len z.n_len PyProof.Rows.Boot.«len» (y_cons (y_vr 0) y_nil))))))))
abbrev st_row_lines : Stmt := topS 14
theorem sc_row_lines : FnScope ["row", "first", "second", "read", "write", "width"] ["row"] (defScope st_row_lines) := ⟨rfl, rfl, rfl, by decide +kernel, rfl, by decide +kernel, by decide +kernel⟩
noncomputable def m_row_lines : SM :=
  (seqS (asg (tgN 1) (new (lstF lnil)))
  (seqS (asg (tgN 2) (new (lstF lnil)))
  (seqS (forS (i_of (vr 0)) (tgT [(tgN 3), (tgN 4)]) (seqS (asg (tgN 5) (calB o_max2 (lcons (calB o_len (lcons (vr 3) lnil)) (lcons (calB o_len (lcons (vr 4) lnil)) lnil))))
  (seqS (exS (meth "list" m_append (vr 1) (lcons (cal M_filled (lcons (vr 3) (lcons (vr 5) lnil))) lnil)))
  (exS (meth "list" m_append (vr 2) (lcons (cal M_filled (lcons (vr 4) (lcons (vr 5) lnil))) lnil))))))
  (retS (tupE (lcons (meth "str" m_join (ct (.str (Str.ofString ""))) (lcons (vr 1) lnil)) (lcons (meth "str" m_join (ct (.str (Str.ofString ""))) (lcons (vr 2) lnil)) lnil)))))))
@[irreducible] noncomputable def M_row_lines : List D → Sto → Res D := fn 6 m_row_lines
theorem ok_row_lines (z : Zs P w K mg base) (F : Fu K mg "row_lines" st_row_lines ["row"]) (C_filled : Cl P w K mg base "filled" 1 ["text", "width"] M_filled) : Cl P w K mg base "row_lines" 2 ["row"] M_row_lines := by
  unfold M_row_lines
  exact cl_fn (m := m_row_lines) F sc_row_lines rfl (fun f cdv A outer s H E hr =>
  (s_cons (s_set 1 sc_row_lines.nd (y_new (y_lst y_nil)))
  (s_cons (s_set 2 sc_row_lines.nd (y_new (y_lst y_nil)))
  (s_cons (s_for (passes_of rfl) rfl (y_iter (y_vr 0)) (g_tup rfl (g_cons (g_name (ix := [3, 4]) 3 sc_row_lines.nd) (g_cons (g_name (ix := [3, 4]) 4 sc_row_lines.nd) g_nil))) (s_cons (s_set 5 sc_row_lines.nd (y_callB (call_max2 rfl) cs_max2 z.n_max PyProof.Rows.Boot.«max» (y_cons (y_callB call_len cs_len z.n_len PyProof.Rows.Boot.«len» (y_cons (y_vr 3) y_nil)) (y_cons (y_callB call_len cs_len z.n_len PyProof.Rows.Boot.«len» (y_cons (y_vr 4) y_nil)) y_nil))))
  (s_cons (s_expr (y_bm mt_append ms_append PySem.F.plainAttrs_list PySem.F.slot_list_append PySem.F.type_list_append (y_vr 1) (y_cons (y_fn C_filled (hr.mono (by first | decide | omega)) (takes_of rfl rfl rfl rfl) (y_cons (y_vr 3) (y_cons (y_vr 5) y_nil)) (len_cons (len_cons len_nil))) y_nil)))
  (s_one (s_expr (y_bm mt_append ms_append PySem.F.plainAttrs_list PySem.F.slot_list_append PySem.F.type_list_append (y_vr 2) (y_cons (y_fn C_filled (hr.mono (by first | decide | omega)) (takes_of rfl rfl rfl rfl) (y_cons (y_vr 4) (y_cons (y_vr 5) y_nil)) (len_cons (len_cons len_nil))) y_nil)))))))
  (s_one (s_ret (y_tup (y_cons (y_bm mt_join ms_join PySem.F.plainAttrs_str PySem.F.slot_str_join PySem.F.type_str_join y_str (y_cons (y_vr 1) y_nil)) (y_cons (y_bm mt_join ms_join PySem.F.plainAttrs_str PySem.F.slot_str_join PySem.F.type_str_join y_str (y_cons (y_vr 2) y_nil)) y_nil)))))))))
abbrev st_row_kinds : Stmt := topS 15
theorem sc_row_kinds : FnScope ["row", "counts", "read", "write"] ["row"] (defScope st_row_kinds) := ⟨rfl, rfl, rfl, by decide +kernel, rfl, by decide +kernel, by decide +kernel⟩
noncomputable def m_row_kinds : SM :=
  (seqS (asg (tgN 1) (new (lstF (lcons (ct (.int 0)) (lcons (ct (.int 0)) (lcons (ct (.int 0)) (lcons (ct (.int 0)) lnil)))))))
  (seqS (forS (i_of (vr 0)) (tgT [(tgN 2), (tgN 3)]) (ifS (asT (op2 o_eq (vr 2) (vr 3))) (augS (fun i j => i + j) (vr 1) (ct (.int 0)) (ct (.int 1))) (ifS (asT (op2 o_eq (vr 3) (ct (.str (Str.ofString ""))))) (augS (fun i j => i + j) (vr 1) (ct (.int 1)) (ct (.int 1))) (ifS (asT (op2 o_eq (vr 2) (ct (.str (Str.ofString ""))))) (augS (fun i j => i + j) (vr 1) (ct (.int 2)) (ct (.int 1))) (augS (fun i j => i + j) (vr 1) (ct (.int 3)) (ct (.int 1)))))))
  (retS (calB o_tupleA (lcons (vr 1) lnil)))))
@[irreducible] noncomputable def M_row_kinds : List D → Sto → Res D := fn 4 m_row_kinds
theorem ok_row_kinds (z : Zs P w K mg base) (F : Fu K mg "row_kinds" st_row_kinds ["row"])  : Cl P w K mg base "row_kinds" 1 ["row"] M_row_kinds := by
  unfold M_row_kinds
  exact cl_fn (m := m_row_kinds) F sc_row_kinds rfl (fun f cdv A outer s H E hr =>
  (s_cons (s_set 1 sc_row_kinds.nd (y_new (y_lst (y_cons y_int (y_cons y_int (y_cons y_int (y_cons y_int y_nil)))))))
  (s_cons (s_for (passes_of rfl) rfl (y_iter (y_vr 0)) (g_tup rfl (g_cons (g_name (ix := [2, 3]) 2 sc_row_kinds.nd) (g_cons (g_name (ix := [2, 3]) 3 sc_row_kinds.nd) g_nil))) (s_one (s_if (y_tcmp (op_eqD (hu64 hr)) os_eq (y_vr 2) (y_vr 3)) (s_one (s_augI ip_add (y_vr 1) y_int y_int)) (s_one (s_if (y_tcmp (op_eqD (hu64 hr)) os_eq (y_vr 3) y_str) (s_one (s_augI ip_add (y_vr 1) y_int y_int)) (s_one (s_if (y_tcmp (op_eqD (hu64 hr)) os_eq (y_vr 2) y_str) (s_one (s_augI ip_add (y_vr 1) y_int y_int)) (s_one (s_augI ip_add (y_vr 1) y_int y_int)))))))))
  (s_one (s_ret (y_callTy (cr_tupA rfl) cs_tupA z.n_tuple PyProof.Rows.Boot.«tuple» (y_cons (y_vr 1) y_nil)))))))
abbrev st__law_row_holds : Stmt := topS 28
theorem sc__law_row_holds : FnScope ["book", "costs", "row", "reads", "writes", "above", "below", "kinds", "read", "write", "wide", "what", "op"] ["book", "costs", "row"] (defScope st__law_row_holds) := ⟨rfl, rfl, rfl, by decide +kernel, rfl, by decide +kernel, by decide +kernel⟩
noncomputable def m__law_row_holds : SM :=
  (seqS (asg (tgN 3) (compF (i_of (vr 2)) (tgN 12) yesT (op2 o_ix (vr 12) (ct (.int 0))) [12]))
  (seqS (asg (tgN 4) (compF (i_of (vr 2)) (tgN 12) yesT (op2 o_ix (vr 12) (ct (.int 1))) [12]))
  (seqS (ifS (orT (notT (trt (cal M__law_same (lcons (cal M_read_of (lcons (vr 2) lnil)) (lcons (meth "str" m_join (ct (.str (Str.ofString ""))) (lcons (vr 3) lnil)) lnil))))) (notT (trt (cal M__law_same (lcons (cal M_written_of (lcons (vr 2) lnil)) (lcons (meth "str" m_join (ct (.str (Str.ofString ""))) (lcons (vr 4) lnil)) lnil)))))) (retS (ct (.bl false))) nxS)
  (seqS (ifS (notT (trt (cal M__law_same (lcons (cal M_cost_of (lcons (vr 0) (lcons (vr 2) lnil))) (lcons (calB o_sum (lcons (compF (i_of (vr 2)) (tgN 12) yesT (itemE (vr 1) (vr 12)) [12]) lnil)) lnil))))) (retS (ct (.bl false))) nxS)
  (seqS (asg (tgN 5) (new (lstF lnil)))
  (seqS (asg (tgN 6) (new (lstF lnil)))
  (seqS (asg (tgN 7) (new (lstF (lcons (ct (.int 0)) (lcons (ct (.int 0)) (lcons (ct (.int 0)) (lcons (ct (.int 0)) lnil)))))))
  (seqS (forS (i_of (vr 2)) (tgT [(tgN 8), (tgN 9)]) (seqS (asg (tgN 10) (calB o_max2 (lcons (calB o_len (lcons (vr 8) lnil)) (lcons (calB o_len (lcons (vr 9) lnil)) lnil))))
  (seqS (exS (meth "list" m_append (vr 5) (lcons (op2 o_add (vr 8) (op2 o_mulA (ct (.str (Str.ofString "-"))) (op2 o_sub (vr 10) (calB o_len (lcons (vr 8) lnil))))) lnil)))
  (seqS (exS (meth "list" m_append (vr 6) (lcons (op2 o_add (vr 9) (op2 o_mulA (ct (.str (Str.ofString "-"))) (op2 o_sub (vr 10) (calB o_len (lcons (vr 9) lnil))))) lnil)))
  (seqS (asg (tgN 11) (ct (.int 3)))
  (seqS (ifS (asT (op2 o_eq (vr 8) (vr 9))) (asg (tgN 11) (ct (.int 0))) (ifS (asT (op2 o_eq (vr 9) (ct (.str (Str.ofString ""))))) (asg (tgN 11) (ct (.int 1))) (ifS (asT (op2 o_eq (vr 8) (ct (.str (Str.ofString ""))))) (asg (tgN 11) (ct (.int 2))) nxS)))
  (setS (op2 o_add (op2 o_ix (vr 7) (vr 11)) (ct (.int 1))) (vr 7) (vr 11))))))))
  (seqS (ifS (orT (notT (trt (cal M__law_same (lcons (cal M_row_lines (lcons (vr 2) lnil)) (lcons (tupE (lcons (meth "str" m_join (ct (.str (Str.ofString ""))) (lcons (vr 5) lnil)) (lcons (meth "str" m_join (ct (.str (Str.ofString ""))) (lcons (vr 6) lnil)) lnil))) lnil))))) (notT (trt (cal M__law_same (lcons (cal M_row_kinds (lcons (vr 2) lnil)) (lcons (calB o_tupleA (lcons (vr 7) lnil)) lnil)))))) (retS (ct (.bl false))) nxS)
  (retS (cal M__law_same (lcons (cal M__law_check_told (lcons (vr 0) (lcons (vr 2) lnil))) (lcons (calB o_len (lcons (vr 2) lnil)) lnil)))))))))))))
@[irreducible] noncomputable def M__law_row_holds : List D → Sto → Res D := fn 13 m__law_row_holds
theorem ok__law_row_holds (z : Zs P w K mg base) (F : Fu K mg "_law_row_holds" st__law_row_holds ["book", "costs", "row"]) (C__law_same : Cl P w K mg base "_law_same" 2 ["told", "due"] M__law_same) (C__law_check_told : Cl P w K mg base "_law_check_told" 4 ["book", "thing"] M__law_check_told) (C_cost_of : Cl P w K mg base "cost_of" 2 ["book", "row"] M_cost_of) (C_read_of : Cl P w K mg base "read_of" 1 ["row"] M_read_of) (C_written_of : Cl P w K mg base "written_of" 1 ["row"] M_written_of) (C_row_lines : Cl P w K mg base "row_lines" 2 ["row"] M_row_lines) (C_row_kinds : Cl P w K mg base "row_kinds" 1 ["row"] M_row_kinds) : Cl P w K mg base "_law_row_holds" 5 ["book", "costs", "row"] M__law_row_holds := by
  unfold M__law_row_holds
  exact cl_fn (m := m__law_row_holds) F sc__law_row_holds rfl (fun f cdv A outer s H E hr =>
  (s_cons (s_setCompF (own := [("op", 12)]) 3 rfl sc__law_row_holds.nd rfl rfl (y_iter (y_vr 2)) (by rfl) (fun _ _ _ _ _ => (g_name (ix := [12]) 12 sc__law_row_holds.nd)) (fun _ _ _ _ _ => y_yes) (fun _ _ _ _ _ => (y_ix ix_seq os_ix (y_vr 12) y_int (fun _ _ => rfl))))
  (s_cons (s_setCompF (own := [("op", 12)]) 4 rfl sc__law_row_holds.nd rfl rfl (y_iter (y_vr 2)) (by rfl) (fun _ _ _ _ _ => (g_name (ix := [12]) 12 sc__law_row_holds.nd)) (fun _ _ _ _ _ => y_yes) (fun _ _ _ _ _ => (y_ix ix_seq os_ix (y_vr 12) y_int (fun _ _ => rfl))))
  (s_cons (s_if ((y_tor (y_tnot (y_truth (y_fn C__law_same (hr.mono (by first | decide | omega)) (takes_of rfl rfl rfl rfl) (y_cons (y_fn C_read_of (hr.mono (by first | decide | omega)) (takes_of rfl rfl rfl rfl) (y_cons (y_vr 2) y_nil) (len_cons len_nil)) (y_cons (y_bm mt_join ms_join PySem.F.plainAttrs_str PySem.F.slot_str_join PySem.F.type_str_join y_str (y_cons (y_vr 3) y_nil)) y_nil)) (len_cons (len_cons len_nil))))) (y_tor1 (y_tnot (y_truth (y_fn C__law_same (hr.mono (by first | decide | omega)) (takes_of rfl rfl rfl rfl) (y_cons (y_fn C_written_of (hr.mono (by first | decide | omega)) (takes_of rfl rfl rfl rfl) (y_cons (y_vr 2) y_nil) (len_cons len_nil)) (y_cons (y_bm mt_join ms_join PySem.F.plainAttrs_str PySem.F.slot_str_join PySem.F.type_str_join y_str (y_cons (y_vr 4) y_nil)) y_nil)) (len_cons (len_cons len_nil)))))))).pt (s_one (s_ret y_bl)) s_nil)
  (s_cons (s_if (y_tnot (y_truth (y_fn C__law_same (hr.mono (by first | decide | omega)) (takes_of rfl rfl rfl rfl) (y_cons (y_fn C_cost_of (hr.mono (by first | decide | omega)) (takes_of rfl rfl rfl rfl) (y_cons (y_vr 0) (y_cons (y_vr 2) y_nil)) (len_cons (len_cons len_nil))) (y_cons (y_callB (cr_sum rfl) cs_sum z.n_sum PyProof.Rows.Boot.«sum» (y_cons (y_compF (own := [("op", 12)]) rfl sc__law_row_holds.nd (y_iter (y_vr 2)) (by rfl) (fun _ _ _ _ _ => (g_name (ix := [12]) 12 sc__law_row_holds.nd)) (fun _ _ _ _ _ => y_yes) (fun _ _ _ _ _ => (y_item (hu1 hr) (y_vr 1) (y_vr 12)))) y_nil)) y_nil)) (len_cons (len_cons len_nil))))) (s_one (s_ret y_bl)) s_nil)
  (s_cons (s_set 5 sc__law_row_holds.nd (y_new (y_lst y_nil)))
  (s_cons (s_set 6 sc__law_row_holds.nd (y_new (y_lst y_nil)))
  (s_cons (s_set 7 sc__law_row_holds.nd (y_new (y_lst (y_cons y_int (y_cons y_int (y_cons y_int (y_cons y_int y_nil)))))))
  (s_cons (s_for (passes_of rfl) rfl (y_iter (y_vr 2)) (g_tup rfl (g_cons (g_name (ix := [8, 9]) 8 sc__law_row_holds.nd) (g_cons (g_name (ix := [8, 9]) 9 sc__law_row_holds.nd) g_nil))) (s_cons (s_set 10 sc__law_row_holds.nd (y_callB (call_max2 rfl) cs_max2 z.n_max PyProof.Rows.Boot.«max» (y_cons (y_callB call_len cs_len z.n_len PyProof.Rows.Boot.«len» (y_cons (y_vr 8) y_nil)) (y_cons (y_callB call_len cs_len z.n_len PyProof.Rows.Boot.«len» (y_cons (y_vr 9) y_nil)) y_nil))))
  (s_cons (s_expr (y_bm mt_append ms_append PySem.F.plainAttrs_list PySem.F.slot_list_append PySem.F.type_list_append (y_vr 5) (y_cons (y_op op_addA os_add (y_vr 8) (y_op op_mulA os_mulA y_str (y_op op_sub os_sub (y_vr 10) (y_callB call_len cs_len z.n_len PyProof.Rows.Boot.«len» (y_cons (y_vr 8) y_nil))))) y_nil)))
  (s_cons (s_expr (y_bm mt_append ms_append PySem.F.plainAttrs_list PySem.F.slot_list_append PySem.F.type_list_append (y_vr 6) (y_cons (y_op op_addA os_add (y_vr 9) (y_op op_mulA os_mulA y_str (y_op op_sub os_sub (y_vr 10) (y_callB call_len cs_len z.n_len PyProof.Rows.Boot.«len» (y_cons (y_vr 9) y_nil))))) y_nil)))
  (s_cons (s_set 11 sc__law_row_holds.nd y_int)
  (s_cons (s_if (y_tcmp (op_eqD (hu64 hr)) os_eq (y_vr 8) (y_vr 9)) (s_one (s_set 11 sc__law_row_holds.nd y_int)) (s_one (s_if (y_tcmp (op_eqD (hu64 hr)) os_eq (y_vr 9) y_str) (s_one (s_set 11 sc__law_row_holds.nd y_int)) (s_one (s_if (y_tcmp (op_eqD (hu64 hr)) os_eq (y_vr 8) y_str) (s_one (s_set 11 sc__law_row_holds.nd y_int)) s_nil)))))
  (s_one (s_sub (y_op op_addA os_add (y_ix ix_seq os_ix (y_vr 7) (y_vr 11) (fun _ _ => rfl)) y_int) (y_vr 7) (y_vr 11)))))))))
  (s_cons (s_if ((y_tor (y_tnot (y_truth (y_fn C__law_same (hr.mono (by first | decide | omega)) (takes_of rfl rfl rfl rfl) (y_cons (y_fn C_row_lines (hr.mono (by first | decide | omega)) (takes_of rfl rfl rfl rfl) (y_cons (y_vr 2) y_nil) (len_cons len_nil)) (y_cons (y_tup (y_cons (y_bm mt_join ms_join PySem.F.plainAttrs_str PySem.F.slot_str_join PySem.F.type_str_join y_str (y_cons (y_vr 5) y_nil)) (y_cons (y_bm mt_join ms_join PySem.F.plainAttrs_str PySem.F.slot_str_join PySem.F.type_str_join y_str (y_cons (y_vr 6) y_nil)) y_nil))) y_nil)) (len_cons (len_cons len_nil))))) (y_tor1 (y_tnot (y_truth (y_fn C__law_same (hr.mono (by first | decide | omega)) (takes_of rfl rfl rfl rfl) (y_cons (y_fn C_row_kinds (hr.mono (by first | decide | omega)) (takes_of rfl rfl rfl rfl) (y_cons (y_vr 2) y_nil) (len_cons len_nil)) (y_cons (y_callTy (cr_tupA rfl) cs_tupA z.n_tuple PyProof.Rows.Boot.«tuple» (y_cons (y_vr 7) y_nil)) y_nil)) (len_cons (len_cons len_nil)))))))).pt (s_one (s_ret y_bl)) s_nil)
  (s_one (s_ret (y_fn C__law_same (hr.mono (by first | decide | omega)) (takes_of rfl rfl rfl rfl) (y_cons (y_fn C__law_check_told (hr.mono (by first | decide | omega)) (takes_of rfl rfl rfl rfl) (y_cons (y_vr 0) (y_cons (y_vr 2) y_nil)) (len_cons (len_cons len_nil))) (y_cons (y_callB call_len cs_len z.n_len PyProof.Rows.Boot.«len» (y_cons (y_vr 2) y_nil)) y_nil)) (len_cons (len_cons len_nil)))))))))))))))
abbrev st__law_row_due : Stmt := topS 25
theorem sc__law_row_due : FnScope ["costs", "thing", "at", "op"] ["costs", "thing"] (defScope st__law_row_due) := ⟨rfl, rfl, rfl, by decide +kernel, rfl, by decide +kernel, by decide +kernel⟩
noncomputable def m__law_row_due : SM :=
  (seqS (ifS (notT (trt (isiE "tuple" (vr 1)))) (retS (tupE (lcons (op1 o_neg (ct (.int 1))) (lcons (ct (.str (Str.ofString "shape"))) lnil)))) nxS)
  (seqS (ifS (asT (op2 o_gt (calB o_len (lcons (vr 1) lnil)) (ct (.int 600)))) (retS (tupE (lcons (op1 o_neg (ct (.int 1))) (lcons (ct (.str (Str.ofString "limit"))) lnil)))) nxS)
  (seqS (forS (i_rg1 (lcons (calB o_len (lcons (vr 1) lnil)) lnil)) (tgN 2) (seqS (asg (tgN 3) (op2 o_ix (vr 1) (vr 2)))
  (seqS (ifS (orT (notT (trt (isiE "tuple" (vr 3)))) (orT (asT (op2 o_ne (calB o_len (lcons (vr 3) lnil)) (ct (.int 2)))) (orT (notT (trt (isiE "str" (op2 o_ix (vr 3) (ct (.int 0)))))) (notT (trt (isiE "str" (op2 o_ix (vr 3) (ct (.int 1))))))))) (retS (tupE (lcons (vr 2) (lcons (ct (.str (Str.ofString "op"))) lnil)))) nxS)
  (ifS (asT (hasE true (vr 3) (vr 0))) (retS (tupE (lcons (vr 2) (lcons (ct (.str (Str.ofString "op"))) lnil)))) nxS))))
  (retS (calB o_len (lcons (vr 1) lnil))))))
@[irreducible] noncomputable def M__law_row_due : List D → Sto → Res D := fn 4 m__law_row_due
theorem ok__law_row_due (z : Zs P w K mg base) (F : Fu K mg "_law_row_due" st__law_row_due ["costs", "thing"])  : Cl P w K mg base "_law_row_due" 1 ["costs", "thing"] M__law_row_due := by
  unfold M__law_row_due
  exact cl_fn (m := m__law_row_due) F sc__law_row_due rfl (fun f cdv A outer s H E hr =>
  (s_cons (s_if (y_tnot (y_truth (y_isi (T := "tuple") (by decide) (y_vr 1) z.n_isinstance z.n_tuple PyProof.Rows.Boot.«tuple»))) (s_one (s_ret (y_tup (y_cons (y_un un_neg us_neg y_int) (y_cons y_str y_nil))))) s_nil)
  (s_cons (s_if (y_tcmp op_gt os_cmp (y_callB call_len cs_len z.n_len PyProof.Rows.Boot.«len» (y_cons (y_vr 1) y_nil)) y_int) (s_one (s_ret (y_tup (y_cons (y_un un_neg us_neg y_int) (y_cons y_str y_nil))))) s_nil)
  (s_cons (s_for (passes_of rfl) rfl (y_rg1 z.n_range (y_cons (y_callB call_len cs_len z.n_len PyProof.Rows.Boot.«len» (y_cons (y_vr 1) y_nil)) y_nil)) (g_name (ix := [2]) 2 sc__law_row_due.nd) (s_cons (s_set 3 sc__law_row_due.nd (y_ix ix_seq os_ix (y_vr 1) (y_vr 2) (fun _ _ => rfl)))
  (s_cons (s_if ((y_tor (y_tnot (y_truth (y_isi (T := "tuple") (by decide) (y_vr 3) z.n_isinstance z.n_tuple PyProof.Rows.Boot.«tuple»))) (y_tor (y_tcmp (op_neD (hu64 hr)) os_ne (y_callB call_len cs_len z.n_len PyProof.Rows.Boot.«len» (y_cons (y_vr 3) y_nil)) y_int) (y_tor (y_tnot (y_truth (y_isi (T := "str") (by decide) (y_ix ix_seq os_ix (y_vr 3) y_int (fun _ _ => rfl)) z.n_isinstance z.n_str PyProof.Rows.Boot.«str»))) (y_tor1 (y_tnot (y_truth (y_isi (T := "str") (by decide) (y_ix ix_seq os_ix (y_vr 3) y_int (fun _ _ => rfl)) z.n_isinstance z.n_str PyProof.Rows.Boot.«str»)))))))).pt (s_one (s_ret (y_tup (y_cons (y_vr 2) (y_cons y_str y_nil))))) s_nil)
  (s_one (s_if (y_thasNot (hu1 hr) (y_vr 3) (y_vr 0)) (s_one (s_ret (y_tup (y_cons (y_vr 2) (y_cons y_str y_nil))))) s_nil)))))
  (s_one (s_ret (y_callB call_len cs_len z.n_len PyProof.Rows.Boot.«len» (y_cons (y_vr 1) y_nil))))))))
abbrev st__law_long_holds : Stmt := topS 32
theorem sc__law_long_holds : FnScope ["pool", "book", "costs", "ops", "first", "step", "row", "late", "thing", "k"] ["pool", "book", "costs"] (defScope st__law_long_holds) := ⟨rfl, rfl, rfl, by decide +kernel, rfl, by decide +kernel, by decide +kernel⟩
noncomputable def m__law_long_holds : SM :=
  (seqS (asg (tgN 3) (frz (calF o_sortedT (lcons (vr 2) lnil))))
  (seqS (asg (tgN 4) (cal M__law_draw (lcons (vr 0) (lcons (calB o_len (lcons (vr 3) lnil)) lnil))))
  (seqS (asg (tgN 5) (op2 o_add (ct (.int 1)) (cal M__law_draw (lcons (vr 0) (lcons (ct (.int 6)) lnil)))))
  (seqS (asg (tgN 6) (calB o_tupleA (lcons (compF (i_rg1 (lcons (ct (.int 600)) lnil)) (tgN 9) yesT (op2 o_ix (vr 3) (op2 o_mod (calB o_int (lcons (op2 o_add (vr 4) (op2 o_mulA (vr 9) (vr 5))) lnil)) (calB o_len (lcons (vr 3) lnil)))) [9]) lnil)))
  (seqS (ifS (notT (trt (cal M__law_row_holds (lcons (vr 1) (lcons (vr 2) (lcons (vr 6) lnil)))))) (retS (ct (.bl false))) nxS)
  (seqS (asg (tgN 7) (op2 o_add (ct (.int 590)) (cal M__law_draw (lcons (vr 0) (lcons (ct (.int 10)) lnil)))))
  (seqS (forS (i_of (tupE (lcons (op2 o_add (vr 6) (cut o_cut (vr 6) onoM (osmM (ct (.int 1))))) (lcons (op2 o_add (cut o_cut (vr 6) onoM (osmM (ct (.int 599)))) (tupE (lcons (tupE (lcons (ct (.str (Str.ofString ""))) (lcons (ct (.str (Str.ofString ""))) lnil))) lnil))) (lcons (op2 o_add (vr 6) (tupE (lcons (ct .non) lnil))) (lcons (op2 o_add (op2 o_add (cut o_cut (vr 6) onoM (osmM (vr 7))) (tupE (lcons (tupE (lcons (ct (.str (Str.ofString "A"))) (lcons (ct (.str (Str.ofString ""))) lnil))) lnil))) (cut o_cut (vr 6) (osmM (op2 o_add (vr 7) (ct (.int 1)))) onoM)) lnil)))))) (tgN 8) (ifS (notT (trt (cal M__law_same (lcons (cal M__law_check_told (lcons (vr 1) (lcons (vr 8) lnil))) (lcons (cal M__law_row_due (lcons (vr 2) (lcons (vr 8) lnil))) lnil))))) (retS (ct (.bl false))) nxS))
  (retS (ct (.bl true))))))))))
@[irreducible] noncomputable def M__law_long_holds : List D → Sto → Res D := fn 10 m__law_long_holds
theorem ok__law_long_holds (z : Zs P w K mg base) (F : Fu K mg "_law_long_holds" st__law_long_holds ["pool", "book", "costs"]) (C__law_draw : Cl P w K mg base "_law_draw" 1 ["pool", "many"] M__law_draw) (C__law_same : Cl P w K mg base "_law_same" 2 ["told", "due"] M__law_same) (C__law_check_told : Cl P w K mg base "_law_check_told" 4 ["book", "thing"] M__law_check_told) (C__law_row_holds : Cl P w K mg base "_law_row_holds" 5 ["book", "costs", "row"] M__law_row_holds) (C__law_row_due : Cl P w K mg base "_law_row_due" 1 ["costs", "thing"] M__law_row_due) : Cl P w K mg base "_law_long_holds" 6 ["pool", "book", "costs"] M__law_long_holds := by
  unfold M__law_long_holds
  exact cl_fn (m := m__law_long_holds) F sc__law_long_holds rfl (fun f cdv A outer s H E hr =>
  (s_cons (s_set 3 sc__law_long_holds.nd (y_frz (y_callBF (cr_sortT rfl (hu200 hr)) cf_sortedT z.n_sorted PyProof.Rows.Boot.«sorted» (y_cons (y_vr 2) y_nil))))
  (s_cons (s_set 4 sc__law_long_holds.nd (y_fn C__law_draw (hr.mono (by first | decide | omega)) (takes_of rfl rfl rfl rfl) (y_cons (y_vr 0) (y_cons (y_callB call_len cs_len z.n_len PyProof.Rows.Boot.«len» (y_cons (y_vr 3) y_nil)) y_nil)) (len_cons (len_cons len_nil))))
  (s_cons (s_set 5 sc__law_long_holds.nd (y_op op_addA os_add y_int (y_fn C__law_draw (hr.mono (by first | decide | omega)) (takes_of rfl rfl rfl rfl) (y_cons (y_vr 0) (y_cons y_int y_nil)) (len_cons (len_cons len_nil)))))
  (s_cons (s_set 6 sc__law_long_holds.nd (y_callTy (cr_tupA rfl) cs_tupA z.n_tuple PyProof.Rows.Boot.«tuple» (y_cons (y_compF (own := [("k", 9)]) rfl sc__law_long_holds.nd (y_rg1 z.n_range (y_cons y_int y_nil)) (by rfl) (fun _ _ _ _ _ => (g_name (ix := [9]) 9 sc__law_long_holds.nd)) (fun _ _ _ _ _ => y_yes) (fun _ _ _ _ _ => (y_ix ix_seq os_ix (y_vr 3) (y_op op_mod os_mod (y_callTy call_int1 cs_int z.n_int PyProof.Rows.Boot.«int» (y_cons (y_op op_addA os_add (y_vr 4) (y_op op_mulA os_mulA (y_vr 9) (y_vr 5))) y_nil)) (y_callB call_len cs_len z.n_len PyProof.Rows.Boot.«len» (y_cons (y_vr 3) y_nil))) (fun _ _ => rfl)))) y_nil)))
  (s_cons (s_if (y_tnot (y_truth (y_fn C__law_row_holds (hr.mono (by first | decide | omega)) (takes_of rfl rfl rfl rfl) (y_cons (y_vr 1) (y_cons (y_vr 2) (y_cons (y_vr 6) y_nil))) (len_cons (len_cons (len_cons len_nil)))))) (s_one (s_ret y_bl)) s_nil)
  (s_cons (s_set 7 sc__law_long_holds.nd (y_op op_addA os_add y_int (y_fn C__law_draw (hr.mono (by first | decide | omega)) (takes_of rfl rfl rfl rfl) (y_cons (y_vr 0) (y_cons y_int y_nil)) (len_cons (len_cons len_nil)))))
  (s_cons (s_for (passes_of rfl) rfl (y_iter (y_tup (y_cons (y_op op_addA os_add (y_vr 6) (y_cut (y_vr 6) y_ono (y_osm y_int))) (y_cons (y_op op_addA os_add (y_cut (y_vr 6) y_ono (y_osm y_int)) (y_tup (y_cons (y_tup (y_cons y_str (y_cons y_str y_nil))) y_nil))) (y_cons (y_op op_addA os_add (y_vr 6) (y_tup (y_cons y_non y_nil))) (y_cons (y_op op_addA os_add (y_op op_addA os_add (y_cut (y_vr 6) y_ono (y_osm (y_vr 7))) (y_tup (y_cons (y_tup (y_cons y_str (y_cons y_str y_nil))) y_nil))) (y_cut (y_vr 6) (y_osm (y_op op_addA os_add (y_vr 7) y_int)) y_ono)) y_nil)))))) (g_name (ix := [8]) 8 sc__law_long_holds.nd) (s_one (s_if (y_tnot (y_truth (y_fn C__law_same (hr.mono (by first | decide | omega)) (takes_of rfl rfl rfl rfl) (y_cons (y_fn C__law_check_told (hr.mono (by first | decide | omega)) (takes_of rfl rfl rfl rfl) (y_cons (y_vr 1) (y_cons (y_vr 8) y_nil)) (len_cons (len_cons len_nil))) (y_cons (y_fn C__law_row_due (hr.mono (by first | decide | omega)) (takes_of rfl rfl rfl rfl) (y_cons (y_vr 2) (y_cons (y_vr 8) y_nil)) (len_cons (len_cons len_nil))) y_nil)) (len_cons (len_cons len_nil))))) (s_one (s_ret y_bl)) s_nil)))
  (s_one (s_ret y_bl))))))))))
abbrev st__law_strange_ops : Stmt := topS 29
theorem sc__law_strange_ops : FnScope ["pool", "book", "costs", "row", "letters", "one", "two", "rows", "op"] ["pool", "book", "costs", "row"] (defScope st__law_strange_ops) := ⟨rfl, rfl, rfl, by decide +kernel, rfl, by decide +kernel, by decide +kernel⟩
noncomputable def m__law_strange_ops : SM :=
  (seqS (asg (tgN 4) (op2 o_ix (vr 1) (ct (.int 0))))
  (seqS (asg (tgN 5) (op2 o_ix (vr 4) (cal M__law_draw (lcons (vr 0) (lcons (calB o_len (lcons (vr 4) lnil)) lnil)))))
  (seqS (asg (tgN 6) (op2 o_ix (vr 4) (cal M__law_draw (lcons (vr 0) (lcons (calB o_len (lcons (vr 4) lnil)) lnil)))))
  (seqS (asg (tgN 7) (new (lstF (lcons (tupE (lcons (op2 o_add (vr 5) (vr 6)) (lcons (op2 o_add (vr 6) (vr 5)) lnil))) (lcons (tupE (lcons (vr 6) (lcons (vr 5) lnil))) (lcons (tupE (lcons (ct (.str (Str.ofString ""))) (lcons (ct (.str (Str.ofString ""))) lnil))) (lcons (tupE (lcons (ct (.str (Str.ofString ""))) (lcons (vr 5) lnil))) (lcons (tupE (lcons (vr 5) (lcons (ct (.str (Str.ofString ""))) lnil))) (lcons (tupE (lcons (op2 o_add (vr 5) (vr 6)) (lcons (op2 o_add (vr 5) (vr 6)) lnil))) (lcons (tupE (lcons (ct (.str (Str.ofString "A"))) (lcons (ct (.str (Str.ofString "A"))) lnil))) lnil))))))))))
  (seqS (asg (tgN 7) (new (catF (vr 7) (frz (lstF (lcons (frz (lstF (lcons (vr 5) (lcons (vr 5) lnil)))) (lcons (tupE (lcons (vr 5) lnil)) (lcons (tupE (lcons (vr 5) (lcons (vr 5) (lcons (ct (.int 0)) lnil)))) (lcons (tupE (lcons (vr 5) (lcons (ct .non) lnil))) (lcons (tupE (lcons (ct (.int 0)) (lcons (vr 5) lnil))) (lcons (op2 o_add (vr 5) (vr 5)) (lcons (vr 5) (lcons (ct (.int 0)) (lcons (ct (.bl true)) (lcons (tupE lnil) (lcons (tupE (lcons (tupE (lcons (vr 5) (lcons (vr 5) lnil))) lnil)) lnil))))))))))))))))
  (seqS (asg (tgN 7) (new (catF (vr 7) (frz (lstF (lcons (tupE (lcons (vr 5) (lcons (op2 o_add (op2 o_add (vr 5) (vr 6)) (vr 5)) lnil))) (lcons (tupE (lcons (ct (.str (Str.ofString ""))) (lcons (op2 o_add (vr 5) (vr 6)) lnil))) (lcons (tupE (lcons (op2 o_mulA (vr 5) (ct (.int 4))) (lcons (vr 5) lnil))) (lcons (tupE (lcons (ct (.str (Str.ofString "-"))) (lcons (ct (.str (Str.ofString "-"))) lnil))) (lcons (tupE (lcons (op2 o_add (vr 5) (ct (.str (Str.ofString " ")))) (lcons (vr 5) lnil))) (lcons (frz (lstF lnil)) (lcons (ct .non) lnil))))))))))))
  (seqS (exS (meth "list" m_append (vr 7) (lcons (tupE (lcons (vr 5) (lcons (frz (lstF (lcons (vr 6) lnil))) lnil))) lnil)))
  (seqS (ifS (asT (op2 o_gt (calB o_len (lcons (vr 3) lnil)) (ct (.int 0)))) (seqS (asg (tgN 8) (op2 o_ix (vr 3) (cal M__law_draw (lcons (vr 0) (lcons (calB o_len (lcons (vr 3) lnil)) lnil)))))
  (asg (tgN 7) (new (catF (vr 7) (frz (lstF (lcons (frz (calF o_listA (lcons (vr 8) lnil))) (lcons (tupE (lcons (op2 o_ix (vr 8) (ct (.int 1))) (lcons (op2 o_ix (vr 8) (ct (.int 0))) lnil))) (lcons (op2 o_add (vr 8) (tupE (lcons (itemE (vr 2) (vr 8)) lnil))) (lcons (tupE (lcons (op2 o_ix (vr 8) (ct (.int 0))) (lcons (op2 o_add (op2 o_ix (vr 8) (ct (.int 1))) (vr 5)) lnil))) (lcons (tupE (lcons (op2 o_add (op2 o_ix (vr 8) (ct (.int 0))) (vr 6)) (lcons (op2 o_ix (vr 8) (ct (.int 1))) lnil))) (lcons (tupE (lcons (vr 8) lnil)) lnil)))))))))))) nxS)
  (retS (vr 7))))))))))
@[irreducible] noncomputable def M__law_strange_ops : List D → Sto → Res D := fn 9 m__law_strange_ops
theorem ok__law_strange_ops (z : Zs P w K mg base) (F : Fu K mg "_law_strange_ops" st__law_strange_ops ["pool", "book", "costs", "row"]) (C__law_draw : Cl P w K mg base "_law_draw" 1 ["pool", "many"] M__law_draw) : Cl P w K mg base "_law_strange_ops" 2 ["pool", "book", "costs", "row"] M__law_strange_ops := by
  unfold M__law_strange_ops
  exact cl_fn (m := m__law_strange_ops) F sc__law_strange_ops rfl (fun f cdv A outer s H E hr =>
  (s_cons (s_set 4 sc__law_strange_ops.nd (y_ix ix_seq os_ix (y_vr 1) y_int (fun _ _ => rfl)))
  (s_cons (s_set 5 sc__law_strange_ops.nd (y_ix ix_seq os_ix (y_vr 4) (y_fn C__law_draw (hr.mono (by first | decide | omega)) (takes_of rfl rfl rfl rfl) (y_cons (y_vr 0) (y_cons (y_callB call_len cs_len z.n_len PyProof.Rows.Boot.«len» (y_cons (y_vr 4) y_nil)) y_nil)) (len_cons (len_cons len_nil))) (fun _ _ => rfl)))
  (s_cons (s_set 6 sc__law_strange_ops.nd (y_ix ix_seq os_ix (y_vr 4) (y_fn C__law_draw (hr.mono (by first | decide | omega)) (takes_of rfl rfl rfl rfl) (y_cons (y_vr 0) (y_cons (y_callB call_len cs_len z.n_len PyProof.Rows.Boot.«len» (y_cons (y_vr 4) y_nil)) y_nil)) (len_cons (len_cons len_nil))) (fun _ _ => rfl)))
  (s_cons (s_set 7 sc__law_strange_ops.nd (y_new (y_lst (y_cons (y_tup (y_cons (y_op op_addA os_add (y_vr 5) (y_vr 6)) (y_cons (y_op op_addA os_add (y_vr 6) (y_vr 5)) y_nil))) (y_cons (y_tup (y_cons (y_vr 6) (y_cons (y_vr 5) y_nil))) (y_cons (y_tup (y_cons y_str (y_cons y_str y_nil))) (y_cons (y_tup (y_cons y_str (y_cons (y_vr 5) y_nil))) (y_cons (y_tup (y_cons (y_vr 5) (y_cons y_str y_nil))) (y_cons (y_tup (y_cons (y_op op_addA os_add (y_vr 5) (y_vr 6)) (y_cons (y_op op_addA os_add (y_vr 5) (y_vr 6)) y_nil))) (y_cons (y_tup (y_cons y_str (y_cons y_str y_nil))) y_nil))))))))))
  (s_cons (s_set 7 sc__law_strange_ops.nd (y_new (y_cat (y_vr 7) (y_frz (y_lst (y_cons (y_frz (y_lst (y_cons (y_vr 5) (y_cons (y_vr 5) y_nil)))) (y_cons (y_tup (y_cons (y_vr 5) y_nil)) (y_cons (y_tup (y_cons (y_vr 5) (y_cons (y_vr 5) (y_cons y_int y_nil)))) (y_cons (y_tup (y_cons (y_vr 5) (y_cons y_non y_nil))) (y_cons (y_tup (y_cons y_int (y_cons (y_vr 5) y_nil))) (y_cons (y_op op_addA os_add (y_vr 5) (y_vr 5)) (y_cons (y_vr 5) (y_cons y_int (y_cons y_bl (y_cons (y_tup y_nil) (y_cons (y_tup (y_cons (y_tup (y_cons (y_vr 5) (y_cons (y_vr 5) y_nil))) y_nil)) y_nil))))))))))))))))
  (s_cons (s_set 7 sc__law_strange_ops.nd (y_new (y_cat (y_vr 7) (y_frz (y_lst (y_cons (y_tup (y_cons (y_vr 5) (y_cons (y_op op_addA os_add (y_op op_addA os_add (y_vr 5) (y_vr 6)) (y_vr 5)) y_nil))) (y_cons (y_tup (y_cons y_str (y_cons (y_op op_addA os_add (y_vr 5) (y_vr 6)) y_nil))) (y_cons (y_tup (y_cons (y_op op_mulA os_mulA (y_vr 5) y_int) (y_cons (y_vr 5) y_nil))) (y_cons (y_tup (y_cons y_str (y_cons y_str y_nil))) (y_cons (y_tup (y_cons (y_op op_addA os_add (y_vr 5) y_str) (y_cons (y_vr 5) y_nil))) (y_cons (y_frz (y_lst y_nil)) (y_cons y_non y_nil))))))))))))
  (s_cons (s_expr (y_bm mt_append ms_append PySem.F.plainAttrs_list PySem.F.slot_list_append PySem.F.type_list_append (y_vr 7) (y_cons (y_tup (y_cons (y_vr 5) (y_cons (y_frz (y_lst (y_cons (y_vr 6) y_nil))) y_nil))) y_nil)))
  (s_cons (s_if (y_tcmp op_gt os_cmp (y_callB call_len cs_len z.n_len PyProof.Rows.Boot.«len» (y_cons (y_vr 3) y_nil)) y_int) (s_cons (s_set 8 sc__law_strange_ops.nd (y_ix ix_seq os_ix (y_vr 3) (y_fn C__law_draw (hr.mono (by first | decide | omega)) (takes_of rfl rfl rfl rfl) (y_cons (y_vr 0) (y_cons (y_callB call_len cs_len z.n_len PyProof.Rows.Boot.«len» (y_cons (y_vr 3) y_nil)) y_nil)) (len_cons (len_cons len_nil))) (fun _ _ => rfl)))
  (s_one (s_set 7 sc__law_strange_ops.nd (y_new (y_cat (y_vr 7) (y_frz (y_lst (y_cons (y_frz (y_callTyF (cr_listA rfl) cf_listA z.n_list PyProof.Rows.Boot.«list» (y_cons (y_vr 8) y_nil))) (y_cons (y_tup (y_cons (y_ix ix_seq os_ix (y_vr 8) y_int (fun _ _ => rfl)) (y_cons (y_ix ix_seq os_ix (y_vr 8) y_int (fun _ _ => rfl)) y_nil))) (y_cons (y_op op_addA os_add (y_vr 8) (y_tup (y_cons (y_item (hu1 hr) (y_vr 2) (y_vr 8)) y_nil))) (y_cons (y_tup (y_cons (y_ix ix_seq os_ix (y_vr 8) y_int (fun _ _ => rfl)) (y_cons (y_op op_addA os_add (y_ix ix_seq os_ix (y_vr 8) y_int (fun _ _ => rfl)) (y_vr 5)) y_nil))) (y_cons (y_tup (y_cons (y_op op_addA os_add (y_ix ix_seq os_ix (y_vr 8) y_int (fun _ _ => rfl)) (y_vr 6)) (y_cons (y_ix ix_seq os_ix (y_vr 8) y_int (fun _ _ => rfl)) y_nil))) (y_cons (y_tup (y_cons (y_vr 8) y_nil)) y_nil))))))))))))) s_nil)
  (s_one (s_ret (y_vr 7))))))))))))
abbrev st__law_checks_hold : Stmt := topS 30
theorem sc__law_checks_hold : FnScope ["pool", "book", "costs", "row", "at", "strange", "things", "one", "first", "last", "thing"] ["pool", "book", "costs", "row"] (defScope st__law_checks_hold) := ⟨rfl, rfl, rfl, by decide +kernel, rfl, by decide +kernel, by decide +kernel⟩
noncomputable def m__law_checks_hold : SM :=
  (seqS (asg (tgN 4) (cal M__law_draw (lcons (vr 0) (lcons (op2 o_add (calB o_len (lcons (vr 3) lnil)) (ct (.int 1))) lnil))))
  (seqS (asg (tgN 5) (cal M__law_strange_ops (lcons (vr 0) (lcons (vr 1) (lcons (vr 2) (lcons (vr 3) lnil))))))
  (seqS (asg (tgN 6) (new (lstF (lcons (vr 3) (lcons (frz (calF o_listA (lcons (vr 3) lnil))) (lcons (ct .non) (lcons (ct (.str (Str.ofString ""))) (lcons (ct (.str (Str.ofString "ab"))) (lcons (ct (.int 0)) (lcons (ct (.bl true)) (lcons (tupE (lcons (vr 3) lnil)) (lcons (tupE lnil) (lcons (frz (lstF (lcons (tupE lnil) lnil))) lnil)))))))))))))
  (seqS (forS (i_of (vr 5)) (tgN 7) (exS (meth "list" m_append (vr 6) (lcons (op2 o_add (op2 o_add (cut o_cut (vr 3) onoM (osmM (vr 4))) (tupE (lcons (vr 7) lnil))) (cut o_cut (vr 3) (osmM (vr 4)) onoM)) lnil))))
  (seqS (asg (tgN 8) (op2 o_ix (vr 5) (cal M__law_draw (lcons (vr 0) (lcons (calB o_len (lcons (vr 5) lnil)) lnil)))))
  (seqS (asg (tgN 9) (op2 o_ix (vr 5) (cal M__law_draw (lcons (vr 0) (lcons (calB o_len (lcons (vr 5) lnil)) lnil)))))
  (seqS (exS (meth "list" m_append (vr 6) (lcons (op2 o_add (op2 o_add (tupE (lcons (vr 8) lnil)) (vr 3)) (tupE (lcons (vr 9) lnil))) lnil)))
  (seqS (forS (i_of (frz (catF (vr 6) (frz (lstF (lcons (vr 3) lnil)))))) (tgN 10) (ifS (notT (trt (cal M__law_same (lcons (cal M__law_check_told (lcons (vr 1) (lcons (vr 10) lnil))) (lcons (cal M__law_row_due (lcons (vr 2) (lcons (vr 10) lnil))) lnil))))) (retS (ct (.bl false))) nxS))
  (retS (ct (.bl true)))))))))))
@[irreducible] noncomputable def M__law_checks_hold : List D → Sto → Res D := fn 11 m__law_checks_hold
theorem ok__law_checks_hold (z : Zs P w K mg base) (F : Fu K mg "_law_checks_hold" st__law_checks_hold ["pool", "book", "costs", "row"]) (C__law_draw : Cl P w K mg base "_law_draw" 1 ["pool", "many"] M__law_draw) (C__law_same : Cl P w K mg base "_law_same" 2 ["told", "due"] M__law_same) (C__law_check_told : Cl P w K mg base "_law_check_told" 4 ["book", "thing"] M__law_check_told) (C__law_row_due : Cl P w K mg base "_law_row_due" 1 ["costs", "thing"] M__law_row_due) (C__law_strange_ops : Cl P w K mg base "_law_strange_ops" 2 ["pool", "book", "costs", "row"] M__law_strange_ops) : Cl P w K mg base "_law_checks_hold" 5 ["pool", "book", "costs", "row"] M__law_checks_hold := by
  unfold M__law_checks_hold
  exact cl_fn (m := m__law_checks_hold) F sc__law_checks_hold rfl (fun f cdv A outer s H E hr =>
  (s_cons (s_set 4 sc__law_checks_hold.nd (y_fn C__law_draw (hr.mono (by first | decide | omega)) (takes_of rfl rfl rfl rfl) (y_cons (y_vr 0) (y_cons (y_op op_addA os_add (y_callB call_len cs_len z.n_len PyProof.Rows.Boot.«len» (y_cons (y_vr 3) y_nil)) y_int) y_nil)) (len_cons (len_cons len_nil))))
  (s_cons (s_set 5 sc__law_checks_hold.nd (y_fn C__law_strange_ops (hr.mono (by first | decide | omega)) (takes_of rfl rfl rfl rfl) (y_cons (y_vr 0) (y_cons (y_vr 1) (y_cons (y_vr 2) (y_cons (y_vr 3) y_nil)))) (len_cons (len_cons (len_cons (len_cons len_nil))))))
  (s_cons (s_set 6 sc__law_checks_hold.nd (y_new (y_lst (y_cons (y_vr 3) (y_cons (y_frz (y_callTyF (cr_listA rfl) cf_listA z.n_list PyProof.Rows.Boot.«list» (y_cons (y_vr 3) y_nil))) (y_cons y_non (y_cons y_str (y_cons y_str (y_cons y_int (y_cons y_bl (y_cons (y_tup (y_cons (y_vr 3) y_nil)) (y_cons (y_tup y_nil) (y_cons (y_frz (y_lst (y_cons (y_tup y_nil) y_nil))) y_nil)))))))))))))
  (s_cons (s_for (passes_of rfl) rfl (y_iter (y_vr 5)) (g_name (ix := [7]) 7 sc__law_checks_hold.nd) (s_one (s_expr (y_bm mt_append ms_append PySem.F.plainAttrs_list PySem.F.slot_list_append PySem.F.type_list_append (y_vr 6) (y_cons (y_op op_addA os_add (y_op op_addA os_add (y_cut (y_vr 3) y_ono (y_osm (y_vr 4))) (y_tup (y_cons (y_vr 7) y_nil))) (y_cut (y_vr 3) (y_osm (y_vr 4)) y_ono)) y_nil)))))
  (s_cons (s_set 8 sc__law_checks_hold.nd (y_ix ix_seq os_ix (y_vr 5) (y_fn C__law_draw (hr.mono (by first | decide | omega)) (takes_of rfl rfl rfl rfl) (y_cons (y_vr 0) (y_cons (y_callB call_len cs_len z.n_len PyProof.Rows.Boot.«len» (y_cons (y_vr 5) y_nil)) y_nil)) (len_cons (len_cons len_nil))) (fun _ _ => rfl)))
  (s_cons (s_set 9 sc__law_checks_hold.nd (y_ix ix_seq os_ix (y_vr 5) (y_fn C__law_draw (hr.mono (by first | decide | omega)) (takes_of rfl rfl rfl rfl) (y_cons (y_vr 0) (y_cons (y_callB call_len cs_len z.n_len PyProof.Rows.Boot.«len» (y_cons (y_vr 5) y_nil)) y_nil)) (len_cons (len_cons len_nil))) (fun _ _ => rfl)))
  (s_cons (s_expr (y_bm mt_append ms_append PySem.F.plainAttrs_list PySem.F.slot_list_append PySem.F.type_list_append (y_vr 6) (y_cons (y_op op_addA os_add (y_op op_addA os_add (y_tup (y_cons (y_vr 8) y_nil)) (y_vr 3)) (y_tup (y_cons (y_vr 9) y_nil))) y_nil)))
  (s_cons (s_for (passes_of rfl) rfl (y_iter (y_frz (y_cat (y_vr 6) (y_frz (y_lst (y_cons (y_vr 3) y_nil)))))) (g_name (ix := [10]) 10 sc__law_checks_hold.nd) (s_one (s_if (y_tnot (y_truth (y_fn C__law_same (hr.mono (by first | decide | omega)) (takes_of rfl rfl rfl rfl) (y_cons (y_fn C__law_check_told (hr.mono (by first | decide | omega)) (takes_of rfl rfl rfl rfl) (y_cons (y_vr 1) (y_cons (y_vr 10) y_nil)) (len_cons (len_cons len_nil))) (y_cons (y_fn C__law_row_due (hr.mono (by first | decide | omega)) (takes_of rfl rfl rfl rfl) (y_cons (y_vr 2) (y_cons (y_vr 10) y_nil)) (len_cons (len_cons len_nil))) y_nil)) (len_cons (len_cons len_nil))))) (s_one (s_ret y_bl)) s_nil)))
  (s_one (s_ret y_bl)))))))))))
abbrev st_law : Stmt := topS 33
theorem sc_law : FnScope ["script", "pool", "lap", "letters", "book", "costs", "row", "half", "part", "letter", "edits", "made", "edit"] ["script"] (defScope st_law) := ⟨rfl, rfl, rfl, by decide +kernel, rfl, by decide +kernel, by decide +kernel⟩
noncomputable def m_law : SM :=
  (seqS (asg (tgN 1) (cal M__law_pool (lcons (vr 0) (lcons (ct (.int 1302)) lnil))))
  (seqS (forS (i_rg1 (lcons (ct (.int 2)) lnil)) (tgN 2) (seqS (asg (tgN 3) (cal M__law_letters (lcons (vr 1) (lcons (op2 o_add (ct (.int 1)) (cal M__law_draw (lcons (vr 1) (lcons (ct (.int 6)) lnil)))) lnil))))
  (seqS (asg (tgN 4) (cal M__law_book (lcons (vr 1) (lcons (vr 3) (lcons (op2 o_ix (frz (lstF (lcons (ct (.int 0)) (lcons (ct (.int 4)) (lcons (ct (.int 9)) (lcons (ct (.int 20)) lnil)))))) (cal M__law_draw (lcons (vr 1) (lcons (ct (.int 4)) lnil)))) (lcons (op2 o_ix (frz (lstF (lcons (ct (.int 3)) (lcons (ct (.int 1000)) lnil)))) (vr 2)) lnil))))))
  (seqS (asg (tgN 5) (cal M__law_costs (lcons (vr 4) lnil)))
  (seqS (asg (tgN 6) (cal M__law_drawn_row (lcons (vr 1) (lcons (vr 5) (lcons (ct (.int 30)) lnil)))))
  (seqS (asg (tgN 7) (op2 o_fdiv (calB o_len (lcons (vr 6) lnil)) (ct (.int 2))))
  (seqS (forS (i_of (tupE (lcons (vr 6) (lcons (cut o_cut (vr 6) onoM (osmM (vr 7))) (lcons (cut o_cut (vr 6) (osmM (vr 7)) onoM) (lcons (tupE lnil) lnil)))))) (tgN 8) (ifS (notT (trt (cal M__law_row_holds (lcons (vr 4) (lcons (vr 5) (lcons (vr 8) lnil)))))) (retS (ct (.bl false))) nxS))
  (ifS (notT (trt (cal M__law_checks_hold (lcons (vr 1) (lcons (vr 4) (lcons (vr 5) (lcons (vr 6) lnil))))))) (retS (ct (.bl false))) nxS))))))))
  (seqS (asg (tgN 9) (op2 o_ix (vr 3) (ct (.int 0))))
  (seqS (asg (tgN 10) (tupE (lcons (tupE (lcons (op2 o_add (vr 9) (vr 9)) (lcons (vr 9) (lcons (ct (.int 7)) lnil)))) (lcons (tupE (lcons (ct (.str (Str.ofString ""))) (lcons (vr 9) (lcons (ct (.int 3)) lnil)))) (lcons (tupE (lcons (vr 9) (lcons (ct (.str (Str.ofString ""))) (lcons (ct (.int 5)) lnil)))) (lcons (tupE (lcons (vr 9) (lcons (op2 o_mulA (vr 9) (ct (.int 3))) (lcons (ct (.int 2)) lnil)))) lnil))))))
  (seqS (asg (tgN 11) (tupE (lcons (vr 3) (lcons (calB o_tupleA (lcons (frz (calF o_sortedV (lcons (vr 10) lnil))) lnil)) lnil))))
  (seqS (asg (tgN 6) (calB o_tupleA (lcons (cal M__law_shuffled (lcons (vr 1) (lcons (frz (catF (compF (i_of (vr 10)) (tgN 12) yesT (cut o_cut (vr 12) onoM (osmM (ct (.int 2)))) [12]) (frz (lstF (lcons (tupE (lcons (vr 9) (lcons (vr 9) lnil))) (lcons (tupE (lcons (vr 9) (lcons (vr 9) lnil))) lnil)))))) lnil))) lnil)))
  (seqS (ifS (notT (trt (cal M__law_row_holds (lcons (vr 11) (lcons (cal M__law_costs (lcons (vr 11) lnil)) (lcons (vr 6) lnil)))))) (retS (ct (.bl false))) nxS)
  (seqS (ifS (asT (op2 o_eq (cal M__law_draw (lcons (vr 1) (lcons (ct (.int 7)) lnil))) (ct (.int 2)))) (retS (cal M__law_long_holds (lcons (vr 1) (lcons (vr 4) (lcons (vr 5) lnil))))) nxS)
  (retS (ct (.bl true)))))))))))
@[irreducible] noncomputable def M_law : List D → Sto → Res D := fn 13 m_law
theorem ok_law (z : Zs P w K mg base) {f : Addr} {fd : FuncData} (F : Fun K "law" "law" st_law f fd) (C__law_pool : Cl P w K mg base "_law_pool" 1 ["script", "salt"] M__law_pool) (C__law_draw : Cl P w K mg base "_law_draw" 1 ["pool", "many"] M__law_draw) (C__law_shuffled : Cl P w K mg base "_law_shuffled" 2 ["pool", "things"] M__law_shuffled) (C__law_letters : Cl P w K mg base "_law_letters" 3 ["pool", "many"] M__law_letters) (C__law_book : Cl P w K mg base "_law_book" 3 ["pool", "letters", "many", "most"] M__law_book) (C__law_costs : Cl P w K mg base "_law_costs" 1 ["book"] M__law_costs) (C__law_drawn_row : Cl P w K mg base "_law_drawn_row" 2 ["pool", "costs", "most"] M__law_drawn_row) (C__law_row_holds : Cl P w K mg base "_law_row_holds" 5 ["book", "costs", "row"] M__law_row_holds) (C__law_long_holds : Cl P w K mg base "_law_long_holds" 6 ["pool", "book", "costs"] M__law_long_holds) (C__law_checks_hold : Cl P w K mg base "_law_checks_hold" 5 ["pool", "book", "costs", "row"] M__law_checks_hold) : FnOk P w K mg base (L2.CX P w) 7 f fd ["script"] (spM K mg 1 M_law) := by
  unfold M_law
  exact ok_fn (m := m_law) F sc_law rfl (fun cdv A outer s H E hr =>
  (s_cons (s_set 1 sc_law.nd (y_fn C__law_pool (hr.mono (by first | decide | omega)) (takes_of rfl rfl rfl rfl) (y_cons (y_vr 0) (y_cons y_int y_nil)) (len_cons (len_cons len_nil))))
  (s_cons (s_for (passes_of rfl) rfl (y_rg1 z.n_range (y_cons y_int y_nil)) (g_name (ix := [2]) 2 sc_law.nd) (s_cons (s_set 3 sc_law.nd (y_fn C__law_letters (hr.mono (by first | decide | omega)) (takes_of rfl rfl rfl rfl) (y_cons (y_vr 1) (y_cons (y_op op_addA os_add y_int (y_fn C__law_draw (hr.mono (by first | decide | omega)) (takes_of rfl rfl rfl rfl) (y_cons (y_vr 1) (y_cons y_int y_nil)) (len_cons (len_cons len_nil)))) y_nil)) (len_cons (len_cons len_nil))))
  (s_cons (s_set 4 sc_law.nd (y_fn C__law_book (hr.mono (by first | decide | omega)) (takes_of rfl rfl rfl rfl) (y_cons (y_vr 1) (y_cons (y_vr 3) (y_cons (y_ix ix_seq os_ix (y_frz (y_lst (y_cons y_int (y_cons y_int (y_cons y_int (y_cons y_int y_nil)))))) (y_fn C__law_draw (hr.mono (by first | decide | omega)) (takes_of rfl rfl rfl rfl) (y_cons (y_vr 1) (y_cons y_int y_nil)) (len_cons (len_cons len_nil))) (fun _ _ => rfl)) (y_cons (y_ix ix_seq os_ix (y_frz (y_lst (y_cons y_int (y_cons y_int y_nil)))) (y_vr 2) (fun _ _ => rfl)) y_nil)))) (len_cons (len_cons (len_cons (len_cons len_nil))))))
  (s_cons (s_set 5 sc_law.nd (y_fn C__law_costs (hr.mono (by first | decide | omega)) (takes_of rfl rfl rfl rfl) (y_cons (y_vr 4) y_nil) (len_cons len_nil)))
  (s_cons (s_set 6 sc_law.nd (y_fn C__law_drawn_row (hr.mono (by first | decide | omega)) (takes_of rfl rfl rfl rfl) (y_cons (y_vr 1) (y_cons (y_vr 5) (y_cons y_int y_nil))) (len_cons (len_cons (len_cons len_nil)))))
  (s_cons (s_set 7 sc_law.nd (y_op op_fdiv os_fdiv (y_callB call_len cs_len z.n_len PyProof.Rows.Boot.«len» (y_cons (y_vr 6) y_nil)) y_int))
  (s_cons (s_for (passes_of rfl) rfl (y_iter (y_tup (y_cons (y_vr 6) (y_cons (y_cut (y_vr 6) y_ono (y_osm (y_vr 7))) (y_cons (y_cut (y_vr 6) (y_osm (y_vr 7)) y_ono) (y_cons (y_tup y_nil) y_nil)))))) (g_name (ix := [8]) 8 sc_law.nd) (s_one (s_if (y_tnot (y_truth (y_fn C__law_row_holds (hr.mono (by first | decide | omega)) (takes_of rfl rfl rfl rfl) (y_cons (y_vr 4) (y_cons (y_vr 5) (y_cons (y_vr 8) y_nil))) (len_cons (len_cons (len_cons len_nil)))))) (s_one (s_ret y_bl)) s_nil)))
  (s_one (s_if (y_tnot (y_truth (y_fn C__law_checks_hold (hr.mono (by first | decide | omega)) (takes_of rfl rfl rfl rfl) (y_cons (y_vr 1) (y_cons (y_vr 4) (y_cons (y_vr 5) (y_cons (y_vr 6) y_nil)))) (len_cons (len_cons (len_cons (len_cons len_nil))))))) (s_one (s_ret y_bl)) s_nil)))))))))
  (s_cons (s_set 9 sc_law.nd (y_ix ix_seq os_ix (y_vr 3) y_int (fun _ _ => rfl)))
  (s_cons (s_set 10 sc_law.nd (y_tup (y_cons (y_tup (y_cons (y_op op_addA os_add (y_vr 9) (y_vr 9)) (y_cons (y_vr 9) (y_cons y_int y_nil)))) (y_cons (y_tup (y_cons y_str (y_cons (y_vr 9) (y_cons y_int y_nil)))) (y_cons (y_tup (y_cons (y_vr 9) (y_cons y_str (y_cons y_int y_nil)))) (y_cons (y_tup (y_cons (y_vr 9) (y_cons (y_op op_mulA os_mulA (y_vr 9) y_int) (y_cons y_int y_nil)))) y_nil))))))
  (s_cons (s_set 11 sc_law.nd (y_tup (y_cons (y_vr 3) (y_cons (y_callTy (cr_tupA rfl) cs_tupA z.n_tuple PyProof.Rows.Boot.«tuple» (y_cons (y_frz (y_callBF (cr_sortV (hu200 hr)) cf_sortedV z.n_sorted PyProof.Rows.Boot.«sorted» (y_cons (y_vr 10) y_nil))) y_nil)) y_nil))))
  (s_cons (s_set 6 sc_law.nd (y_callTy (cr_tupA rfl) cs_tupA z.n_tuple PyProof.Rows.Boot.«tuple» (y_cons (y_fn C__law_shuffled (hr.mono (by first | decide | omega)) (takes_of rfl rfl rfl rfl) (y_cons (y_vr 1) (y_cons (y_frz (y_cat (y_compF (own := [("edit", 12)]) rfl sc_law.nd (y_iter (y_vr 10)) (by rfl) (fun _ _ _ _ _ => (g_name (ix := [12]) 12 sc_law.nd)) (fun _ _ _ _ _ => y_yes) (fun _ _ _ _ _ => (y_cut (y_vr 12) y_ono (y_osm y_int)))) (y_frz (y_lst (y_cons (y_tup (y_cons (y_vr 9) (y_cons (y_vr 9) y_nil))) (y_cons (y_tup (y_cons (y_vr 9) (y_cons (y_vr 9) y_nil))) y_nil)))))) y_nil)) (len_cons (len_cons len_nil))) y_nil)))
  (s_cons (s_if (y_tnot (y_truth (y_fn C__law_row_holds (hr.mono (by first | decide | omega)) (takes_of rfl rfl rfl rfl) (y_cons (y_vr 11) (y_cons (y_fn C__law_costs (hr.mono (by first | decide | omega)) (takes_of rfl rfl rfl rfl) (y_cons (y_vr 11) y_nil) (len_cons len_nil)) (y_cons (y_vr 6) y_nil))) (len_cons (len_cons (len_cons len_nil)))))) (s_one (s_ret y_bl)) s_nil)
  (s_cons (s_if (y_tcmp (op_eqD (hu64 hr)) os_eq (y_fn C__law_draw (hr.mono (by first | decide | omega)) (takes_of rfl rfl rfl rfl) (y_cons (y_vr 1) (y_cons y_int y_nil)) (len_cons (len_cons len_nil))) y_int) (s_one (s_ret (y_fn C__law_long_holds (hr.mono (by first | decide | omega)) (takes_of rfl rfl rfl rfl) (y_cons (y_vr 1) (y_cons (y_vr 4) (y_cons (y_vr 5) y_nil))) (len_cons (len_cons (len_cons len_nil)))))) s_nil)
  (s_one (s_ret y_bl)))))))))))
end
end Z

end
section
set_option Elab.async false
set_option linter.all false
set_option maxRecDepth 100000
set_option maxHeartbeats 4000000
set_option autoImplicit false
namespace Z
open PySem PySem.Spec L2 Y PySem.W
section
variable {rest S : Sto} {Q : D → Sto → Prop} {E : Str → List (Str × D) → Sto → Prop}
theorem draw_wp {many : Int} (hS : PP rest S) (h0 : 0 < many) (h1 : many < 1073741824) (k : ∀ v S', PP rest S' → 0 ≤ v → v < many → Q (.int v) S') : wpM (M__law_draw [.ref 1, .int many] S) Q E := by
  unfold M__law_draw
  refine wpM_fn ?_
  unfold m__law_draw
  obtain ⟨G, m, hG, hl, hm0, hm1, rfl⟩ := id hS
  have ix0 : ∀ G m, o_ix (PSt G m rest) (.ref 1) (.int 0) = some (.ref 0) := fun G m => ix_at (j := 0) (ds := [.ref 0, .int m]) rfl rfl
  have ix1 : ∀ G m, o_ix (PSt G m rest) (.ref 1) (.int 1) = some (.int m) := fun G m => ix_at (j := 1) (ds := [.ref 0, .int m]) rfl rfl
  have ln : ∀ G m, o_len (PSt G m rest) [.ref 0] = some (.int (G.length : Int)) := fun G m => by rw [len_at (ds := G.map D.int) rfl, List.length_map]
  have st1 : ∀ G m x, setAt (PSt G m rest) (.ref 1) (.int 1) (.int x) = some (PSt G x rest) := fun G m x => set_at (j := 1) (ds := [.ref 0, .int m]) rfl (Nat.lt_succ_self 1)
  have e1 : ∀ m : Int, (fun m => 0 ≤ m ∧ m < 2147483648) m → IntMulOk m 40692 := fun m h => mul_ok h.1 (by omega)
  rcases List.eq_nil_or_concat G with rfl | ⟨G0, g, hc⟩
  · simp only [mkR_eq, wpM_rg1, wpM_rg2, wpM_enumA, wpM_iof, wpM_lfS, wS_rai, wS_try, wpM_catF, wpM_revA, wpM_newD, wpM_itemE, wpM_itemT, wpM_hasE, wpM_get1, wpM_get2, wS_putE, wS_putT, and_self, if_true, if_false, Bool.false_eq_true, reduceIte, wS_setS, wS_seq, wS_if, wS_asg, wS_exS, wS_retS, wS_nxS, wS_nx, wS_ret, wpM_op2, wpM_op1, wpM_asT, wpM_trt, wpM_notT, wpM_andT, wpM_orT, wpM_andV, wpM_notE, wpM_ifE, wpM_lnil, wpM_lcons, wpM_tupE, wpM_lstF, wpM_frz, wpM_new, wpM_cal, wpM_calB, wpM_calF, wpM_isiE, wpM_vr, wpM_ct, wpM_meth, wpM_chn, wpM_cut, wpM_cutF, wpM_ono, wpM_osm, wpM_revT, wpM_lfE, wS_for, tgN, List.getElem?_cons_zero, List.getElem?_cons_succ, List.set_cons_zero, List.set_cons_succ, List.map_cons, List.map_nil, List.length_cons, List.length_nil, List.replicate_succ, List.replicate_zero, Nat.reduceAdd, Nat.reduceSub, List.cons_append, List.nil_append, ix0, ln, o_cmp, List.length_nil, ix1, o_mulA, o_mul, e1 m ⟨hm0, hm1⟩, if_true, o_add, o_int, o_mod, st1, o_fdiv]
    simp only [show decide ((0 : Int) < ((0 : Nat) : Int)) = false from rfl, mkR_eq, wpM_rg1, wpM_rg2, wpM_enumA, wpM_iof, wpM_lfS, wS_rai, wS_try, wpM_catF, wpM_revA, wpM_newD, wpM_itemE, wpM_itemT, wpM_hasE, wpM_get1, wpM_get2, wS_putE, wS_putT, and_self, if_true, if_false, Bool.false_eq_true, reduceIte, wS_setS, wS_seq, wS_if, wS_asg, wS_exS, wS_retS, wS_nxS, wS_nx, wS_ret, wpM_op2, wpM_op1, wpM_asT, wpM_trt, wpM_notT, wpM_andT, wpM_orT, wpM_andV, wpM_notE, wpM_ifE, wpM_lnil, wpM_lcons, wpM_tupE, wpM_lstF, wpM_frz, wpM_new, wpM_cal, wpM_calB, wpM_calF, wpM_isiE, wpM_vr, wpM_ct, wpM_meth, wpM_chn, wpM_cut, wpM_cutF, wpM_ono, wpM_osm, wpM_revT, wpM_lfE, wS_for, tgN, List.getElem?_cons_zero, List.getElem?_cons_succ, List.set_cons_zero, List.set_cons_succ, List.map_cons, List.map_nil, List.length_cons, List.length_nil, List.replicate_succ, List.replicate_zero, Nat.reduceAdd, Nat.reduceSub, List.cons_append, List.nil_append, ix1, o_mulA, o_mul, e1 m ⟨hm0, hm1⟩, o_add, o_int, o_mod, show ((0 : Int) < 2147483647) from by decide, st1, o_fdiv, show ((0 : Int) < 71 ∧ (71 : Int) < 1073741824) from by decide, h0]
    rw [scope_int, wpM_ok]
    refine k _ _ (hS.trunc0 ⟨_, _, hG, hl, ?_, ?_, rfl⟩) (Int.emod_nonneg _ (by omega)) (Int.emod_lt_of_pos _ h0)
    · exact Int.emod_nonneg _ (by decide)
    · have := Int.emod_lt_of_pos (m * 40692 + 1302) (show (0 : Int) < 2147483647 by decide)
      omega
  · rw [List.concat_eq_append] at hc
    subst hc
    have hg : 0 ≤ g := hG g (by simp)
    have hp : m_pop (PSt (G0 ++ [g]) m rest) (.ref 0) [] = some (.int g, PSt G0 m rest) := by
      have := pop_last (S := PSt (G0 ++ [g]) m rest) (n := 0) (ds := G0.map D.int) (a := .int g) (by simp)
      simpa using this
    have hl0 : G0.length ≤ 63 := by rw [List.length_append, List.length_singleton] at hl; omega
    have hap : ∀ x, m_append (PSt G0 m rest) (.ref 0) [.int x] = some (.non, PSt (G0 ++ [x]) m rest) := fun x => by
      have := app_at (S := PSt G0 m rest) (n := 0) (ds := G0.map D.int) (y := .int x) rfl (by rw [List.length_map]; exact Nat.lt_of_lt_of_le (Nat.lt_of_le_of_lt hl0 (by decide)) (le_sz (n := 64) rfl))
      rw [this]; simp
    have hpos : decide ((0 : Int) < ((G0 ++ [g]).length : Int)) = true := decide_eq_true (by rw [List.length_append, List.length_singleton]; omega)
    have ty0 : ∀ G m, tyD "list" (PSt G m rest) (.ref 0) = true := fun G m => tyL (ds := G.map D.int) rfl
    have ok0 : PP rest (PSt G0 m rest) := ⟨G0, m, fun x hx => hG x (List.mem_append_left _ hx), by omega, hm0, hm1, rfl⟩
    simp only [mkR_eq, wpM_rg1, wpM_rg2, wpM_enumA, wpM_iof, wpM_lfS, wS_rai, wS_try, wpM_catF, wpM_revA, wpM_newD, wpM_itemE, wpM_itemT, wpM_hasE, wpM_get1, wpM_get2, wS_putE, wS_putT, and_self, if_true, if_false, Bool.false_eq_true, reduceIte, wS_setS, wS_seq, wS_if, wS_asg, wS_exS, wS_retS, wS_nxS, wS_nx, wS_ret, wpM_op2, wpM_op1, wpM_asT, wpM_trt, wpM_notT, wpM_andT, wpM_orT, wpM_andV, wpM_notE, wpM_ifE, wpM_lnil, wpM_lcons, wpM_tupE, wpM_lstF, wpM_frz, wpM_new, wpM_cal, wpM_calB, wpM_calF, wpM_isiE, wpM_vr, wpM_ct, wpM_meth, wpM_chn, wpM_cut, wpM_cutF, wpM_ono, wpM_osm, wpM_revT, wpM_lfE, wS_for, tgN, List.getElem?_cons_zero, List.getElem?_cons_succ, List.set_cons_zero, List.set_cons_succ, List.map_cons, List.map_nil, List.length_cons, List.length_nil, List.replicate_succ, List.replicate_zero, Nat.reduceAdd, Nat.reduceSub, List.cons_append, List.nil_append, ix0, ln, o_cmp, hpos, hp, ty0]
    rcases Bool.eq_false_or_eq_true (decide (many ≤ g)) with c | c
    · simp only [c, mkR_eq, wpM_rg1, wpM_rg2, wpM_enumA, wpM_iof, wpM_lfS, wS_rai, wS_try, wpM_catF, wpM_revA, wpM_newD, wpM_itemE, wpM_itemT, wpM_hasE, wpM_get1, wpM_get2, wS_putE, wS_putT, and_self, if_true, if_false, Bool.false_eq_true, reduceIte, wS_setS, wS_seq, wS_if, wS_asg, wS_exS, wS_retS, wS_nxS, wS_nx, wS_ret, wpM_op2, wpM_op1, wpM_asT, wpM_trt, wpM_notT, wpM_andT, wpM_orT, wpM_andV, wpM_notE, wpM_ifE, wpM_lnil, wpM_lcons, wpM_tupE, wpM_lstF, wpM_frz, wpM_new, wpM_cal, wpM_calB, wpM_calF, wpM_isiE, wpM_vr, wpM_ct, wpM_meth, wpM_chn, wpM_cut, wpM_cutF, wpM_ono, wpM_osm, wpM_revT, wpM_lfE, wS_for, tgN, List.getElem?_cons_zero, List.getElem?_cons_succ, List.set_cons_zero, List.set_cons_succ, List.map_cons, List.map_nil, List.length_cons, List.length_nil, List.replicate_succ, List.replicate_zero, Nat.reduceAdd, Nat.reduceSub, List.cons_append, List.nil_append, ix0, ty0, o_fdiv, h0, h1, hap, o_int, o_mod]
      rw [scope_int, wpM_ok]
      refine k _ _ (hS.trunc0 ⟨G0 ++ [g / many], m, fun x hx => ?_, ?_, hm0, hm1, rfl⟩) (Int.emod_nonneg _ (by omega)) (Int.emod_lt_of_pos _ h0)
      · rcases List.mem_append.mp hx with hx | hx
        · exact hG x (List.mem_append_left _ hx)
        · rw [List.mem_singleton.mp hx]; exact Int.ediv_nonneg hg (by omega)
      · rw [List.length_append, List.length_singleton]; omega
    · simp only [c, mkR_eq, wpM_rg1, wpM_rg2, wpM_enumA, wpM_iof, wpM_lfS, wS_rai, wS_try, wpM_catF, wpM_revA, wpM_newD, wpM_itemE, wpM_itemT, wpM_hasE, wpM_get1, wpM_get2, wS_putE, wS_putT, and_self, if_true, if_false, Bool.false_eq_true, reduceIte, wS_setS, wS_seq, wS_if, wS_asg, wS_exS, wS_retS, wS_nxS, wS_nx, wS_ret, wpM_op2, wpM_op1, wpM_asT, wpM_trt, wpM_notT, wpM_andT, wpM_orT, wpM_andV, wpM_notE, wpM_ifE, wpM_lnil, wpM_lcons, wpM_tupE, wpM_lstF, wpM_frz, wpM_new, wpM_cal, wpM_calB, wpM_calF, wpM_isiE, wpM_vr, wpM_ct, wpM_meth, wpM_chn, wpM_cut, wpM_cutF, wpM_ono, wpM_osm, wpM_revT, wpM_lfE, wS_for, tgN, List.getElem?_cons_zero, List.getElem?_cons_succ, List.set_cons_zero, List.set_cons_succ, List.map_cons, List.map_nil, List.length_cons, List.length_nil, List.replicate_succ, List.replicate_zero, Nat.reduceAdd, Nat.reduceSub, List.cons_append, List.nil_append, o_int, o_mod, h0]
      rw [scope_int, wpM_ok]
      exact k _ _ (hS.trunc0 ok0) (Int.emod_nonneg _ (by omega)) (Int.emod_lt_of_pos _ h0)

theorem int_of_mem {ns : List Int} {d : D} {lo hi : Option Int} (h : d ∈ cutL (ns.map D.int) lo hi) : ∃ i, d = .int i := by
  obtain ⟨i, _, e⟩ := List.mem_map.mp (cutL_mem h)
  exact ⟨i, e.symm⟩
theorem pow60 {S : Sto} : o_pow S (.int 10) (.int 60) = some (.int (10 ^ 60)) := by
  simp only [o_pow]
  rw [if_pos (by decide)]; rfl
theorem pow18 {S : Sto} : o_pow S (.int 10) (.int 18) = some (.int (10 ^ 18)) := by
  simp only [o_pow]
  rw [if_pos (by decide)]; rfl
theorem mul60 {S : Sto} : o_mulA S (.int (10 ^ 60)) (.int (10 ^ 60)) = some (.int (10 ^ 120)) := by
  simp only [o_mulA, o_mul]
  rw [if_pos (by unfold IntMulOk; decide +kernel)]; rfl
theorem mul120 {S : Sto} : o_mulA S (.int (10 ^ 120)) (.int (10 ^ 60)) = some (.int (10 ^ 180)) := by
  simp only [o_mulA, o_mul]
  rw [if_pos (by unfold IntMulOk; decide +kernel)]; rfl
theorem mulA_int {S : Sto} {i j : Int} (h : IntMulOk i j) : o_mulA S (.int i) (.int j) = some (.int (i * j)) := by
  simp only [o_mulA, o_mul]
  rw [if_pos h]
theorem mod_int {S : Sto} {i j : Int} (h : 0 < j) : o_mod S (.int i) (.int j) = some (.int (i % j)) := by
  simp only [o_mod]; rw [if_pos h]
theorem pool_wp {ns : List Int} (hn : ns.length ≤ 63) (k : ∀ S, PP [] S → Q (.ref 1) S) : wpM (M__law_pool [.lst (ns.map D.int), .int 1302] []) Q E := by
  unfold M__law_pool
  refine wpM_run ?_
  unfold m__law_pool
  simp only [mkR_eq, wpM_rg1, wpM_rg2, wpM_enumA, wpM_iof, wpM_lfS, wS_rai, wS_try, wpM_catF, wpM_revA, wpM_newD, wpM_itemE, wpM_itemT, wpM_hasE, wpM_get1, wpM_get2, wS_putE, wS_putT, and_self, if_true, if_false, Bool.false_eq_true, reduceIte, wS_setS, wS_seq, wS_if, wS_asg, wS_exS, wS_retS, wS_nxS, wS_nx, wS_ret, wpM_op2, wpM_op1, wpM_asT, wpM_trt, wpM_notT, wpM_andT, wpM_orT, wpM_andV, wpM_notE, wpM_ifE, wpM_lnil, wpM_lcons, wpM_tupE, wpM_lstF, wpM_frz, wpM_new, wpM_cal, wpM_calB, wpM_calF, wpM_isiE, wpM_vr, wpM_ct, wpM_meth, wpM_chn, wpM_cut, wpM_cutF, wpM_ono, wpM_osm, wpM_revT, wpM_lfE, wS_for, tgN, List.getElem?_cons_zero, List.getElem?_cons_succ, List.set_cons_zero, List.set_cons_succ, List.map_cons, List.map_nil, List.length_cons, List.length_nil, List.replicate_succ, List.replicate_zero, Nat.reduceAdd, Nat.reduceSub, List.cons_append, List.nil_append, le_sz (n := 0) rfl, lstOf, Option.map_some, srcOf]
  refine wS_loop (fun i env S' => ∃ G m e4 e5, env = [some (.lst (ns.map D.int)), some (.int 1302), some (.ref 0), some (.int m), e4, e5] ∧ S' = [some (.lst (G.map D.int))] ∧ (∀ g ∈ G, 0 ≤ g) ∧ G.length ≤ i ∧ 0 ≤ m ∧ m < 2147483648) _ 0 _ _ ⟨[], 1302, none, none, rfl, rfl, (fun g hg => by cases hg), Nat.le_refl _, by decide, by decide⟩ ?_ ?_
  · rintro j d env S' hj ⟨G, m, e4, e5, rfl, rfl, hG, hl, m0, m1⟩
    refine ⟨okSrc_nil, _, rfl, ?_⟩
    obtain ⟨i, rfl⟩ := int_of_mem (List.mem_of_getElem? hj)
    have hjl : j < 63 := by
      have h1 := (List.getElem?_eq_some_iff.mp hj).1
      have h2 := @cutL_len (ns.map D.int) none (some 63)
      rw [List.length_map] at h2
      have h3 : (cutL (ns.map D.int) none (some 63)).length ≤ 63 := by
        unfold cutL
        rw [List.length_take]
        have := HT.sIx_nat (ns.map D.int).length (ns.map D.int).length 63
        have e : HT.sIx (ns.map D.int).length (ns.map D.int).length (some (63 : Int)) ≤ 63 := by
          rw [show (63 : Int) = ((63 : Nat) : Int) from rfl, HT.sIx_nat]; omega
        omega
      omega
    rw [Nat.zero_add] at hl ⊢
    simp only [mkR_eq, wpM_rg1, wpM_rg2, wpM_enumA, wpM_iof, wpM_lfS, wS_rai, wS_try, wpM_catF, wpM_revA, wpM_newD, wpM_itemE, wpM_itemT, wpM_hasE, wpM_get1, wpM_get2, wS_putE, wS_putT, and_self, if_true, if_false, Bool.false_eq_true, reduceIte, wS_setS, wS_seq, wS_if, wS_asg, wS_exS, wS_retS, wS_nxS, wS_nx, wS_ret, wpM_op2, wpM_op1, wpM_asT, wpM_trt, wpM_notT, wpM_andT, wpM_orT, wpM_andV, wpM_notE, wpM_ifE, wpM_lnil, wpM_lcons, wpM_tupE, wpM_lstF, wpM_frz, wpM_new, wpM_cal, wpM_calB, wpM_calF, wpM_isiE, wpM_vr, wpM_ct, wpM_meth, wpM_chn, wpM_cut, wpM_cutF, wpM_ono, wpM_osm, wpM_revT, wpM_lfE, wS_for, tgN, List.getElem?_cons_zero, List.getElem?_cons_succ, List.set_cons_zero, List.set_cons_succ, List.map_cons, List.map_nil, List.length_cons, List.length_nil, List.replicate_succ, List.replicate_zero, Nat.reduceAdd, Nat.reduceSub, List.cons_append, List.nil_append, o_int, o_abs, pow18, cmp_int]
    generalize hN : (if i < 0 then -i else i) = N
    have hN0 : 0 ≤ N := by rw [← hN]; split <;> omega
    have hm := mul_ok (a := m) (b := 30307) m0 (by omega)
    have hN1 : 0 ≤ N % 2147483563 := Int.emod_nonneg _ (by decide)
    have hN2 : N % 2147483563 < 2147483563 := Int.emod_lt_of_pos _ (by decide)
    have hm2 := mul_ok (a := N % 2147483563) (b := 48271) hN1 (by omega)
    simp only [pow60, mul60, mul120, mod_int (show (0 : Int) < 10 ^ 180 by decide), mod_int (show (0 : Int) < 2147483563 by decide), mod_int (show (0 : Int) < 2147483647 by decide), mulA_int hm, mulA_int hm2, add_int, mkR_eq, wpM_rg1, wpM_rg2, wpM_enumA, wpM_iof, wpM_lfS, wS_rai, wS_try, wpM_catF, wpM_revA, wpM_newD, wpM_itemE, wpM_itemT, wpM_hasE, wpM_get1, wpM_get2, wS_putE, wS_putT, and_self, if_true, if_false, Bool.false_eq_true, reduceIte, wS_setS, wS_seq, wS_if, wS_asg, wS_exS, wS_retS, wS_nxS, wS_nx, wS_ret, wpM_op2, wpM_op1, wpM_asT, wpM_trt, wpM_notT, wpM_andT, wpM_orT, wpM_andV, wpM_notE, wpM_ifE, wpM_lnil, wpM_lcons, wpM_tupE, wpM_lstF, wpM_frz, wpM_new, wpM_cal, wpM_calB, wpM_calF, wpM_isiE, wpM_vr, wpM_ct, wpM_meth, wpM_chn, wpM_cut, wpM_cutF, wpM_ono, wpM_osm, wpM_revT, wpM_lfE, wS_for, tgN, List.getElem?_cons_zero, List.getElem?_cons_succ, List.set_cons_zero, List.set_cons_succ, List.map_cons, List.map_nil, List.length_cons, List.length_nil, List.replicate_succ, List.replicate_zero, Nat.reduceAdd, Nat.reduceSub, List.cons_append, List.nil_append]
    have hM0 : 0 ≤ (m * 30307 + N % 2147483563 * 48271 + 41) % 2147483647 := Int.emod_nonneg _ (by decide)
    have hM1 : (m * 30307 + N % 2147483563 * 48271 + 41) % 2147483647 < 2147483647 := Int.emod_lt_of_pos _ (by decide)
    generalize (m * 30307 + N % 2147483563 * 48271 + 41) % 2147483647 = M at hM0 hM1 ⊢
    rcases Bool.eq_false_or_eq_true (decide ((10 : Int) ^ 18 ≤ N)) with c | c
    · simp only [c]
      have g0 : ([some (.lst (G.map D.int))] : Sto)[0]? = some (some (.lst (G.map D.int))) := rfl
      have hR0 : (0 : Int) ≤ N % 10 ^ 180 := Int.emod_nonneg _ (by decide)
      generalize N % 10 ^ 180 = R at hR0 ⊢
      simp only [mkR_eq, wpM_rg1, wpM_rg2, wpM_enumA, wpM_iof, wpM_lfS, wS_rai, wS_try, wpM_catF, wpM_revA, wpM_newD, wpM_itemE, wpM_itemT, wpM_hasE, wpM_get1, wpM_get2, wS_putE, wS_putT, and_self, if_true, if_false, Bool.false_eq_true, reduceIte, wS_setS, wS_seq, wS_if, wS_asg, wS_exS, wS_retS, wS_nxS, wS_nx, wS_ret, wpM_op2, wpM_op1, wpM_asT, wpM_trt, wpM_notT, wpM_andT, wpM_orT, wpM_andV, wpM_notE, wpM_ifE, wpM_lnil, wpM_lcons, wpM_tupE, wpM_lstF, wpM_frz, wpM_new, wpM_cal, wpM_calB, wpM_calF, wpM_isiE, wpM_vr, wpM_ct, wpM_meth, wpM_chn, wpM_cut, wpM_cutF, wpM_ono, wpM_osm, wpM_revT, wpM_lfE, wS_for, tgN, List.getElem?_cons_zero, List.getElem?_cons_succ, List.set_cons_zero, List.set_cons_succ, List.map_cons, List.map_nil, List.length_cons, List.length_nil, List.replicate_succ, List.replicate_zero, Nat.reduceAdd, Nat.reduceSub, List.cons_append, List.nil_append, tyL g0, app_at g0 (show (G.map D.int).length < sizeLine from Nat.lt_of_lt_of_le (show (G.map D.int).length < 64 by rw [List.length_map]; omega) (le_sz rfl))]
      refine ⟨G ++ [R], M, _, _, rfl, by rw [List.map_append]; rfl, fun g hg => ?_, by rw [List.length_append, List.length_singleton]; omega, hM0, by omega⟩
      rcases List.mem_append.mp hg with h | h
      · exact hG g h
      · rw [List.mem_singleton.mp h]; exact hR0
    · simp only [c, mkR_eq, wpM_rg1, wpM_rg2, wpM_enumA, wpM_iof, wpM_lfS, wS_rai, wS_try, wpM_catF, wpM_revA, wpM_newD, wpM_itemE, wpM_itemT, wpM_hasE, wpM_get1, wpM_get2, wS_putE, wS_putT, and_self, if_true, if_false, Bool.false_eq_true, reduceIte, wS_setS, wS_seq, wS_if, wS_asg, wS_exS, wS_retS, wS_nxS, wS_nx, wS_ret, wpM_op2, wpM_op1, wpM_asT, wpM_trt, wpM_notT, wpM_andT, wpM_orT, wpM_andV, wpM_notE, wpM_ifE, wpM_lnil, wpM_lcons, wpM_tupE, wpM_lstF, wpM_frz, wpM_new, wpM_cal, wpM_calB, wpM_calF, wpM_isiE, wpM_vr, wpM_ct, wpM_meth, wpM_chn, wpM_cut, wpM_cutF, wpM_ono, wpM_osm, wpM_revT, wpM_lfE, wS_for, tgN, List.getElem?_cons_zero, List.getElem?_cons_succ, List.set_cons_zero, List.set_cons_succ, List.map_cons, List.map_nil, List.length_cons, List.length_nil, List.replicate_succ, List.replicate_zero, Nat.reduceAdd, Nat.reduceSub, List.cons_append, List.nil_append]
      exact ⟨G, M, _, _, rfl, rfl, hG, by omega, hM0, by omega⟩
  · rintro env S' ⟨G, m, e4, e5, rfl, rfl, hG, hl, m0, m1⟩
    refine ⟨okSrc_nil, ?_⟩
    have h3 : (cutL (ns.map D.int) none (some 63)).length ≤ 63 := by
      have h2 := @cutL_len (ns.map D.int) none (some 63)
      rw [List.length_map] at h2
      omega
    simp only [mkR_eq, wpM_rg1, wpM_rg2, wpM_enumA, wpM_iof, wpM_lfS, wS_rai, wS_try, wpM_catF, wpM_revA, wpM_newD, wpM_itemE, wpM_itemT, wpM_hasE, wpM_get1, wpM_get2, wS_putE, wS_putT, and_self, if_true, if_false, Bool.false_eq_true, reduceIte, wS_setS, wS_seq, wS_if, wS_asg, wS_exS, wS_retS, wS_nxS, wS_nx, wS_ret, wpM_op2, wpM_op1, wpM_asT, wpM_trt, wpM_notT, wpM_andT, wpM_orT, wpM_andV, wpM_notE, wpM_ifE, wpM_lnil, wpM_lcons, wpM_tupE, wpM_lstF, wpM_frz, wpM_new, wpM_cal, wpM_calB, wpM_calF, wpM_isiE, wpM_vr, wpM_ct, wpM_meth, wpM_chn, wpM_cut, wpM_cutF, wpM_ono, wpM_osm, wpM_revT, wpM_lfE, wS_for, tgN, List.getElem?_cons_zero, List.getElem?_cons_succ, List.set_cons_zero, List.set_cons_succ, List.map_cons, List.map_nil, List.length_cons, List.length_nil, List.replicate_succ, List.replicate_zero, Nat.reduceAdd, Nat.reduceSub, List.cons_append, List.nil_append, le_sz (n := 2) rfl]
    exact k _ ⟨G, m, hG, by omega, m0, m1, rfl⟩
end
end Z

end
section
set_option Elab.async false
set_option linter.all false
set_option maxRecDepth 100000
set_option maxHeartbeats 4000000
set_option autoImplicit false
namespace Z
open PySem PySem.Spec L2 Y PySem.W
section
variable {rest S : Sto} {Q : D → Sto → Prop} {E : Str → List (Str × D) → Sto → Prop} {L : Str}
def az : Str := Str.ofString "abcdefghijklmnopqrstuvwxyz"
theorem shuf_wp {x : D} {ds : List D} (hS : PP rest S) (hx : ∀ S, o_listA S [x] = some ds) (hxl : ∀ S, o_len S [x] = some (.int ds.length)) (hp : ∀ d ∈ ds, d.pure = true) (hz : ds.length ≤ 1000) (k : ∀ out S', PP rest S' → out.length = ds.length → (∀ d ∈ out, d ∈ ds) → Q (.lst out) S') : wpM (M__law_shuffled [.ref 1, x] S) Q E := by
  unfold M__law_shuffled
  refine wpM_fn ?_
  unfold m__law_shuffled
  have hlen := hS.len
  simp only [mkR_eq, wpM_rg1, wpM_rg2, wpM_enumA, wpM_iof, wpM_lfS, wS_rai, wS_try, wpM_catF, wpM_revA, wpM_newD, wpM_itemE, wpM_itemT, wpM_hasE, wpM_get1, wpM_get2, wS_putE, wS_putT, and_self, if_true, if_false, Bool.false_eq_true, reduceIte, wS_setS, wS_seq, wS_if, wS_asg, wS_exS, wS_retS, wS_nxS, wS_nx, wS_ret, wpM_op2, wpM_op1, wpM_asT, wpM_trt, wpM_notT, wpM_andT, wpM_orT, wpM_andV, wpM_notE, wpM_ifE, wpM_lnil, wpM_lcons, wpM_tupE, wpM_lstF, wpM_frz, wpM_new, wpM_cal, wpM_calB, wpM_calF, wpM_isiE, wpM_vr, wpM_ct, wpM_meth, wpM_chn, wpM_cut, wpM_cutF, wpM_ono, wpM_osm, wpM_revT, wpM_lfE, wS_for, tgN, List.getElem?_cons_zero, List.getElem?_cons_succ, List.set_cons_zero, List.set_cons_succ, List.map_cons, List.map_nil, List.length_cons, List.length_nil, List.replicate_succ, List.replicate_zero, Nat.reduceAdd, Nat.reduceSub, List.cons_append, List.nil_append, hx, hxl, le_sz (n := 0) rfl]
  refine ⟨rgOk_nat (by omega), ?_⟩
  have h1 : PP (rest ++ [some (.lst ds), some (.lst [])]) (S ++ [some (.lst ds)] ++ [some (.lst [])]) := by
    have := (hS.app (o := some (.lst ds))).app (o := some (.lst []))
    simpa using this
  rw [show (S ++ [some (Ob.lst ds)]).length = rest.length + 2 + 1 by rw [List.length_append, hlen]; rfl, hlen]
  refine wS_loop (fun i env S' => ∃ t left out, env = [some (.ref 1), some x, some (.ref (rest.length + 2)), some (.ref (rest.length + 2 + 1)), t] ∧ PP (rest ++ [some (.lst left), some (.lst out)]) S' ∧ left.length + i = ds.length ∧ out.length = i ∧ (∀ d ∈ left, d ∈ ds) ∧ ∀ d ∈ out, d ∈ ds) _ 0 _ _
    ⟨none, ds, [], rfl, h1, by rw [Nat.add_zero], rfl, fun d h => h, fun d h => by cases h⟩ ?_ ?_
  · rintro j d env S1 hj ⟨t, left, out, rfl, hS1, hl, ho, q1, q2⟩
    obtain ⟨rfl, hjn⟩ := rgL_get hj
    rw [Nat.zero_add] at hl ho ⊢
    refine ⟨okSrc_nil, _, rfl, ?_⟩
    have g0 : S1[rest.length + 2]? = some (some (.lst left)) := hS1.getX (j := 0)
    have g1 : S1[rest.length + 2 + 1]? = some (some (.lst out)) := hS1.getX (j := 1)
    simp only [mkR_eq, wpM_rg1, wpM_rg2, wpM_enumA, wpM_iof, wpM_lfS, wS_rai, wS_try, wpM_catF, wpM_revA, wpM_newD, wpM_itemE, wpM_itemT, wpM_hasE, wpM_get1, wpM_get2, wS_putE, wS_putT, and_self, if_true, if_false, Bool.false_eq_true, reduceIte, wS_setS, wS_seq, wS_if, wS_asg, wS_exS, wS_retS, wS_nxS, wS_nx, wS_ret, wpM_op2, wpM_op1, wpM_asT, wpM_trt, wpM_notT, wpM_andT, wpM_orT, wpM_andV, wpM_notE, wpM_ifE, wpM_lnil, wpM_lcons, wpM_tupE, wpM_lstF, wpM_frz, wpM_new, wpM_cal, wpM_calB, wpM_calF, wpM_isiE, wpM_vr, wpM_ct, wpM_meth, wpM_chn, wpM_cut, wpM_cutF, wpM_ono, wpM_osm, wpM_revT, wpM_lfE, wS_for, tgN, List.getElem?_cons_zero, List.getElem?_cons_succ, List.set_cons_zero, List.set_cons_succ, List.map_cons, List.map_nil, List.length_cons, List.length_nil, List.replicate_succ, List.replicate_zero, Nat.reduceAdd, Nat.reduceSub, List.cons_append, List.nil_append, tyL g0, tyL g1, len_at g0]
    have a0 : (0 : Int) < (left.length : Int) := by omega
    have a1 : (left.length : Int) < 1073741824 := by omega
    refine draw_wp hS1 a0 a1 ?_
    intro v S2 hS2 v0 v1
    obtain ⟨i, hvi⟩ := Int.eq_ofNat_of_zero_le v0
    have hi : i < left.length := by omega
    have g0' : S2[rest.length + 2]? = some (some (.lst left)) := hS2.getX (j := 0)
    have hS3 : PP (rest ++ [some (.lst (left.eraseIdx i)), some (.lst out)]) (S2.set (rest.length + 2) (some (.lst (left.eraseIdx i)))) := hS2.setX (j := 0)
    have g1' : (S2.set (rest.length + 2) (some (.lst (left.eraseIdx i))))[rest.length + 2 + 1]? = some (some (.lst out)) := hS3.getX (j := 1)
    simp only [popAt_at g0' hvi hi (by omega), mkR_eq, wpM_rg1, wpM_rg2, wpM_enumA, wpM_iof, wpM_lfS, wS_rai, wS_try, wpM_catF, wpM_revA, wpM_newD, wpM_itemE, wpM_itemT, wpM_hasE, wpM_get1, wpM_get2, wS_putE, wS_putT, and_self, if_true, if_false, Bool.false_eq_true, reduceIte, wS_setS, wS_seq, wS_if, wS_asg, wS_exS, wS_retS, wS_nxS, wS_nx, wS_ret, wpM_op2, wpM_op1, wpM_asT, wpM_trt, wpM_notT, wpM_andT, wpM_orT, wpM_andV, wpM_notE, wpM_ifE, wpM_lnil, wpM_lcons, wpM_tupE, wpM_lstF, wpM_frz, wpM_new, wpM_cal, wpM_calB, wpM_calF, wpM_isiE, wpM_vr, wpM_ct, wpM_meth, wpM_chn, wpM_cut, wpM_cutF, wpM_ono, wpM_osm, wpM_revT, wpM_lfE, wS_for, tgN, List.getElem?_cons_zero, List.getElem?_cons_succ, List.set_cons_zero, List.set_cons_succ, List.map_cons, List.map_nil, List.length_cons, List.length_nil, List.replicate_succ, List.replicate_zero, Nat.reduceAdd, Nat.reduceSub, List.cons_append, List.nil_append, app_at g1' (Nat.lt_of_lt_of_le (show out.length < 1001 by omega) (le_sz rfl))]
    refine ⟨_, left.eraseIdx i, out ++ [left[i]], rfl, hS3.setX (j := 1), ?_, ?_, fun d hd => q1 d (List.mem_of_mem_eraseIdx hd), fun d hd => ?_⟩
    · rw [List.length_eraseIdx_of_lt hi]; omega
    · simp [ho]
    · rcases List.mem_append.mp hd with hd | hd
      · exact q2 d hd
      · rw [List.mem_singleton.mp hd]; exact q1 _ (List.getElem_mem hi)
  · rintro env S1 ⟨t, left, out, rfl, hS1, hl, ho, q1, q2⟩
    refine ⟨okSrc_nil, ?_⟩
    rw [rgL_len, Nat.zero_add] at hl ho
    have g1 : S1[rest.length + 2 + 1]? = some (some (.lst out)) := hS1.getX (j := 1)
    simp only [mkR_eq, wpM_rg1, wpM_rg2, wpM_enumA, wpM_iof, wpM_lfS, wS_rai, wS_try, wpM_catF, wpM_revA, wpM_newD, wpM_itemE, wpM_itemT, wpM_hasE, wpM_get1, wpM_get2, wS_putE, wS_putT, and_self, if_true, if_false, Bool.false_eq_true, reduceIte, wS_setS, wS_seq, wS_if, wS_asg, wS_exS, wS_retS, wS_nxS, wS_nx, wS_ret, wpM_op2, wpM_op1, wpM_asT, wpM_trt, wpM_notT, wpM_andT, wpM_orT, wpM_andV, wpM_notE, wpM_ifE, wpM_lnil, wpM_lcons, wpM_tupE, wpM_lstF, wpM_frz, wpM_new, wpM_cal, wpM_calB, wpM_calF, wpM_isiE, wpM_vr, wpM_ct, wpM_meth, wpM_chn, wpM_cut, wpM_cutF, wpM_ono, wpM_osm, wpM_revT, wpM_lfE, wS_for, tgN, List.getElem?_cons_zero, List.getElem?_cons_succ, List.set_cons_zero, List.set_cons_succ, List.map_cons, List.map_nil, List.length_cons, List.length_nil, List.replicate_succ, List.replicate_zero, Nat.reduceAdd, Nat.reduceSub, List.cons_append, List.nil_append]
    rw [scope_ref (by omega) g1 (pureL_mem fun d hd => hp d (q2 d hd)), wpM_ok]
    exact k out _ (hS.trunc (hS1.setX (j := 1))) (by omega) q2
/-- n small letters -/
structure LOk (n : Nat) (L : Str) : Prop where
  len : L.length = n
  az : ∀ c ∈ L.cps.toList, c ∈ az.cps.toList
theorem az_len : az.length = 26 := by decide +kernel
theorem az_lt : ∀ c ∈ az.cps.toList, 97 ≤ c ∧ c < 123 := by decide +kernel
theorem LOk.fs {n : Nat} (h : LOk n L) : FS n L := ⟨Nat.le_of_eq h.len, strOk_iff.mpr fun c hc => by have := az_lt c (h.az c hc); omega⟩
theorem letters_wp {many : Int} {n : Nat} (hS : PP rest S) (hn : many = (n : Int)) (h26 : n ≤ 26) (k : ∀ L S', PP rest S' → LOk n L → Q (.str L) S') : wpM (M__law_letters [.ref 1, .int many] S) Q E := by
  subst hn
  unfold M__law_letters
  refine wpM_fn ?_
  unfold m__law_letters
  simp only [mkR_eq, wpM_rg1, wpM_rg2, wpM_enumA, wpM_iof, wpM_lfS, wS_rai, wS_try, wpM_catF, wpM_revA, wpM_newD, wpM_itemE, wpM_itemT, wpM_hasE, wpM_get1, wpM_get2, wS_putE, wS_putT, and_self, if_true, if_false, Bool.false_eq_true, reduceIte, wS_setS, wS_seq, wS_if, wS_asg, wS_exS, wS_retS, wS_nxS, wS_nx, wS_ret, wpM_op2, wpM_op1, wpM_asT, wpM_trt, wpM_notT, wpM_andT, wpM_orT, wpM_andV, wpM_notE, wpM_ifE, wpM_lnil, wpM_lcons, wpM_tupE, wpM_lstF, wpM_frz, wpM_new, wpM_cal, wpM_calB, wpM_calF, wpM_isiE, wpM_vr, wpM_ct, wpM_meth, wpM_chn, wpM_cut, wpM_cutF, wpM_ono, wpM_osm, wpM_revT, wpM_lfE, wS_for, tgN, List.getElem?_cons_zero, List.getElem?_cons_succ, List.set_cons_zero, List.set_cons_succ, List.map_cons, List.map_nil, List.length_cons, List.length_nil, List.replicate_succ, List.replicate_zero, Nat.reduceAdd, Nat.reduceSub, List.cons_append, List.nil_append, show Str.ofString "abcdefghijklmnopqrstuvwxyz" = az from rfl]
  rw [if_pos (show tyD "str" _ _ = true from rfl)]
  refine shuf_wp (ds := sgns az) hS (fun S => listA_str (le_szL (by show az.length ≤ _; rw [az_len]; omega))) (fun S => by rw [len_str (by rw [az_len]; omega), sgns_len]; rfl) (fun d hd => by obtain ⟨c, _, rfl⟩ := sgns_mem hd; rfl) (by rw [sgns_len, show az.cps.size = 26 from az_len]; omega) ?_
  intro out S1 hS1 hl hm
  rw [sgns_len, show az.cps.size = 26 from az_len] at hl
  have hcut : cutL out none (some (n : Int)) = out.take n := by
    unfold cutL
    rw [HT.sIx_none, HT.sIx_nat, Nat.min_eq_left (by omega)]
    simp
  simp only [mkR_eq, wpM_rg1, wpM_rg2, wpM_enumA, wpM_iof, wpM_lfS, wS_rai, wS_try, wpM_catF, wpM_revA, wpM_newD, wpM_itemE, wpM_itemT, wpM_hasE, wpM_get1, wpM_get2, wS_putE, wS_putT, and_self, if_true, if_false, Bool.false_eq_true, reduceIte, wS_setS, wS_seq, wS_if, wS_asg, wS_exS, wS_retS, wS_nxS, wS_nx, wS_ret, wpM_op2, wpM_op1, wpM_asT, wpM_trt, wpM_notT, wpM_andT, wpM_orT, wpM_andV, wpM_notE, wpM_ifE, wpM_lnil, wpM_lcons, wpM_tupE, wpM_lstF, wpM_frz, wpM_new, wpM_cal, wpM_calB, wpM_calF, wpM_isiE, wpM_vr, wpM_ct, wpM_meth, wpM_chn, wpM_cut, wpM_cutF, wpM_ono, wpM_osm, wpM_revT, wpM_lfE, wS_for, tgN, List.getElem?_cons_zero, List.getElem?_cons_succ, List.set_cons_zero, List.set_cons_succ, List.map_cons, List.map_nil, List.length_cons, List.length_nil, List.replicate_succ, List.replicate_zero, Nat.reduceAdd, Nat.reduceSub, List.cons_append, List.nil_append, lstOf, Option.map_some, hcut]
  have hsg : ∀ d ∈ out.take n, ∃ c, d = .str ⟨#[c]⟩ := fun d hd => by
    obtain ⟨c, _, e⟩ := sgns_mem (hm d (List.mem_of_mem_take hd)); exact ⟨c, e⟩
  obtain ⟨ys, hy, _⟩ := strs_of_mem hsg
  rw [sorted_strs hy]
  simp only [mkR_eq, wpM_rg1, wpM_rg2, wpM_enumA, wpM_iof, wpM_lfS, wS_rai, wS_try, wpM_catF, wpM_revA, wpM_newD, wpM_itemE, wpM_itemT, wpM_hasE, wpM_get1, wpM_get2, wS_putE, wS_putT, and_self, if_true, if_false, Bool.false_eq_true, reduceIte, wS_setS, wS_seq, wS_if, wS_asg, wS_exS, wS_retS, wS_nxS, wS_nx, wS_ret, wpM_op2, wpM_op1, wpM_asT, wpM_trt, wpM_notT, wpM_andT, wpM_orT, wpM_andV, wpM_notE, wpM_ifE, wpM_lnil, wpM_lcons, wpM_tupE, wpM_lstF, wpM_frz, wpM_new, wpM_cal, wpM_calB, wpM_calF, wpM_isiE, wpM_vr, wpM_ct, wpM_meth, wpM_chn, wpM_cut, wpM_cutF, wpM_ono, wpM_osm, wpM_revT, wpM_lfE, wS_for, tgN, List.getElem?_cons_zero, List.getElem?_cons_succ, List.set_cons_zero, List.set_cons_succ, List.map_cons, List.map_nil, List.length_cons, List.length_nil, List.replicate_succ, List.replicate_zero, Nat.reduceAdd, Nat.reduceSub, List.cons_append, List.nil_append]
  obtain ⟨z, e1, e2, e3⟩ := join_signs (S := S1) (x := .lst ((out.take n).mergeSort leD)) rfl (fun d hd => hsg d (List.mem_mergeSort.mp hd)) (by rw [List.length_mergeSort, List.length_take]; omega)
  rw [e1]
  simp only [mkR_eq, wpM_rg1, wpM_rg2, wpM_enumA, wpM_iof, wpM_lfS, wS_rai, wS_try, wpM_catF, wpM_revA, wpM_newD, wpM_itemE, wpM_itemT, wpM_hasE, wpM_get1, wpM_get2, wS_putE, wS_putT, and_self, if_true, if_false, Bool.false_eq_true, reduceIte, wS_setS, wS_seq, wS_if, wS_asg, wS_exS, wS_retS, wS_nxS, wS_nx, wS_ret, wpM_op2, wpM_op1, wpM_asT, wpM_trt, wpM_notT, wpM_andT, wpM_orT, wpM_andV, wpM_notE, wpM_ifE, wpM_lnil, wpM_lcons, wpM_tupE, wpM_lstF, wpM_frz, wpM_new, wpM_cal, wpM_calB, wpM_calF, wpM_isiE, wpM_vr, wpM_ct, wpM_meth, wpM_chn, wpM_cut, wpM_cutF, wpM_ono, wpM_osm, wpM_revT, wpM_lfE, wS_for, tgN, List.getElem?_cons_zero, List.getElem?_cons_succ, List.set_cons_zero, List.set_cons_succ, List.map_cons, List.map_nil, List.length_cons, List.length_nil, List.replicate_succ, List.replicate_zero, Nat.reduceAdd, Nat.reduceSub, List.cons_append, List.nil_append]
  rw [scope_str, wpM_ok]
  refine k z _ (hS.trunc0 hS1) ⟨by rw [e2, List.length_mergeSort, List.length_take]; omega, fun c hc => ?_⟩
  obtain ⟨c', h1, h2⟩ := sgns_mem (hm _ (List.mem_of_mem_take (List.mem_mergeSort.mp (e3 c hc))))
  cases h2
  exact h1
/-- a text of the letters -/
structure TOk (n : Nat) (L z : Str) : Prop where
  len : z.length ≤ n
  mem : ∀ c ∈ z.cps.toList, c ∈ L.cps.toList
theorem TOk.fs {n m : Nat} {z : Str} (h : LOk m L) (t : TOk n L z) : FS n z := ⟨t.len, strOk_iff.mpr fun c hc => strOk_iff.mp h.fs.ok c (t.mem c hc)⟩
theorem letter_at {j : Nat} (hl : L.length ≤ 16777216) (hj : j < L.length) : ∃ c, c ∈ L.cps.toList ∧ ∀ S, o_ix S (.str L) (.int (j : Int)) = some (.str ⟨#[c]⟩) := by
  have hj' : j < L.cps.toList.length := hj
  refine ⟨L.cps.toList[j], List.getElem_mem hj', fun S => str_at (z := L) ?_ hl⟩
  rw [← Array.getElem?_toList, List.getElem?_eq_getElem hj']
theorem text_wp {most : Int} {n m : Nat} (hS : PP rest S) (hL : LOk m L) (hm0 : 0 < m) (hm1 : m ≤ 1000) (hn : most = (n : Int)) (hn1 : n ≤ 1000) (k : ∀ z S', PP rest S' → TOk n L z → Q (.str z) S') : wpM (M__law_text [.ref 1, .str L, .int most] S) Q E := by
  subst hn
  have hll := hL.len
  unfold M__law_text
  refine wpM_fn ?_
  unfold m__law_text
  simp only [mkR_eq, wpM_rg1, wpM_rg2, wpM_enumA, wpM_iof, wpM_lfS, wS_rai, wS_try, wpM_catF, wpM_revA, wpM_newD, wpM_itemE, wpM_itemT, wpM_hasE, wpM_get1, wpM_get2, wS_putE, wS_putT, and_self, if_true, if_false, Bool.false_eq_true, reduceIte, wS_setS, wS_seq, wS_if, wS_asg, wS_exS, wS_retS, wS_nxS, wS_nx, wS_ret, wpM_op2, wpM_op1, wpM_asT, wpM_trt, wpM_notT, wpM_andT, wpM_orT, wpM_andV, wpM_notE, wpM_ifE, wpM_lnil, wpM_lcons, wpM_tupE, wpM_lstF, wpM_frz, wpM_new, wpM_cal, wpM_calB, wpM_calF, wpM_isiE, wpM_vr, wpM_ct, wpM_meth, wpM_chn, wpM_cut, wpM_cutF, wpM_ono, wpM_osm, wpM_revT, wpM_lfE, wS_for, tgN, List.getElem?_cons_zero, List.getElem?_cons_succ, List.set_cons_zero, List.set_cons_succ, List.map_cons, List.map_nil, List.length_cons, List.length_nil, List.replicate_succ, List.replicate_zero, Nat.reduceAdd, Nat.reduceSub, List.cons_append, List.nil_append]
  refine comp_pool (A := fun all => all.length ≤ n) (R := fun d => ∃ c, c ∈ L.cps.toList ∧ d = .str ⟨#[c]⟩) (rest := rest) ?_ ?_ ?_
  · simp only [mkR_eq, wpM_rg1, wpM_rg2, wpM_enumA, wpM_iof, wpM_lfS, wS_rai, wS_try, wpM_catF, wpM_revA, wpM_newD, wpM_itemE, wpM_itemT, wpM_hasE, wpM_get1, wpM_get2, wS_putE, wS_putT, and_self, if_true, if_false, Bool.false_eq_true, reduceIte, wS_setS, wS_seq, wS_if, wS_asg, wS_exS, wS_retS, wS_nxS, wS_nx, wS_ret, wpM_op2, wpM_op1, wpM_asT, wpM_trt, wpM_notT, wpM_andT, wpM_orT, wpM_andV, wpM_notE, wpM_ifE, wpM_lnil, wpM_lcons, wpM_tupE, wpM_lstF, wpM_frz, wpM_new, wpM_cal, wpM_calB, wpM_calF, wpM_isiE, wpM_vr, wpM_ct, wpM_meth, wpM_chn, wpM_cut, wpM_cutF, wpM_ono, wpM_osm, wpM_revT, wpM_lfE, wS_for, tgN, List.getElem?_cons_zero, List.getElem?_cons_succ, List.set_cons_zero, List.set_cons_succ, List.map_cons, List.map_nil, List.length_cons, List.length_nil, List.replicate_succ, List.replicate_zero, Nat.reduceAdd, Nat.reduceSub, List.cons_append, List.nil_append, add_int]
    refine draw_wp hS (by omega) (by omega) ?_
    intro v S1 hS1 v0 v1
    obtain ⟨i, rfl⟩ := Int.eq_ofNat_of_zero_le v0
    simp only [mkR_eq, wpM_rg1, wpM_rg2, wpM_enumA, wpM_iof, wpM_lfS, wS_rai, wS_try, wpM_catF, wpM_revA, wpM_newD, wpM_itemE, wpM_itemT, wpM_hasE, wpM_get1, wpM_get2, wS_putE, wS_putT, and_self, if_true, if_false, Bool.false_eq_true, reduceIte, wS_setS, wS_seq, wS_if, wS_asg, wS_exS, wS_retS, wS_nxS, wS_nx, wS_ret, wpM_op2, wpM_op1, wpM_asT, wpM_trt, wpM_notT, wpM_andT, wpM_orT, wpM_andV, wpM_notE, wpM_ifE, wpM_lnil, wpM_lcons, wpM_tupE, wpM_lstF, wpM_frz, wpM_new, wpM_cal, wpM_calB, wpM_calF, wpM_isiE, wpM_vr, wpM_ct, wpM_meth, wpM_chn, wpM_cut, wpM_cutF, wpM_ono, wpM_osm, wpM_revT, wpM_lfE, wS_for, tgN, List.getElem?_cons_zero, List.getElem?_cons_succ, List.set_cons_zero, List.set_cons_succ, List.map_cons, List.map_nil, List.length_cons, List.length_nil, List.replicate_succ, List.replicate_zero, Nat.reduceAdd, Nat.reduceSub, List.cons_append, List.nil_append]
    refine ⟨rgOk_nat (by omega), ?_⟩
    exact ⟨by trivial, hS1, by rw [rgL_len]; omega, by rw [rgL_len]; omega⟩
  · intro all hA d hd X S1 hS1
    refine ⟨_, rfl, ?_⟩
    simp only [mkR_eq, wpM_rg1, wpM_rg2, wpM_enumA, wpM_iof, wpM_lfS, wS_rai, wS_try, wpM_catF, wpM_revA, wpM_newD, wpM_itemE, wpM_itemT, wpM_hasE, wpM_get1, wpM_get2, wS_putE, wS_putT, and_self, if_true, if_false, Bool.false_eq_true, reduceIte, wS_setS, wS_seq, wS_if, wS_asg, wS_exS, wS_retS, wS_nxS, wS_nx, wS_ret, wpM_op2, wpM_op1, wpM_asT, wpM_trt, wpM_notT, wpM_andT, wpM_orT, wpM_andV, wpM_notE, wpM_ifE, wpM_lnil, wpM_lcons, wpM_tupE, wpM_lstF, wpM_frz, wpM_new, wpM_cal, wpM_calB, wpM_calF, wpM_isiE, wpM_vr, wpM_ct, wpM_meth, wpM_chn, wpM_cut, wpM_cutF, wpM_ono, wpM_osm, wpM_revT, wpM_lfE, wS_for, tgN, List.getElem?_cons_zero, List.getElem?_cons_succ, List.set_cons_zero, List.set_cons_succ, List.map_cons, List.map_nil, List.length_cons, List.length_nil, List.replicate_succ, List.replicate_zero, Nat.reduceAdd, Nat.reduceSub, List.cons_append, List.nil_append, wipeE, len_str (show L.length ≤ 16777216 by omega)]
    refine draw_wp hS1 (by omega) (by omega) ?_
    intro v S2 hS2 v0 v1
    obtain ⟨i, rfl⟩ := Int.eq_ofNat_of_zero_le v0
    obtain ⟨c, hc, e⟩ := letter_at (L := L) (j := i) (by omega) (by omega)
    simp only [e, mkR_eq, wpM_rg1, wpM_rg2, wpM_enumA, wpM_iof, wpM_lfS, wS_rai, wS_try, wpM_catF, wpM_revA, wpM_newD, wpM_itemE, wpM_itemT, wpM_hasE, wpM_get1, wpM_get2, wS_putE, wS_putT, and_self, if_true, if_false, Bool.false_eq_true, reduceIte, wS_setS, wS_seq, wS_if, wS_asg, wS_exS, wS_retS, wS_nxS, wS_nx, wS_ret, wpM_op2, wpM_op1, wpM_asT, wpM_trt, wpM_notT, wpM_andT, wpM_orT, wpM_andV, wpM_notE, wpM_ifE, wpM_lnil, wpM_lcons, wpM_tupE, wpM_lstF, wpM_frz, wpM_new, wpM_cal, wpM_calB, wpM_calF, wpM_isiE, wpM_vr, wpM_ct, wpM_meth, wpM_chn, wpM_cut, wpM_cutF, wpM_ono, wpM_osm, wpM_revT, wpM_lfE, wS_for, tgN, List.getElem?_cons_zero, List.getElem?_cons_succ, List.set_cons_zero, List.set_cons_succ, List.map_cons, List.map_nil, List.length_cons, List.length_nil, List.replicate_succ, List.replicate_zero, Nat.reduceAdd, Nat.reduceSub, List.cons_append, List.nil_append]
    exact ⟨⟨c, hc, rfl⟩, rfl, hS2⟩
  · intro all acc S1 hA hS1 hl hR
    obtain ⟨z, e1, e2, e3⟩ := join_signs (S := S1) (x := .lst acc) rfl (fun d hd => by obtain ⟨c, _, e⟩ := hR d hd; exact ⟨c, e⟩) (by omega)
    rw [if_pos (show tyD "str" _ _ = true from rfl), e1]
    simp only [mkR_eq, wpM_rg1, wpM_rg2, wpM_enumA, wpM_iof, wpM_lfS, wS_rai, wS_try, wpM_catF, wpM_revA, wpM_newD, wpM_itemE, wpM_itemT, wpM_hasE, wpM_get1, wpM_get2, wS_putE, wS_putT, and_self, if_true, if_false, Bool.false_eq_true, reduceIte, wS_setS, wS_seq, wS_if, wS_asg, wS_exS, wS_retS, wS_nxS, wS_nx, wS_ret, wpM_op2, wpM_op1, wpM_asT, wpM_trt, wpM_notT, wpM_andT, wpM_orT, wpM_andV, wpM_notE, wpM_ifE, wpM_lnil, wpM_lcons, wpM_tupE, wpM_lstF, wpM_frz, wpM_new, wpM_cal, wpM_calB, wpM_calF, wpM_isiE, wpM_vr, wpM_ct, wpM_meth, wpM_chn, wpM_cut, wpM_cutF, wpM_ono, wpM_osm, wpM_revT, wpM_lfE, wS_for, tgN, List.getElem?_cons_zero, List.getElem?_cons_succ, List.set_cons_zero, List.set_cons_succ, List.map_cons, List.map_nil, List.length_cons, List.length_nil, List.replicate_succ, List.replicate_zero, Nat.reduceAdd, Nat.reduceSub, List.cons_append, List.nil_append]
    rw [scope_str, wpM_ok]
    refine k z _ (hS.trunc0 hS1) ⟨by omega, fun c hc => ?_⟩
    obtain ⟨c', h1, h2⟩ := hR _ (e3 c hc)
    cases h2
    exact h1
end
end Z

end
section
set_option Elab.async false
set_option linter.all false
set_option maxRecDepth 100000
set_option maxHeartbeats 4000000
set_option autoImplicit false
namespace Z
open PySem PySem.Spec L2 Y PySem.W
section
variable {rest S : Sto} {Q : D → Sto → Prop} {E : Str → List (Str × D) → Sto → Prop} {L : Str} {env : En} {m : EM} {P : D → Prop} {d : D}
theorem lwhole_eq (hd : d.pure = true) : M__law_is_whole [d] S = .ok (.bl (isI d)) S := by
  refine eq_of_wp ?_
  unfold M__law_is_whole
  refine wpM_fn ?_
  unfold m__law_is_whole
  simp only [mkR_eq, wpM_rg1, wpM_rg2, wpM_enumA, wpM_iof, wpM_lfS, wS_rai, wS_try, wpM_catF, wpM_revA, wpM_newD, wpM_itemE, wpM_itemT, wpM_hasE, wpM_get1, wpM_get2, wS_putE, wS_putT, and_self, if_true, if_false, Bool.false_eq_true, reduceIte, wS_setS, wS_seq, wS_if, wS_asg, wS_exS, wS_retS, wS_nxS, wS_nx, wS_ret, wpM_op2, wpM_op1, wpM_asT, wpM_trt, wpM_notT, wpM_andT, wpM_orT, wpM_andV, wpM_notE, wpM_ifE, wpM_lnil, wpM_lcons, wpM_tupE, wpM_lstF, wpM_frz, wpM_new, wpM_cal, wpM_calB, wpM_calF, wpM_isiE, wpM_vr, wpM_ct, wpM_meth, wpM_chn, wpM_cut, wpM_cutF, wpM_ono, wpM_osm, wpM_revT, wpM_lfE, wS_for, tgN, List.getElem?_cons_zero, List.getElem?_cons_succ, List.set_cons_zero, List.set_cons_succ, List.map_cons, List.map_nil, List.length_cons, List.length_nil, List.replicate_succ, List.replicate_zero, Nat.reduceAdd, Nat.reduceSub, List.cons_append, List.nil_append, isiI hd, isiB hd, tru]
  cases d <;> first | cases hd; done | (simp only [isI, isB, mkR_eq, wpM_rg1, wpM_rg2, wpM_enumA, wpM_iof, wpM_lfS, wS_rai, wS_try, wpM_catF, wpM_revA, wpM_newD, wpM_itemE, wpM_itemT, wpM_hasE, wpM_get1, wpM_get2, wS_putE, wS_putT, and_self, if_true, if_false, Bool.false_eq_true, reduceIte, wS_setS, wS_seq, wS_if, wS_asg, wS_exS, wS_retS, wS_nxS, wS_nx, wS_ret, wpM_op2, wpM_op1, wpM_asT, wpM_trt, wpM_notT, wpM_andT, wpM_orT, wpM_andV, wpM_notE, wpM_ifE, wpM_lnil, wpM_lcons, wpM_tupE, wpM_lstF, wpM_frz, wpM_new, wpM_cal, wpM_calB, wpM_calF, wpM_isiE, wpM_vr, wpM_ct, wpM_meth, wpM_chn, wpM_cut, wpM_cutF, wpM_ono, wpM_osm, wpM_revT, wpM_lfE, wS_for, tgN, List.getElem?_cons_zero, List.getElem?_cons_succ, List.set_cons_zero, List.set_cons_succ, List.map_cons, List.map_nil, List.length_cons, List.length_nil, List.replicate_succ, List.replicate_zero, Nat.reduceAdd, Nat.reduceSub, List.cons_append, List.nil_append, tru, Bool.or_true, Bool.true_or, Bool.or_false, Bool.not_true, Bool.not_false]; rw [scope_bl, wpM_ok, trunc_same]; exact ⟨rfl, rfl⟩)
theorem J_draw {n : Int} (h0 : env[0]? = some (some (.ref 1))) (hm : J (PP rest) env m (fun d => d = .int n)) (h1 : 0 < n) (h2 : n < 1073741824) : J (PP rest) env (cal M__law_draw (lcons (vr 0) (lcons m lnil))) (IsI 0 (n - 1)) := fun S hS => by
  simp only [wpM_cal, wpM_lcons, wpM_lnil, wpM_vr, h0]
  refine wpM_mono' (hm S hS) ?_
  rintro d S1 ⟨rfl, hS1⟩
  refine draw_wp hS1 h1 h2 ?_
  intro v S2 hS2 v0 v1
  exact ⟨⟨v, rfl, v0, by omega⟩, hS2⟩
theorem J_lenS {I : Sto → Prop} {i : Nat} {z : Str} (h : env[i]? = some (some (.str z))) (hz : z.length ≤ 1000000) : J I env (calB o_len (lcons (vr i) lnil)) (fun d => d = .int z.length) := fun S hS => by
  simp only [wpM_calB, wpM_lcons, wpM_lnil, wpM_vr, h, len_str (show z.length ≤ 16777216 by omega), wpM_lfS]
  exact ⟨by trivial, hS⟩
theorem J_lenL {I : Sto → Prop} {i : Nat} {ds : List D} (h : env[i]? = some (some (.lst ds))) : J I env (calB o_len (lcons (vr i) lnil)) (fun d => d = .int ds.length) := fun S hS => by
  simp only [wpM_calB, wpM_lcons, wpM_lnil, wpM_vr, h, len_lst, wpM_lfS]
  exact ⟨by trivial, hS⟩
theorem J_pickF {I : Sto → Prop} {n : Int} {l : LM} {k : Nat} (hl : JL I env l (fun ds => fdL ds = true ∧ ds.length = k)) (hk : k ≤ 1000) (hm : J I env m (IsI 0 n)) (hn : n < k) : J I env (op2 o_ix (frz (lstF l)) m) Fd := by
  refine J_op2 (A := fun d => ∃ ds, d = .lst ds ∧ fdL ds = true ∧ ds.length = k) (fun S hS => ?_) hm fun S x y ⟨ds, e1, p, q⟩ ⟨v, e2, v0, v1⟩ => ?_
  · rw [wpM_frz, wpM_lstF]
    refine wpM_mono' (hl S hS) ?_
    rintro ds S1 ⟨⟨h1, h2⟩, h3⟩
    rw [if_pos (le_szL (by omega))]
    exact ⟨⟨ds, rfl, h1, h2⟩, h3⟩
  · subst e1 e2
    obtain ⟨d, hd, e⟩ := ix_lst (ds := ds) v0 (by omega)
    exact ⟨d, e S, fdL_mem.mp p d hd⟩
theorem S1_nil {I : Sto → Prop} : JL I env lnil (fun ds => (∀ d ∈ ds, IsS 1 d) ∧ ds.length = 0) := JL_nil ⟨fun d hd => (nomatch hd), rfl⟩
theorem S1_cons {I : Sto → Prop} {l : LM} {k : Nat} (ha : J I env m (IsS 1)) (hr : JL I env l (fun ds => (∀ d ∈ ds, IsS 1 d) ∧ ds.length = k)) : JL I env (lcons m l) (fun ds => (∀ d ∈ ds, IsS 1 d) ∧ ds.length = k + 1) := JL_cons ha hr fun x xs hx hr => ⟨fun d hd => by
  rcases List.mem_cons.mp hd with e | hd
  · rw [e]; exact hx
  · exact hr.1 d hd, by rw [List.length_cons, hr.2]⟩
theorem FE_nil {I : Sto → Prop} : JL I env lnil (fun ds => fdL ds = true ∧ ds.length = 0) := JL_nil ⟨rfl, rfl⟩
theorem FE_cons {I : Sto → Prop} {l : LM} {k : Nat} (ha : J I env m Fd) (hr : JL I env l (fun ds => fdL ds = true ∧ ds.length = k)) : JL I env (lcons m l) (fun ds => fdL ds = true ∧ ds.length = k + 1) := JL_cons ha hr fun x xs hx hr => ⟨by rw [fdL_cons, show fd x = true from hx, hr.1]; rfl, by rw [List.length_cons, hr.2]⟩
theorem ixS_at {n : Nat} {v : Int} (hz : FS n L) (hn : n ≤ 1000000) (h0 : 0 ≤ v) (h1 : v < (L.length : Int)) : ∃ c, c ∈ L.cps.toList ∧ FS 1 ⟨#[c]⟩ ∧ ∀ S, o_ix S (.str L) (.int v) = some (.str ⟨#[c]⟩) := by
  obtain ⟨i, rfl⟩ := Int.eq_ofNat_of_zero_le h0
  obtain ⟨c, hc, e⟩ := letter_at (L := L) (j := i) (Nat.le_trans hz.len (by omega)) (by omega)
  exact ⟨c, hc, FS.one (strOk_iff.mp hz.ok c hc), e⟩
theorem J_letters {env : En} {m : EM} {x y : Int} (h0 : env[0]? = some (some (.ref 1))) (hm : J (PP rest) env m (IsI x y)) (h1 : 0 ≤ x) (h2 : y ≤ 26) : J (PP rest) env (cal M__law_letters (lcons (vr 0) (lcons m lnil))) (fun d => ∃ L n, d = .str L ∧ LOk n L ∧ x.toNat ≤ n ∧ n ≤ y.toNat) := fun S hS => by
  simp only [mkR_eq, wpM_cal, wpM_lcons, wpM_lnil, wpM_vr, h0]
  refine wpM_mono' (hm S hS) ?_
  rintro d S1 ⟨⟨v, rfl, v0, v1⟩, hS1⟩
  obtain ⟨n, rfl⟩ := Int.eq_ofNat_of_zero_le (show 0 ≤ v by omega)
  refine letters_wp hS1 rfl (by omega) ?_
  intro L S2 hS2 hL
  exact ⟨⟨L, n, rfl, hL, by omega, by omega⟩, hS2⟩
theorem forL_J {env : En} {m : EM} {tg : TgM} {body r : SM} {I : Sto → Prop} {n : Nat} {K : SK} (h : J I env m (FdL n)) (hS : I S) (k : ∀ ds S', fdL ds = true → I S' → wS (loop [] tg body ds env S') ⟨fun e S => wS (r e S) K, K.bk, K.ct, K.rt, K.ex⟩) : wS (seqS (forS (i_of m) tg body) r env S) K := by
  rw [wS_seq, wS_for, wpM_iof]
  refine h.use hS ?_
  rintro d S' ⟨ds, rfl, h1, h2⟩ hS'
  exact k ds S' h1 hS'
theorem J_text {env : En} {m : EM} {i n k : Nat} (h0 : env[0]? = some (some (.ref 1))) (h1 : env[i]? = some (some (.str L))) (hL : LOk k L) (hk : 0 < k) (hk1 : k ≤ 26) (hm : J (PP rest) env m (fun d => ∃ j : Nat, d = .int (j : Int) ∧ j ≤ n)) (hn : n ≤ 1000) : J (PP rest) env (cal M__law_text (lcons (vr 0) (lcons (vr i) (lcons m lnil)))) (IsS n) := fun S hS => by
  simp only [mkR_eq, wpM_cal, wpM_lcons, wpM_lnil, wpM_vr, h0, h1]
  refine wpM_mono' (hm S hS) ?_
  rintro d S1 ⟨⟨j, rfl, hj⟩, hS1⟩
  refine text_wp hS1 hL hk (by omega) rfl (by omega) ?_
  intro z S2 hS2 hz
  exact ⟨⟨z, rfl, (hz.fs hL).mono hj⟩, hS2⟩
theorem hd_sign {n : Nat} {I : Sto → Prop} {env : En} {i : Nat} (h : env[i]? = some (some (.str L))) (hL : FS n L) (hn : n ≤ 1000000) (hp : 0 < L.length) : J I env (op2 o_ix (vr i) (ct (.int 0))) (IsS 1) := fun S hS => by
  obtain ⟨c, _, f, e⟩ := ixS_at (v := 0) hL hn (by omega) (by omega)
  simp only [mkR_eq, wpM_op2, wpM_vr, wpM_ct, h, e, wpM_lfS]
  exact ⟨⟨_, rfl, f⟩, hS⟩
theorem J_pickV {I : Sto → Prop} {env : En} {m : EM} {i : Nat} {ds : List D} {P : D → Prop} (h : env[i]? = some (some (.lst ds))) (hm : J I env m (IsI 0 ((ds.length : Int) - 1))) (hp : ∀ d ∈ ds, P d) : J I env (op2 o_ix (vr i) m) P :=
  J_op2 (J_vr (P := fun d => d = .lst ds) h rfl) hm fun S x y e1 ⟨v, e2, v0, v1⟩ => by
    subst e1 e2
    obtain ⟨d, hd, e⟩ := ix_lst (ds := ds) v0 (by omega)
    exact ⟨d, e S, hp d hd⟩
end
end Z

end
section
set_option Elab.async false
set_option linter.all false
set_option maxRecDepth 100000
set_option maxHeartbeats 4000000
set_option autoImplicit false
namespace Z
open PySem PySem.Spec L2 Y PySem.W
section
variable {rest S : Sto} {Q : D → Sto → Prop} {E : Str → List (Str × D) → Sto → Prop} {L : Str}
/-- a table of edits -/
def CB (c : Int) : Prop := 0 ≤ c ∧ c ≤ 1000000
def KV3 (kvs : List (List Key × D)) : Prop := ∀ p ∈ kvs, ∃ r w c, p = ([.inr r, .inr w], .int c) ∧ FS 3 r ∧ FS 3 w ∧ CB c
theorem KV3.put {kvs : List (List Key × D)} {r w : Str} {c : Int} (h : KV3 kvs) (hr : FS 3 r) (hw : FS 3 w) (hc : CB c) : KV3 (putD kvs [.inr r, .inr w] (.int c)) := by
  unfold putD
  split
  · intro p hp
    obtain ⟨q, hq, rfl⟩ := List.mem_map.mp hp
    split
    · rename_i e
      exact ⟨r, w, c, by rw [e], hr, hw, hc⟩
    · exact h q hq
  · intro p hp
    rcases List.mem_append.mp hp with hp | hp
    · exact h p hp
    · rw [List.mem_singleton.mp hp]; exact ⟨r, w, c, rfl, hr, hw, hc⟩
theorem KV3.get {kvs : List (List Key × D)} {p : List Key × D} (h : KV3 kvs) (hp : p ∈ kvs) : ∃ c, valD kvs p.1 = some (.int c) ∧ CB c := by
  unfold valD
  cases e : kvs.find? fun kv => decide (kv.1 = p.1) with
  | none =>
    have := List.find?_eq_none.mp e p hp
    simp at this
  | some q =>
    obtain ⟨r, w, c, e2, _, _, hc⟩ := h q (List.mem_of_find?_eq_some e)
    exact ⟨c, by rw [e2]; rfl, hc⟩
theorem KV3.keys {kvs : List (List Key × D)} (h : KV3 kvs) {d : D} (hd : d ∈ ksT kvs) : ∃ r w c, d = .tup [.str r, .str w] ∧ FS 3 r ∧ FS 3 w ∧ valD kvs [.inr r, .inr w] = some (.int c) ∧ CB c := by
  obtain ⟨p, hp, rfl⟩ := List.mem_map.mp hd
  obtain ⟨c, e, hc⟩ := h.get hp
  obtain ⟨r, w, c', e2, hr, hw, _⟩ := h p hp
  subst e2
  exact ⟨r, w, c, rfl, hr, hw, e, hc⟩
def prP (p : Str × Str) : PyData := .tuple [.str p.1, .str p.2]
theorem toPL_pairs : ∀ {ds : List D}, (∀ d ∈ ds, ∃ r w, d = .tup [.str r, .str w]) → ∃ ps : List (Str × Str), toPL ds = some (ps.map prP)
  | [], _ => ⟨[], rfl⟩
  | d :: ds, h => by
    obtain ⟨r, w, rfl⟩ := h d List.mem_cons_self
    obtain ⟨ps, e⟩ := toPL_pairs fun x hx => h x (List.mem_cons_of_mem _ hx)
    refine ⟨(r, w) :: ps, ?_⟩
    show (toP (.tup [.str r, .str w])).bind (fun p => (toPL ds).map fun ps => p :: ps) = _
    rw [e]; rfl
theorem sortK_pairs {ds : List D} (h : ∀ d ∈ ds, ∃ r w, d = .tup [.str r, .str w]) : sortK ds = some (ds.mergeSort leD) := by
  obtain ⟨ps, e⟩ := toPL_pairs h
  unfold sortK
  rw [e, Option.bind_some, if_pos]
  refine ⟨AllAlike.of (enc := prP) fun a b => by simp [prP, alike, alikeAll], Sortable.tuples (enc := prP) fun b => ⟨_, _, rfl⟩, fun p hp => ?_⟩
  obtain ⟨t, _, rfl⟩ := List.mem_map.mp hp
  simp [prP, PyData.depth, PyData.depthAll]
def fB (kvs : List (List Key × D)) : D → D
  | .tup [.str r, .str w] => .tup [.str r, .str w, (valD kvs [.inr r, .inr w]).getD .non]
  | _ => .non
/-- an edit -/
def EdOk (e : D) : Prop := ∃ r w c, e = .tup [.str r, .str w, .int c] ∧ FS 3 r ∧ FS 3 w ∧ CB c
theorem EdOk.fd {e : D} (h : EdOk e) : fd e = true := by
  obtain ⟨r, w, c, rfl, hr, hw, _⟩ := h
  simp only [fd_tup, fdL_cons, fdL_nil, fd_str, fd_int, hr.okS (show 3 ≤ 1000000 by omega), hw.okS (show 3 ≤ 1000000 by omega), Bool.and_self]
theorem comp_eds {n0 : Nat} {kvs : List (List Key × D)} {ks : List D} {env : En} (hk : KV3 kvs) (hks : ∀ d ∈ ks, d ∈ ksT kvs) (hl : ks.length ≤ 100000) (hS : S[n0]? = some (some (.dT kvs))) (h4 : env[4]? = some (some (.ref n0))) (he : env.length = 8) {it : IM} (hit : it env S = .ok (ks, []) S) :
    compF it (tgT [(tgN 6), (tgN 7)]) yesT (tupE (lcons (vr 6) (lcons (vr 7) (lcons (itemT (vr 4) (lcons (vr 6) (lcons (vr 7) lnil))) lnil)))) [6, 7] env S = .ok (.lst ((ks.filter fun _ => true).map (fB kvs))) S := by
  refine comp_mf (src := []) hit (fun X => okSrc_nilX X) (by omega) (fun d hd => ?_) (fun d hd X => ?_)
  · obtain ⟨r, w, c, rfl, hr, hw, e, hcb⟩ := hk.keys (hks d hd)
    simp only [fB, e]; rfl
  · obtain ⟨r, w, c, rfl, hr, hw, e, hcb⟩ := hk.keys (hks d hd)
    have n0l := (List.getElem?_eq_some_iff.mp hS).1
    have hSX : (S ++ X)[n0]? = some (some (.dT kvs)) := by rw [List.getElem?_append_left n0l]; exact hS
    refine ⟨_, rfl, rfl, fun _ => ?_⟩
    have g4 : (((wipeE env [6, 7]).set 6 (some (.str r))).set 7 (some (.str w)))[4]? = some (some (.ref n0)) := by simp [wipeE, h4]
    have g6 : (((wipeE env [6, 7]).set 6 (some (.str r))).set 7 (some (.str w)))[6]? = some (some (.str r)) := by simp [wipeE, he]
    have g7 : (((wipeE env [6, 7]).set 6 (some (.str r))).set 7 (some (.str w)))[7]? = some (some (.str w)) := by simp [wipeE, he]
    refine eq_of_wp ?_
    have gd : dGetT (S ++ X) (.ref n0) [.str r, .str w] = some (some (.int c)) := by
      simp only [dGetT, hSX]
      show ((keysD [.str r, .str w]).map (valD kvs)) = _
      show some (valD kvs [.inr r, .inr w]) = _
      rw [e]
    simp only [mkR_eq, wpM_tupE, wpM_lcons, wpM_lnil, wpM_vr, g6, g7, wpM_itemT, g4, gd, List.length_cons, List.length_nil, Nat.reduceAdd, le_sz (n := 2) rfl, le_sz (n := 3) rfl, if_true, true_and]
    simp only [fB, e]
    exact ⟨by trivial, by trivial⟩
/-- a drawn length of an edit's text -/
theorem J_elen {env : En} (h0 : env[0]? = some (some (.ref 1))) : J (PP rest) env (op2 o_ix (frz (lstF (lcons (ct (.int 1)) (lcons (ct (.int 1)) (lcons (ct (.int 2)) (lcons (ct (.int 3)) lnil)))))) (cal M__law_draw (lcons (vr 0) (lcons (ct (.int 4)) lnil)))) (fun d => ∃ j : Nat, d = .int (j : Int) ∧ j ≤ 3) := by
  refine J_op2 (A := fun d => d = .lst [.int 1, .int 1, .int 2, .int 3]) (B := IsI 0 (4 - 1)) (fun S hS => ?_) (J_draw h0 (J_ct rfl) (by decide) (by decide)) ?_
  · simp only [mkR_eq, wS_augS, wpM_dcN, wpM_rg1, wpM_rg2, wpM_enumA, wpM_iof, wpM_lfS, wS_rai, wS_try, wpM_catF, wpM_revA, wpM_newD, wpM_itemE, wpM_itemT, wpM_hasE, wpM_get1, wpM_get2, wS_putE, wS_putT, and_self, if_true, if_false, Bool.false_eq_true, reduceIte, wS_setS, wS_seq, wS_if, wS_asg, wS_exS, wS_retS, wS_nxS, wS_nx, wS_ret, wpM_op2, wpM_op1, wpM_asT, wpM_trt, wpM_notT, wpM_andT, wpM_orT, wpM_andV, wpM_notE, wpM_ifE, wpM_lnil, wpM_lcons, wpM_tupE, wpM_lstF, wpM_frz, wpM_new, wpM_cal, wpM_calB, wpM_calF, wpM_isiE, wpM_vr, wpM_ct, wpM_meth, wpM_chn, wpM_cut, wpM_cutF, wpM_ono, wpM_osm, wpM_revT, wpM_lfE, wS_for, tgN, List.getElem?_cons_zero, List.getElem?_cons_succ, List.set_cons_zero, List.set_cons_succ, List.map_cons, List.map_nil, List.length_cons, List.length_nil, List.replicate_succ, List.replicate_zero, Nat.reduceAdd, Nat.reduceSub, List.cons_append, List.nil_append, le_sz (n := 4) rfl]
    exact ⟨by trivial, hS⟩
  · rintro S x y rfl ⟨v, rfl, v0, v1⟩
    obtain ⟨d, hd, e⟩ := ix_lst (ds := [.int 1, .int 1, .int 2, .int 3]) v0 (by simp; omega)
    refine ⟨d, e S, ?_⟩
    simp only [List.mem_cons, List.not_mem_nil, or_false] at hd
    rcases hd with rfl | rfl | rfl | rfl
    · exact ⟨1, rfl, by omega⟩
    · exact ⟨1, rfl, by omega⟩
    · exact ⟨2, rfl, by omega⟩
    · exact ⟨3, rfl, by omega⟩
theorem book_wp {many most : Int} {n k : Nat} (hS : PP rest S) (hL : LOk k L) (hk : 0 < k) (hk1 : k ≤ 26) (hn : many = (n : Int)) (hn1 : n ≤ 1000) (hm : 0 < most) (hm1 : most ≤ 100000)
    (K : ∀ es S', PP rest S' → es.length ≤ n → (∀ e ∈ es, EdOk e) → Q (.tup [.str L, .tup es]) S') : wpM (M__law_book [.ref 1, .str L, .int many, .int most] S) Q E := by
  unfold M__law_book
  refine wpM_fn ?_
  unfold m__law_book
  have hlen := hS.len
  simp only [mkR_eq, List.map_cons, List.map_nil, List.length_cons, List.length_nil, Nat.reduceAdd, Nat.reduceSub, List.replicate_succ, List.replicate_zero, List.cons_append, List.nil_append]
  rw [wS_seq]
  simp only [mkR_eq, wS_asg, wpM_newD, tgN, List.set_cons_succ, List.set_cons_zero]
  rw [wS_seq, hlen]
  simp only [mkR_eq, wS_for, wpM_rg1, wpM_lcons, wpM_vr, wpM_lnil, List.getElem?_cons_succ, List.getElem?_cons_zero]
  have ern : rgL 0 many = rgL 0 (n : Int) := by rw [hn]
  rw [ern]
  refine ⟨rgOk_of (by omega) (by omega), ?_⟩
  refine wS_loop (fun i e S' => ∃ kvs e5 e6 e7, e = [some (.ref 1), some (.str L), some (.int many), some (.int most), some (.ref (rest.length + 2)), e5, e6, e7] ∧ PP (rest ++ [some (.dT kvs)]) S' ∧ KV3 kvs ∧ kvs.length ≤ i) _ 0 _ _ ⟨[], none, none, none, rfl, hS.app, (fun p hp => by cases hp), Nat.le_refl _⟩ ?_ ?_
  · rintro j d e S1 hj ⟨kvs, e5, e6, e7, rfl, hS1, hkv, hkl⟩
    obtain ⟨rfl, hjn⟩ := rgL_get hj
    rw [Nat.zero_add] at hkl ⊢
    refine ⟨okSrc_nil, _, rfl, ?_⟩
    dsimp only [List.set_cons_zero, List.set_cons_succ]
    refine asg_J (P := IsS 3) (I := PP (rest ++ [some (.dT kvs)])) ?_ hS1 ?_
    · exact J_text rfl rfl hL hk hk1 (J_elen rfl) (by decide)
    rintro d S2 ⟨r, rfl, hr⟩ hS2
    dsimp only [List.set_cons_zero, List.set_cons_succ]
    refine asg_J (P := IsS 3) (I := PP (rest ++ [some (.dT kvs)])) ?_ hS2 ?_
    · exact J_text rfl rfl hL hk hk1 (J_elen rfl) (by decide)
    rintro d S3 ⟨w, rfl, hw⟩ hS3
    simp only [mkR_eq, wS_augS, wpM_dcN, wpM_rg1, wpM_rg2, wpM_enumA, wpM_iof, wpM_lfS, wS_rai, wS_try, wpM_catF, wpM_revA, wpM_newD, wpM_itemE, wpM_itemT, wpM_hasE, wpM_get1, wpM_get2, wS_putE, wS_putT, and_self, if_true, if_false, Bool.false_eq_true, reduceIte, wS_setS, wS_seq, wS_if, wS_asg, wS_exS, wS_retS, wS_nxS, wS_nx, wS_ret, wpM_op2, wpM_op1, wpM_asT, wpM_trt, wpM_notT, wpM_andT, wpM_orT, wpM_andV, wpM_notE, wpM_ifE, wpM_lnil, wpM_lcons, wpM_tupE, wpM_lstF, wpM_frz, wpM_new, wpM_cal, wpM_calB, wpM_calF, wpM_isiE, wpM_vr, wpM_ct, wpM_meth, wpM_chn, wpM_cut, wpM_cutF, wpM_ono, wpM_osm, wpM_revT, wpM_lfE, wS_for, tgN, List.getElem?_cons_zero, List.getElem?_cons_succ, List.set_cons_zero, List.set_cons_succ, List.map_cons, List.map_nil, List.length_cons, List.length_nil, List.replicate_succ, List.replicate_zero, Nat.reduceAdd, Nat.reduceSub, List.cons_append, List.nil_append, ne_str hr.ok hw.ok]
    rcases Bool.eq_false_or_eq_true (r == w) with hrw | hrw
    · simp only [hrw, Bool.not_true, mkR_eq, wS_augS, wpM_dcN, wpM_rg1, wpM_rg2, wpM_enumA, wpM_iof, wpM_lfS, wS_rai, wS_try, wpM_catF, wpM_revA, wpM_newD, wpM_itemE, wpM_itemT, wpM_hasE, wpM_get1, wpM_get2, wS_putE, wS_putT, and_self, if_true, if_false, Bool.false_eq_true, reduceIte, wS_setS, wS_seq, wS_if, wS_asg, wS_exS, wS_retS, wS_nxS, wS_nx, wS_ret, wpM_op2, wpM_op1, wpM_asT, wpM_trt, wpM_notT, wpM_andT, wpM_orT, wpM_andV, wpM_notE, wpM_ifE, wpM_lnil, wpM_lcons, wpM_tupE, wpM_lstF, wpM_frz, wpM_new, wpM_cal, wpM_calB, wpM_calF, wpM_isiE, wpM_vr, wpM_ct, wpM_meth, wpM_chn, wpM_cut, wpM_cutF, wpM_ono, wpM_osm, wpM_revT, wpM_lfE, wS_for, tgN, List.getElem?_cons_zero, List.getElem?_cons_succ, List.set_cons_zero, List.set_cons_succ, List.map_cons, List.map_nil, List.length_cons, List.length_nil, List.replicate_succ, List.replicate_zero, Nat.reduceAdd, Nat.reduceSub, List.cons_append, List.nil_append]
      exact ⟨kvs, _, _, _, rfl, hS3, hkv, by omega⟩
    · simp only [hrw, Bool.not_false, mkR_eq, wS_augS, wpM_dcN, wpM_rg1, wpM_rg2, wpM_enumA, wpM_iof, wpM_lfS, wS_rai, wS_try, wpM_catF, wpM_revA, wpM_newD, wpM_itemE, wpM_itemT, wpM_hasE, wpM_get1, wpM_get2, wS_putE, wS_putT, and_self, if_true, if_false, Bool.false_eq_true, reduceIte, wS_setS, wS_seq, wS_if, wS_asg, wS_exS, wS_retS, wS_nxS, wS_nx, wS_ret, wpM_op2, wpM_op1, wpM_asT, wpM_trt, wpM_notT, wpM_andT, wpM_orT, wpM_andV, wpM_notE, wpM_ifE, wpM_lnil, wpM_lcons, wpM_tupE, wpM_lstF, wpM_frz, wpM_new, wpM_cal, wpM_calB, wpM_calF, wpM_isiE, wpM_vr, wpM_ct, wpM_meth, wpM_chn, wpM_cut, wpM_cutF, wpM_ono, wpM_osm, wpM_revT, wpM_lfE, wS_for, tgN, List.getElem?_cons_zero, List.getElem?_cons_succ, List.set_cons_zero, List.set_cons_succ, List.map_cons, List.map_nil, List.length_cons, List.length_nil, List.replicate_succ, List.replicate_zero, Nat.reduceAdd, Nat.reduceSub, List.cons_append, List.nil_append]
      refine draw_wp hS3 hm (by omega) ?_
      intro v S4 hS4 v0 v1
      have g0 : S4[rest.length + 2]? = some (some (.dT kvs)) := hS4.getX (j := 0)
      have hput : dPutT S4 (.ref (rest.length + 2)) [.str r, .str w] (.int (1 + v)) = some (S4.set (rest.length + 2) (some (.dT (putD kvs [.inr r, .inr w] (.int (1 + v)))))) := by
        simp only [dPutT, g0]
        show (some ([.inr r, .inr w] : List Key)).bind _ = _
        rw [Option.bind_some, if_pos (Nat.lt_of_lt_of_le (show kvs.length < 1002 by omega) (le_sz rfl))]
      simp only [add_int, mkR_eq, wS_augS, wpM_dcN, wpM_rg1, wpM_rg2, wpM_enumA, wpM_iof, wpM_lfS, wS_rai, wS_try, wpM_catF, wpM_revA, wpM_newD, wpM_itemE, wpM_itemT, wpM_hasE, wpM_get1, wpM_get2, wS_putE, wS_putT, and_self, if_true, if_false, Bool.false_eq_true, reduceIte, wS_setS, wS_seq, wS_if, wS_asg, wS_exS, wS_retS, wS_nxS, wS_nx, wS_ret, wpM_op2, wpM_op1, wpM_asT, wpM_trt, wpM_notT, wpM_andT, wpM_orT, wpM_andV, wpM_notE, wpM_ifE, wpM_lnil, wpM_lcons, wpM_tupE, wpM_lstF, wpM_frz, wpM_new, wpM_cal, wpM_calB, wpM_calF, wpM_isiE, wpM_vr, wpM_ct, wpM_meth, wpM_chn, wpM_cut, wpM_cutF, wpM_ono, wpM_osm, wpM_revT, wpM_lfE, wS_for, tgN, List.getElem?_cons_zero, List.getElem?_cons_succ, List.set_cons_zero, List.set_cons_succ, List.map_cons, List.map_nil, List.length_cons, List.length_nil, List.replicate_succ, List.replicate_zero, Nat.reduceAdd, Nat.reduceSub, List.cons_append, List.nil_append, hput, le_sz (n := 2) rfl, true_and]
      refine ⟨_, _, _, _, rfl, hS4.setX (j := 0), hkv.put hr hw ⟨by omega, by omega⟩, ?_⟩
      have := @put_len _ _ kvs [.inr r, .inr w] (.int (1 + v))
      omega
  · rintro e S1 ⟨kvs, e5, e6, e7, rfl, hS1, hkv, hkl⟩
    refine ⟨okSrc_nil, ?_⟩
    rw [rgL_len, Nat.zero_add] at hkl
    have g0 : S1[rest.length + 2]? = some (some (.dT kvs)) := hS1.getX (j := 0)
    have hks : ∀ d ∈ (ksT kvs).mergeSort leD, d ∈ ksT kvs := fun d hd => List.mem_mergeSort.mp hd
    have hsl : ((ksT kvs).mergeSort leD).length = kvs.length := by rw [List.length_mergeSort]; exact List.length_map _
    have hso : o_sortedT S1 [.ref (rest.length + 2)] = some ((ksT kvs).mergeSort leD) := by
      simp only [o_sortedT, g0]
      exact sortK_pairs fun d hd => by obtain ⟨r, w, c, e, _⟩ := hkv.keys hd; exact ⟨r, w, e⟩
    have hc := comp_eds (S := S1) (env := [some (.ref 1), some (.str L), some (.int many), some (.int most), some (.ref (rest.length + 2)), e5, e6, e7]) (it := i_of (frz (calF o_sortedT (lcons (vr 4) lnil)))) hkv hks (by omega) g0 rfl rfl (by
      unfold i_of frz calF lcons lnil vr
      simp only [bd, lf, hso, List.getElem?_cons_succ, List.getElem?_cons_zero, srcOf])
    simp only [mkR_eq, wS_augS, wpM_dcN, wpM_rg1, wpM_rg2, wpM_enumA, wpM_iof, wpM_lfS, wS_rai, wS_try, wpM_catF, wpM_revA, wpM_newD, wpM_itemE, wpM_itemT, wpM_hasE, wpM_get1, wpM_get2, wS_putE, wS_putT, and_self, if_true, if_false, Bool.false_eq_true, reduceIte, wS_setS, wS_seq, wS_if, wS_asg, wS_exS, wS_retS, wS_nxS, wS_nx, wS_ret, wpM_op2, wpM_op1, wpM_asT, wpM_trt, wpM_notT, wpM_andT, wpM_orT, wpM_andV, wpM_notE, wpM_ifE, wpM_lnil, wpM_lcons, wpM_tupE, wpM_lstF, wpM_frz, wpM_new, wpM_cal, wpM_calB, wpM_calF, wpM_isiE, wpM_vr, wpM_ct, wpM_meth, wpM_chn, wpM_cut, wpM_cutF, wpM_ono, wpM_osm, wpM_revT, wpM_lfE, wS_for, tgN, List.getElem?_cons_zero, List.getElem?_cons_succ, List.set_cons_zero, List.set_cons_succ, List.map_cons, List.map_nil, List.length_cons, List.length_nil, List.replicate_succ, List.replicate_zero, Nat.reduceAdd, Nat.reduceSub, List.cons_append, List.nil_append, hc, wpM_ok, o_tupleA, o_tuple, seqOf, Option.map_some, le_sz (n := 2) rfl]
    have hed : ∀ e ∈ (((ksT kvs).mergeSort leD).filter fun _ => true).map (fB kvs), EdOk e := fun e he => by
      obtain ⟨d, hd, rfl⟩ := List.mem_map.mp he
      obtain ⟨r, w, c, rfl, hr, hw, e, hcb⟩ := hkv.keys (hks d (List.mem_filter.mp hd).1)
      exact ⟨r, w, c, by simp only [fB, e]; rfl, hr, hw, hcb⟩
    have hel : ((((ksT kvs).mergeSort leD).filter fun _ => true).map (fB kvs)).length ≤ n := by
      rw [List.length_map]
      have := List.length_filter_le (fun _ => true) ((ksT kvs).mergeSort leD)
      omega
    generalize (((ksT kvs).mergeSort leD).filter fun _ => true).map (fB kvs) = es at hed hel ⊢
    have hp : (D.tup [.str L, .tup es]).pure = true := by
      show (true && (pureL es && true)) = true
      rw [pureL_mem fun e he => fd_pure (hed e he).fd]; rfl
    rw [scope_pure hp, wpM_ok]
    exact K es _ (hS.trunc hS1) hel hed
end
end Z

end
section
set_option Elab.async false
set_option linter.all false
set_option maxRecDepth 100000
set_option maxHeartbeats 4000000
set_option autoImplicit false
namespace Z
open PySem PySem.Spec L2 Y PySem.W
section
variable {rest S : Sto} {Q : D → Sto → Prop} {E : Str → List (Str × D) → Sto → Prop} {L : Str} {env : En}
/-! the table of a book's operations -/
abbrev Tab := List (List Key × D)
def sg (c : Nat) : Str := ⟨#[c]⟩
def addL (t : Tab) (cs : List Nat) : Tab := cs.foldl (fun t c => putD t [.inr (sg c), .inr (sg c)] (.int 0)) t
def addE1 (t : Tab) (e : D) : Tab := match e with
  | .tup [.str r, .str w, .int c] => putD t [.inr r, .inr w] (.int c)
  | _ => t
def addE (t : Tab) (es : List D) : Tab := es.foldl addE1 t
def tabB (L : Str) (es : List D) : Tab := addE (addL [] L.cps.toList) es
theorem addL_ok : ∀ {cs : List Nat} {t : Tab}, KV3 t → (∀ c ∈ cs, c < 0x110000) → KV3 (addL t cs)
  | [], t, h, _ => h
  | c :: cs, t, h, hc => addL_ok (cs := cs) (h.put ((FS.one (hc c List.mem_cons_self)).mono (by omega)) ((FS.one (hc c List.mem_cons_self)).mono (by omega)) ⟨by omega, by omega⟩) fun x hx => hc x (List.mem_cons_of_mem _ hx)
theorem addL_len : ∀ {cs : List Nat} {t : Tab}, (addL t cs).length ≤ t.length + cs.length
  | [], t => Nat.le_refl _
  | c :: cs, t => by
    have h1 := addL_len (cs := cs) (t := putD t [.inr (sg c), .inr (sg c)] (.int 0))
    have h2 := @put_len _ _ t [.inr (sg c), .inr (sg c)] (.int 0)
    rw [List.length_cons]
    show (addL (putD t [.inr (sg c), .inr (sg c)] (.int 0)) cs).length ≤ _
    omega
theorem addE_ok : ∀ {es : List D} {t : Tab}, KV3 t → (∀ e ∈ es, EdOk e) → KV3 (addE t es)
  | [], t, h, _ => h
  | e :: es, t, h, he => by
    obtain ⟨r, w, c, rfl, hr, hw, hc⟩ := he e List.mem_cons_self
    exact addE_ok (es := es) (h.put hr hw hc) fun x hx => he x (List.mem_cons_of_mem _ hx)
theorem addE_len : ∀ {es : List D} {t : Tab}, (∀ e ∈ es, EdOk e) → (addE t es).length ≤ t.length + es.length
  | [], t, _ => Nat.le_refl _
  | e :: es, t, he => by
    obtain ⟨r, w, c, rfl, hr, hw, hc⟩ := he e List.mem_cons_self
    have h1 := addE_len (es := es) (t := putD t [.inr r, .inr w] (.int c)) fun x hx => he x (List.mem_cons_of_mem _ hx)
    have h2 := @Y.put_len _ _ t [.inr r, .inr w] (.int c)
    rw [List.length_cons]
    show (addE (putD t [.inr r, .inr w] (.int c)) es).length ≤ _
    omega
/-- a book that is right: letters, edits -/
structure BkOk (L : Str) (es : List D) : Prop where
  fs : FS 26 L
  eds : ∀ e ∈ es, EdOk e
  len : es.length ≤ 1000
theorem BkOk.cps {es : List D} (h : BkOk L es) : ∀ c ∈ L.cps.toList, c < 0x110000 := strOk_iff.mp h.fs.ok
theorem BkOk.kv {es : List D} (h : BkOk L es) : KV3 (tabB L es) := addE_ok (addL_ok (fun p hp => nomatch hp) h.cps) h.eds
theorem BkOk.ln {es : List D} (h : BkOk L es) : (tabB L es).length ≤ 1026 := by
  have h1 := addE_len (t := addL [] L.cps.toList) h.eds
  have h2 := addL_len (cs := L.cps.toList) (t := [])
  have h3 := h.fs.len
  have h4 := h.len
  rw [len_eq] at h3
  have h5 : ([] : Tab).length = 0 := rfl
  show (addE _ es).length ≤ _
  omega
theorem addL_take {cs : List Nat} {t : Tab} {i c : Nat} (h : cs[i]? = some c) : addL t (cs.take (i + 1)) = putD (addL t (cs.take i)) [.inr (sg c), .inr (sg c)] (.int 0) := by
  rw [List.take_succ, h]
  simp [addL, List.foldl_append]
theorem addE_take {es : List D} {t : Tab} {i : Nat} {e : D} (h : es[i]? = some e) : addE t (es.take (i + 1)) = addE1 (addE t (es.take i)) e := by
  rw [List.take_succ, h]
  simp [addE, List.foldl_append]
theorem tk_cps {L : Str} {i : Nat} (h : ∀ c ∈ L.cps.toList, c < 0x110000) : ∀ c ∈ L.cps.toList.take i, c < 0x110000 := fun c hc => h c (List.mem_of_mem_take hc)
theorem opc_eq {es : List D} (hB : BkOk L es) : M_operation_costs [.tup [.str L, .tup es]] S = .ok (.ref S.length) (S ++ [some (.dT (tabB L es))]) := by
  refine eq_of_wp ?_
  unfold M_operation_costs
  refine wpM_run ?_
  unfold m_operation_costs
  have hLl := hB.fs.len
  have hel := hB.len
  have hcc : ∀ i, (L.cps.toList.take i).length ≤ 26 := fun i => by
    rw [List.length_take]
    rw [len_eq] at hLl
    omega
  simp only [mkR_eq, List.map_cons, List.map_nil, List.length_cons, List.length_nil, Nat.reduceAdd, Nat.reduceSub, List.replicate_succ, List.replicate_zero, List.cons_append, List.nil_append]
  refine wS_seqP (fun e S' => e = [some (.tup [.str L, .tup es]), some (.ref S.length), none, none, none, none] ∧ S' = S ++ [some (.dT (addL [] L.cps.toList))]) ?_ ?_
  · simp only [mkR_eq, wS_asg, wpM_dcN, wpM_iof, wpM_op2, wpM_vr, wpM_ct, List.getElem?_cons_zero, ixT0, wpM_lfE, srcOf, wipeE, tgN, List.set_cons_succ, List.set_cons_zero]
    refine wpM_dcp (fun i S' => S' = S ++ [some (.dT (addL [] (L.cps.toList.take i)))]) (sgns L) 0 _ rfl ?_ ?_
    · rintro j d S' hj rfl
      obtain ⟨c, hc, rfl⟩ := sgns_get hj
      rw [Nat.zero_add]
      refine ⟨okB_nil, _, rfl, ?_⟩
      simp only [mkR_eq, wS_augS, wpM_dcN, wpM_rg1, wpM_rg2, wpM_enumA, wpM_iof, wpM_lfS, wS_rai, wS_try, wpM_catF, wpM_revA, wpM_newD, wpM_itemE, wpM_itemT, wpM_hasE, wpM_get1, wpM_get2, wS_putE, wS_putT, and_self, if_true, if_false, Bool.false_eq_true, reduceIte, wS_setS, wS_seq, wS_if, wS_asg, wS_exS, wS_retS, wS_nxS, wS_nx, wS_ret, wpM_op2, wpM_op1, wpM_asT, wpM_trt, wpM_notT, wpM_andT, wpM_orT, wpM_andV, wpM_notE, wpM_ifE, wpM_lnil, wpM_lcons, wpM_tupE, wpM_lstF, wpM_frz, wpM_new, wpM_cal, wpM_calB, wpM_calF, wpM_isiE, wpM_vr, wpM_ct, wpM_meth, wpM_chn, wpM_cut, wpM_cutF, wpM_ono, wpM_osm, wpM_revT, wpM_lfE, wS_for, tgN, List.getElem?_cons_zero, List.getElem?_cons_succ, List.set_cons_zero, List.set_cons_succ, List.map_cons, List.map_nil, List.length_cons, List.length_nil, List.replicate_succ, List.replicate_zero, Nat.reduceAdd, Nat.reduceSub, List.cons_append, List.nil_append, le_sz (n := 2) rfl]
      refine ⟨_, putT_at end_at keys2 ?_, ?_⟩
      · have h1 := addL_len (cs := L.cps.toList.take j) (t := [])
        have h2 := hcc j
        exact Nat.lt_of_lt_of_le (show _ < 27 by simp only [List.length_nil] at h1; omega) (le_sz rfl)
      · rw [end_set, addL_take (c := c) (by rw [Array.getElem?_toList]; exact hc)]; rfl
    · rintro S' rfl
      rw [Nat.zero_add, sgns_len, show L.cps.size = L.cps.toList.length by simp, List.take_length]
      exact ⟨okB_nil, by trivial, by trivial⟩
  rintro e S1 ⟨rfl, rfl⟩
  simp only [mkR_eq, wS_seq, wS_for, wpM_iof, wpM_op2, wpM_vr, wpM_ct, List.getElem?_cons_zero, ixT1, wpM_lfE, srcOf]
  refine wS_loop (fun i e S' => ∃ e2 e3 e4, e = [some (.tup [.str L, .tup es]), some (.ref S.length), e2, e3, e4, none] ∧ S' = S ++ [some (.dT (addE (addL [] L.cps.toList) (es.take i)))]) es 0 _ _ ⟨none, none, none, rfl, rfl⟩ ?_ ?_
  · rintro j d e S' hj ⟨e2, e3, e4, rfl, rfl⟩
    obtain ⟨r, w, c, rfl, hr, hw, hc⟩ := hB.eds d (List.mem_of_getElem? hj)
    rw [Nat.zero_add]
    refine ⟨okSrc_nil, _, rfl, ?_⟩
    have hl : (addE (addL [] L.cps.toList) (es.take j)).length < sizeLine := by
      have h1 := addE_len (t := addL [] L.cps.toList) (es := es.take j) fun x hx => hB.eds x (List.mem_of_mem_take hx)
      have h2 := addL_len (cs := L.cps.toList) (t := [])
      have h3 := hcc L.cps.toList.length
      rw [List.take_length] at h3
      rw [List.length_take] at h1
      simp only [List.length_nil] at h2
      exact Nat.lt_of_lt_of_le (show _ < 1027 by omega) (le_sz rfl)
    simp only [mkR_eq, wS_augS, wpM_dcN, wpM_rg1, wpM_rg2, wpM_enumA, wpM_iof, wpM_lfS, wS_rai, wS_try, wpM_catF, wpM_revA, wpM_newD, wpM_itemE, wpM_itemT, wpM_hasE, wpM_get1, wpM_get2, wS_putE, wS_putT, and_self, if_true, if_false, Bool.false_eq_true, reduceIte, wS_setS, wS_seq, wS_if, wS_asg, wS_exS, wS_retS, wS_nxS, wS_nx, wS_ret, wpM_op2, wpM_op1, wpM_asT, wpM_trt, wpM_notT, wpM_andT, wpM_orT, wpM_andV, wpM_notE, wpM_ifE, wpM_lnil, wpM_lcons, wpM_tupE, wpM_lstF, wpM_frz, wpM_new, wpM_cal, wpM_calB, wpM_calF, wpM_isiE, wpM_vr, wpM_ct, wpM_meth, wpM_chn, wpM_cut, wpM_cutF, wpM_ono, wpM_osm, wpM_revT, wpM_lfE, wS_for, tgN, List.getElem?_cons_zero, List.getElem?_cons_succ, List.set_cons_zero, List.set_cons_succ, List.map_cons, List.map_nil, List.length_cons, List.length_nil, List.replicate_succ, List.replicate_zero, Nat.reduceAdd, Nat.reduceSub, List.cons_append, List.nil_append, le_sz (n := 2) rfl, putT_at end_at keys2 hl, end_set, true_and]
    exact ⟨_, _, _, rfl, by rw [addE_take hj]; rfl⟩
  · rintro e S' ⟨e2, e3, e4, rfl, rfl⟩
    rw [Nat.zero_add, List.take_length]
    refine ⟨okSrc_nil, ?_⟩
    simp only [mkR_eq, wS_augS, wpM_dcN, wpM_rg1, wpM_rg2, wpM_enumA, wpM_iof, wpM_lfS, wS_rai, wS_try, wpM_catF, wpM_revA, wpM_newD, wpM_itemE, wpM_itemT, wpM_hasE, wpM_get1, wpM_get2, wS_putE, wS_putT, and_self, if_true, if_false, Bool.false_eq_true, reduceIte, wS_setS, wS_seq, wS_if, wS_asg, wS_exS, wS_retS, wS_nxS, wS_nx, wS_ret, wpM_op2, wpM_op1, wpM_asT, wpM_trt, wpM_notT, wpM_andT, wpM_orT, wpM_andV, wpM_notE, wpM_ifE, wpM_lnil, wpM_lcons, wpM_tupE, wpM_lstF, wpM_frz, wpM_new, wpM_cal, wpM_calB, wpM_calF, wpM_isiE, wpM_vr, wpM_ct, wpM_meth, wpM_chn, wpM_cut, wpM_cutF, wpM_ono, wpM_osm, wpM_revT, wpM_lfE, wS_for, tgN, List.getElem?_cons_zero, List.getElem?_cons_succ, List.set_cons_zero, List.set_cons_succ, List.map_cons, List.map_nil, List.length_cons, List.length_nil, List.replicate_succ, List.replicate_zero, Nat.reduceAdd, Nat.reduceSub, List.cons_append, List.nil_append]
    exact ⟨by trivial, by trivial⟩
theorem lcosts_eq {es : List D} (hB : BkOk L es) : M__law_costs [.tup [.str L, .tup es]] S = .ok (.ref S.length) (S ++ [some (.dT (tabB L es))]) := by
  refine eq_of_wp ?_
  unfold M__law_costs
  refine wpM_run ?_
  unfold m__law_costs
  have hLl := hB.fs.len
  have hel := hB.len
  have hcc : ∀ i, (L.cps.toList.take i).length ≤ 26 := fun i => by
    rw [List.length_take]
    rw [len_eq] at hLl
    omega
  simp only [mkR_eq, List.map_cons, List.map_nil, List.length_cons, List.length_nil, Nat.reduceAdd, Nat.reduceSub, List.replicate_succ, List.replicate_zero, List.cons_append, List.nil_append]
  rw [wS_seq]
  simp only [mkR_eq, wS_asg, wpM_newD, tgN, List.set_cons_succ, List.set_cons_zero]
  refine wS_seqP (fun e S' => ∃ e2, e = [some (.tup [.str L, .tup es]), some (.ref S.length), e2, none, none, none] ∧ S' = S ++ [some (.dT (addL [] L.cps.toList))]) ?_ ?_
  · simp only [mkR_eq, wS_for, wpM_iof, wpM_op2, wpM_vr, wpM_ct, List.getElem?_cons_zero, ixT0, wpM_lfE, srcOf]
    refine wS_loop (fun i e S' => ∃ e2, e = [some (.tup [.str L, .tup es]), some (.ref S.length), e2, none, none, none] ∧ S' = S ++ [some (.dT (addL [] (L.cps.toList.take i)))]) (sgns L) 0 _ _ ⟨none, rfl, rfl⟩ ?_ ?_
    · rintro j d e S' hj ⟨e2, rfl, rfl⟩
      obtain ⟨c, hc, rfl⟩ := sgns_get hj
      rw [Nat.zero_add]
      refine ⟨okSrc_nil, _, rfl, ?_⟩
      have hl : (addL [] (L.cps.toList.take j)).length < sizeLine := by
        have h1 := addL_len (cs := L.cps.toList.take j) (t := [])
        have h2 := hcc j
        exact Nat.lt_of_lt_of_le (show _ < 27 by simp only [List.length_nil] at h1; omega) (le_sz rfl)
      simp only [mkR_eq, wS_augS, wpM_dcN, wpM_rg1, wpM_rg2, wpM_enumA, wpM_iof, wpM_lfS, wS_rai, wS_try, wpM_catF, wpM_revA, wpM_newD, wpM_itemE, wpM_itemT, wpM_hasE, wpM_get1, wpM_get2, wS_putE, wS_putT, and_self, if_true, if_false, Bool.false_eq_true, reduceIte, wS_setS, wS_seq, wS_if, wS_asg, wS_exS, wS_retS, wS_nxS, wS_nx, wS_ret, wpM_op2, wpM_op1, wpM_asT, wpM_trt, wpM_notT, wpM_andT, wpM_orT, wpM_andV, wpM_notE, wpM_ifE, wpM_lnil, wpM_lcons, wpM_tupE, wpM_lstF, wpM_frz, wpM_new, wpM_cal, wpM_calB, wpM_calF, wpM_isiE, wpM_vr, wpM_ct, wpM_meth, wpM_chn, wpM_cut, wpM_cutF, wpM_ono, wpM_osm, wpM_revT, wpM_lfE, wS_for, tgN, List.getElem?_cons_zero, List.getElem?_cons_succ, List.set_cons_zero, List.set_cons_succ, List.map_cons, List.map_nil, List.length_cons, List.length_nil, List.replicate_succ, List.replicate_zero, Nat.reduceAdd, Nat.reduceSub, List.cons_append, List.nil_append, le_sz (n := 2) rfl, putT_at end_at keys2 hl, end_set, true_and]
      exact ⟨_, rfl, by rw [addL_take (c := c) (by rw [Array.getElem?_toList]; exact hc)]; rfl⟩
    · rintro e S' ⟨e2, rfl, rfl⟩
      rw [Nat.zero_add, sgns_len, show L.cps.size = L.cps.toList.length by simp, List.take_length]
      exact ⟨okSrc_nil, _, rfl, rfl⟩
  rintro e S1 ⟨e2, rfl, rfl⟩
  simp only [mkR_eq, wS_seq, wS_for, wpM_iof, wpM_op2, wpM_vr, wpM_ct, List.getElem?_cons_zero, ixT1, wpM_lfE, srcOf]
  refine wS_loop (fun i e S' => ∃ e2 e3 e4 e5, e = [some (.tup [.str L, .tup es]), some (.ref S.length), e2, e3, e4, e5] ∧ S' = S ++ [some (.dT (addE (addL [] L.cps.toList) (es.take i)))]) es 0 _ _ ⟨_, none, none, none, rfl, rfl⟩ ?_ ?_
  · rintro j d e S' hj ⟨e2, e3, e4, e5, rfl, rfl⟩
    obtain ⟨r, w, c, rfl, hr, hw, hc⟩ := hB.eds d (List.mem_of_getElem? hj)
    rw [Nat.zero_add]
    refine ⟨okSrc_nil, _, rfl, ?_⟩
    have hl : (addE (addL [] L.cps.toList) (es.take j)).length < sizeLine := by
      have h1 := addE_len (t := addL [] L.cps.toList) (es := es.take j) fun x hx => hB.eds x (List.mem_of_mem_take hx)
      have h2 := addL_len (cs := L.cps.toList) (t := [])
      have h3 := hcc L.cps.toList.length
      rw [List.take_length] at h3
      rw [List.length_take] at h1
      simp only [List.length_nil] at h2
      exact Nat.lt_of_lt_of_le (show _ < 1027 by omega) (le_sz rfl)
    simp only [mkR_eq, wS_augS, wpM_dcN, wpM_rg1, wpM_rg2, wpM_enumA, wpM_iof, wpM_lfS, wS_rai, wS_try, wpM_catF, wpM_revA, wpM_newD, wpM_itemE, wpM_itemT, wpM_hasE, wpM_get1, wpM_get2, wS_putE, wS_putT, and_self, if_true, if_false, Bool.false_eq_true, reduceIte, wS_setS, wS_seq, wS_if, wS_asg, wS_exS, wS_retS, wS_nxS, wS_nx, wS_ret, wpM_op2, wpM_op1, wpM_asT, wpM_trt, wpM_notT, wpM_andT, wpM_orT, wpM_andV, wpM_notE, wpM_ifE, wpM_lnil, wpM_lcons, wpM_tupE, wpM_lstF, wpM_frz, wpM_new, wpM_cal, wpM_calB, wpM_calF, wpM_isiE, wpM_vr, wpM_ct, wpM_meth, wpM_chn, wpM_cut, wpM_cutF, wpM_ono, wpM_osm, wpM_revT, wpM_lfE, wS_for, tgN, List.getElem?_cons_zero, List.getElem?_cons_succ, List.set_cons_zero, List.set_cons_succ, List.map_cons, List.map_nil, List.length_cons, List.length_nil, List.replicate_succ, List.replicate_zero, Nat.reduceAdd, Nat.reduceSub, List.cons_append, List.nil_append, le_sz (n := 2) rfl, putT_at end_at keys2 hl, end_set, true_and]
    exact ⟨_, _, _, _, rfl, by rw [addE_take hj]; rfl⟩
  · rintro e S' ⟨e2, e3, e4, e5, rfl, rfl⟩
    rw [Nat.zero_add, List.take_length]
    refine ⟨okSrc_nil, ?_⟩
    simp only [mkR_eq, wS_augS, wpM_dcN, wpM_rg1, wpM_rg2, wpM_enumA, wpM_iof, wpM_lfS, wS_rai, wS_try, wpM_catF, wpM_revA, wpM_newD, wpM_itemE, wpM_itemT, wpM_hasE, wpM_get1, wpM_get2, wS_putE, wS_putT, and_self, if_true, if_false, Bool.false_eq_true, reduceIte, wS_setS, wS_seq, wS_if, wS_asg, wS_exS, wS_retS, wS_nxS, wS_nx, wS_ret, wpM_op2, wpM_op1, wpM_asT, wpM_trt, wpM_notT, wpM_andT, wpM_orT, wpM_andV, wpM_notE, wpM_ifE, wpM_lnil, wpM_lcons, wpM_tupE, wpM_lstF, wpM_frz, wpM_new, wpM_cal, wpM_calB, wpM_calF, wpM_isiE, wpM_vr, wpM_ct, wpM_meth, wpM_chn, wpM_cut, wpM_cutF, wpM_ono, wpM_osm, wpM_revT, wpM_lfE, wS_for, tgN, List.getElem?_cons_zero, List.getElem?_cons_succ, List.set_cons_zero, List.set_cons_succ, List.map_cons, List.map_nil, List.length_cons, List.length_nil, List.replicate_succ, List.replicate_zero, Nat.reduceAdd, Nat.reduceSub, List.cons_append, List.nil_append]
    exact ⟨by trivial, by trivial⟩
end
end Z

end
section
set_option Elab.async false
set_option linter.all false
set_option maxRecDepth 100000
set_option maxHeartbeats 4000000
set_option autoImplicit false
namespace Z
open PySem PySem.Spec L2 Y PySem.W
section
variable {S : Sto} {Q : D → Sto → Prop} {E : Str → List (Str × D) → Sto → Prop} {d : D} {L : Str} {t : Tab} {n : Nat}
def fltD : Option (Int × String) → D
  | none => .non
  | some (n, w) => .tup [.int n, .str (Str.ofString w)]
def dueD (m : Int) : Option (Int × String) → D
  | none => .int m
  | some (n, w) => .tup [.int n, .str (Str.ofString w)]
def opB (t : Tab) : D → Bool
  | .tup [.str a, .str b] => (valD t [.inr a, .inr b]).isSome
  | _ => false
def scanR (t : Tab) : Nat → List D → Option (Int × String)
  | _, [] => none
  | i, x :: xs => if opB t x = true then scanR t (i + 1) xs else some ((i : Int), "op")
def rowF (t : Tab) : D → Option (Int × String)
  | .tup ds => if ds.length ≤ 600 then scanR t 0 ds else some (-1, "limit")
  | _ => some (-1, "shape")
def lenT : D → Int
  | .tup ds => ds.length
  | _ => 0
theorem hasT {a b : Str} (h : S[n]? = some (some (.dT t))) : dGetD S (.ref n) (.tup [.str a, .str b]) = some (valD t [.inr a, .inr b]) := getT_at h keys2
theorem opB_s {a b : D} (h : isS a = false) : opB t (.tup [a, b]) = false := by
  cases a <;> first | rfl | cases h
theorem opB_s2 {a b : D} (h : isS b = false) : opB t (.tup [a, b]) = false := by
  cases a <;> cases b <;> first | rfl | cases h
theorem opB_n (h : isT d = false) : opB t d = false := by
  cases d <;> first | rfl | cases h
theorem opB_l {ds : List D} (h : ds.length ≠ 2) : opB t (.tup ds) = false := by
  match ds with
  | [] => rfl
  | [a] => cases a <;> rfl
  | [a, b] => exact absurd rfl h
  | a :: b :: c :: r => cases a <;> cases b <;> rfl
/-- the shapes of a thing -/
theorem shapeT (d : D) : isT d = false ∨ (∃ ds, d = .tup ds ∧ ds.length ≠ 2) ∨ ∃ a b, d = .tup [a, b] := by
  cases d with
  | tup ds =>
    match ds with
    | [a, b] => exact .inr (.inr ⟨a, b, rfl⟩)
    | [] => exact .inr (.inl ⟨_, rfl, by decide⟩)
    | [a] => exact .inr (.inl ⟨_, rfl, by simp⟩)
    | a :: b :: c :: r => exact .inr (.inl ⟨_, rfl, by simp⟩)
  | _ => exact .inl rfl
theorem isS_eq {a : D} (h : isS a = true) : ∃ z, a = .str z := by
  cases a <;> first | exact ⟨_, rfl⟩ | cases h
theorem is_op_eq (hS : S[n]? = some (some (.dT t))) (hd : d.pure = true) : M_is_operation [.ref n, d] S = .ok (.bl (opB t d)) S := by
  refine eq_of_wp ?_
  unfold M_is_operation
  refine wpM_fn ?_
  unfold m_is_operation
  simp only [mkR_eq, wS_augS, wpM_dcN, wpM_rg1, wpM_rg2, wpM_enumA, wpM_iof, wpM_lfS, wS_rai, wS_try, wpM_catF, wpM_revA, wpM_newD, wpM_itemE, wpM_itemT, wpM_hasE, wpM_get1, wpM_get2, wS_putE, wS_putT, and_self, if_true, if_false, Bool.false_eq_true, reduceIte, wS_setS, wS_seq, wS_if, wS_asg, wS_exS, wS_retS, wS_nxS, wS_nx, wS_ret, wpM_op2, wpM_op1, wpM_asT, wpM_trt, wpM_notT, wpM_andT, wpM_orT, wpM_andV, wpM_notE, wpM_ifE, wpM_lnil, wpM_lcons, wpM_tupE, wpM_lstF, wpM_frz, wpM_new, wpM_cal, wpM_calB, wpM_calF, wpM_isiE, wpM_vr, wpM_ct, wpM_meth, wpM_chn, wpM_cut, wpM_cutF, wpM_ono, wpM_osm, wpM_revT, wpM_lfE, wS_for, tgN, List.getElem?_cons_zero, List.getElem?_cons_succ, List.set_cons_zero, List.set_cons_succ, List.map_cons, List.map_nil, List.length_cons, List.length_nil, List.replicate_succ, List.replicate_zero, Nat.reduceAdd, Nat.reduceSub, List.cons_append, List.nil_append, isiT hd]
  rcases shapeT d with h | ⟨ds, rfl, h⟩ | ⟨a, b, rfl⟩
  · simp only [h, tru, mkR_eq, wS_augS, wpM_dcN, wpM_rg1, wpM_rg2, wpM_enumA, wpM_iof, wpM_lfS, wS_rai, wS_try, wpM_catF, wpM_revA, wpM_newD, wpM_itemE, wpM_itemT, wpM_hasE, wpM_get1, wpM_get2, wS_putE, wS_putT, and_self, if_true, if_false, Bool.false_eq_true, reduceIte, wS_setS, wS_seq, wS_if, wS_asg, wS_exS, wS_retS, wS_nxS, wS_nx, wS_ret, wpM_op2, wpM_op1, wpM_asT, wpM_trt, wpM_notT, wpM_andT, wpM_orT, wpM_andV, wpM_notE, wpM_ifE, wpM_lnil, wpM_lcons, wpM_tupE, wpM_lstF, wpM_frz, wpM_new, wpM_cal, wpM_calB, wpM_calF, wpM_isiE, wpM_vr, wpM_ct, wpM_meth, wpM_chn, wpM_cut, wpM_cutF, wpM_ono, wpM_osm, wpM_revT, wpM_lfE, wS_for, tgN, List.getElem?_cons_zero, List.getElem?_cons_succ, List.set_cons_zero, List.set_cons_succ, List.map_cons, List.map_nil, List.length_cons, List.length_nil, List.replicate_succ, List.replicate_zero, Nat.reduceAdd, Nat.reduceSub, List.cons_append, List.nil_append, Bool.not_false, opB_n h]
    rw [scope_bl, wpM_ok, trunc_same]; exact ⟨rfl, rfl⟩
  · simp only [isT, tru, mkR_eq, wS_augS, wpM_dcN, wpM_rg1, wpM_rg2, wpM_enumA, wpM_iof, wpM_lfS, wS_rai, wS_try, wpM_catF, wpM_revA, wpM_newD, wpM_itemE, wpM_itemT, wpM_hasE, wpM_get1, wpM_get2, wS_putE, wS_putT, and_self, if_true, if_false, Bool.false_eq_true, reduceIte, wS_setS, wS_seq, wS_if, wS_asg, wS_exS, wS_retS, wS_nxS, wS_nx, wS_ret, wpM_op2, wpM_op1, wpM_asT, wpM_trt, wpM_notT, wpM_andT, wpM_orT, wpM_andV, wpM_notE, wpM_ifE, wpM_lnil, wpM_lcons, wpM_tupE, wpM_lstF, wpM_frz, wpM_new, wpM_cal, wpM_calB, wpM_calF, wpM_isiE, wpM_vr, wpM_ct, wpM_meth, wpM_chn, wpM_cut, wpM_cutF, wpM_ono, wpM_osm, wpM_revT, wpM_lfE, wS_for, tgN, List.getElem?_cons_zero, List.getElem?_cons_succ, List.set_cons_zero, List.set_cons_succ, List.map_cons, List.map_nil, List.length_cons, List.length_nil, List.replicate_succ, List.replicate_zero, Nat.reduceAdd, Nat.reduceSub, List.cons_append, List.nil_append, Bool.not_true, len_tup, ne_int, show ((ds.length : Int) == 2) = false from by simp; omega, Bool.not_false, opB_l h]
    rw [scope_bl, wpM_ok, trunc_same]; exact ⟨rfl, rfl⟩
  · have ha : a.pure = true := mem_pure (ds := [a, b]) hd a (by simp)
    have hb : b.pure = true := mem_pure (ds := [a, b]) hd b (by simp)
    simp only [isT, tru, mkR_eq, wS_augS, wpM_dcN, wpM_rg1, wpM_rg2, wpM_enumA, wpM_iof, wpM_lfS, wS_rai, wS_try, wpM_catF, wpM_revA, wpM_newD, wpM_itemE, wpM_itemT, wpM_hasE, wpM_get1, wpM_get2, wS_putE, wS_putT, and_self, if_true, if_false, Bool.false_eq_true, reduceIte, wS_setS, wS_seq, wS_if, wS_asg, wS_exS, wS_retS, wS_nxS, wS_nx, wS_ret, wpM_op2, wpM_op1, wpM_asT, wpM_trt, wpM_notT, wpM_andT, wpM_orT, wpM_andV, wpM_notE, wpM_ifE, wpM_lnil, wpM_lcons, wpM_tupE, wpM_lstF, wpM_frz, wpM_new, wpM_cal, wpM_calB, wpM_calF, wpM_isiE, wpM_vr, wpM_ct, wpM_meth, wpM_chn, wpM_cut, wpM_cutF, wpM_ono, wpM_osm, wpM_revT, wpM_lfE, wS_for, tgN, List.getElem?_cons_zero, List.getElem?_cons_succ, List.set_cons_zero, List.set_cons_succ, List.map_cons, List.map_nil, List.length_cons, List.length_nil, List.replicate_succ, List.replicate_zero, Nat.reduceAdd, Nat.reduceSub, List.cons_append, List.nil_append, Bool.not_true, len_tup, ne_int, show (((2 : Nat) : Int) == 2) = true from rfl, ixT0, ixT1, isiS ha]
    rcases Bool.eq_false_or_eq_true (isS a) with h1 | h1
    · obtain ⟨y, rfl⟩ := isS_eq h1
      simp only [h1, tru, mkR_eq, wS_augS, wpM_dcN, wpM_rg1, wpM_rg2, wpM_enumA, wpM_iof, wpM_lfS, wS_rai, wS_try, wpM_catF, wpM_revA, wpM_newD, wpM_itemE, wpM_itemT, wpM_hasE, wpM_get1, wpM_get2, wS_putE, wS_putT, and_self, if_true, if_false, Bool.false_eq_true, reduceIte, wS_setS, wS_seq, wS_if, wS_asg, wS_exS, wS_retS, wS_nxS, wS_nx, wS_ret, wpM_op2, wpM_op1, wpM_asT, wpM_trt, wpM_notT, wpM_andT, wpM_orT, wpM_andV, wpM_notE, wpM_ifE, wpM_lnil, wpM_lcons, wpM_tupE, wpM_lstF, wpM_frz, wpM_new, wpM_cal, wpM_calB, wpM_calF, wpM_isiE, wpM_vr, wpM_ct, wpM_meth, wpM_chn, wpM_cut, wpM_cutF, wpM_ono, wpM_osm, wpM_revT, wpM_lfE, wS_for, tgN, List.getElem?_cons_zero, List.getElem?_cons_succ, List.set_cons_zero, List.set_cons_succ, List.map_cons, List.map_nil, List.length_cons, List.length_nil, List.replicate_succ, List.replicate_zero, Nat.reduceAdd, Nat.reduceSub, List.cons_append, List.nil_append, isiS hb]
      rcases Bool.eq_false_or_eq_true (isS b) with h2 | h2
      · obtain ⟨z, rfl⟩ := isS_eq h2
        simp only [h2, tru, mkR_eq, wS_augS, wpM_dcN, wpM_rg1, wpM_rg2, wpM_enumA, wpM_iof, wpM_lfS, wS_rai, wS_try, wpM_catF, wpM_revA, wpM_newD, wpM_itemE, wpM_itemT, wpM_hasE, wpM_get1, wpM_get2, wS_putE, wS_putT, and_self, if_true, if_false, Bool.false_eq_true, reduceIte, wS_setS, wS_seq, wS_if, wS_asg, wS_exS, wS_retS, wS_nxS, wS_nx, wS_ret, wpM_op2, wpM_op1, wpM_asT, wpM_trt, wpM_notT, wpM_andT, wpM_orT, wpM_andV, wpM_notE, wpM_ifE, wpM_lnil, wpM_lcons, wpM_tupE, wpM_lstF, wpM_frz, wpM_new, wpM_cal, wpM_calB, wpM_calF, wpM_isiE, wpM_vr, wpM_ct, wpM_meth, wpM_chn, wpM_cut, wpM_cutF, wpM_ono, wpM_osm, wpM_revT, wpM_lfE, wS_for, tgN, List.getElem?_cons_zero, List.getElem?_cons_succ, List.set_cons_zero, List.set_cons_succ, List.map_cons, List.map_nil, List.length_cons, List.length_nil, List.replicate_succ, List.replicate_zero, Nat.reduceAdd, Nat.reduceSub, List.cons_append, List.nil_append, hasT hS]
        rw [scope_bl, wpM_ok, trunc_same]
        exact ⟨by simp [opB], rfl⟩
      · simp only [h2, tru, mkR_eq, wS_augS, wpM_dcN, wpM_rg1, wpM_rg2, wpM_enumA, wpM_iof, wpM_lfS, wS_rai, wS_try, wpM_catF, wpM_revA, wpM_newD, wpM_itemE, wpM_itemT, wpM_hasE, wpM_get1, wpM_get2, wS_putE, wS_putT, and_self, if_true, if_false, Bool.false_eq_true, reduceIte, wS_setS, wS_seq, wS_if, wS_asg, wS_exS, wS_retS, wS_nxS, wS_nx, wS_ret, wpM_op2, wpM_op1, wpM_asT, wpM_trt, wpM_notT, wpM_andT, wpM_orT, wpM_andV, wpM_notE, wpM_ifE, wpM_lnil, wpM_lcons, wpM_tupE, wpM_lstF, wpM_frz, wpM_new, wpM_cal, wpM_calB, wpM_calF, wpM_isiE, wpM_vr, wpM_ct, wpM_meth, wpM_chn, wpM_cut, wpM_cutF, wpM_ono, wpM_osm, wpM_revT, wpM_lfE, wS_for, tgN, List.getElem?_cons_zero, List.getElem?_cons_succ, List.set_cons_zero, List.set_cons_succ, List.map_cons, List.map_nil, List.length_cons, List.length_nil, List.replicate_succ, List.replicate_zero, Nat.reduceAdd, Nat.reduceSub, List.cons_append, List.nil_append, opB_s2 h2]
        rw [scope_bl, wpM_ok, trunc_same]; exact ⟨rfl, rfl⟩
    · simp only [h1, tru, mkR_eq, wS_augS, wpM_dcN, wpM_rg1, wpM_rg2, wpM_enumA, wpM_iof, wpM_lfS, wS_rai, wS_try, wpM_catF, wpM_revA, wpM_newD, wpM_itemE, wpM_itemT, wpM_hasE, wpM_get1, wpM_get2, wS_putE, wS_putT, and_self, if_true, if_false, Bool.false_eq_true, reduceIte, wS_setS, wS_seq, wS_if, wS_asg, wS_exS, wS_retS, wS_nxS, wS_nx, wS_ret, wpM_op2, wpM_op1, wpM_asT, wpM_trt, wpM_notT, wpM_andT, wpM_orT, wpM_andV, wpM_notE, wpM_ifE, wpM_lnil, wpM_lcons, wpM_tupE, wpM_lstF, wpM_frz, wpM_new, wpM_cal, wpM_calB, wpM_calF, wpM_isiE, wpM_vr, wpM_ct, wpM_meth, wpM_chn, wpM_cut, wpM_cutF, wpM_ono, wpM_osm, wpM_revT, wpM_lfE, wS_for, tgN, List.getElem?_cons_zero, List.getElem?_cons_succ, List.set_cons_zero, List.set_cons_succ, List.map_cons, List.map_nil, List.length_cons, List.length_nil, List.replicate_succ, List.replicate_zero, Nat.reduceAdd, Nat.reduceSub, List.cons_append, List.nil_append, opB_s h1]
      rw [scope_bl, wpM_ok, trunc_same]; exact ⟨rfl, rfl⟩
theorem isT_eq {a : D} (h : isT a = true) : ∃ z, a = .tup z := by
  cases a <;> first | exact ⟨_, rfl⟩ | cases h
theorem rowF_n (h : isT d = false) : rowF t d = some (-1, "shape") := by
  cases d <;> first | rfl | cases h
theorem enum_tup {ds : List D} : enumSrc S (.tup ds) = some (enL 0 ds, []) := rfl
theorem row_fault_eq {es : List D} (hB : BkOk L es) (hd : fd d = true) (hl : ∀ ds, d = .tup ds → ds.length ≤ 100000) : M_row_fault [.tup [.str L, .tup es], d] S = .ok (fltD (rowF (tabB L es) d)) S := by
  refine eq_of_wp ?_
  unfold M_row_fault
  refine wpM_fn ?_
  unfold m_row_fault
  simp only [mkR_eq, wS_augS, wpM_dcN, wpM_rg1, wpM_rg2, wpM_enumA, wpM_iof, wpM_lfS, wS_rai, wS_try, wpM_catF, wpM_revA, wpM_newD, wpM_itemE, wpM_itemT, wpM_hasE, wpM_get1, wpM_get2, wS_putE, wS_putT, and_self, if_true, if_false, Bool.false_eq_true, reduceIte, wS_setS, wS_seq, wS_if, wS_asg, wS_exS, wS_retS, wS_nxS, wS_nx, wS_ret, wpM_op2, wpM_op1, wpM_asT, wpM_trt, wpM_notT, wpM_andT, wpM_orT, wpM_andV, wpM_notE, wpM_ifE, wpM_lnil, wpM_lcons, wpM_tupE, wpM_lstF, wpM_frz, wpM_new, wpM_cal, wpM_calB, wpM_calF, wpM_isiE, wpM_vr, wpM_ct, wpM_meth, wpM_chn, wpM_cut, wpM_cutF, wpM_ono, wpM_osm, wpM_revT, wpM_lfE, wS_for, tgN, List.getElem?_cons_zero, List.getElem?_cons_succ, List.set_cons_zero, List.set_cons_succ, List.map_cons, List.map_nil, List.length_cons, List.length_nil, List.replicate_succ, List.replicate_zero, Nat.reduceAdd, Nat.reduceSub, List.cons_append, List.nil_append, isiT (fd_pure hd)]
  rcases Bool.eq_false_or_eq_true (isT d) with h | h
  · obtain ⟨ds, rfl⟩ := isT_eq h
    have hlen := hl ds rfl
    have hds : fdL ds = true := hd
    simp only [isT, tru, mkR_eq, wS_augS, wpM_dcN, wpM_rg1, wpM_rg2, wpM_enumA, wpM_iof, wpM_lfS, wS_rai, wS_try, wpM_catF, wpM_revA, wpM_newD, wpM_itemE, wpM_itemT, wpM_hasE, wpM_get1, wpM_get2, wS_putE, wS_putT, and_self, if_true, if_false, Bool.false_eq_true, reduceIte, wS_setS, wS_seq, wS_if, wS_asg, wS_exS, wS_retS, wS_nxS, wS_nx, wS_ret, wpM_op2, wpM_op1, wpM_asT, wpM_trt, wpM_notT, wpM_andT, wpM_orT, wpM_andV, wpM_notE, wpM_ifE, wpM_lnil, wpM_lcons, wpM_tupE, wpM_lstF, wpM_frz, wpM_new, wpM_cal, wpM_calB, wpM_calF, wpM_isiE, wpM_vr, wpM_ct, wpM_meth, wpM_chn, wpM_cut, wpM_cutF, wpM_ono, wpM_osm, wpM_revT, wpM_lfE, wS_for, tgN, List.getElem?_cons_zero, List.getElem?_cons_succ, List.set_cons_zero, List.set_cons_succ, List.map_cons, List.map_nil, List.length_cons, List.length_nil, List.replicate_succ, List.replicate_zero, Nat.reduceAdd, Nat.reduceSub, List.cons_append, List.nil_append, Bool.not_true, len_tup, cmp_int]
    by_cases h6 : ds.length ≤ 600
    · have hF : rowF (tabB L es) (.tup ds) = scanR (tabB L es) 0 ds := if_pos h6
      simp only [decide_eq_false (show ¬ (600 : Int) < (ds.length : Int) by omega), mkR_eq, wS_augS, wpM_dcN, wpM_rg1, wpM_rg2, wpM_enumA, wpM_iof, wpM_lfS, wS_rai, wS_try, wpM_catF, wpM_revA, wpM_newD, wpM_itemE, wpM_itemT, wpM_hasE, wpM_get1, wpM_get2, wS_putE, wS_putT, and_self, if_true, if_false, Bool.false_eq_true, reduceIte, wS_setS, wS_seq, wS_if, wS_asg, wS_exS, wS_retS, wS_nxS, wS_nx, wS_ret, wpM_op2, wpM_op1, wpM_asT, wpM_trt, wpM_notT, wpM_andT, wpM_orT, wpM_andV, wpM_notE, wpM_ifE, wpM_lnil, wpM_lcons, wpM_tupE, wpM_lstF, wpM_frz, wpM_new, wpM_cal, wpM_calB, wpM_calF, wpM_isiE, wpM_vr, wpM_ct, wpM_meth, wpM_chn, wpM_cut, wpM_cutF, wpM_ono, wpM_osm, wpM_revT, wpM_lfE, wS_for, tgN, List.getElem?_cons_zero, List.getElem?_cons_succ, List.set_cons_zero, List.set_cons_succ, List.map_cons, List.map_nil, List.length_cons, List.length_nil, List.replicate_succ, List.replicate_zero, Nat.reduceAdd, Nat.reduceSub, List.cons_append, List.nil_append, opc_eq hB, wpM_ok, hF]
      simp only [enum_tup]
      refine wS_loop (fun i e S' => ∃ e3 e4, e = [some (.tup [.str L, .tup es]), some (.tup ds), some (.ref S.length), e3, e4] ∧ S' = S ++ [some (.dT (tabB L es))] ∧ scanR (tabB L es) 0 ds = scanR (tabB L es) i (ds.drop i)) (enL 0 ds) 0 _ _ ⟨none, none, rfl, rfl, rfl⟩ ?_ ?_
      · rintro j x e S' hj ⟨e3, e4, rfl, rfl, es'⟩
        obtain ⟨y, hy, rfl⟩ := enL_get hj
        rw [Nat.zero_add] at es' ⊢
        rw [Nat.zero_add] at *
        rw [drop_at hy] at es'
        simp only [scanR] at es'
        refine ⟨okSrc_nil, _, rfl, ?_⟩
        simp only [mkR_eq, wS_augS, wpM_dcN, wpM_rg1, wpM_rg2, wpM_enumA, wpM_iof, wpM_lfS, wS_rai, wS_try, wpM_catF, wpM_revA, wpM_newD, wpM_itemE, wpM_itemT, wpM_hasE, wpM_get1, wpM_get2, wS_putE, wS_putT, and_self, if_true, if_false, Bool.false_eq_true, reduceIte, wS_setS, wS_seq, wS_if, wS_asg, wS_exS, wS_retS, wS_nxS, wS_nx, wS_ret, wpM_op2, wpM_op1, wpM_asT, wpM_trt, wpM_notT, wpM_andT, wpM_orT, wpM_andV, wpM_notE, wpM_ifE, wpM_lnil, wpM_lcons, wpM_tupE, wpM_lstF, wpM_frz, wpM_new, wpM_cal, wpM_calB, wpM_calF, wpM_isiE, wpM_vr, wpM_ct, wpM_meth, wpM_chn, wpM_cut, wpM_cutF, wpM_ono, wpM_osm, wpM_revT, wpM_lfE, wS_for, tgN, List.getElem?_cons_zero, List.getElem?_cons_succ, List.set_cons_zero, List.set_cons_succ, List.map_cons, List.map_nil, List.length_cons, List.length_nil, List.replicate_succ, List.replicate_zero, Nat.reduceAdd, Nat.reduceSub, List.cons_append, List.nil_append, is_op_eq end_at (fd_pure (fdL_mem.mp hds y (List.mem_of_getElem? hy))), wpM_ok, tru]
        rcases Bool.eq_false_or_eq_true (opB (tabB L es) y) with c | c
        · rw [if_pos c] at es'
          simp only [c, Bool.not_true, mkR_eq, wS_augS, wpM_dcN, wpM_rg1, wpM_rg2, wpM_enumA, wpM_iof, wpM_lfS, wS_rai, wS_try, wpM_catF, wpM_revA, wpM_newD, wpM_itemE, wpM_itemT, wpM_hasE, wpM_get1, wpM_get2, wS_putE, wS_putT, and_self, if_true, if_false, Bool.false_eq_true, reduceIte, wS_setS, wS_seq, wS_if, wS_asg, wS_exS, wS_retS, wS_nxS, wS_nx, wS_ret, wpM_op2, wpM_op1, wpM_asT, wpM_trt, wpM_notT, wpM_andT, wpM_orT, wpM_andV, wpM_notE, wpM_ifE, wpM_lnil, wpM_lcons, wpM_tupE, wpM_lstF, wpM_frz, wpM_new, wpM_cal, wpM_calB, wpM_calF, wpM_isiE, wpM_vr, wpM_ct, wpM_meth, wpM_chn, wpM_cut, wpM_cutF, wpM_ono, wpM_osm, wpM_revT, wpM_lfE, wS_for, tgN, List.getElem?_cons_zero, List.getElem?_cons_succ, List.set_cons_zero, List.set_cons_succ, List.map_cons, List.map_nil, List.length_cons, List.length_nil, List.replicate_succ, List.replicate_zero, Nat.reduceAdd, Nat.reduceSub, List.cons_append, List.nil_append]
          exact ⟨_, _, rfl, by trivial, es'⟩
        · rw [if_neg (by rw [c]; exact Bool.false_ne_true)] at es'
          simp only [c, Bool.not_false, mkR_eq, wS_augS, wpM_dcN, wpM_rg1, wpM_rg2, wpM_enumA, wpM_iof, wpM_lfS, wS_rai, wS_try, wpM_catF, wpM_revA, wpM_newD, wpM_itemE, wpM_itemT, wpM_hasE, wpM_get1, wpM_get2, wS_putE, wS_putT, and_self, if_true, if_false, Bool.false_eq_true, reduceIte, wS_setS, wS_seq, wS_if, wS_asg, wS_exS, wS_retS, wS_nxS, wS_nx, wS_ret, wpM_op2, wpM_op1, wpM_asT, wpM_trt, wpM_notT, wpM_andT, wpM_orT, wpM_andV, wpM_notE, wpM_ifE, wpM_lnil, wpM_lcons, wpM_tupE, wpM_lstF, wpM_frz, wpM_new, wpM_cal, wpM_calB, wpM_calF, wpM_isiE, wpM_vr, wpM_ct, wpM_meth, wpM_chn, wpM_cut, wpM_cutF, wpM_ono, wpM_osm, wpM_revT, wpM_lfE, wS_for, tgN, List.getElem?_cons_zero, List.getElem?_cons_succ, List.set_cons_zero, List.set_cons_succ, List.map_cons, List.map_nil, List.length_cons, List.length_nil, List.replicate_succ, List.replicate_zero, Nat.reduceAdd, Nat.reduceSub, List.cons_append, List.nil_append, le_sz (n := 2) rfl]
          rw [es', scope_pure rfl, wpM_ok, trunc_self]; exact ⟨rfl, rfl⟩
      · rintro e S' ⟨e3, e4, rfl, rfl, es'⟩
        refine ⟨okSrc_nil, ?_⟩
        rw [enL_length, Nat.zero_add, List.drop_length] at es'
        rw [es']
        simp only [mkR_eq, wS_augS, wpM_dcN, wpM_rg1, wpM_rg2, wpM_enumA, wpM_iof, wpM_lfS, wS_rai, wS_try, wpM_catF, wpM_revA, wpM_newD, wpM_itemE, wpM_itemT, wpM_hasE, wpM_get1, wpM_get2, wS_putE, wS_putT, and_self, if_true, if_false, Bool.false_eq_true, reduceIte, wS_setS, wS_seq, wS_if, wS_asg, wS_exS, wS_retS, wS_nxS, wS_nx, wS_ret, wpM_op2, wpM_op1, wpM_asT, wpM_trt, wpM_notT, wpM_andT, wpM_orT, wpM_andV, wpM_notE, wpM_ifE, wpM_lnil, wpM_lcons, wpM_tupE, wpM_lstF, wpM_frz, wpM_new, wpM_cal, wpM_calB, wpM_calF, wpM_isiE, wpM_vr, wpM_ct, wpM_meth, wpM_chn, wpM_cut, wpM_cutF, wpM_ono, wpM_osm, wpM_revT, wpM_lfE, wS_for, tgN, List.getElem?_cons_zero, List.getElem?_cons_succ, List.set_cons_zero, List.set_cons_succ, List.map_cons, List.map_nil, List.length_cons, List.length_nil, List.replicate_succ, List.replicate_zero, Nat.reduceAdd, Nat.reduceSub, List.cons_append, List.nil_append, scanR, fltD]
        rw [scope_pure rfl, wpM_ok, trunc_self]; exact ⟨rfl, rfl⟩
    · have hF : rowF (tabB L es) (.tup ds) = some (-1, "limit") := if_neg h6
      simp only [decide_eq_true (show (600 : Int) < (ds.length : Int) by omega), mkR_eq, wS_augS, wpM_dcN, wpM_rg1, wpM_rg2, wpM_enumA, wpM_iof, wpM_lfS, wS_rai, wS_try, wpM_catF, wpM_revA, wpM_newD, wpM_itemE, wpM_itemT, wpM_hasE, wpM_get1, wpM_get2, wS_putE, wS_putT, and_self, if_true, if_false, Bool.false_eq_true, reduceIte, wS_setS, wS_seq, wS_if, wS_asg, wS_exS, wS_retS, wS_nxS, wS_nx, wS_ret, wpM_op2, wpM_op1, wpM_asT, wpM_trt, wpM_notT, wpM_andT, wpM_orT, wpM_andV, wpM_notE, wpM_ifE, wpM_lnil, wpM_lcons, wpM_tupE, wpM_lstF, wpM_frz, wpM_new, wpM_cal, wpM_calB, wpM_calF, wpM_isiE, wpM_vr, wpM_ct, wpM_meth, wpM_chn, wpM_cut, wpM_cutF, wpM_ono, wpM_osm, wpM_revT, wpM_lfE, wS_for, tgN, List.getElem?_cons_zero, List.getElem?_cons_succ, List.set_cons_zero, List.set_cons_succ, List.map_cons, List.map_nil, List.length_cons, List.length_nil, List.replicate_succ, List.replicate_zero, Nat.reduceAdd, Nat.reduceSub, List.cons_append, List.nil_append, neg_int, le_sz (n := 2) rfl, hF, fltD]
      rw [scope_pure rfl, wpM_ok, trunc_same]; exact ⟨rfl, rfl⟩
  · simp only [h, tru, mkR_eq, wS_augS, wpM_dcN, wpM_rg1, wpM_rg2, wpM_enumA, wpM_iof, wpM_lfS, wS_rai, wS_try, wpM_catF, wpM_revA, wpM_newD, wpM_itemE, wpM_itemT, wpM_hasE, wpM_get1, wpM_get2, wS_putE, wS_putT, and_self, if_true, if_false, Bool.false_eq_true, reduceIte, wS_setS, wS_seq, wS_if, wS_asg, wS_exS, wS_retS, wS_nxS, wS_nx, wS_ret, wpM_op2, wpM_op1, wpM_asT, wpM_trt, wpM_notT, wpM_andT, wpM_orT, wpM_andV, wpM_notE, wpM_ifE, wpM_lnil, wpM_lcons, wpM_tupE, wpM_lstF, wpM_frz, wpM_new, wpM_cal, wpM_calB, wpM_calF, wpM_isiE, wpM_vr, wpM_ct, wpM_meth, wpM_chn, wpM_cut, wpM_cutF, wpM_ono, wpM_osm, wpM_revT, wpM_lfE, wS_for, tgN, List.getElem?_cons_zero, List.getElem?_cons_succ, List.set_cons_zero, List.set_cons_succ, List.map_cons, List.map_nil, List.length_cons, List.length_nil, List.replicate_succ, List.replicate_zero, Nat.reduceAdd, Nat.reduceSub, List.cons_append, List.nil_append, Bool.not_false, neg_int, le_sz (n := 2) rfl, rowF_n h, fltD]
    rw [scope_pure rfl, wpM_ok, trunc_same]; exact ⟨rfl, rfl⟩
theorem row_due_eq (hS : S[n]? = some (some (.dT t))) (hd : fd d = true) (hl : ∀ ds, d = .tup ds → ds.length ≤ 100000) : M__law_row_due [.ref n, d] S = .ok (dueD (lenT d) (rowF t d)) S := by
  refine eq_of_wp ?_
  unfold M__law_row_due
  refine wpM_fn ?_
  unfold m__law_row_due
  simp only [mkR_eq, wS_augS, wpM_dcN, wpM_rg1, wpM_rg2, wpM_enumA, wpM_iof, wpM_lfS, wS_rai, wS_try, wpM_catF, wpM_revA, wpM_newD, wpM_itemE, wpM_itemT, wpM_hasE, wpM_get1, wpM_get2, wS_putE, wS_putT, and_self, if_true, if_false, Bool.false_eq_true, reduceIte, wS_setS, wS_seq, wS_if, wS_asg, wS_exS, wS_retS, wS_nxS, wS_nx, wS_ret, wpM_op2, wpM_op1, wpM_asT, wpM_trt, wpM_notT, wpM_andT, wpM_orT, wpM_andV, wpM_notE, wpM_ifE, wpM_lnil, wpM_lcons, wpM_tupE, wpM_lstF, wpM_frz, wpM_new, wpM_cal, wpM_calB, wpM_calF, wpM_isiE, wpM_vr, wpM_ct, wpM_meth, wpM_chn, wpM_cut, wpM_cutF, wpM_ono, wpM_osm, wpM_revT, wpM_lfE, wS_for, tgN, List.getElem?_cons_zero, List.getElem?_cons_succ, List.set_cons_zero, List.set_cons_succ, List.map_cons, List.map_nil, List.length_cons, List.length_nil, List.replicate_succ, List.replicate_zero, Nat.reduceAdd, Nat.reduceSub, List.cons_append, List.nil_append, isiT (fd_pure hd)]
  rcases Bool.eq_false_or_eq_true (isT d) with h | h
  · obtain ⟨ds, rfl⟩ := isT_eq h
    have hlen := hl ds rfl
    have hds : fdL ds = true := hd
    simp only [isT, tru, mkR_eq, wS_augS, wpM_dcN, wpM_rg1, wpM_rg2, wpM_enumA, wpM_iof, wpM_lfS, wS_rai, wS_try, wpM_catF, wpM_revA, wpM_newD, wpM_itemE, wpM_itemT, wpM_hasE, wpM_get1, wpM_get2, wS_putE, wS_putT, and_self, if_true, if_false, Bool.false_eq_true, reduceIte, wS_setS, wS_seq, wS_if, wS_asg, wS_exS, wS_retS, wS_nxS, wS_nx, wS_ret, wpM_op2, wpM_op1, wpM_asT, wpM_trt, wpM_notT, wpM_andT, wpM_orT, wpM_andV, wpM_notE, wpM_ifE, wpM_lnil, wpM_lcons, wpM_tupE, wpM_lstF, wpM_frz, wpM_new, wpM_cal, wpM_calB, wpM_calF, wpM_isiE, wpM_vr, wpM_ct, wpM_meth, wpM_chn, wpM_cut, wpM_cutF, wpM_ono, wpM_osm, wpM_revT, wpM_lfE, wS_for, tgN, List.getElem?_cons_zero, List.getElem?_cons_succ, List.set_cons_zero, List.set_cons_succ, List.map_cons, List.map_nil, List.length_cons, List.length_nil, List.replicate_succ, List.replicate_zero, Nat.reduceAdd, Nat.reduceSub, List.cons_append, List.nil_append, Bool.not_true, len_tup, cmp_int]
    by_cases h6 : ds.length ≤ 600
    · have hF : rowF t (.tup ds) = scanR t 0 ds := if_pos h6
      simp only [decide_eq_false (show ¬ (600 : Int) < (ds.length : Int) by omega), mkR_eq, wS_augS, wpM_dcN, wpM_rg1, wpM_rg2, wpM_enumA, wpM_iof, wpM_lfS, wS_rai, wS_try, wpM_catF, wpM_revA, wpM_newD, wpM_itemE, wpM_itemT, wpM_hasE, wpM_get1, wpM_get2, wS_putE, wS_putT, and_self, if_true, if_false, Bool.false_eq_true, reduceIte, wS_setS, wS_seq, wS_if, wS_asg, wS_exS, wS_retS, wS_nxS, wS_nx, wS_ret, wpM_op2, wpM_op1, wpM_asT, wpM_trt, wpM_notT, wpM_andT, wpM_orT, wpM_andV, wpM_notE, wpM_ifE, wpM_lnil, wpM_lcons, wpM_tupE, wpM_lstF, wpM_frz, wpM_new, wpM_cal, wpM_calB, wpM_calF, wpM_isiE, wpM_vr, wpM_ct, wpM_meth, wpM_chn, wpM_cut, wpM_cutF, wpM_ono, wpM_osm, wpM_revT, wpM_lfE, wS_for, tgN, List.getElem?_cons_zero, List.getElem?_cons_succ, List.set_cons_zero, List.set_cons_succ, List.map_cons, List.map_nil, List.length_cons, List.length_nil, List.replicate_succ, List.replicate_zero, Nat.reduceAdd, Nat.reduceSub, List.cons_append, List.nil_append, len_tup, hF]
      refine ⟨rgOk_nat (by omega), ?_⟩
      refine wS_loop (fun i e S' => ∃ e2 e3, e = [some (.ref n), some (.tup ds), e2, e3] ∧ S' = S ∧ scanR t 0 ds = scanR t i (ds.drop i)) _ 0 _ _ ⟨none, none, rfl, rfl, rfl⟩ ?_ ?_
      · rintro j x e S' hj ⟨e2, e3, rfl, rfl, es'⟩
        obtain ⟨rfl, hjn⟩ := rgL_get hj
        rw [Nat.zero_add] at es' ⊢
        have hy : ds[j]? = some ds[j] := List.getElem?_eq_getElem hjn
        generalize ds[j] = y at hy
        rw [drop_at hy] at es'
        simp only [scanR] at es'
        have hyf := fdL_mem.mp hds y (List.mem_of_getElem? hy)
        refine ⟨okSrc_nil, _, rfl, ?_⟩
        simp only [mkR_eq, wS_augS, wpM_dcN, wpM_rg1, wpM_rg2, wpM_enumA, wpM_iof, wpM_lfS, wS_rai, wS_try, wpM_catF, wpM_revA, wpM_newD, wpM_itemE, wpM_itemT, wpM_hasE, wpM_get1, wpM_get2, wS_putE, wS_putT, and_self, if_true, if_false, Bool.false_eq_true, reduceIte, wS_setS, wS_seq, wS_if, wS_asg, wS_exS, wS_retS, wS_nxS, wS_nx, wS_ret, wpM_op2, wpM_op1, wpM_asT, wpM_trt, wpM_notT, wpM_andT, wpM_orT, wpM_andV, wpM_notE, wpM_ifE, wpM_lnil, wpM_lcons, wpM_tupE, wpM_lstF, wpM_frz, wpM_new, wpM_cal, wpM_calB, wpM_calF, wpM_isiE, wpM_vr, wpM_ct, wpM_meth, wpM_chn, wpM_cut, wpM_cutF, wpM_ono, wpM_osm, wpM_revT, wpM_lfE, wS_for, tgN, List.getElem?_cons_zero, List.getElem?_cons_succ, List.set_cons_zero, List.set_cons_succ, List.map_cons, List.map_nil, List.length_cons, List.length_nil, List.replicate_succ, List.replicate_zero, Nat.reduceAdd, Nat.reduceSub, List.cons_append, List.nil_append, ixT hy, isiT (fd_pure hyf)]
        rcases shapeT y with h | ⟨as, rfl, h⟩ | ⟨a, b, rfl⟩
        · rw [if_neg (by rw [opB_n h]; exact Bool.false_ne_true)] at es'
          simp only [h, tru, mkR_eq, wS_augS, wpM_dcN, wpM_rg1, wpM_rg2, wpM_enumA, wpM_iof, wpM_lfS, wS_rai, wS_try, wpM_catF, wpM_revA, wpM_newD, wpM_itemE, wpM_itemT, wpM_hasE, wpM_get1, wpM_get2, wS_putE, wS_putT, and_self, if_true, if_false, Bool.false_eq_true, reduceIte, wS_setS, wS_seq, wS_if, wS_asg, wS_exS, wS_retS, wS_nxS, wS_nx, wS_ret, wpM_op2, wpM_op1, wpM_asT, wpM_trt, wpM_notT, wpM_andT, wpM_orT, wpM_andV, wpM_notE, wpM_ifE, wpM_lnil, wpM_lcons, wpM_tupE, wpM_lstF, wpM_frz, wpM_new, wpM_cal, wpM_calB, wpM_calF, wpM_isiE, wpM_vr, wpM_ct, wpM_meth, wpM_chn, wpM_cut, wpM_cutF, wpM_ono, wpM_osm, wpM_revT, wpM_lfE, wS_for, tgN, List.getElem?_cons_zero, List.getElem?_cons_succ, List.set_cons_zero, List.set_cons_succ, List.map_cons, List.map_nil, List.length_cons, List.length_nil, List.replicate_succ, List.replicate_zero, Nat.reduceAdd, Nat.reduceSub, List.cons_append, List.nil_append, Bool.not_false, le_sz (n := 2) rfl]
          rw [es', scope_pure rfl, wpM_ok, trunc_same]; exact ⟨rfl, rfl⟩
        · rw [if_neg (by rw [opB_l h]; exact Bool.false_ne_true)] at es'
          simp only [isT, tru, mkR_eq, wS_augS, wpM_dcN, wpM_rg1, wpM_rg2, wpM_enumA, wpM_iof, wpM_lfS, wS_rai, wS_try, wpM_catF, wpM_revA, wpM_newD, wpM_itemE, wpM_itemT, wpM_hasE, wpM_get1, wpM_get2, wS_putE, wS_putT, and_self, if_true, if_false, Bool.false_eq_true, reduceIte, wS_setS, wS_seq, wS_if, wS_asg, wS_exS, wS_retS, wS_nxS, wS_nx, wS_ret, wpM_op2, wpM_op1, wpM_asT, wpM_trt, wpM_notT, wpM_andT, wpM_orT, wpM_andV, wpM_notE, wpM_ifE, wpM_lnil, wpM_lcons, wpM_tupE, wpM_lstF, wpM_frz, wpM_new, wpM_cal, wpM_calB, wpM_calF, wpM_isiE, wpM_vr, wpM_ct, wpM_meth, wpM_chn, wpM_cut, wpM_cutF, wpM_ono, wpM_osm, wpM_revT, wpM_lfE, wS_for, tgN, List.getElem?_cons_zero, List.getElem?_cons_succ, List.set_cons_zero, List.set_cons_succ, List.map_cons, List.map_nil, List.length_cons, List.length_nil, List.replicate_succ, List.replicate_zero, Nat.reduceAdd, Nat.reduceSub, List.cons_append, List.nil_append, Bool.not_true, len_tup, ne_int, show ((as.length : Int) == 2) = false from by simp; omega, Bool.not_false, le_sz (n := 2) rfl]
          rw [es', scope_pure rfl, wpM_ok, trunc_same]; exact ⟨rfl, rfl⟩
        · have ha : a.pure = true := mem_pure (ds := [a, b]) (fd_pure hyf) a (by simp)
          have hb : b.pure = true := mem_pure (ds := [a, b]) (fd_pure hyf) b (by simp)
          simp only [isT, tru, mkR_eq, wS_augS, wpM_dcN, wpM_rg1, wpM_rg2, wpM_enumA, wpM_iof, wpM_lfS, wS_rai, wS_try, wpM_catF, wpM_revA, wpM_newD, wpM_itemE, wpM_itemT, wpM_hasE, wpM_get1, wpM_get2, wS_putE, wS_putT, and_self, if_true, if_false, Bool.false_eq_true, reduceIte, wS_setS, wS_seq, wS_if, wS_asg, wS_exS, wS_retS, wS_nxS, wS_nx, wS_ret, wpM_op2, wpM_op1, wpM_asT, wpM_trt, wpM_notT, wpM_andT, wpM_orT, wpM_andV, wpM_notE, wpM_ifE, wpM_lnil, wpM_lcons, wpM_tupE, wpM_lstF, wpM_frz, wpM_new, wpM_cal, wpM_calB, wpM_calF, wpM_isiE, wpM_vr, wpM_ct, wpM_meth, wpM_chn, wpM_cut, wpM_cutF, wpM_ono, wpM_osm, wpM_revT, wpM_lfE, wS_for, tgN, List.getElem?_cons_zero, List.getElem?_cons_succ, List.set_cons_zero, List.set_cons_succ, List.map_cons, List.map_nil, List.length_cons, List.length_nil, List.replicate_succ, List.replicate_zero, Nat.reduceAdd, Nat.reduceSub, List.cons_append, List.nil_append, Bool.not_true, len_tup, ne_int, show (((2 : Nat) : Int) == 2) = true from rfl, ixT0, ixT1, isiS ha, isiS hb]
          rcases Bool.eq_false_or_eq_true (isS a) with h1 | h1
          · obtain ⟨y, rfl⟩ := isS_eq h1
            simp only [h1, tru, mkR_eq, wS_augS, wpM_dcN, wpM_rg1, wpM_rg2, wpM_enumA, wpM_iof, wpM_lfS, wS_rai, wS_try, wpM_catF, wpM_revA, wpM_newD, wpM_itemE, wpM_itemT, wpM_hasE, wpM_get1, wpM_get2, wS_putE, wS_putT, and_self, if_true, if_false, Bool.false_eq_true, reduceIte, wS_setS, wS_seq, wS_if, wS_asg, wS_exS, wS_retS, wS_nxS, wS_nx, wS_ret, wpM_op2, wpM_op1, wpM_asT, wpM_trt, wpM_notT, wpM_andT, wpM_orT, wpM_andV, wpM_notE, wpM_ifE, wpM_lnil, wpM_lcons, wpM_tupE, wpM_lstF, wpM_frz, wpM_new, wpM_cal, wpM_calB, wpM_calF, wpM_isiE, wpM_vr, wpM_ct, wpM_meth, wpM_chn, wpM_cut, wpM_cutF, wpM_ono, wpM_osm, wpM_revT, wpM_lfE, wS_for, tgN, List.getElem?_cons_zero, List.getElem?_cons_succ, List.set_cons_zero, List.set_cons_succ, List.map_cons, List.map_nil, List.length_cons, List.length_nil, List.replicate_succ, List.replicate_zero, Nat.reduceAdd, Nat.reduceSub, List.cons_append, List.nil_append, Bool.not_true]
            rcases Bool.eq_false_or_eq_true (isS b) with h2 | h2
            · obtain ⟨z, rfl⟩ := isS_eq h2
              simp only [h2, tru, mkR_eq, wS_augS, wpM_dcN, wpM_rg1, wpM_rg2, wpM_enumA, wpM_iof, wpM_lfS, wS_rai, wS_try, wpM_catF, wpM_revA, wpM_newD, wpM_itemE, wpM_itemT, wpM_hasE, wpM_get1, wpM_get2, wS_putE, wS_putT, and_self, if_true, if_false, Bool.false_eq_true, reduceIte, wS_setS, wS_seq, wS_if, wS_asg, wS_exS, wS_retS, wS_nxS, wS_nx, wS_ret, wpM_op2, wpM_op1, wpM_asT, wpM_trt, wpM_notT, wpM_andT, wpM_orT, wpM_andV, wpM_notE, wpM_ifE, wpM_lnil, wpM_lcons, wpM_tupE, wpM_lstF, wpM_frz, wpM_new, wpM_cal, wpM_calB, wpM_calF, wpM_isiE, wpM_vr, wpM_ct, wpM_meth, wpM_chn, wpM_cut, wpM_cutF, wpM_ono, wpM_osm, wpM_revT, wpM_lfE, wS_for, tgN, List.getElem?_cons_zero, List.getElem?_cons_succ, List.set_cons_zero, List.set_cons_succ, List.map_cons, List.map_nil, List.length_cons, List.length_nil, List.replicate_succ, List.replicate_zero, Nat.reduceAdd, Nat.reduceSub, List.cons_append, List.nil_append, Bool.not_true, hasT hS]
              have eb : opB t (.tup [.str y, .str z]) = (valD t [.inr y, .inr z]).isSome := rfl
              rw [eb] at es'
              rcases Bool.eq_false_or_eq_true (valD t [.inr y, .inr z]).isSome with c | c
              · rw [if_pos c] at es'
                simp only [c, bne_self_eq_false, mkR_eq, wS_augS, wpM_dcN, wpM_rg1, wpM_rg2, wpM_enumA, wpM_iof, wpM_lfS, wS_rai, wS_try, wpM_catF, wpM_revA, wpM_newD, wpM_itemE, wpM_itemT, wpM_hasE, wpM_get1, wpM_get2, wS_putE, wS_putT, and_self, if_true, if_false, Bool.false_eq_true, reduceIte, wS_setS, wS_seq, wS_if, wS_asg, wS_exS, wS_retS, wS_nxS, wS_nx, wS_ret, wpM_op2, wpM_op1, wpM_asT, wpM_trt, wpM_notT, wpM_andT, wpM_orT, wpM_andV, wpM_notE, wpM_ifE, wpM_lnil, wpM_lcons, wpM_tupE, wpM_lstF, wpM_frz, wpM_new, wpM_cal, wpM_calB, wpM_calF, wpM_isiE, wpM_vr, wpM_ct, wpM_meth, wpM_chn, wpM_cut, wpM_cutF, wpM_ono, wpM_osm, wpM_revT, wpM_lfE, wS_for, tgN, List.getElem?_cons_zero, List.getElem?_cons_succ, List.set_cons_zero, List.set_cons_succ, List.map_cons, List.map_nil, List.length_cons, List.length_nil, List.replicate_succ, List.replicate_zero, Nat.reduceAdd, Nat.reduceSub, List.cons_append, List.nil_append]
                exact ⟨_, _, rfl, by trivial, es'⟩
              · rw [if_neg (by rw [c]; exact Bool.false_ne_true)] at es'
                simp only [c, show (false != true) = true from rfl, mkR_eq, wS_augS, wpM_dcN, wpM_rg1, wpM_rg2, wpM_enumA, wpM_iof, wpM_lfS, wS_rai, wS_try, wpM_catF, wpM_revA, wpM_newD, wpM_itemE, wpM_itemT, wpM_hasE, wpM_get1, wpM_get2, wS_putE, wS_putT, and_self, if_true, if_false, Bool.false_eq_true, reduceIte, wS_setS, wS_seq, wS_if, wS_asg, wS_exS, wS_retS, wS_nxS, wS_nx, wS_ret, wpM_op2, wpM_op1, wpM_asT, wpM_trt, wpM_notT, wpM_andT, wpM_orT, wpM_andV, wpM_notE, wpM_ifE, wpM_lnil, wpM_lcons, wpM_tupE, wpM_lstF, wpM_frz, wpM_new, wpM_cal, wpM_calB, wpM_calF, wpM_isiE, wpM_vr, wpM_ct, wpM_meth, wpM_chn, wpM_cut, wpM_cutF, wpM_ono, wpM_osm, wpM_revT, wpM_lfE, wS_for, tgN, List.getElem?_cons_zero, List.getElem?_cons_succ, List.set_cons_zero, List.set_cons_succ, List.map_cons, List.map_nil, List.length_cons, List.length_nil, List.replicate_succ, List.replicate_zero, Nat.reduceAdd, Nat.reduceSub, List.cons_append, List.nil_append, le_sz (n := 2) rfl]
                rw [es', scope_pure rfl, wpM_ok, trunc_same]; exact ⟨rfl, rfl⟩
            · rw [if_neg (by rw [opB_s2 h2]; exact Bool.false_ne_true)] at es'
              simp only [h2, tru, mkR_eq, wS_augS, wpM_dcN, wpM_rg1, wpM_rg2, wpM_enumA, wpM_iof, wpM_lfS, wS_rai, wS_try, wpM_catF, wpM_revA, wpM_newD, wpM_itemE, wpM_itemT, wpM_hasE, wpM_get1, wpM_get2, wS_putE, wS_putT, and_self, if_true, if_false, Bool.false_eq_true, reduceIte, wS_setS, wS_seq, wS_if, wS_asg, wS_exS, wS_retS, wS_nxS, wS_nx, wS_ret, wpM_op2, wpM_op1, wpM_asT, wpM_trt, wpM_notT, wpM_andT, wpM_orT, wpM_andV, wpM_notE, wpM_ifE, wpM_lnil, wpM_lcons, wpM_tupE, wpM_lstF, wpM_frz, wpM_new, wpM_cal, wpM_calB, wpM_calF, wpM_isiE, wpM_vr, wpM_ct, wpM_meth, wpM_chn, wpM_cut, wpM_cutF, wpM_ono, wpM_osm, wpM_revT, wpM_lfE, wS_for, tgN, List.getElem?_cons_zero, List.getElem?_cons_succ, List.set_cons_zero, List.set_cons_succ, List.map_cons, List.map_nil, List.length_cons, List.length_nil, List.replicate_succ, List.replicate_zero, Nat.reduceAdd, Nat.reduceSub, List.cons_append, List.nil_append, Bool.not_false, le_sz (n := 2) rfl]
              rw [es', scope_pure rfl, wpM_ok, trunc_same]; exact ⟨rfl, rfl⟩
          · rw [if_neg (by rw [opB_s h1]; exact Bool.false_ne_true)] at es'
            simp only [h1, tru, mkR_eq, wS_augS, wpM_dcN, wpM_rg1, wpM_rg2, wpM_enumA, wpM_iof, wpM_lfS, wS_rai, wS_try, wpM_catF, wpM_revA, wpM_newD, wpM_itemE, wpM_itemT, wpM_hasE, wpM_get1, wpM_get2, wS_putE, wS_putT, and_self, if_true, if_false, Bool.false_eq_true, reduceIte, wS_setS, wS_seq, wS_if, wS_asg, wS_exS, wS_retS, wS_nxS, wS_nx, wS_ret, wpM_op2, wpM_op1, wpM_asT, wpM_trt, wpM_notT, wpM_andT, wpM_orT, wpM_andV, wpM_notE, wpM_ifE, wpM_lnil, wpM_lcons, wpM_tupE, wpM_lstF, wpM_frz, wpM_new, wpM_cal, wpM_calB, wpM_calF, wpM_isiE, wpM_vr, wpM_ct, wpM_meth, wpM_chn, wpM_cut, wpM_cutF, wpM_ono, wpM_osm, wpM_revT, wpM_lfE, wS_for, tgN, List.getElem?_cons_zero, List.getElem?_cons_succ, List.set_cons_zero, List.set_cons_succ, List.map_cons, List.map_nil, List.length_cons, List.length_nil, List.replicate_succ, List.replicate_zero, Nat.reduceAdd, Nat.reduceSub, List.cons_append, List.nil_append, Bool.not_false, le_sz (n := 2) rfl]
            rw [es', scope_pure rfl, wpM_ok, trunc_same]; exact ⟨rfl, rfl⟩
      · rintro e S' ⟨e2, e3, rfl, rfl, es'⟩
        refine ⟨okSrc_nil, ?_⟩
        rw [rgL_len, Nat.zero_add, List.drop_length] at es'
        rw [es']
        simp only [mkR_eq, wS_augS, wpM_dcN, wpM_rg1, wpM_rg2, wpM_enumA, wpM_iof, wpM_lfS, wS_rai, wS_try, wpM_catF, wpM_revA, wpM_newD, wpM_itemE, wpM_itemT, wpM_hasE, wpM_get1, wpM_get2, wS_putE, wS_putT, and_self, if_true, if_false, Bool.false_eq_true, reduceIte, wS_setS, wS_seq, wS_if, wS_asg, wS_exS, wS_retS, wS_nxS, wS_nx, wS_ret, wpM_op2, wpM_op1, wpM_asT, wpM_trt, wpM_notT, wpM_andT, wpM_orT, wpM_andV, wpM_notE, wpM_ifE, wpM_lnil, wpM_lcons, wpM_tupE, wpM_lstF, wpM_frz, wpM_new, wpM_cal, wpM_calB, wpM_calF, wpM_isiE, wpM_vr, wpM_ct, wpM_meth, wpM_chn, wpM_cut, wpM_cutF, wpM_ono, wpM_osm, wpM_revT, wpM_lfE, wS_for, tgN, List.getElem?_cons_zero, List.getElem?_cons_succ, List.set_cons_zero, List.set_cons_succ, List.map_cons, List.map_nil, List.length_cons, List.length_nil, List.replicate_succ, List.replicate_zero, Nat.reduceAdd, Nat.reduceSub, List.cons_append, List.nil_append, len_tup, scanR, dueD, lenT]
        rw [scope_pure rfl, wpM_ok, trunc_same]; exact ⟨rfl, rfl⟩
    · have hF : rowF t (.tup ds) = some (-1, "limit") := if_neg h6
      simp only [decide_eq_true (show (600 : Int) < (ds.length : Int) by omega), mkR_eq, wS_augS, wpM_dcN, wpM_rg1, wpM_rg2, wpM_enumA, wpM_iof, wpM_lfS, wS_rai, wS_try, wpM_catF, wpM_revA, wpM_newD, wpM_itemE, wpM_itemT, wpM_hasE, wpM_get1, wpM_get2, wS_putE, wS_putT, and_self, if_true, if_false, Bool.false_eq_true, reduceIte, wS_setS, wS_seq, wS_if, wS_asg, wS_exS, wS_retS, wS_nxS, wS_nx, wS_ret, wpM_op2, wpM_op1, wpM_asT, wpM_trt, wpM_notT, wpM_andT, wpM_orT, wpM_andV, wpM_notE, wpM_ifE, wpM_lnil, wpM_lcons, wpM_tupE, wpM_lstF, wpM_frz, wpM_new, wpM_cal, wpM_calB, wpM_calF, wpM_isiE, wpM_vr, wpM_ct, wpM_meth, wpM_chn, wpM_cut, wpM_cutF, wpM_ono, wpM_osm, wpM_revT, wpM_lfE, wS_for, tgN, List.getElem?_cons_zero, List.getElem?_cons_succ, List.set_cons_zero, List.set_cons_succ, List.map_cons, List.map_nil, List.length_cons, List.length_nil, List.replicate_succ, List.replicate_zero, Nat.reduceAdd, Nat.reduceSub, List.cons_append, List.nil_append, neg_int, le_sz (n := 2) rfl, hF, dueD]
      rw [scope_pure rfl, wpM_ok, trunc_same]; exact ⟨rfl, rfl⟩
  · simp only [h, tru, mkR_eq, wS_augS, wpM_dcN, wpM_rg1, wpM_rg2, wpM_enumA, wpM_iof, wpM_lfS, wS_rai, wS_try, wpM_catF, wpM_revA, wpM_newD, wpM_itemE, wpM_itemT, wpM_hasE, wpM_get1, wpM_get2, wS_putE, wS_putT, and_self, if_true, if_false, Bool.false_eq_true, reduceIte, wS_setS, wS_seq, wS_if, wS_asg, wS_exS, wS_retS, wS_nxS, wS_nx, wS_ret, wpM_op2, wpM_op1, wpM_asT, wpM_trt, wpM_notT, wpM_andT, wpM_orT, wpM_andV, wpM_notE, wpM_ifE, wpM_lnil, wpM_lcons, wpM_tupE, wpM_lstF, wpM_frz, wpM_new, wpM_cal, wpM_calB, wpM_calF, wpM_isiE, wpM_vr, wpM_ct, wpM_meth, wpM_chn, wpM_cut, wpM_cutF, wpM_ono, wpM_osm, wpM_revT, wpM_lfE, wS_for, tgN, List.getElem?_cons_zero, List.getElem?_cons_succ, List.set_cons_zero, List.set_cons_succ, List.map_cons, List.map_nil, List.length_cons, List.length_nil, List.replicate_succ, List.replicate_zero, Nat.reduceAdd, Nat.reduceSub, List.cons_append, List.nil_append, Bool.not_false, neg_int, le_sz (n := 2) rfl, rowF_n h, dueD]
    rw [scope_pure rfl, wpM_ok, trunc_same]; exact ⟨rfl, rfl⟩
end
end Z

end
section
set_option Elab.async false
set_option linter.all false
set_option maxRecDepth 100000
set_option maxHeartbeats 4000000
set_option autoImplicit false
namespace Z
open PySem PySem.Spec L2 Y PySem.W
section
variable {S : Sto} {Q : D → Sto → Prop} {E : Str → List (Str × D) → Sto → Prop} {d : D} {L : Str} {t : Tab} {n : Nat}
def errA (c : Str) (n : Int) (w : String) (S : Sto) : Res D := .exc c [("at", .int n), ("word", .str (Str.ofString w))] S
theorem eq_of_wpX {r : Res D} {c : Str} {fs : List (Str × D)} {S' : Sto} (h : wpM r (fun _ _ => False) (fun c1 f1 S1 => c1 = c ∧ f1 = fs ∧ S1 = S')) : r = .exc c fs S' := by
  cases r with
  | ok x S1 => exact h.elim
  | exc c fs S1 => obtain ⟨rfl, rfl, rfl⟩ := h; rfl
  | err => exact h.elim
theorem isEr {l : List (Str × Bool)} {c : Str} {fs : List (Str × D)} {env : En} {b : Bool} (h : l.lookup c = some b) {Q : D → Sto → Prop} : wpM (isErr l c fs env S) Q E = Q (.bl b) S := by
  unfold isErr
  rw [h]; rfl
theorem fld_at {cs : List Str} {c : Str} {n : Int} {w : D} {env : En} (h : c ∈ cs) {Q : D → Sto → Prop} : wpM (fldE cs "at" c [("at", .int n), ("word", w)] env S) Q E = Q (.int n) S := by
  unfold fldE
  rw [if_pos h]; rfl
theorem fld_word {cs : List Str} {c : Str} {n w : D} {env : En} (h : c ∈ cs) {Q : D → Sto → Prop} : wpM (fldE cs "word" c [("at", n), ("word", w)] env S) Q E = Q w S := by
  unfold fldE
  rw [if_pos h]
  rfl
theorem rowF_t (h : rowF t d = none) : ∃ ds, d = .tup ds := by
  cases d <;> first | exact ⟨_, rfl⟩ | cases h
theorem ck_row {es : List D} (hB : BkOk L es) (hd : fd d = true) (hl : ∀ ds, d = .tup ds → ds.length ≤ 100000) : M_check_row [.tup [.str L, .tup es], d] S = match rowF (tabB L es) d with | none => .ok (.int (lenT d)) S | some (n, w) => errA "BadRow" n w S := by
  cases e : rowF (tabB L es) d with
  | none =>
    obtain ⟨ds, rfl⟩ := rowF_t e
    refine eq_of_wp ?_
    unfold M_check_row
    refine wpM_fn ?_
    unfold m_check_row
    simp only [mkR_eq, wS_augS, wpM_dcN, wpM_rg1, wpM_rg2, wpM_enumA, wpM_iof, wpM_lfS, wS_rai, wS_try, wpM_catF, wpM_revA, wpM_newD, wpM_itemE, wpM_itemT, wpM_hasE, wpM_get1, wpM_get2, wS_putE, wS_putT, and_self, if_true, if_false, Bool.false_eq_true, reduceIte, wS_setS, wS_seq, wS_if, wS_asg, wS_exS, wS_retS, wS_nxS, wS_nx, wS_ret, wpM_op2, wpM_op1, wpM_asT, wpM_trt, wpM_notT, wpM_andT, wpM_orT, wpM_andV, wpM_notE, wpM_ifE, wpM_lnil, wpM_lcons, wpM_tupE, wpM_lstF, wpM_frz, wpM_new, wpM_cal, wpM_calB, wpM_calF, wpM_isiE, wpM_vr, wpM_ct, wpM_meth, wpM_chn, wpM_cut, wpM_cutF, wpM_ono, wpM_osm, wpM_revT, wpM_lfE, wS_for, tgN, List.getElem?_cons_zero, List.getElem?_cons_succ, List.set_cons_zero, List.set_cons_succ, List.map_cons, List.map_nil, List.length_cons, List.length_nil, List.replicate_succ, List.replicate_zero, Nat.reduceAdd, Nat.reduceSub, List.cons_append, List.nil_append, row_fault_eq hB hd hl, wpM_ok, e, fltD, notN_non, D.isN, Bool.not_true, len_tup]
    rw [scope_int, wpM_ok, trunc_same]; exact ⟨rfl, rfl⟩
  | some p =>
    obtain ⟨n, w⟩ := p
    refine eq_of_wpX ?_
    unfold M_check_row
    refine wpM_fn ?_
    unfold m_check_row
    simp only [mkR_eq, wS_augS, wpM_dcN, wpM_rg1, wpM_rg2, wpM_enumA, wpM_iof, wpM_lfS, wS_rai, wS_try, wpM_catF, wpM_revA, wpM_newD, wpM_itemE, wpM_itemT, wpM_hasE, wpM_get1, wpM_get2, wS_putE, wS_putT, and_self, if_true, if_false, Bool.false_eq_true, reduceIte, wS_setS, wS_seq, wS_if, wS_asg, wS_exS, wS_retS, wS_nxS, wS_nx, wS_ret, wpM_op2, wpM_op1, wpM_asT, wpM_trt, wpM_notT, wpM_andT, wpM_orT, wpM_andV, wpM_notE, wpM_ifE, wpM_lnil, wpM_lcons, wpM_tupE, wpM_lstF, wpM_frz, wpM_new, wpM_cal, wpM_calB, wpM_calF, wpM_isiE, wpM_vr, wpM_ct, wpM_meth, wpM_chn, wpM_cut, wpM_cutF, wpM_ono, wpM_osm, wpM_revT, wpM_lfE, wS_for, tgN, List.getElem?_cons_zero, List.getElem?_cons_succ, List.set_cons_zero, List.set_cons_succ, List.map_cons, List.map_nil, List.length_cons, List.length_nil, List.replicate_succ, List.replicate_zero, Nat.reduceAdd, Nat.reduceSub, List.cons_append, List.nil_append, row_fault_eq hB hd hl, wpM_ok, e, fltD, notN_non, D.isN, Bool.not_false, ixT0, ixT1, List.zip_cons_cons, List.zip_nil_right]
    rw [scope_exc rfl, trunc_same]; exact ⟨rfl, rfl, rfl⟩
theorem yes1 : yes_MendError "BadRow" = some true := by decide
theorem told {es : List D} (hB : BkOk L es) (hd : fd d = true) (hl : ∀ ds, d = .tup ds → ds.length ≤ 100000) : M__law_check_told [.tup [.str L, .tup es], d] S = .ok (dueD (lenT d) (rowF (tabB L es) d)) S := by
  refine eq_of_wp ?_
  unfold M__law_check_told
  refine wpM_fn ?_
  unfold m__law_check_told
  simp only [mkR_eq, wS_augS, wpM_dcN, wpM_rg1, wpM_rg2, wpM_enumA, wpM_iof, wpM_lfS, wS_rai, wS_try, wpM_catF, wpM_revA, wpM_newD, wpM_itemE, wpM_itemT, wpM_hasE, wpM_get1, wpM_get2, wS_putE, wS_putT, and_self, if_true, if_false, Bool.false_eq_true, reduceIte, wS_setS, wS_seq, wS_if, wS_asg, wS_exS, wS_retS, wS_nxS, wS_nx, wS_ret, wpM_op2, wpM_op1, wpM_asT, wpM_trt, wpM_notT, wpM_andT, wpM_orT, wpM_andV, wpM_notE, wpM_ifE, wpM_lnil, wpM_lcons, wpM_tupE, wpM_lstF, wpM_frz, wpM_new, wpM_cal, wpM_calB, wpM_calF, wpM_isiE, wpM_vr, wpM_ct, wpM_meth, wpM_chn, wpM_cut, wpM_cutF, wpM_ono, wpM_osm, wpM_revT, wpM_lfE, wS_for, tgN, List.getElem?_cons_zero, List.getElem?_cons_succ, List.set_cons_zero, List.set_cons_succ, List.map_cons, List.map_nil, List.length_cons, List.length_nil, List.replicate_succ, List.replicate_zero, Nat.reduceAdd, Nat.reduceSub, List.cons_append, List.nil_append, ck_row hB hd hl]
  cases e : rowF (tabB L es) d with
  | none =>
    simp only [mkR_eq, wS_augS, wpM_dcN, wpM_rg1, wpM_rg2, wpM_enumA, wpM_iof, wpM_lfS, wS_rai, wS_try, wpM_catF, wpM_revA, wpM_newD, wpM_itemE, wpM_itemT, wpM_hasE, wpM_get1, wpM_get2, wS_putE, wS_putT, and_self, if_true, if_false, Bool.false_eq_true, reduceIte, wS_setS, wS_seq, wS_if, wS_asg, wS_exS, wS_retS, wS_nxS, wS_nx, wS_ret, wpM_op2, wpM_op1, wpM_asT, wpM_trt, wpM_notT, wpM_andT, wpM_orT, wpM_andV, wpM_notE, wpM_ifE, wpM_lnil, wpM_lcons, wpM_tupE, wpM_lstF, wpM_frz, wpM_new, wpM_cal, wpM_calB, wpM_calF, wpM_isiE, wpM_vr, wpM_ct, wpM_meth, wpM_chn, wpM_cut, wpM_cutF, wpM_ono, wpM_osm, wpM_revT, wpM_lfE, wS_for, tgN, List.getElem?_cons_zero, List.getElem?_cons_succ, List.set_cons_zero, List.set_cons_succ, List.map_cons, List.map_nil, List.length_cons, List.length_nil, List.replicate_succ, List.replicate_zero, Nat.reduceAdd, Nat.reduceSub, List.cons_append, List.nil_append, wpM_ok, dueD]
    rw [scope_int, wpM_ok, trunc_same]; exact ⟨rfl, rfl⟩
  | some p =>
    obtain ⟨n, w⟩ := p
    simp only [errA, wpM_exc, yes1, mkR_eq, wS_augS, wpM_dcN, wpM_rg1, wpM_rg2, wpM_enumA, wpM_iof, wpM_lfS, wS_rai, wS_try, wpM_catF, wpM_revA, wpM_newD, wpM_itemE, wpM_itemT, wpM_hasE, wpM_get1, wpM_get2, wS_putE, wS_putT, and_self, if_true, if_false, Bool.false_eq_true, reduceIte, wS_setS, wS_seq, wS_if, wS_asg, wS_exS, wS_retS, wS_nxS, wS_nx, wS_ret, wpM_op2, wpM_op1, wpM_asT, wpM_trt, wpM_notT, wpM_andT, wpM_orT, wpM_andV, wpM_notE, wpM_ifE, wpM_lnil, wpM_lcons, wpM_tupE, wpM_lstF, wpM_frz, wpM_new, wpM_cal, wpM_calB, wpM_calF, wpM_isiE, wpM_vr, wpM_ct, wpM_meth, wpM_chn, wpM_cut, wpM_cutF, wpM_ono, wpM_osm, wpM_revT, wpM_lfE, wS_for, tgN, List.getElem?_cons_zero, List.getElem?_cons_succ, List.set_cons_zero, List.set_cons_succ, List.map_cons, List.map_nil, List.length_cons, List.length_nil, List.replicate_succ, List.replicate_zero, Nat.reduceAdd, Nat.reduceSub, List.cons_append, List.nil_append, Nat.reduceLT, isEr (l := is_MendError_BadRow) (c := "BadRow") (b := true) (by decide), tru, fld_at (cs := ["BadRow"]) (c := "BadRow") (by decide), fld_word (cs := ["BadRow"]) (c := "BadRow") (by decide), le_sz (n := 2) rfl, dueD]
    rw [scope_pure rfl, wpM_ok, trunc_same]; exact ⟨rfl, rfl⟩
/-! a thing is the same as itself -/
def itOk (x : D) : Prop := (∃ z, x = .str z ∧ PyData.strOk z = true) ∨ ∃ i, x = .int i
def smOk (x : D) : Prop := itOk x ∨ ∃ ds, x = .tup ds ∧ (∀ y ∈ ds, itOk y) ∧ ds.length ≤ 1000
theorem itOk.pure {x : D} (h : itOk x) : x.pure = true := by
  rcases h with ⟨z, rfl, _⟩ | ⟨i, rfl⟩ <;> rfl
theorem same_self (h : smOk d) : M__law_same [d, d] S = .ok (.bl true) S := by
  refine eq_of_wp ?_
  unfold M__law_same
  refine wpM_fn ?_
  unfold m__law_same
  rcases h with (⟨z, rfl, hz⟩ | ⟨i, rfl⟩) | ⟨ds, rfl, hds, hl⟩
  · have hp : (D.str z).pure = true := rfl
    simp only [mkR_eq, wS_augS, wpM_dcN, wpM_rg1, wpM_rg2, wpM_enumA, wpM_iof, wpM_lfS, wS_rai, wS_try, wpM_catF, wpM_revA, wpM_newD, wpM_itemE, wpM_itemT, wpM_hasE, wpM_get1, wpM_get2, wS_putE, wS_putT, and_self, if_true, if_false, Bool.false_eq_true, reduceIte, wS_setS, wS_seq, wS_if, wS_asg, wS_exS, wS_retS, wS_nxS, wS_nx, wS_ret, wpM_op2, wpM_op1, wpM_asT, wpM_trt, wpM_notT, wpM_andT, wpM_orT, wpM_andV, wpM_notE, wpM_ifE, wpM_lnil, wpM_lcons, wpM_tupE, wpM_lstF, wpM_frz, wpM_new, wpM_cal, wpM_calB, wpM_calF, wpM_isiE, wpM_vr, wpM_ct, wpM_meth, wpM_chn, wpM_cut, wpM_cutF, wpM_ono, wpM_osm, wpM_revT, wpM_lfE, wS_for, tgN, List.getElem?_cons_zero, List.getElem?_cons_succ, List.set_cons_zero, List.set_cons_succ, List.map_cons, List.map_nil, List.length_cons, List.length_nil, List.replicate_succ, List.replicate_zero, Nat.reduceAdd, Nat.reduceSub, List.cons_append, List.nil_append, isiS hp, isS, tru, eq_str hz hz, beq_self_eq_true]
    rw [scope_bl, wpM_ok, trunc_same]; exact ⟨rfl, rfl⟩
  · have hp : (D.int i).pure = true := rfl
    simp only [mkR_eq, wS_augS, wpM_dcN, wpM_rg1, wpM_rg2, wpM_enumA, wpM_iof, wpM_lfS, wS_rai, wS_try, wpM_catF, wpM_revA, wpM_newD, wpM_itemE, wpM_itemT, wpM_hasE, wpM_get1, wpM_get2, wS_putE, wS_putT, and_self, if_true, if_false, Bool.false_eq_true, reduceIte, wS_setS, wS_seq, wS_if, wS_asg, wS_exS, wS_retS, wS_nxS, wS_nx, wS_ret, wpM_op2, wpM_op1, wpM_asT, wpM_trt, wpM_notT, wpM_andT, wpM_orT, wpM_andV, wpM_notE, wpM_ifE, wpM_lnil, wpM_lcons, wpM_tupE, wpM_lstF, wpM_frz, wpM_new, wpM_cal, wpM_calB, wpM_calF, wpM_isiE, wpM_vr, wpM_ct, wpM_meth, wpM_chn, wpM_cut, wpM_cutF, wpM_ono, wpM_osm, wpM_revT, wpM_lfE, wS_for, tgN, List.getElem?_cons_zero, List.getElem?_cons_succ, List.set_cons_zero, List.set_cons_succ, List.map_cons, List.map_nil, List.length_cons, List.length_nil, List.replicate_succ, List.replicate_zero, Nat.reduceAdd, Nat.reduceSub, List.cons_append, List.nil_append, isiS hp, isS, lwhole_eq hp, wpM_ok, isI, tru, eq_int, beq_self_eq_true]
    rw [scope_bl, wpM_ok, trunc_same]; exact ⟨rfl, rfl⟩
  · have hp : (D.tup ds).pure = true := pureL_mem fun x hx => (hds x hx).pure
    simp only [mkR_eq, wS_augS, wpM_dcN, wpM_rg1, wpM_rg2, wpM_enumA, wpM_iof, wpM_lfS, wS_rai, wS_try, wpM_catF, wpM_revA, wpM_newD, wpM_itemE, wpM_itemT, wpM_hasE, wpM_get1, wpM_get2, wS_putE, wS_putT, and_self, if_true, if_false, Bool.false_eq_true, reduceIte, wS_setS, wS_seq, wS_if, wS_asg, wS_exS, wS_retS, wS_nxS, wS_nx, wS_ret, wpM_op2, wpM_op1, wpM_asT, wpM_trt, wpM_notT, wpM_andT, wpM_orT, wpM_andV, wpM_notE, wpM_ifE, wpM_lnil, wpM_lcons, wpM_tupE, wpM_lstF, wpM_frz, wpM_new, wpM_cal, wpM_calB, wpM_calF, wpM_isiE, wpM_vr, wpM_ct, wpM_meth, wpM_chn, wpM_cut, wpM_cutF, wpM_ono, wpM_osm, wpM_revT, wpM_lfE, wS_for, tgN, List.getElem?_cons_zero, List.getElem?_cons_succ, List.set_cons_zero, List.set_cons_succ, List.map_cons, List.map_nil, List.length_cons, List.length_nil, List.replicate_succ, List.replicate_zero, Nat.reduceAdd, Nat.reduceSub, List.cons_append, List.nil_append, isiS hp, isS, lwhole_eq hp, wpM_ok, isI, isiT hp, isT, tru, Bool.not_true, len_tup, ne_int, beq_self_eq_true]
    refine ⟨rgOk_nat (by omega), ?_⟩
    refine wS_loop (fun i e S' => ∃ e2, e = [some (.tup ds), some (.tup ds), e2] ∧ S' = S) _ 0 _ _ ⟨none, rfl, rfl⟩ ?_ ?_
    · rintro j x e S' hj ⟨e2, rfl, rfl⟩
      obtain ⟨rfl, hjn⟩ := rgL_get hj
      have hy : ds[j]? = some ds[j] := List.getElem?_eq_getElem hjn
      have ho := hds _ (List.getElem_mem hjn)
      generalize ds[j] = y at hy ho
      refine ⟨okSrc_nil, _, rfl, ?_⟩
      rcases ho with ⟨z, rfl, hz⟩ | ⟨i, rfl⟩
      · have hp : (D.str z).pure = true := rfl
        simp only [mkR_eq, wS_augS, wpM_dcN, wpM_rg1, wpM_rg2, wpM_enumA, wpM_iof, wpM_lfS, wS_rai, wS_try, wpM_catF, wpM_revA, wpM_newD, wpM_itemE, wpM_itemT, wpM_hasE, wpM_get1, wpM_get2, wS_putE, wS_putT, and_self, if_true, if_false, Bool.false_eq_true, reduceIte, wS_setS, wS_seq, wS_if, wS_asg, wS_exS, wS_retS, wS_nxS, wS_nx, wS_ret, wpM_op2, wpM_op1, wpM_asT, wpM_trt, wpM_notT, wpM_andT, wpM_orT, wpM_andV, wpM_notE, wpM_ifE, wpM_lnil, wpM_lcons, wpM_tupE, wpM_lstF, wpM_frz, wpM_new, wpM_cal, wpM_calB, wpM_calF, wpM_isiE, wpM_vr, wpM_ct, wpM_meth, wpM_chn, wpM_cut, wpM_cutF, wpM_ono, wpM_osm, wpM_revT, wpM_lfE, wS_for, tgN, List.getElem?_cons_zero, List.getElem?_cons_succ, List.set_cons_zero, List.set_cons_succ, List.map_cons, List.map_nil, List.length_cons, List.length_nil, List.replicate_succ, List.replicate_zero, Nat.reduceAdd, Nat.reduceSub, List.cons_append, List.nil_append, ixT hy, isiS hp, isS, tru, Bool.not_true, ne_str hz hz, beq_self_eq_true]
        exact ⟨_, rfl, by trivial⟩
      · have hp : (D.int i).pure = true := rfl
        simp only [mkR_eq, wS_augS, wpM_dcN, wpM_rg1, wpM_rg2, wpM_enumA, wpM_iof, wpM_lfS, wS_rai, wS_try, wpM_catF, wpM_revA, wpM_newD, wpM_itemE, wpM_itemT, wpM_hasE, wpM_get1, wpM_get2, wS_putE, wS_putT, and_self, if_true, if_false, Bool.false_eq_true, reduceIte, wS_setS, wS_seq, wS_if, wS_asg, wS_exS, wS_retS, wS_nxS, wS_nx, wS_ret, wpM_op2, wpM_op1, wpM_asT, wpM_trt, wpM_notT, wpM_andT, wpM_orT, wpM_andV, wpM_notE, wpM_ifE, wpM_lnil, wpM_lcons, wpM_tupE, wpM_lstF, wpM_frz, wpM_new, wpM_cal, wpM_calB, wpM_calF, wpM_isiE, wpM_vr, wpM_ct, wpM_meth, wpM_chn, wpM_cut, wpM_cutF, wpM_ono, wpM_osm, wpM_revT, wpM_lfE, wS_for, tgN, List.getElem?_cons_zero, List.getElem?_cons_succ, List.set_cons_zero, List.set_cons_succ, List.map_cons, List.map_nil, List.length_cons, List.length_nil, List.replicate_succ, List.replicate_zero, Nat.reduceAdd, Nat.reduceSub, List.cons_append, List.nil_append, ixT hy, isiS hp, isS, tru, Bool.not_true, Bool.not_false, lwhole_eq hp, wpM_ok, isI, ne_int, beq_self_eq_true]
        exact ⟨_, rfl, by trivial⟩
    · rintro e S' ⟨e2, rfl, rfl⟩
      refine ⟨okSrc_nil, ?_⟩
      simp only [mkR_eq, wS_augS, wpM_dcN, wpM_rg1, wpM_rg2, wpM_enumA, wpM_iof, wpM_lfS, wS_rai, wS_try, wpM_catF, wpM_revA, wpM_newD, wpM_itemE, wpM_itemT, wpM_hasE, wpM_get1, wpM_get2, wS_putE, wS_putT, and_self, if_true, if_false, Bool.false_eq_true, reduceIte, wS_setS, wS_seq, wS_if, wS_asg, wS_exS, wS_retS, wS_nxS, wS_nx, wS_ret, wpM_op2, wpM_op1, wpM_asT, wpM_trt, wpM_notT, wpM_andT, wpM_orT, wpM_andV, wpM_notE, wpM_ifE, wpM_lnil, wpM_lcons, wpM_tupE, wpM_lstF, wpM_frz, wpM_new, wpM_cal, wpM_calB, wpM_calF, wpM_isiE, wpM_vr, wpM_ct, wpM_meth, wpM_chn, wpM_cut, wpM_cutF, wpM_ono, wpM_osm, wpM_revT, wpM_lfE, wS_for, tgN, List.getElem?_cons_zero, List.getElem?_cons_succ, List.set_cons_zero, List.set_cons_succ, List.map_cons, List.map_nil, List.length_cons, List.length_nil, List.replicate_succ, List.replicate_zero, Nat.reduceAdd, Nat.reduceSub, List.cons_append, List.nil_append]
      rw [scope_bl, wpM_ok, trunc_same]; exact ⟨rfl, rfl⟩
theorem dueD_ok {m : Int} {f : Option (Int × String)} : smOk (dueD m f) := by
  cases f with
  | none => exact .inl (.inr ⟨_, rfl⟩)
  | some p =>
    obtain ⟨n, w⟩ := p
    refine .inr ⟨_, rfl, fun y hy => ?_, by simp⟩
    rcases List.mem_cons.mp hy with rfl | hy
    · exact .inr ⟨_, rfl⟩
    · rw [List.mem_singleton.mp hy]; exact .inl ⟨_, rfl, strOk_of w⟩
end
end Z

end
section
set_option Elab.async false
set_option linter.all false
set_option maxRecDepth 100000
set_option maxHeartbeats 4000000
set_option autoImplicit false
namespace Z
open PySem PySem.Spec L2 Y PySem.W
section
variable {S : Sto} {Q : D → Sto → Prop} {E : Str → List (Str × D) → Sto → Prop} {d : D} {L : Str} {t : Tab} {n : Nat} {row : List D} {env : En}
/-- an operation of the table -/
def OpT (t : Tab) (d : D) : Prop := ∃ a b c, d = .tup [.str a, .str b] ∧ FS 3 a ∧ FS 3 b ∧ valD t [.inr a, .inr b] = some (.int c)
structure RowOk (t : Tab) (row : List D) : Prop where
  op : ∀ d ∈ row, OpT t d
  len : row.length ≤ 600
theorem OpT.fd (h : OpT t d) : fd d = true := by
  obtain ⟨a, b, c, rfl, ha, hb, _⟩ := h
  simp only [fd_tup, fdL_cons, fdL_nil, fd_str, ha.okS (show 3 ≤ 1000000 by omega), hb.okS (show 3 ≤ 1000000 by omega), Bool.and_self]
theorem OpT.opB (h : OpT t d) : opB t d = true := by
  obtain ⟨a, b, c, rfl, ha, hb, e⟩ := h
  simp [Z.opB, e]
def fA : D → Str
  | .tup [.str a, .str _] => a
  | _ => Str.ofString ""
def fZ : D → Str
  | .tup [.str _, .str b] => b
  | _ => Str.ofString ""
def cO (t : Tab) : D → Int
  | .tup [.str a, .str b] => match valD t [.inr a, .inr b] with
    | some (.int c) => c
    | _ => 0
  | _ => 0
theorem comp_all {it : IM} {tg : TgM} {el : EM} {vs : List Nat} {all : List D} {src : List (Nat × List D)} {f : D → D} (hit : it env S = .ok (all, src) S) (hG : ∀ X, okSrc src (S ++ X)) (hn : all.length ≤ 16777216) (hp : ∀ d ∈ all, (f d).pure = true)
    (h : ∀ d ∈ all, ∀ X, ∃ env1, tg d (wipeE env vs) = some env1 ∧ el env1 (S ++ X) = .ok (f d) (S ++ X)) : compF it tg yesT el vs env S = .ok (.lst (all.map f)) S := by
  rw [comp_mf (p := fun _ => true) hit hG hn hp (fun d hd X => by
    obtain ⟨env1, e1, e2⟩ := h d hd X
    exact ⟨env1, e1, rfl, fun _ => e2⟩)]
  rw [List.filter_eq_self.mpr fun _ _ => rfl]
theorem it_tup {i : Nat} {ds : List D} (h : env[i]? = some (some (.tup ds))) : i_of (vr i) env S = .ok (ds, []) S := by
  unfold i_of vr
  rw [h]; rfl
theorem set_wipe {j : Nat} {x : D} (hj : j < env.length) : ((wipeE env [j]).set j (some x))[j]? = some (some x) := by
  simp only [wipeE]
  rw [List.getElem?_set_self (by rw [List.length_set]; exact hj)]
theorem set_wipe_ne {i j : Nat} {x : D} (hij : j ≠ i) : ((wipeE env [j]).set j (some x))[i]? = env[i]? := by
  simp only [wipeE]
  rw [List.getElem?_set_ne hij, List.getElem?_set_ne hij]
theorem comp_rd {i j : Nat} (hr : RowOk t row) (hi : env[i]? = some (some (.tup row))) (hj : j < env.length) : compF (i_of (vr i)) (tgN j) yesT (op2 o_ix (vr j) (ct (.int 0))) [j] env S = .ok (.lst ((row.map fA).map D.str)) S := by
  rw [comp_all (f := fun d => .str (fA d)) (it_tup hi) (fun X => okSrc_nilX X) (by have := hr.len; omega) (fun _ _ => rfl) (fun d hd X => ?_), List.map_map]; rfl
  obtain ⟨a, b, c, rfl, _⟩ := hr.op d hd
  refine ⟨_, rfl, ?_⟩
  unfold op2 vr ct
  rw [set_wipe hj]; rfl
theorem comp_wr {i j : Nat} (hr : RowOk t row) (hi : env[i]? = some (some (.tup row))) (hj : j < env.length) : compF (i_of (vr i)) (tgN j) yesT (op2 o_ix (vr j) (ct (.int 1))) [j] env S = .ok (.lst ((row.map fZ).map D.str)) S := by
  rw [comp_all (f := fun d => .str (fZ d)) (it_tup hi) (fun X => okSrc_nilX X) (by have := hr.len; omega) (fun _ _ => rfl) (fun d hd X => ?_), List.map_map]; rfl
  obtain ⟨a, b, c, rfl, _⟩ := hr.op d hd
  refine ⟨_, rfl, ?_⟩
  unfold op2 vr ct
  rw [set_wipe hj]; rfl
theorem comp_cost {i j k : Nat} (hr : RowOk t row) (hi : env[i]? = some (some (.tup row))) (hj : j < env.length) (hk : env[k]? = some (some (.ref n))) (hkj : j ≠ k) (hS : S[n]? = some (some (.dT t))) :
    compF (i_of (vr i)) (tgN j) yesT (itemE (vr k) (vr j)) [j] env S = .ok (.lst ((row.map (cO t)).map D.int)) S := by
  rw [comp_all (f := fun d => .int (cO t d)) (it_tup hi) (fun X => okSrc_nilX X) (by have := hr.len; omega) (fun _ _ => rfl) (fun d hd X => ?_), List.map_map]; rfl
  obtain ⟨a, b, c, rfl, _, _, e⟩ := hr.op d hd
  refine ⟨_, rfl, ?_⟩
  have hSX : (S ++ X)[n]? = some (some (.dT t)) := by rw [List.getElem?_append_left (List.getElem?_eq_some_iff.mp hS).1]; exact hS
  unfold itemE vr
  rw [set_wipe_ne hkj, hk]
  simp only [bd]
  rw [set_wipe hj]
  simp only [bd, hasT hSX, e, cO]
theorem ints_map : ∀ is : List Int, intsD (is.map D.int) = some is
  | [] => rfl
  | i :: is => by
    show (intsD (is.map D.int)).map (fun l => i :: l) = _
    rw [ints_map is]; rfl
theorem sum_lst {is : List Int} : o_sum S [.lst (is.map D.int)] = some (.int is.sum) := by
  simp only [o_sum, lstOf, Option.bind_some, ints_map, Option.map_some]
theorem fs_rd (hr : RowOk t row) : ∀ y ∈ row.map fA, FS 3 y := fun y hy => by
  obtain ⟨d, hd, rfl⟩ := List.mem_map.mp hy
  obtain ⟨a, b, c, rfl, ha, _⟩ := hr.op d hd
  exact ha
theorem fs_wr (hr : RowOk t row) : ∀ y ∈ row.map fZ, FS 3 y := fun y hy => by
  obtain ⟨d, hd, rfl⟩ := List.mem_map.mp hy
  obtain ⟨a, b, c, rfl, ha, hb, _⟩ := hr.op d hd
  exact hb
theorem join_rd (hr : RowOk t row) : m_join S (.str (Str.ofString "")) [.lst ((row.map fA).map D.str)] = some (.str (Txt.join (Str.ofString "") (row.map fA)), S) := join_strs rfl (fs_rd hr) (by have := hr.len; rw [List.length_map]; omega)
theorem join_wr (hr : RowOk t row) : m_join S (.str (Str.ofString "")) [.lst ((row.map fZ).map D.str)] = some (.str (Txt.join (Str.ofString "") (row.map fZ)), S) := join_strs rfl (fs_wr hr) (by have := hr.len; rw [List.length_map]; omega)
theorem tyS {z : Str} : tyD "str" S (.str z) = true := rfl
theorem read_eq (hr : RowOk t row) : M_read_of [.tup row] S = .ok (.str (Txt.join (Str.ofString "") (row.map fA))) S := by
  refine eq_of_wp ?_
  unfold M_read_of
  refine wpM_fn ?_
  unfold m_read_of
  simp only [mkR_eq, wS_augS, wpM_dcN, wpM_rg1, wpM_rg2, wpM_enumA, wpM_iof, wpM_lfS, wS_rai, wS_try, wpM_catF, wpM_revA, wpM_newD, wpM_itemE, wpM_itemT, wpM_hasE, wpM_get1, wpM_get2, wS_putE, wS_putT, and_self, if_true, if_false, Bool.false_eq_true, reduceIte, wS_setS, wS_seq, wS_if, wS_asg, wS_exS, wS_retS, wS_nxS, wS_nx, wS_ret, wpM_op2, wpM_op1, wpM_asT, wpM_trt, wpM_notT, wpM_andT, wpM_orT, wpM_andV, wpM_notE, wpM_ifE, wpM_lnil, wpM_lcons, wpM_tupE, wpM_lstF, wpM_frz, wpM_new, wpM_cal, wpM_calB, wpM_calF, wpM_isiE, wpM_vr, wpM_ct, wpM_meth, wpM_chn, wpM_cut, wpM_cutF, wpM_ono, wpM_osm, wpM_revT, wpM_lfE, wS_for, tgN, List.getElem?_cons_zero, List.getElem?_cons_succ, List.set_cons_zero, List.set_cons_succ, List.map_cons, List.map_nil, List.length_cons, List.length_nil, List.replicate_succ, List.replicate_zero, Nat.reduceAdd, Nat.reduceSub, List.cons_append, List.nil_append, tyS]
  refine ok_eq (comp_rd hr rfl (by simp)) ?_
  simp only [mkR_eq, wS_augS, wpM_dcN, wpM_rg1, wpM_rg2, wpM_enumA, wpM_iof, wpM_lfS, wS_rai, wS_try, wpM_catF, wpM_revA, wpM_newD, wpM_itemE, wpM_itemT, wpM_hasE, wpM_get1, wpM_get2, wS_putE, wS_putT, and_self, if_true, if_false, Bool.false_eq_true, reduceIte, wS_setS, wS_seq, wS_if, wS_asg, wS_exS, wS_retS, wS_nxS, wS_nx, wS_ret, wpM_op2, wpM_op1, wpM_asT, wpM_trt, wpM_notT, wpM_andT, wpM_orT, wpM_andV, wpM_notE, wpM_ifE, wpM_lnil, wpM_lcons, wpM_tupE, wpM_lstF, wpM_frz, wpM_new, wpM_cal, wpM_calB, wpM_calF, wpM_isiE, wpM_vr, wpM_ct, wpM_meth, wpM_chn, wpM_cut, wpM_cutF, wpM_ono, wpM_osm, wpM_revT, wpM_lfE, wS_for, tgN, List.getElem?_cons_zero, List.getElem?_cons_succ, List.set_cons_zero, List.set_cons_succ, List.map_cons, List.map_nil, List.length_cons, List.length_nil, List.replicate_succ, List.replicate_zero, Nat.reduceAdd, Nat.reduceSub, List.cons_append, List.nil_append, join_rd hr]
  rw [scope_str, wpM_ok, trunc_same]; exact ⟨rfl, rfl⟩
theorem written_eq (hr : RowOk t row) : M_written_of [.tup row] S = .ok (.str (Txt.join (Str.ofString "") (row.map fZ))) S := by
  refine eq_of_wp ?_
  unfold M_written_of
  refine wpM_fn ?_
  unfold m_written_of
  simp only [mkR_eq, wS_augS, wpM_dcN, wpM_rg1, wpM_rg2, wpM_enumA, wpM_iof, wpM_lfS, wS_rai, wS_try, wpM_catF, wpM_revA, wpM_newD, wpM_itemE, wpM_itemT, wpM_hasE, wpM_get1, wpM_get2, wS_putE, wS_putT, and_self, if_true, if_false, Bool.false_eq_true, reduceIte, wS_setS, wS_seq, wS_if, wS_asg, wS_exS, wS_retS, wS_nxS, wS_nx, wS_ret, wpM_op2, wpM_op1, wpM_asT, wpM_trt, wpM_notT, wpM_andT, wpM_orT, wpM_andV, wpM_notE, wpM_ifE, wpM_lnil, wpM_lcons, wpM_tupE, wpM_lstF, wpM_frz, wpM_new, wpM_cal, wpM_calB, wpM_calF, wpM_isiE, wpM_vr, wpM_ct, wpM_meth, wpM_chn, wpM_cut, wpM_cutF, wpM_ono, wpM_osm, wpM_revT, wpM_lfE, wS_for, tgN, List.getElem?_cons_zero, List.getElem?_cons_succ, List.set_cons_zero, List.set_cons_succ, List.map_cons, List.map_nil, List.length_cons, List.length_nil, List.replicate_succ, List.replicate_zero, Nat.reduceAdd, Nat.reduceSub, List.cons_append, List.nil_append, tyS]
  refine ok_eq (comp_wr hr rfl (by simp)) ?_
  simp only [mkR_eq, wS_augS, wpM_dcN, wpM_rg1, wpM_rg2, wpM_enumA, wpM_iof, wpM_lfS, wS_rai, wS_try, wpM_catF, wpM_revA, wpM_newD, wpM_itemE, wpM_itemT, wpM_hasE, wpM_get1, wpM_get2, wS_putE, wS_putT, and_self, if_true, if_false, Bool.false_eq_true, reduceIte, wS_setS, wS_seq, wS_if, wS_asg, wS_exS, wS_retS, wS_nxS, wS_nx, wS_ret, wpM_op2, wpM_op1, wpM_asT, wpM_trt, wpM_notT, wpM_andT, wpM_orT, wpM_andV, wpM_notE, wpM_ifE, wpM_lnil, wpM_lcons, wpM_tupE, wpM_lstF, wpM_frz, wpM_new, wpM_cal, wpM_calB, wpM_calF, wpM_isiE, wpM_vr, wpM_ct, wpM_meth, wpM_chn, wpM_cut, wpM_cutF, wpM_ono, wpM_osm, wpM_revT, wpM_lfE, wS_for, tgN, List.getElem?_cons_zero, List.getElem?_cons_succ, List.set_cons_zero, List.set_cons_succ, List.map_cons, List.map_nil, List.length_cons, List.length_nil, List.replicate_succ, List.replicate_zero, Nat.reduceAdd, Nat.reduceSub, List.cons_append, List.nil_append, join_wr hr]
  rw [scope_str, wpM_ok, trunc_same]; exact ⟨rfl, rfl⟩
theorem cost_eq {es : List D} (hB : BkOk L es) (hr : RowOk (tabB L es) row) : M_cost_of [.tup [.str L, .tup es], .tup row] S = .ok (.int (row.map (cO (tabB L es))).sum) S := by
  refine eq_of_wp ?_
  unfold M_cost_of
  refine wpM_fn ?_
  unfold m_cost_of
  simp only [mkR_eq, wS_augS, wpM_dcN, wpM_rg1, wpM_rg2, wpM_enumA, wpM_iof, wpM_lfS, wS_rai, wS_try, wpM_catF, wpM_revA, wpM_newD, wpM_itemE, wpM_itemT, wpM_hasE, wpM_get1, wpM_get2, wS_putE, wS_putT, and_self, if_true, if_false, Bool.false_eq_true, reduceIte, wS_setS, wS_seq, wS_if, wS_asg, wS_exS, wS_retS, wS_nxS, wS_nx, wS_ret, wpM_op2, wpM_op1, wpM_asT, wpM_trt, wpM_notT, wpM_andT, wpM_orT, wpM_andV, wpM_notE, wpM_ifE, wpM_lnil, wpM_lcons, wpM_tupE, wpM_lstF, wpM_frz, wpM_new, wpM_cal, wpM_calB, wpM_calF, wpM_isiE, wpM_vr, wpM_ct, wpM_meth, wpM_chn, wpM_cut, wpM_cutF, wpM_ono, wpM_osm, wpM_revT, wpM_lfE, wS_for, tgN, List.getElem?_cons_zero, List.getElem?_cons_succ, List.set_cons_zero, List.set_cons_succ, List.map_cons, List.map_nil, List.length_cons, List.length_nil, List.replicate_succ, List.replicate_zero, Nat.reduceAdd, Nat.reduceSub, List.cons_append, List.nil_append, opc_eq hB, wpM_ok]
  refine ok_eq (comp_cost hr rfl (by simp) rfl (by decide) end_at) ?_
  simp only [mkR_eq, wS_augS, wpM_dcN, wpM_rg1, wpM_rg2, wpM_enumA, wpM_iof, wpM_lfS, wS_rai, wS_try, wpM_catF, wpM_revA, wpM_newD, wpM_itemE, wpM_itemT, wpM_hasE, wpM_get1, wpM_get2, wS_putE, wS_putT, and_self, if_true, if_false, Bool.false_eq_true, reduceIte, wS_setS, wS_seq, wS_if, wS_asg, wS_exS, wS_retS, wS_nxS, wS_nx, wS_ret, wpM_op2, wpM_op1, wpM_asT, wpM_trt, wpM_notT, wpM_andT, wpM_orT, wpM_andV, wpM_notE, wpM_ifE, wpM_lnil, wpM_lcons, wpM_tupE, wpM_lstF, wpM_frz, wpM_new, wpM_cal, wpM_calB, wpM_calF, wpM_isiE, wpM_vr, wpM_ct, wpM_meth, wpM_chn, wpM_cut, wpM_cutF, wpM_ono, wpM_osm, wpM_revT, wpM_lfE, wS_for, tgN, List.getElem?_cons_zero, List.getElem?_cons_succ, List.set_cons_zero, List.set_cons_succ, List.map_cons, List.map_nil, List.length_cons, List.length_nil, List.replicate_succ, List.replicate_zero, Nat.reduceAdd, Nat.reduceSub, List.cons_append, List.nil_append, sum_lst]
  rw [scope_int, wpM_ok, trunc_self]; exact ⟨rfl, rfl⟩
end
end Z

end
section
set_option Elab.async false
set_option linter.all false
set_option maxRecDepth 100000
set_option maxHeartbeats 4000000
set_option autoImplicit false
namespace Z
open PySem PySem.Spec L2 Y PySem.W
section
variable {S : Sto} {Q : D → Sto → Prop} {E : Str → List (Str × D) → Sto → Prop} {d : D} {L : Str} {t : Tab} {n : Nat} {row : List D} {env : En}
def wid (a b : Str) : Int := if (b.length : Int) > (a.length : Int) then b.length else a.length
def fill (a : Str) (w : Int) : Str := a ++ Txt.mul (Str.ofString "-") (w - a.length)
theorem wid_a {a b : Str} : (a.length : Int) ≤ wid a b := by unfold wid; split <;> omega
theorem wid_b {a b : Str} : (b.length : Int) ≤ wid a b := by unfold wid; split <;> omega
theorem wid_3 {a b : Str} (ha : FS 3 a) (hb : FS 3 b) : wid a b ≤ 3 := by
  have := ha.len
  have := hb.len
  unfold wid; split <;> omega
theorem fill_fs {a : Str} {w : Int} (ha : FS 3 a) (hw : w ≤ 3) : FS 6 (fill a w) := by
  have h1 : FS 1 (Str.ofString "-") := FS.of_lit "-"
  have h2 : FS (1 * 3) (Txt.mul (Str.ofString "-") (w - a.length)) := h1.mul (by omega)
  exact (ha.app h2).mono (by omega)
theorem mul_dash {a : Str} {w : Int} (hw : (a.length : Int) ≤ w) (h3 : w ≤ 3) : o_mulA S (.str (Str.ofString "-")) (.int (w - a.length)) = some (.str (Txt.mul (Str.ofString "-") (w - a.length))) := mul_str (n := 1) ⟨by decide +kernel, strOk_of "-"⟩ (by omega) (by omega) (by omega)
theorem add_dash {a : Str} {w : Int} (ha : FS 3 a) (hw : (a.length : Int) ≤ w) (h3 : w ≤ 3) : o_add S (.str a) (.str (Txt.mul (Str.ofString "-") (w - a.length))) = some (.str (fill a w)) := by
  have h1 : FS 1 (Str.ofString "-") := FS.of_lit "-"
  have h2 : FS (1 * 3) (Txt.mul (Str.ofString "-") (w - a.length)) := h1.mul (by omega)
  exact add_str ha h2 (by omega)
theorem filled_eq {a : Str} {w : Int} (ha : FS 3 a) (hw : (a.length : Int) ≤ w) (h3 : w ≤ 3) : M_filled [.str a, .int w] S = .ok (.str (fill a w)) S := by
  refine eq_of_wp ?_
  unfold M_filled
  refine wpM_fn ?_
  unfold m_filled
  have hl := ha.len
  simp only [mkR_eq, wS_augS, wpM_dcN, wpM_rg1, wpM_rg2, wpM_enumA, wpM_iof, wpM_lfS, wS_rai, wS_try, wpM_catF, wpM_revA, wpM_newD, wpM_itemE, wpM_itemT, wpM_hasE, wpM_get1, wpM_get2, wS_putE, wS_putT, and_self, if_true, if_false, Bool.false_eq_true, reduceIte, wS_setS, wS_seq, wS_if, wS_asg, wS_exS, wS_retS, wS_nxS, wS_nx, wS_ret, wpM_op2, wpM_op1, wpM_asT, wpM_trt, wpM_notT, wpM_andT, wpM_orT, wpM_andV, wpM_notE, wpM_ifE, wpM_lnil, wpM_lcons, wpM_tupE, wpM_lstF, wpM_frz, wpM_new, wpM_cal, wpM_calB, wpM_calF, wpM_isiE, wpM_vr, wpM_ct, wpM_meth, wpM_chn, wpM_cut, wpM_cutF, wpM_ono, wpM_osm, wpM_revT, wpM_lfE, wS_for, tgN, List.getElem?_cons_zero, List.getElem?_cons_succ, List.set_cons_zero, List.set_cons_succ, List.map_cons, List.map_nil, List.length_cons, List.length_nil, List.replicate_succ, List.replicate_zero, Nat.reduceAdd, Nat.reduceSub, List.cons_append, List.nil_append, len_str (show a.length ≤ 16777216 by omega), sub_int, mul_dash hw h3, add_dash ha hw h3]
  rw [scope_str, wpM_ok, trunc_same]; exact ⟨rfl, rfl⟩
def upF : D → Str
  | .tup [.str a, .str b] => fill a (wid a b)
  | _ => Str.ofString ""
def loF : D → Str
  | .tup [.str a, .str b] => fill b (wid a b)
  | _ => Str.ofString ""
def kd : D → Nat
  | .tup [.str a, .str b] => if (a == b) = true then 0 else if (b == Str.ofString "") = true then 1 else if (a == Str.ofString "") = true then 2 else 3
  | _ => 0
def bump (l : List Int) (d : D) : List Int := l.set (kd d) (l[kd d]?.getD 0 + 1)
def cnt (row : List D) : List Int := row.foldl bump [0, 0, 0, 0]
theorem kd_lt : kd d < 4 := by
  unfold kd
  split
  · split
    · omega
    · split
      · omega
      · split <;> omega
  · omega
theorem cnt_len : (cnt row).length = 4 := by
  unfold cnt
  have : ∀ (r : List D) (l : List Int), l.length = 4 → (r.foldl bump l).length = 4 := fun r => by
    induction r with
    | nil => exact fun l h => h
    | cons d r ih => exact fun l h => ih _ (by rw [bump, List.length_set]; exact h)
  exact this row _ rfl
theorem cnt_take {i : Nat} (h : row[i]? = some d) : cnt (row.take (i + 1)) = bump (cnt (row.take i)) d := by
  rw [List.take_succ, h]
  simp [cnt, List.foldl_append]
theorem map_take {f : D → D} {i : Nat} (h : row[i]? = some d) : (row.take (i + 1)).map f = (row.take i).map f ++ [f d] := by
  rw [List.take_succ, h]; simp
/-! stores with things at the end -/
theorem at0 {a : Option Ob} {X : Sto} : (S ++ a :: X)[S.length]? = some a := by
  rw [List.getElem?_append_right (Nat.le_refl _), Nat.sub_self]; rfl
theorem at1 {a b : Option Ob} {X : Sto} : (S ++ a :: b :: X)[S.length + 1]? = some b := by
  rw [List.getElem?_append_right (by omega), show S.length + 1 - S.length = 1 by omega]; rfl
theorem at2 {a b c : Option Ob} {X : Sto} : (S ++ a :: b :: c :: X)[S.length + 2]? = some c := by
  rw [List.getElem?_append_right (by omega), show S.length + 2 - S.length = 2 by omega]; rfl
theorem put0 {a o : Option Ob} {X : Sto} : (S ++ a :: X).set S.length o = S ++ o :: X := by
  rw [List.set_append_right _ _ (Nat.le_refl _), Nat.sub_self]; rfl
theorem put1 {a b o : Option Ob} {X : Sto} : (S ++ a :: b :: X).set (S.length + 1) o = S ++ a :: o :: X := by
  rw [List.set_append_right _ _ (by omega), show S.length + 1 - S.length = 1 by omega]; rfl
theorem put2 {a b c o : Option Ob} {X : Sto} : (S ++ a :: b :: c :: X).set (S.length + 2) o = S ++ a :: b :: o :: X := by
  rw [List.set_append_right _ _ (by omega), show S.length + 2 - S.length = 2 by omega]; rfl
theorem max2 {i j : Int} : o_max2 S [.int i, .int j] = some (.int (if j > i then j else i)) := rfl
theorem seq_at {ds : List D} (h : S[n]? = some (some (.lst ds))) : seqOf S (.ref n) = some ds := by simp [seqOf, h]
theorem strs_fs {f : D → Str} {k : Nat} (h : ∀ d ∈ row, FS k (f d)) : ∀ y ∈ row.map f, FS k y := fun y hy => by
  obtain ⟨d, hd, rfl⟩ := List.mem_map.mp hy
  exact h d hd
theorem up_fs (hr : RowOk t row) : ∀ d ∈ row, FS 6 (upF d) := fun d hd => by
  obtain ⟨a, b, c, rfl, ha, hb, _⟩ := hr.op d hd
  exact fill_fs ha (wid_3 ha hb)
theorem lo_fs (hr : RowOk t row) : ∀ d ∈ row, FS 6 (loF d) := fun d hd => by
  obtain ⟨a, b, c, rfl, ha, hb, _⟩ := hr.op d hd
  exact fill_fs hb (wid_3 ha hb)
theorem join_ref {f : D → Str} {k : Nat} (hS : S[n]? = some (some (.lst (row.map fun d => D.str (f d))))) (h : ∀ d ∈ row, FS k (f d)) (hk : k * row.length ≤ 16777216) : m_join S (.str (Str.ofString "")) [.ref n] = some (.str (Txt.join (Str.ofString "") (row.map f)), S) :=
  join_strs (n := k) (by rw [seq_at hS, List.map_map]; rfl) (strs_fs h) (by rw [List.length_map]; exact hk)
theorem small_sz {k : Nat} (h : k ≤ 600) : k < sizeLine := Nat.lt_of_lt_of_le (show k < 601 by omega) (le_sz rfl)
theorem lines_eq (hr : RowOk t row) : M_row_lines [.tup row] S = .ok (.tup [.str (Txt.join (Str.ofString "") (row.map upF)), .str (Txt.join (Str.ofString "") (row.map loF))]) S := by
  refine eq_of_wp ?_
  unfold M_row_lines
  refine wpM_fn ?_
  unfold m_row_lines
  have hlen := hr.len
  simp only [mkR_eq, wS_augS, wpM_dcN, wpM_rg1, wpM_rg2, wpM_enumA, wpM_iof, wpM_lfS, wS_rai, wS_try, wpM_catF, wpM_revA, wpM_newD, wpM_itemE, wpM_itemT, wpM_hasE, wpM_get1, wpM_get2, wS_putE, wS_putT, and_self, if_true, if_false, Bool.false_eq_true, reduceIte, wS_setS, wS_seq, wS_if, wS_asg, wS_exS, wS_retS, wS_nxS, wS_nx, wS_ret, wpM_op2, wpM_op1, wpM_asT, wpM_trt, wpM_notT, wpM_andT, wpM_orT, wpM_andV, wpM_notE, wpM_ifE, wpM_lnil, wpM_lcons, wpM_tupE, wpM_lstF, wpM_frz, wpM_new, wpM_cal, wpM_calB, wpM_calF, wpM_isiE, wpM_vr, wpM_ct, wpM_meth, wpM_chn, wpM_cut, wpM_cutF, wpM_ono, wpM_osm, wpM_revT, wpM_lfE, wS_for, tgN, List.getElem?_cons_zero, List.getElem?_cons_succ, List.set_cons_zero, List.set_cons_succ, List.map_cons, List.map_nil, List.length_cons, List.length_nil, List.replicate_succ, List.replicate_zero, Nat.reduceAdd, Nat.reduceSub, List.cons_append, List.nil_append, le_sz (n := 0) rfl, srcOf]
  rw [show (S ++ [some (Ob.lst [])]).length = S.length + 1 by simp, show S ++ [some (Ob.lst [])] ++ [some (Ob.lst [])] = S ++ some (Ob.lst []) :: some (Ob.lst []) :: [] by simp]
  refine wS_loop (fun i e S' => ∃ e3 e4 e5, e = [some (.tup row), some (.ref S.length), some (.ref (S.length + 1)), e3, e4, e5] ∧ S' = S ++ some (.lst ((row.take i).map fun d => D.str (upF d))) :: some (.lst ((row.take i).map fun d => D.str (loF d))) :: []) row 0 _ _ ⟨none, none, none, rfl, rfl⟩ ?_ ?_
  · rintro j d e S' hj ⟨e3, e4, e5, rfl, rfl⟩
    obtain ⟨a, b, c, rfl, ha, hb, _⟩ := hr.op d (List.mem_of_getElem? hj)
    have hjl := (List.getElem?_eq_some_iff.mp hj).1
    have la := ha.len
    have lb := hb.len
    rw [Nat.zero_add]
    refine ⟨okSrc_nil, _, rfl, ?_⟩
    have ew : (if (b.length : Int) > (a.length : Int) then (b.length : Int) else (a.length : Int)) = wid a b := rfl
    have sz : ∀ {f : D → D}, ((row.take j).map f).length < sizeLine := fun {f} => small_sz (by rw [List.length_map, List.length_take]; omega)
    simp only [mkR_eq, wS_augS, wpM_dcN, wpM_rg1, wpM_rg2, wpM_enumA, wpM_iof, wpM_lfS, wS_rai, wS_try, wpM_catF, wpM_revA, wpM_newD, wpM_itemE, wpM_itemT, wpM_hasE, wpM_get1, wpM_get2, wS_putE, wS_putT, and_self, if_true, if_false, Bool.false_eq_true, reduceIte, wS_setS, wS_seq, wS_if, wS_asg, wS_exS, wS_retS, wS_nxS, wS_nx, wS_ret, wpM_op2, wpM_op1, wpM_asT, wpM_trt, wpM_notT, wpM_andT, wpM_orT, wpM_andV, wpM_notE, wpM_ifE, wpM_lnil, wpM_lcons, wpM_tupE, wpM_lstF, wpM_frz, wpM_new, wpM_cal, wpM_calB, wpM_calF, wpM_isiE, wpM_vr, wpM_ct, wpM_meth, wpM_chn, wpM_cut, wpM_cutF, wpM_ono, wpM_osm, wpM_revT, wpM_lfE, wS_for, tgN, List.getElem?_cons_zero, List.getElem?_cons_succ, List.set_cons_zero, List.set_cons_succ, List.map_cons, List.map_nil, List.length_cons, List.length_nil, List.replicate_succ, List.replicate_zero, Nat.reduceAdd, Nat.reduceSub, List.cons_append, List.nil_append, len_str (show a.length ≤ 16777216 by omega), len_str (show b.length ≤ 16777216 by omega), max2, ew, tyL at0, filled_eq ha wid_a (wid_3 ha hb), filled_eq hb wid_b (wid_3 ha hb), wpM_ok, app_at at0 sz, put0, tyL at1, app_at at1 sz, put1]
    refine ⟨_, _, _, rfl, ?_⟩
    rw [map_take hj, map_take hj]; rfl
  · rintro e S' ⟨e3, e4, e5, rfl, rfl⟩
    refine ⟨okSrc_nil, ?_⟩
    rw [Nat.zero_add, List.take_length]
    simp only [mkR_eq, wS_augS, wpM_dcN, wpM_rg1, wpM_rg2, wpM_enumA, wpM_iof, wpM_lfS, wS_rai, wS_try, wpM_catF, wpM_revA, wpM_newD, wpM_itemE, wpM_itemT, wpM_hasE, wpM_get1, wpM_get2, wS_putE, wS_putT, and_self, if_true, if_false, Bool.false_eq_true, reduceIte, wS_setS, wS_seq, wS_if, wS_asg, wS_exS, wS_retS, wS_nxS, wS_nx, wS_ret, wpM_op2, wpM_op1, wpM_asT, wpM_trt, wpM_notT, wpM_andT, wpM_orT, wpM_andV, wpM_notE, wpM_ifE, wpM_lnil, wpM_lcons, wpM_tupE, wpM_lstF, wpM_frz, wpM_new, wpM_cal, wpM_calB, wpM_calF, wpM_isiE, wpM_vr, wpM_ct, wpM_meth, wpM_chn, wpM_cut, wpM_cutF, wpM_ono, wpM_osm, wpM_revT, wpM_lfE, wS_for, tgN, List.getElem?_cons_zero, List.getElem?_cons_succ, List.set_cons_zero, List.set_cons_succ, List.map_cons, List.map_nil, List.length_cons, List.length_nil, List.replicate_succ, List.replicate_zero, Nat.reduceAdd, Nat.reduceSub, List.cons_append, List.nil_append, tyS, join_ref (f := upF) at0 (up_fs hr) (show 6 * row.length ≤ 16777216 by omega), join_ref (f := loF) at1 (lo_fs hr) (show 6 * row.length ≤ 16777216 by omega), le_sz (n := 2) rfl]
    rw [scope_pure rfl, wpM_ok, trunc_self]; exact ⟨rfl, rfl⟩
theorem rd_at {ds : List D} {j : Nat} {x : D} (h : S[n]? = some (some (.lst ds))) (hj : ds[j]? = some x) : rdAt S (.ref n) (.int (j : Int)) = some x := ix_at h hj
theorem cnt_ix {k : Nat} (hk : k < 4) : ((cnt row).map D.int)[k]? = some (.int ((cnt row)[k]?.getD 0)) := by
  rw [List.getElem?_map, List.getElem?_eq_getElem (by rw [cnt_len]; exact hk)]; rfl
theorem cnt_rd {k : Nat} {v : Int} (hv : v = (k : Int)) (hS : S[n]? = some (some (.lst ((cnt row).map D.int)))) (hk : k < 4) : rdAt S (.ref n) (.int v) = some (.int ((cnt row)[k]?.getD 0)) := by subst hv; exact rd_at hS (cnt_ix hk)
theorem cnt_set {k : Nat} {x v : Int} (hv : v = (k : Int)) (hS : S[n]? = some (some (.lst ((cnt row).map D.int)))) (hk : k < 4) : setAt S (.ref n) (.int v) (.int x) = some (S.set n (some (.lst (((cnt row).set k x).map D.int)))) := by
  subst hv
  rw [set_at hS (by rw [List.length_map, cnt_len]; exact hk), List.map_set]
theorem kinds_eq (hr : RowOk t row) : M_row_kinds [.tup row] S = .ok (.tup ((cnt row).map D.int)) S := by
  refine eq_of_wp ?_
  unfold M_row_kinds
  refine wpM_fn ?_
  unfold m_row_kinds
  have hlen := hr.len
  simp only [mkR_eq, wS_augS, wpM_dcN, wpM_rg1, wpM_rg2, wpM_enumA, wpM_iof, wpM_lfS, wS_rai, wS_try, wpM_catF, wpM_revA, wpM_newD, wpM_itemE, wpM_itemT, wpM_hasE, wpM_get1, wpM_get2, wS_putE, wS_putT, and_self, if_true, if_false, Bool.false_eq_true, reduceIte, wS_setS, wS_seq, wS_if, wS_asg, wS_exS, wS_retS, wS_nxS, wS_nx, wS_ret, wpM_op2, wpM_op1, wpM_asT, wpM_trt, wpM_notT, wpM_andT, wpM_orT, wpM_andV, wpM_notE, wpM_ifE, wpM_lnil, wpM_lcons, wpM_tupE, wpM_lstF, wpM_frz, wpM_new, wpM_cal, wpM_calB, wpM_calF, wpM_isiE, wpM_vr, wpM_ct, wpM_meth, wpM_chn, wpM_cut, wpM_cutF, wpM_ono, wpM_osm, wpM_revT, wpM_lfE, wS_for, tgN, List.getElem?_cons_zero, List.getElem?_cons_succ, List.set_cons_zero, List.set_cons_succ, List.map_cons, List.map_nil, List.length_cons, List.length_nil, List.replicate_succ, List.replicate_zero, Nat.reduceAdd, Nat.reduceSub, List.cons_append, List.nil_append, le_sz (n := 4) rfl, srcOf]
  refine wS_loop (fun i e S' => ∃ e2 e3, e = [some (.tup row), some (.ref S.length), e2, e3] ∧ S' = S ++ some (.lst ((cnt (row.take i)).map D.int)) :: []) row 0 _ _ ⟨none, none, rfl, rfl⟩ ?_ ?_
  · rintro j d e S' hj ⟨e2, e3, rfl, rfl⟩
    obtain ⟨a, b, c, rfl, ha, hb, _⟩ := hr.op d (List.mem_of_getElem? hj)
    rw [Nat.zero_add]
    refine ⟨okSrc_nil, _, rfl, ?_⟩
    have fin : ∀ k, kd (.tup [.str a, .str b]) = k → ∃ e2' e3', [some (D.tup row), some (.ref S.length), some (.str a), some (.str b)] = [some (D.tup row), some (.ref S.length), e2', e3'] ∧ S ++ some (Ob.lst (((cnt (row.take j)).set k ((cnt (row.take j))[k]?.getD 0 + 1)).map D.int)) :: [] = S ++ some (.lst ((cnt (row.take (j + 1))).map D.int)) :: [] := fun k hk => ⟨_, _, rfl, by rw [cnt_take hj, bump, hk]⟩
    have r0 := cnt_rd (S := S ++ some (.lst ((cnt (row.take j)).map D.int)) :: []) (k := 0) (v := 0) rfl at0 (by decide)
    have r1 := cnt_rd (S := S ++ some (.lst ((cnt (row.take j)).map D.int)) :: []) (k := 1) (v := 1) rfl at0 (by decide)
    have r2 := cnt_rd (S := S ++ some (.lst ((cnt (row.take j)).map D.int)) :: []) (k := 2) (v := 2) rfl at0 (by decide)
    have r3 := cnt_rd (S := S ++ some (.lst ((cnt (row.take j)).map D.int)) :: []) (k := 3) (v := 3) rfl at0 (by decide)
    have s0 := fun x => cnt_set (S := S ++ some (.lst ((cnt (row.take j)).map D.int)) :: []) (k := 0) (x := x) (v := 0) rfl at0 (by decide)
    have s1 := fun x => cnt_set (S := S ++ some (.lst ((cnt (row.take j)).map D.int)) :: []) (k := 1) (x := x) (v := 1) rfl at0 (by decide)
    have s2 := fun x => cnt_set (S := S ++ some (.lst ((cnt (row.take j)).map D.int)) :: []) (k := 2) (x := x) (v := 2) rfl at0 (by decide)
    have s3 := fun x => cnt_set (S := S ++ some (.lst ((cnt (row.take j)).map D.int)) :: []) (k := 3) (x := x) (v := 3) rfl at0 (by decide)
    have oke : PyData.strOk (Str.ofString "") = true := strOk_of ""
    simp only [mkR_eq, wS_augS, wpM_dcN, wpM_rg1, wpM_rg2, wpM_enumA, wpM_iof, wpM_lfS, wS_rai, wS_try, wpM_catF, wpM_revA, wpM_newD, wpM_itemE, wpM_itemT, wpM_hasE, wpM_get1, wpM_get2, wS_putE, wS_putT, and_self, if_true, if_false, Bool.false_eq_true, reduceIte, wS_setS, wS_seq, wS_if, wS_asg, wS_exS, wS_retS, wS_nxS, wS_nx, wS_ret, wpM_op2, wpM_op1, wpM_asT, wpM_trt, wpM_notT, wpM_andT, wpM_orT, wpM_andV, wpM_notE, wpM_ifE, wpM_lnil, wpM_lcons, wpM_tupE, wpM_lstF, wpM_frz, wpM_new, wpM_cal, wpM_calB, wpM_calF, wpM_isiE, wpM_vr, wpM_ct, wpM_meth, wpM_chn, wpM_cut, wpM_cutF, wpM_ono, wpM_osm, wpM_revT, wpM_lfE, wS_for, tgN, List.getElem?_cons_zero, List.getElem?_cons_succ, List.set_cons_zero, List.set_cons_succ, List.map_cons, List.map_nil, List.length_cons, List.length_nil, List.replicate_succ, List.replicate_zero, Nat.reduceAdd, Nat.reduceSub, List.cons_append, List.nil_append, eq_str ha.ok hb.ok, eq_str hb.ok oke, eq_str ha.ok oke]
    rcases Bool.eq_false_or_eq_true (a == b) with c0 | c0
    · simp only [c0, mkR_eq, wS_augS, wpM_dcN, wpM_rg1, wpM_rg2, wpM_enumA, wpM_iof, wpM_lfS, wS_rai, wS_try, wpM_catF, wpM_revA, wpM_newD, wpM_itemE, wpM_itemT, wpM_hasE, wpM_get1, wpM_get2, wS_putE, wS_putT, and_self, if_true, if_false, Bool.false_eq_true, reduceIte, wS_setS, wS_seq, wS_if, wS_asg, wS_exS, wS_retS, wS_nxS, wS_nx, wS_ret, wpM_op2, wpM_op1, wpM_asT, wpM_trt, wpM_notT, wpM_andT, wpM_orT, wpM_andV, wpM_notE, wpM_ifE, wpM_lnil, wpM_lcons, wpM_tupE, wpM_lstF, wpM_frz, wpM_new, wpM_cal, wpM_calB, wpM_calF, wpM_isiE, wpM_vr, wpM_ct, wpM_meth, wpM_chn, wpM_cut, wpM_cutF, wpM_ono, wpM_osm, wpM_revT, wpM_lfE, wS_for, tgN, List.getElem?_cons_zero, List.getElem?_cons_succ, List.set_cons_zero, List.set_cons_succ, List.map_cons, List.map_nil, List.length_cons, List.length_nil, List.replicate_succ, List.replicate_zero, Nat.reduceAdd, Nat.reduceSub, List.cons_append, List.nil_append, r0, s0, put0]
      exact fin 0 (by simp [kd, c0])
    · rcases Bool.eq_false_or_eq_true (b == Str.ofString "") with c1 | c1
      · simp only [c0, c1, mkR_eq, wS_augS, wpM_dcN, wpM_rg1, wpM_rg2, wpM_enumA, wpM_iof, wpM_lfS, wS_rai, wS_try, wpM_catF, wpM_revA, wpM_newD, wpM_itemE, wpM_itemT, wpM_hasE, wpM_get1, wpM_get2, wS_putE, wS_putT, and_self, if_true, if_false, Bool.false_eq_true, reduceIte, wS_setS, wS_seq, wS_if, wS_asg, wS_exS, wS_retS, wS_nxS, wS_nx, wS_ret, wpM_op2, wpM_op1, wpM_asT, wpM_trt, wpM_notT, wpM_andT, wpM_orT, wpM_andV, wpM_notE, wpM_ifE, wpM_lnil, wpM_lcons, wpM_tupE, wpM_lstF, wpM_frz, wpM_new, wpM_cal, wpM_calB, wpM_calF, wpM_isiE, wpM_vr, wpM_ct, wpM_meth, wpM_chn, wpM_cut, wpM_cutF, wpM_ono, wpM_osm, wpM_revT, wpM_lfE, wS_for, tgN, List.getElem?_cons_zero, List.getElem?_cons_succ, List.set_cons_zero, List.set_cons_succ, List.map_cons, List.map_nil, List.length_cons, List.length_nil, List.replicate_succ, List.replicate_zero, Nat.reduceAdd, Nat.reduceSub, List.cons_append, List.nil_append, r1, s1, put0]
        exact fin 1 (by simp [kd, c0, c1])
      · rcases Bool.eq_false_or_eq_true (a == Str.ofString "") with c2 | c2
        · simp only [c0, c1, c2, mkR_eq, wS_augS, wpM_dcN, wpM_rg1, wpM_rg2, wpM_enumA, wpM_iof, wpM_lfS, wS_rai, wS_try, wpM_catF, wpM_revA, wpM_newD, wpM_itemE, wpM_itemT, wpM_hasE, wpM_get1, wpM_get2, wS_putE, wS_putT, and_self, if_true, if_false, Bool.false_eq_true, reduceIte, wS_setS, wS_seq, wS_if, wS_asg, wS_exS, wS_retS, wS_nxS, wS_nx, wS_ret, wpM_op2, wpM_op1, wpM_asT, wpM_trt, wpM_notT, wpM_andT, wpM_orT, wpM_andV, wpM_notE, wpM_ifE, wpM_lnil, wpM_lcons, wpM_tupE, wpM_lstF, wpM_frz, wpM_new, wpM_cal, wpM_calB, wpM_calF, wpM_isiE, wpM_vr, wpM_ct, wpM_meth, wpM_chn, wpM_cut, wpM_cutF, wpM_ono, wpM_osm, wpM_revT, wpM_lfE, wS_for, tgN, List.getElem?_cons_zero, List.getElem?_cons_succ, List.set_cons_zero, List.set_cons_succ, List.map_cons, List.map_nil, List.length_cons, List.length_nil, List.replicate_succ, List.replicate_zero, Nat.reduceAdd, Nat.reduceSub, List.cons_append, List.nil_append, r2, s2, put0]
          exact fin 2 (by simp [kd, c0, c1, c2])
        · simp only [c0, c1, c2, mkR_eq, wS_augS, wpM_dcN, wpM_rg1, wpM_rg2, wpM_enumA, wpM_iof, wpM_lfS, wS_rai, wS_try, wpM_catF, wpM_revA, wpM_newD, wpM_itemE, wpM_itemT, wpM_hasE, wpM_get1, wpM_get2, wS_putE, wS_putT, and_self, if_true, if_false, Bool.false_eq_true, reduceIte, wS_setS, wS_seq, wS_if, wS_asg, wS_exS, wS_retS, wS_nxS, wS_nx, wS_ret, wpM_op2, wpM_op1, wpM_asT, wpM_trt, wpM_notT, wpM_andT, wpM_orT, wpM_andV, wpM_notE, wpM_ifE, wpM_lnil, wpM_lcons, wpM_tupE, wpM_lstF, wpM_frz, wpM_new, wpM_cal, wpM_calB, wpM_calF, wpM_isiE, wpM_vr, wpM_ct, wpM_meth, wpM_chn, wpM_cut, wpM_cutF, wpM_ono, wpM_osm, wpM_revT, wpM_lfE, wS_for, tgN, List.getElem?_cons_zero, List.getElem?_cons_succ, List.set_cons_zero, List.set_cons_succ, List.map_cons, List.map_nil, List.length_cons, List.length_nil, List.replicate_succ, List.replicate_zero, Nat.reduceAdd, Nat.reduceSub, List.cons_append, List.nil_append, r3, s3, put0]
          exact fin 3 (by simp [kd, c0, c1, c2])
  · rintro e S' ⟨e2, e3, rfl, rfl⟩
    refine ⟨okSrc_nil, ?_⟩
    rw [Nat.zero_add, List.take_length]
    have et : o_tupleA (S ++ some (.lst ((cnt row).map D.int)) :: []) [.ref S.length] = some (.tup ((cnt row).map D.int)) := by
      show (seqOf _ (.ref S.length)).map D.tup = _
      rw [seq_at at0]; rfl
    simp only [mkR_eq, wS_augS, wpM_dcN, wpM_rg1, wpM_rg2, wpM_enumA, wpM_iof, wpM_lfS, wS_rai, wS_try, wpM_catF, wpM_revA, wpM_newD, wpM_itemE, wpM_itemT, wpM_hasE, wpM_get1, wpM_get2, wS_putE, wS_putT, and_self, if_true, if_false, Bool.false_eq_true, reduceIte, wS_setS, wS_seq, wS_if, wS_asg, wS_exS, wS_retS, wS_nxS, wS_nx, wS_ret, wpM_op2, wpM_op1, wpM_asT, wpM_trt, wpM_notT, wpM_andT, wpM_orT, wpM_andV, wpM_notE, wpM_ifE, wpM_lnil, wpM_lcons, wpM_tupE, wpM_lstF, wpM_frz, wpM_new, wpM_cal, wpM_calB, wpM_calF, wpM_isiE, wpM_vr, wpM_ct, wpM_meth, wpM_chn, wpM_cut, wpM_cutF, wpM_ono, wpM_osm, wpM_revT, wpM_lfE, wS_for, tgN, List.getElem?_cons_zero, List.getElem?_cons_succ, List.set_cons_zero, List.set_cons_succ, List.map_cons, List.map_nil, List.length_cons, List.length_nil, List.replicate_succ, List.replicate_zero, Nat.reduceAdd, Nat.reduceSub, List.cons_append, List.nil_append, et]
    rw [scope_pure (by
      show pureL _ = true
      exact pureL_mem fun d hd => by obtain ⟨i, _, rfl⟩ := List.mem_map.mp hd; rfl), wpM_ok, trunc_self]; exact ⟨rfl, rfl⟩
end
end Z

end
section
set_option Elab.async false
set_option linter.all false
set_option maxRecDepth 100000
set_option maxHeartbeats 4000000
set_option autoImplicit false
namespace Z
open PySem PySem.Spec L2 Y PySem.W
section
variable {S : Sto} {Q : D → Sto → Prop} {E : Str → List (Str × D) → Sto → Prop} {d : D} {L : Str} {t : Tab} {n : Nat} {row : List D} {env : En}
theorem scanR_ok : ∀ {ds : List D} {i : Nat}, (∀ d ∈ ds, opB t d = true) → scanR t i ds = none
  | [], _, _ => rfl
  | d :: ds, i, h => by
    unfold scanR
    rw [if_pos (h d List.mem_cons_self)]
    exact scanR_ok fun x hx => h x (List.mem_cons_of_mem _ hx)
theorem rowF_ok (hr : RowOk t row) : rowF t (.tup row) = none := by
  show (if row.length ≤ 600 then scanR t 0 row else _) = none
  rw [if_pos hr.len]
  exact scanR_ok fun d hd => (hr.op d hd).opB
theorem row_fd (hr : RowOk t row) : fd (.tup row) = true := fdL_mem.mpr fun d hd => (hr.op d hd).fd
theorem sm_str {z : Str} {k : Nat} (h : FS k z) : smOk (.str z) := .inl (.inl ⟨z, rfl, h.ok⟩)
theorem sm_int {i : Int} : smOk (.int i) := .inl (.inr ⟨i, rfl⟩)
theorem cnt_ixv {k : Nat} {v : Int} (hv : v = (k : Int)) (hS : S[n]? = some (some (.lst ((cnt row).map D.int)))) (hk : k < 4) : o_ix S (.ref n) (.int v) = some (.int ((cnt row)[k]?.getD 0)) := by subst hv; exact ix_at hS (cnt_ix hk)
theorem row_holds_eq {es : List D} (hB : BkOk L es) (hr : RowOk (tabB L es) row) (hS : S[n]? = some (some (.dT (tabB L es)))) : M__law_row_holds [.tup [.str L, .tup es], .ref n, .tup row] S = .ok (.bl true) S := by
  refine eq_of_wp ?_
  unfold M__law_row_holds
  refine wpM_fn ?_
  unfold m__law_row_holds
  have hlen := hr.len
  simp only [mkR_eq, List.map_cons, List.map_nil, List.length_cons, List.length_nil, Nat.reduceAdd, Nat.reduceSub, List.replicate_succ, List.replicate_zero, List.cons_append, List.nil_append]
  rw [wS_seq, wS_asg]
  refine ok_eq (comp_rd hr rfl (by simp)) ?_
  simp only [mkR_eq, tgN, List.set_cons_succ, List.set_cons_zero]
  rw [wS_seq, wS_asg]
  refine ok_eq (comp_wr hr rfl (by simp)) ?_
  simp only [mkR_eq, tgN, List.set_cons_succ, List.set_cons_zero]
  have j1 : FS (3 * (row.map fA).length) (Txt.join (Str.ofString "") (row.map fA)) := FS.joined (fs_rd hr)
  have j2 : FS (3 * (row.map fZ).length) (Txt.join (Str.ofString "") (row.map fZ)) := FS.joined (fs_wr hr)
  refine wS_seqP (fun e S' => e = [some (.tup [.str L, .tup es]), some (.ref n), some (.tup row), some (.lst ((row.map fA).map D.str)), some (.lst ((row.map fZ).map D.str)), none, none, none, none, none, none, none, none] ∧ S' = S) ?_ ?_
  · simp only [mkR_eq, wS_augS, wpM_dcN, wpM_rg1, wpM_rg2, wpM_enumA, wpM_iof, wpM_lfS, wS_rai, wS_try, wpM_catF, wpM_revA, wpM_newD, wpM_itemE, wpM_itemT, wpM_hasE, wpM_get1, wpM_get2, wS_putE, wS_putT, and_self, if_true, if_false, Bool.false_eq_true, reduceIte, wS_setS, wS_seq, wS_if, wS_asg, wS_exS, wS_retS, wS_nxS, wS_nx, wS_ret, wpM_op2, wpM_op1, wpM_asT, wpM_trt, wpM_notT, wpM_andT, wpM_orT, wpM_andV, wpM_notE, wpM_ifE, wpM_lnil, wpM_lcons, wpM_tupE, wpM_lstF, wpM_frz, wpM_new, wpM_cal, wpM_calB, wpM_calF, wpM_isiE, wpM_vr, wpM_ct, wpM_meth, wpM_chn, wpM_cut, wpM_cutF, wpM_ono, wpM_osm, wpM_revT, wpM_lfE, wS_for, tgN, List.getElem?_cons_zero, List.getElem?_cons_succ, List.set_cons_zero, List.set_cons_succ, List.map_cons, List.map_nil, List.length_cons, List.length_nil, List.replicate_succ, List.replicate_zero, Nat.reduceAdd, Nat.reduceSub, List.cons_append, List.nil_append, read_eq hr, written_eq hr, wpM_ok, tyS, join_rd hr, join_wr hr, same_self (sm_str j1), same_self (sm_str j2), tru, Bool.not_true]
  rintro e S1 ⟨rfl, rfl⟩
  refine wS_seqP (fun e S' => e = [some (.tup [.str L, .tup es]), some (.ref n), some (.tup row), some (.lst ((row.map fA).map D.str)), some (.lst ((row.map fZ).map D.str)), none, none, none, none, none, none, none, none] ∧ S' = S1) ?_ ?_
  · simp only [mkR_eq, wS_augS, wpM_dcN, wpM_rg1, wpM_rg2, wpM_enumA, wpM_iof, wpM_lfS, wS_rai, wS_try, wpM_catF, wpM_revA, wpM_newD, wpM_itemE, wpM_itemT, wpM_hasE, wpM_get1, wpM_get2, wS_putE, wS_putT, and_self, if_true, if_false, Bool.false_eq_true, reduceIte, wS_setS, wS_seq, wS_if, wS_asg, wS_exS, wS_retS, wS_nxS, wS_nx, wS_ret, wpM_op2, wpM_op1, wpM_asT, wpM_trt, wpM_notT, wpM_andT, wpM_orT, wpM_andV, wpM_notE, wpM_ifE, wpM_lnil, wpM_lcons, wpM_tupE, wpM_lstF, wpM_frz, wpM_new, wpM_cal, wpM_calB, wpM_calF, wpM_isiE, wpM_vr, wpM_ct, wpM_meth, wpM_chn, wpM_cut, wpM_cutF, wpM_ono, wpM_osm, wpM_revT, wpM_lfE, wS_for, tgN, List.getElem?_cons_zero, List.getElem?_cons_succ, List.set_cons_zero, List.set_cons_succ, List.map_cons, List.map_nil, List.length_cons, List.length_nil, List.replicate_succ, List.replicate_zero, Nat.reduceAdd, Nat.reduceSub, List.cons_append, List.nil_append, cost_eq hB hr, wpM_ok]
    refine ok_eq (comp_cost hr rfl (by simp) rfl (by decide) hS) ?_
    simp only [mkR_eq, wS_augS, wpM_dcN, wpM_rg1, wpM_rg2, wpM_enumA, wpM_iof, wpM_lfS, wS_rai, wS_try, wpM_catF, wpM_revA, wpM_newD, wpM_itemE, wpM_itemT, wpM_hasE, wpM_get1, wpM_get2, wS_putE, wS_putT, and_self, if_true, if_false, Bool.false_eq_true, reduceIte, wS_setS, wS_seq, wS_if, wS_asg, wS_exS, wS_retS, wS_nxS, wS_nx, wS_ret, wpM_op2, wpM_op1, wpM_asT, wpM_trt, wpM_notT, wpM_andT, wpM_orT, wpM_andV, wpM_notE, wpM_ifE, wpM_lnil, wpM_lcons, wpM_tupE, wpM_lstF, wpM_frz, wpM_new, wpM_cal, wpM_calB, wpM_calF, wpM_isiE, wpM_vr, wpM_ct, wpM_meth, wpM_chn, wpM_cut, wpM_cutF, wpM_ono, wpM_osm, wpM_revT, wpM_lfE, wS_for, tgN, List.getElem?_cons_zero, List.getElem?_cons_succ, List.set_cons_zero, List.set_cons_succ, List.map_cons, List.map_nil, List.length_cons, List.length_nil, List.replicate_succ, List.replicate_zero, Nat.reduceAdd, Nat.reduceSub, List.cons_append, List.nil_append, sum_lst, same_self sm_int, wpM_ok, tru, Bool.not_true]
  rintro e S2 ⟨rfl, rfl⟩
  rw [wS_seq, wS_asg, wpM_new, wpM_lstF, wpM_lnil, if_pos (show ([] : List D).length ≤ sizeLine from le_sz (n := 0) rfl)]
  simp only [mkR_eq, tgN, List.set_cons_succ, List.set_cons_zero]
  rw [wS_seq, wS_asg, wpM_new, wpM_lstF, wpM_lnil, if_pos (show ([] : List D).length ≤ sizeLine from le_sz (n := 0) rfl)]
  simp only [mkR_eq, tgN, List.set_cons_succ, List.set_cons_zero]
  rw [wS_seq, wS_asg, wpM_new]
  simp only [mkR_eq, wpM_lstF, wpM_lcons, wpM_lnil, wpM_ct, List.length_cons, List.length_nil, Nat.reduceAdd, le_sz (n := 4) rfl, if_true, tgN, List.set_cons_succ, List.set_cons_zero]
  rw [show (S2 ++ [some (Ob.lst [])]).length = S2.length + 1 by simp, show (S2 ++ [some (Ob.lst [])] ++ [some (Ob.lst [])]).length = S2.length + 2 by simp, show S2 ++ [some (Ob.lst [])] ++ [some (Ob.lst [])] ++ [some (Ob.lst [D.int 0, D.int 0, D.int 0, D.int 0])] = S2 ++ some (Ob.lst []) :: some (Ob.lst []) :: some (Ob.lst [D.int 0, D.int 0, D.int 0, D.int 0]) :: [] by simp]
  rw [wS_seq]
  simp only [mkR_eq, wS_for, wpM_iof, wpM_vr, List.getElem?_cons_succ, List.getElem?_cons_zero, srcOf, wpM_lfE]
  refine wS_loop (fun i e S' => ∃ e8 e9 e10 e11, e = [some (.tup [.str L, .tup es]), some (.ref n), some (.tup row), some (.lst ((row.map fA).map D.str)), some (.lst ((row.map fZ).map D.str)), some (.ref S2.length), some (.ref (S2.length + 1)), some (.ref (S2.length + 2)), e8, e9, e10, e11, none] ∧
    S' = S2 ++ some (.lst ((row.take i).map fun d => D.str (upF d))) :: some (.lst ((row.take i).map fun d => D.str (loF d))) :: some (.lst ((cnt (row.take i)).map D.int)) :: []) row 0 _ _ ⟨none, none, none, none, rfl, rfl⟩ ?_ ?_
  · rintro j d e S' hj ⟨e8, e9, e10, e11, rfl, rfl⟩
    obtain ⟨a, b, c, rfl, ha, hb, _⟩ := hr.op d (List.mem_of_getElem? hj)
    have hjl := (List.getElem?_eq_some_iff.mp hj).1
    have la := ha.len
    have lb := hb.len
    rw [Nat.zero_add]
    refine ⟨okSrc_nil, _, rfl, ?_⟩
    have ew : (if (b.length : Int) > (a.length : Int) then (b.length : Int) else (a.length : Int)) = wid a b := rfl
    have sz : ∀ {f : D → D}, ((row.take j).map f).length < sizeLine := fun {f} => small_sz (by rw [List.length_map, List.length_take]; omega)
    have fin : ∀ (k : Nat) (x : D), kd (.tup [.str a, .str b]) = k → ∃ e8 e9 e10 e11, [some (D.tup [.str L, .tup es]), some (.ref n), some (.tup row), some (.lst ((row.map fA).map D.str)), some (.lst ((row.map fZ).map D.str)), some (.ref S2.length), some (.ref (S2.length + 1)), some (.ref (S2.length + 2)), some (.str a), some (.str b), some (.int (wid a b)), some x, none] =
        [some (D.tup [.str L, .tup es]), some (.ref n), some (.tup row), some (.lst ((row.map fA).map D.str)), some (.lst ((row.map fZ).map D.str)), some (.ref S2.length), some (.ref (S2.length + 1)), some (.ref (S2.length + 2)), e8, e9, e10, e11, none] ∧
        S2 ++ some (Ob.lst ((row.take j).map (fun d => D.str (upF d)) ++ [D.str (fill a (wid a b))])) :: some (Ob.lst ((row.take j).map (fun d => D.str (loF d)) ++ [D.str (fill b (wid a b))])) :: some (Ob.lst (((cnt (row.take j)).set k ((cnt (row.take j))[k]?.getD 0 + 1)).map D.int)) :: [] =
        S2 ++ some (.lst ((row.take (j + 1)).map fun d => D.str (upF d))) :: some (.lst ((row.take (j + 1)).map fun d => D.str (loF d))) :: some (.lst ((cnt (row.take (j + 1))).map D.int)) :: [] := fun k x hk => ⟨_, _, _, _, rfl, by
          rw [cnt_take hj, bump, hk, map_take hj, map_take hj]; rfl⟩
    generalize hA : (row.take j).map (fun d => D.str (upF d)) ++ [D.str (fill a (wid a b))] = A at fin
    generalize hZ : (row.take j).map (fun d => D.str (loF d)) ++ [D.str (fill b (wid a b))] = Z0 at fin
    have r0 := cnt_ixv (S := S2 ++ some (.lst A) :: some (.lst Z0) :: some (.lst ((cnt (row.take j)).map D.int)) :: []) (k := 0) (v := 0) rfl at2 (by decide)
    have r1 := cnt_ixv (S := S2 ++ some (.lst A) :: some (.lst Z0) :: some (.lst ((cnt (row.take j)).map D.int)) :: []) (k := 1) (v := 1) rfl at2 (by decide)
    have r2 := cnt_ixv (S := S2 ++ some (.lst A) :: some (.lst Z0) :: some (.lst ((cnt (row.take j)).map D.int)) :: []) (k := 2) (v := 2) rfl at2 (by decide)
    have r3 := cnt_ixv (S := S2 ++ some (.lst A) :: some (.lst Z0) :: some (.lst ((cnt (row.take j)).map D.int)) :: []) (k := 3) (v := 3) rfl at2 (by decide)
    have s0 := fun x => cnt_set (S := S2 ++ some (.lst A) :: some (.lst Z0) :: some (.lst ((cnt (row.take j)).map D.int)) :: []) (k := 0) (x := x) (v := 0) rfl at2 (by decide)
    have s1 := fun x => cnt_set (S := S2 ++ some (.lst A) :: some (.lst Z0) :: some (.lst ((cnt (row.take j)).map D.int)) :: []) (k := 1) (x := x) (v := 1) rfl at2 (by decide)
    have s2 := fun x => cnt_set (S := S2 ++ some (.lst A) :: some (.lst Z0) :: some (.lst ((cnt (row.take j)).map D.int)) :: []) (k := 2) (x := x) (v := 2) rfl at2 (by decide)
    have s3 := fun x => cnt_set (S := S2 ++ some (.lst A) :: some (.lst Z0) :: some (.lst ((cnt (row.take j)).map D.int)) :: []) (k := 3) (x := x) (v := 3) rfl at2 (by decide)
    have oke : PyData.strOk (Str.ofString "") = true := strOk_of ""
    simp only [mkR_eq, wS_augS, wpM_dcN, wpM_rg1, wpM_rg2, wpM_enumA, wpM_iof, wpM_lfS, wS_rai, wS_try, wpM_catF, wpM_revA, wpM_newD, wpM_itemE, wpM_itemT, wpM_hasE, wpM_get1, wpM_get2, wS_putE, wS_putT, and_self, if_true, if_false, Bool.false_eq_true, reduceIte, wS_setS, wS_seq, wS_if, wS_asg, wS_exS, wS_retS, wS_nxS, wS_nx, wS_ret, wpM_op2, wpM_op1, wpM_asT, wpM_trt, wpM_notT, wpM_andT, wpM_orT, wpM_andV, wpM_notE, wpM_ifE, wpM_lnil, wpM_lcons, wpM_tupE, wpM_lstF, wpM_frz, wpM_new, wpM_cal, wpM_calB, wpM_calF, wpM_isiE, wpM_vr, wpM_ct, wpM_meth, wpM_chn, wpM_cut, wpM_cutF, wpM_ono, wpM_osm, wpM_revT, wpM_lfE, wS_for, tgN, List.getElem?_cons_zero, List.getElem?_cons_succ, List.set_cons_zero, List.set_cons_succ, List.map_cons, List.map_nil, List.length_cons, List.length_nil, List.replicate_succ, List.replicate_zero, Nat.reduceAdd, Nat.reduceSub, List.cons_append, List.nil_append, len_str (show a.length ≤ 16777216 by omega), len_str (show b.length ≤ 16777216 by omega), max2, ew, sub_int, mul_dash wid_a (wid_3 ha hb), mul_dash wid_b (wid_3 ha hb), add_dash ha wid_a (wid_3 ha hb), add_dash hb wid_b (wid_3 ha hb), tyL at0, app_at at0 sz, put0, tyL at1, app_at at1 sz, put1, hA, hZ, eq_str ha.ok hb.ok, eq_str hb.ok oke, eq_str ha.ok oke]
    rcases Bool.eq_false_or_eq_true (a == b) with c0 | c0
    · simp only [c0, mkR_eq, wS_augS, wpM_dcN, wpM_rg1, wpM_rg2, wpM_enumA, wpM_iof, wpM_lfS, wS_rai, wS_try, wpM_catF, wpM_revA, wpM_newD, wpM_itemE, wpM_itemT, wpM_hasE, wpM_get1, wpM_get2, wS_putE, wS_putT, and_self, if_true, if_false, Bool.false_eq_true, reduceIte, wS_setS, wS_seq, wS_if, wS_asg, wS_exS, wS_retS, wS_nxS, wS_nx, wS_ret, wpM_op2, wpM_op1, wpM_asT, wpM_trt, wpM_notT, wpM_andT, wpM_orT, wpM_andV, wpM_notE, wpM_ifE, wpM_lnil, wpM_lcons, wpM_tupE, wpM_lstF, wpM_frz, wpM_new, wpM_cal, wpM_calB, wpM_calF, wpM_isiE, wpM_vr, wpM_ct, wpM_meth, wpM_chn, wpM_cut, wpM_cutF, wpM_ono, wpM_osm, wpM_revT, wpM_lfE, wS_for, tgN, List.getElem?_cons_zero, List.getElem?_cons_succ, List.set_cons_zero, List.set_cons_succ, List.map_cons, List.map_nil, List.length_cons, List.length_nil, List.replicate_succ, List.replicate_zero, Nat.reduceAdd, Nat.reduceSub, List.cons_append, List.nil_append, r0, add_int, s0, put2]
      exact fin 0 _ (by simp [kd, c0])
    · rcases Bool.eq_false_or_eq_true (b == Str.ofString "") with c1 | c1
      · simp only [c0, c1, mkR_eq, wS_augS, wpM_dcN, wpM_rg1, wpM_rg2, wpM_enumA, wpM_iof, wpM_lfS, wS_rai, wS_try, wpM_catF, wpM_revA, wpM_newD, wpM_itemE, wpM_itemT, wpM_hasE, wpM_get1, wpM_get2, wS_putE, wS_putT, and_self, if_true, if_false, Bool.false_eq_true, reduceIte, wS_setS, wS_seq, wS_if, wS_asg, wS_exS, wS_retS, wS_nxS, wS_nx, wS_ret, wpM_op2, wpM_op1, wpM_asT, wpM_trt, wpM_notT, wpM_andT, wpM_orT, wpM_andV, wpM_notE, wpM_ifE, wpM_lnil, wpM_lcons, wpM_tupE, wpM_lstF, wpM_frz, wpM_new, wpM_cal, wpM_calB, wpM_calF, wpM_isiE, wpM_vr, wpM_ct, wpM_meth, wpM_chn, wpM_cut, wpM_cutF, wpM_ono, wpM_osm, wpM_revT, wpM_lfE, wS_for, tgN, List.getElem?_cons_zero, List.getElem?_cons_succ, List.set_cons_zero, List.set_cons_succ, List.map_cons, List.map_nil, List.length_cons, List.length_nil, List.replicate_succ, List.replicate_zero, Nat.reduceAdd, Nat.reduceSub, List.cons_append, List.nil_append, r1, add_int, s1, put2]
        exact fin 1 _ (by simp [kd, c0, c1])
      · rcases Bool.eq_false_or_eq_true (a == Str.ofString "") with c2 | c2
        · simp only [c0, c1, c2, mkR_eq, wS_augS, wpM_dcN, wpM_rg1, wpM_rg2, wpM_enumA, wpM_iof, wpM_lfS, wS_rai, wS_try, wpM_catF, wpM_revA, wpM_newD, wpM_itemE, wpM_itemT, wpM_hasE, wpM_get1, wpM_get2, wS_putE, wS_putT, and_self, if_true, if_false, Bool.false_eq_true, reduceIte, wS_setS, wS_seq, wS_if, wS_asg, wS_exS, wS_retS, wS_nxS, wS_nx, wS_ret, wpM_op2, wpM_op1, wpM_asT, wpM_trt, wpM_notT, wpM_andT, wpM_orT, wpM_andV, wpM_notE, wpM_ifE, wpM_lnil, wpM_lcons, wpM_tupE, wpM_lstF, wpM_frz, wpM_new, wpM_cal, wpM_calB, wpM_calF, wpM_isiE, wpM_vr, wpM_ct, wpM_meth, wpM_chn, wpM_cut, wpM_cutF, wpM_ono, wpM_osm, wpM_revT, wpM_lfE, wS_for, tgN, List.getElem?_cons_zero, List.getElem?_cons_succ, List.set_cons_zero, List.set_cons_succ, List.map_cons, List.map_nil, List.length_cons, List.length_nil, List.replicate_succ, List.replicate_zero, Nat.reduceAdd, Nat.reduceSub, List.cons_append, List.nil_append, r2, add_int, s2, put2]
          exact fin 2 _ (by simp [kd, c0, c1, c2])
        · simp only [c0, c1, c2, mkR_eq, wS_augS, wpM_dcN, wpM_rg1, wpM_rg2, wpM_enumA, wpM_iof, wpM_lfS, wS_rai, wS_try, wpM_catF, wpM_revA, wpM_newD, wpM_itemE, wpM_itemT, wpM_hasE, wpM_get1, wpM_get2, wS_putE, wS_putT, and_self, if_true, if_false, Bool.false_eq_true, reduceIte, wS_setS, wS_seq, wS_if, wS_asg, wS_exS, wS_retS, wS_nxS, wS_nx, wS_ret, wpM_op2, wpM_op1, wpM_asT, wpM_trt, wpM_notT, wpM_andT, wpM_orT, wpM_andV, wpM_notE, wpM_ifE, wpM_lnil, wpM_lcons, wpM_tupE, wpM_lstF, wpM_frz, wpM_new, wpM_cal, wpM_calB, wpM_calF, wpM_isiE, wpM_vr, wpM_ct, wpM_meth, wpM_chn, wpM_cut, wpM_cutF, wpM_ono, wpM_osm, wpM_revT, wpM_lfE, wS_for, tgN, List.getElem?_cons_zero, List.getElem?_cons_succ, List.set_cons_zero, List.set_cons_succ, List.map_cons, List.map_nil, List.length_cons, List.length_nil, List.replicate_succ, List.replicate_zero, Nat.reduceAdd, Nat.reduceSub, List.cons_append, List.nil_append, r3, add_int, s3, put2]
          exact fin 3 _ (by simp [kd, c0, c1, c2])
  · rintro e S' ⟨e8, e9, e10, e11, rfl, rfl⟩
    refine ⟨okSrc_nil, ?_⟩
    rw [Nat.zero_add, List.take_length]
    have j3 : FS (6 * (row.map upF).length) (Txt.join (Str.ofString "") (row.map upF)) := FS.joined (strs_fs (up_fs hr))
    have j4 : FS (6 * (row.map loF).length) (Txt.join (Str.ofString "") (row.map loF)) := FS.joined (strs_fs (lo_fs hr))
    have sm5 : smOk (.tup [.str (Txt.join (Str.ofString "") (row.map upF)), .str (Txt.join (Str.ofString "") (row.map loF))]) := .inr ⟨_, rfl, fun y hy => by
      rcases List.mem_cons.mp hy with rfl | hy
      · exact .inl ⟨_, rfl, j3.ok⟩
      · rw [List.mem_singleton.mp hy]; exact .inl ⟨_, rfl, j4.ok⟩, by simp⟩
    have sm6 : smOk (.tup ((cnt row).map D.int)) := .inr ⟨_, rfl, fun y hy => by
      obtain ⟨i, _, rfl⟩ := List.mem_map.mp hy
      exact .inr ⟨i, rfl⟩, by rw [List.length_map, cnt_len]; decide⟩
    have et : o_tupleA (S2 ++ some (.lst (row.map fun d => D.str (upF d))) :: some (.lst (row.map fun d => D.str (loF d))) :: some (.lst ((cnt row).map D.int)) :: []) [.ref (S2.length + 2)] = some (.tup ((cnt row).map D.int)) := by
      show (seqOf _ (.ref (S2.length + 2))).map D.tup = _
      rw [seq_at at2]; rfl
    have ef : dueD (lenT (.tup row)) (rowF (tabB L es) (.tup row)) = .int row.length := by rw [rowF_ok hr]; rfl
    simp only [mkR_eq, wS_augS, wpM_dcN, wpM_rg1, wpM_rg2, wpM_enumA, wpM_iof, wpM_lfS, wS_rai, wS_try, wpM_catF, wpM_revA, wpM_newD, wpM_itemE, wpM_itemT, wpM_hasE, wpM_get1, wpM_get2, wS_putE, wS_putT, and_self, if_true, if_false, Bool.false_eq_true, reduceIte, wS_setS, wS_seq, wS_if, wS_asg, wS_exS, wS_retS, wS_nxS, wS_nx, wS_ret, wpM_op2, wpM_op1, wpM_asT, wpM_trt, wpM_notT, wpM_andT, wpM_orT, wpM_andV, wpM_notE, wpM_ifE, wpM_lnil, wpM_lcons, wpM_tupE, wpM_lstF, wpM_frz, wpM_new, wpM_cal, wpM_calB, wpM_calF, wpM_isiE, wpM_vr, wpM_ct, wpM_meth, wpM_chn, wpM_cut, wpM_cutF, wpM_ono, wpM_osm, wpM_revT, wpM_lfE, wS_for, tgN, List.getElem?_cons_zero, List.getElem?_cons_succ, List.set_cons_zero, List.set_cons_succ, List.map_cons, List.map_nil, List.length_cons, List.length_nil, List.replicate_succ, List.replicate_zero, Nat.reduceAdd, Nat.reduceSub, List.cons_append, List.nil_append, lines_eq hr, kinds_eq hr, wpM_ok, tyS, join_ref (f := upF) at0 (up_fs hr) (show 6 * row.length ≤ 16777216 by omega), join_ref (f := loF) at1 (lo_fs hr) (show 6 * row.length ≤ 16777216 by omega), le_sz (n := 2) rfl, same_self sm5, tru, Bool.not_true, et, same_self sm6, told hB (row_fd hr) (fun ds hds => by cases hds; omega), ef, len_tup, same_self sm_int]
    rw [scope_bl, wpM_ok, trunc_self]; exact ⟨rfl, rfl⟩
end
end Z

end
section
set_option Elab.async false
set_option linter.all false
set_option maxRecDepth 100000
set_option maxHeartbeats 4000000
set_option autoImplicit false
namespace Z
open PySem PySem.Spec L2 Y PySem.W
section
variable {rest S : Sto} {Q : D → Sto → Prop} {E : Str → List (Str × D) → Sto → Prop} {d : D} {L : Str} {t : Tab} {n : Nat} {row : List D} {env : En} {j : Nat}
theorem put_pos {kvs : Tab} {k : List Key} {d : D} : 0 < (putD kvs k d).length := by
  unfold putD
  split
  · rename_i h
    rw [List.length_map]
    obtain ⟨q, hq, _⟩ := List.any_eq_true.mp h
    exact List.length_pos_of_mem hq
  · rw [List.length_append]; exact Nat.lt_add_left _ (Nat.lt_succ_self 0)
theorem addE_pos : ∀ {es : List D} {t : Tab}, 0 < t.length → 0 < (addE t es).length
  | [], t, h => h
  | e :: es, t, h => by
    refine addE_pos (es := es) ?_
    unfold addE1
    split
    · exact put_pos
    · exact h
theorem addL_pos : ∀ {cs : List Nat} {t : Tab}, 0 < t.length ∨ 0 < cs.length → 0 < (addL t cs).length
  | [], t, h => h.elim id fun h => absurd h (by simp)
  | c :: cs, t, _ => addL_pos (cs := cs) (.inl put_pos)
theorem tabB_pos {es : List D} (h : 0 < L.length) : 0 < (tabB L es).length := addE_pos (addL_pos (.inr h))
theorem ops_ok (ht : KV3 t) : ∀ d ∈ (ksT t).mergeSort leD, OpT t d := fun d hd => by
  obtain ⟨r, w, c, rfl, hr, hw, e, _⟩ := ht.keys (List.mem_mergeSort.mp hd)
  exact ⟨r, w, c, rfl, hr, hw, e⟩
theorem ops_len : ((ksT t).mergeSort leD).length = t.length := by rw [List.length_mergeSort]; exact List.length_map _
theorem sorted_ops (ht : KV3 t) (hS : S[n]? = some (some (.dT t))) : o_sortedT S [.ref n] = some ((ksT t).mergeSort leD) := by
  simp only [o_sortedT, hS]
  exact sortK_pairs fun d hd => by obtain ⟨r, w, c, e, _⟩ := ht.keys hd; exact ⟨r, w, e⟩
theorem J_sign {I : Sto → Prop} {m : EM} {i k : Nat} (h : env[i]? = some (some (.str L))) (hL : FS k L) (hk : k ≤ 1000000) (hm : J I env m (IsI 0 ((L.length : Int) - 1))) : J I env (op2 o_ix (vr i) m) (IsS 1) :=
  J_op2 (J_vr (P := fun d => d = .str L) h rfl) hm fun S x y e1 ⟨v, e2, v0, v1⟩ => by
    subst e1 e2
    obtain ⟨c, _, f, e⟩ := ixS_at (v := v) hL hk v0 (by omega)
    exact ⟨_, e S, _, rfl, f⟩
theorem drawn_wp {most : Int} (hS : PP rest S) (hj : rest[j]? = some (some (.dT t))) (ht : KV3 t) (hp : 0 < t.length) (htl : t.length ≤ 2000) (hm : most = (n : Int)) (hn : n ≤ 500) (k : ∀ row S', PP rest S' → RowOk t row → row.length ≤ n → Q (.tup row) S') : wpM (M__law_drawn_row [.ref 1, .ref (j + 2), .int most] S) Q E := by
  unfold M__law_drawn_row
  refine wpM_fn ?_
  unfold m__law_drawn_row
  have hops := ops_ok ht
  have hol := ops_len (t := t)
  simp only [mkR_eq, List.map_cons, List.map_nil, List.length_cons, List.length_nil, Nat.reduceAdd, Nat.reduceSub, List.replicate_succ, List.replicate_zero, List.cons_append, List.nil_append]
  refine asg_J (P := fun d => d = .lst ((ksT t).mergeSort leD)) (I := PP rest) (fun S hS => ?_) hS ?_
  · simp only [mkR_eq, wS_augS, wpM_dcN, wpM_rg1, wpM_rg2, wpM_enumA, wpM_iof, wpM_lfS, wS_rai, wS_try, wpM_catF, wpM_revA, wpM_newD, wpM_itemE, wpM_itemT, wpM_hasE, wpM_get1, wpM_get2, wS_putE, wS_putT, and_self, if_true, if_false, Bool.false_eq_true, reduceIte, wS_setS, wS_seq, wS_if, wS_asg, wS_exS, wS_retS, wS_nxS, wS_nx, wS_ret, wpM_op2, wpM_op1, wpM_asT, wpM_trt, wpM_notT, wpM_andT, wpM_orT, wpM_andV, wpM_notE, wpM_ifE, wpM_lnil, wpM_lcons, wpM_tupE, wpM_lstF, wpM_frz, wpM_new, wpM_cal, wpM_calB, wpM_calF, wpM_isiE, wpM_vr, wpM_ct, wpM_meth, wpM_chn, wpM_cut, wpM_cutF, wpM_ono, wpM_osm, wpM_revT, wpM_lfE, wS_for, tgN, List.getElem?_cons_zero, List.getElem?_cons_succ, List.set_cons_zero, List.set_cons_succ, List.map_cons, List.map_nil, List.length_cons, List.length_nil, List.replicate_succ, List.replicate_zero, Nat.reduceAdd, Nat.reduceSub, List.cons_append, List.nil_append, sorted_ops ht (hS.at hj)]
    exact ⟨by trivial, hS⟩
  generalize (ksT t).mergeSort leD = ops at hops hol
  rintro d S1 rfl hS1
  dsimp only [List.set_cons_zero, List.set_cons_succ]
  refine asg_J (P := IsI 0 (3 - 1)) (I := PP rest) (J_draw rfl (J_ct rfl) (by decide) (by decide)) hS1 ?_
  rintro d S2 ⟨hb, rfl, hb0, hb1⟩ hS2
  dsimp only [List.set_cons_zero, List.set_cons_succ]
  refine newE0_J hS2 ?_
  intro S3 hS3
  dsimp only [List.set_cons_zero, List.set_cons_succ]
  rw [wS_seq, wS_for]
  simp only [mkR_eq, wpM_rg1, wpM_lcons, wpM_lnil, wpM_cal, wpM_op2, wpM_vr, wpM_ct, List.getElem?_cons_succ, List.getElem?_cons_zero, add_int, wpM_lfS, wpM_lfE]
  refine draw_wp hS3 (by omega) (by omega) ?_
  intro v S4 hS4 v0 v1
  obtain ⟨q, hq⟩ := Int.eq_ofNat_of_zero_le v0
  refine ⟨rgOk_of (by omega) (by omega), ?_⟩
  rw [show rgL 0 v = rgL 0 (q : Int) by rw [hq]]
  refine wS_loop (fun i e S' => ∃ row e6 e7, e = [some (.ref 1), some (.ref (j + 2)), some (.int most), some (.lst ops), some (.int hb), some (.ref (rest.length + 2)), e6, e7] ∧ PP (rest ++ [some (.lst row)]) S' ∧ LP (OpT t) i row) _ 0 _ _ ⟨[], none, none, rfl, hS4, fun d hd => (nomatch hd), rfl⟩ ?_ ?_
  · rintro i d e S5 hi ⟨row, e6, e7, rfl, hS5, hr⟩
    obtain ⟨rfl, hiq⟩ := rgL_get hi
    rw [Nat.zero_add] at hr ⊢
    have hrl := hr.2
    refine ⟨okSrc_nil, _, rfl, ?_⟩
    dsimp only [List.set_cons_zero, List.set_cons_succ]
    refine asg_J (P := OpT t) (I := PP (rest ++ [some (.lst row)])) (J_pickV rfl (J_draw rfl (J_lenL rfl) (by omega) (by omega)) hops) hS5 ?_
    intro op S6 hop hS6
    dsimp only [List.set_cons_zero, List.set_cons_succ]
    refine wS_seqP (fun e S' => ∃ op', OpT t op' ∧ e = [some (.ref 1), some (.ref (j + 2)), some (.int most), some (.lst ops), some (.int hb), some (.ref (rest.length + 2)), some (.int i), some op'] ∧ PP (rest ++ [some (.lst row)]) S') ?_ ?_
    · simp only [mkR_eq, wS_augS, wpM_dcN, wpM_rg1, wpM_rg2, wpM_enumA, wpM_iof, wpM_lfS, wS_rai, wS_try, wpM_catF, wpM_revA, wpM_newD, wpM_itemE, wpM_itemT, wpM_hasE, wpM_get1, wpM_get2, wS_putE, wS_putT, and_self, if_true, if_false, Bool.false_eq_true, reduceIte, wS_setS, wS_seq, wS_if, wS_asg, wS_exS, wS_retS, wS_nxS, wS_nx, wS_ret, wpM_op2, wpM_op1, wpM_asT, wpM_trt, wpM_notT, wpM_andT, wpM_orT, wpM_andV, wpM_notE, wpM_ifE, wpM_lnil, wpM_lcons, wpM_tupE, wpM_lstF, wpM_frz, wpM_new, wpM_cal, wpM_calB, wpM_calF, wpM_isiE, wpM_vr, wpM_ct, wpM_meth, wpM_chn, wpM_cut, wpM_cutF, wpM_ono, wpM_osm, wpM_revT, wpM_lfE, wS_for, tgN, List.getElem?_cons_zero, List.getElem?_cons_succ, List.set_cons_zero, List.set_cons_succ, List.map_cons, List.map_nil, List.length_cons, List.length_nil, List.replicate_succ, List.replicate_zero, Nat.reduceAdd, Nat.reduceSub, List.cons_append, List.nil_append, eq_int]
      have h0 : ∃ op', op' ∈ ops ∧ ∀ S, o_ix S (.lst ops) (.int 0) = some op' := ix_lst (ds := ops) (v := 0) (by omega) (by omega)
      obtain ⟨op0, hm0, e0⟩ := h0
      rcases Bool.eq_false_or_eq_true (hb == 0) with c | c
      · simp only [c, mkR_eq, wS_augS, wpM_dcN, wpM_rg1, wpM_rg2, wpM_enumA, wpM_iof, wpM_lfS, wS_rai, wS_try, wpM_catF, wpM_revA, wpM_newD, wpM_itemE, wpM_itemT, wpM_hasE, wpM_get1, wpM_get2, wS_putE, wS_putT, and_self, if_true, if_false, Bool.false_eq_true, reduceIte, wS_setS, wS_seq, wS_if, wS_asg, wS_exS, wS_retS, wS_nxS, wS_nx, wS_ret, wpM_op2, wpM_op1, wpM_asT, wpM_trt, wpM_notT, wpM_andT, wpM_orT, wpM_andV, wpM_notE, wpM_ifE, wpM_lnil, wpM_lcons, wpM_tupE, wpM_lstF, wpM_frz, wpM_new, wpM_cal, wpM_calB, wpM_calF, wpM_isiE, wpM_vr, wpM_ct, wpM_meth, wpM_chn, wpM_cut, wpM_cutF, wpM_ono, wpM_osm, wpM_revT, wpM_lfE, wS_for, tgN, List.getElem?_cons_zero, List.getElem?_cons_succ, List.set_cons_zero, List.set_cons_succ, List.map_cons, List.map_nil, List.length_cons, List.length_nil, List.replicate_succ, List.replicate_zero, Nat.reduceAdd, Nat.reduceSub, List.cons_append, List.nil_append]
        refine draw_wp hS6 (by decide) (by decide) ?_
        intro u S7 hS7 u0 u1
        simp only [mkR_eq, wS_augS, wpM_dcN, wpM_rg1, wpM_rg2, wpM_enumA, wpM_iof, wpM_lfS, wS_rai, wS_try, wpM_catF, wpM_revA, wpM_newD, wpM_itemE, wpM_itemT, wpM_hasE, wpM_get1, wpM_get2, wS_putE, wS_putT, and_self, if_true, if_false, Bool.false_eq_true, reduceIte, wS_setS, wS_seq, wS_if, wS_asg, wS_exS, wS_retS, wS_nxS, wS_nx, wS_ret, wpM_op2, wpM_op1, wpM_asT, wpM_trt, wpM_notT, wpM_andT, wpM_orT, wpM_andV, wpM_notE, wpM_ifE, wpM_lnil, wpM_lcons, wpM_tupE, wpM_lstF, wpM_frz, wpM_new, wpM_cal, wpM_calB, wpM_calF, wpM_isiE, wpM_vr, wpM_ct, wpM_meth, wpM_chn, wpM_cut, wpM_cutF, wpM_ono, wpM_osm, wpM_revT, wpM_lfE, wS_for, tgN, List.getElem?_cons_zero, List.getElem?_cons_succ, List.set_cons_zero, List.set_cons_succ, List.map_cons, List.map_nil, List.length_cons, List.length_nil, List.replicate_succ, List.replicate_zero, Nat.reduceAdd, Nat.reduceSub, List.cons_append, List.nil_append, eq_int]
        rcases Bool.eq_false_or_eq_true (u == 0) with c2 | c2
        · simp only [c2, mkR_eq, wS_augS, wpM_dcN, wpM_rg1, wpM_rg2, wpM_enumA, wpM_iof, wpM_lfS, wS_rai, wS_try, wpM_catF, wpM_revA, wpM_newD, wpM_itemE, wpM_itemT, wpM_hasE, wpM_get1, wpM_get2, wS_putE, wS_putT, and_self, if_true, if_false, Bool.false_eq_true, reduceIte, wS_setS, wS_seq, wS_if, wS_asg, wS_exS, wS_retS, wS_nxS, wS_nx, wS_ret, wpM_op2, wpM_op1, wpM_asT, wpM_trt, wpM_notT, wpM_andT, wpM_orT, wpM_andV, wpM_notE, wpM_ifE, wpM_lnil, wpM_lcons, wpM_tupE, wpM_lstF, wpM_frz, wpM_new, wpM_cal, wpM_calB, wpM_calF, wpM_isiE, wpM_vr, wpM_ct, wpM_meth, wpM_chn, wpM_cut, wpM_cutF, wpM_ono, wpM_osm, wpM_revT, wpM_lfE, wS_for, tgN, List.getElem?_cons_zero, List.getElem?_cons_succ, List.set_cons_zero, List.set_cons_succ, List.map_cons, List.map_nil, List.length_cons, List.length_nil, List.replicate_succ, List.replicate_zero, Nat.reduceAdd, Nat.reduceSub, List.cons_append, List.nil_append, e0]
          exact ⟨op0, hops op0 hm0, by trivial, hS7⟩
        · simp only [c2, mkR_eq, wS_augS, wpM_dcN, wpM_rg1, wpM_rg2, wpM_enumA, wpM_iof, wpM_lfS, wS_rai, wS_try, wpM_catF, wpM_revA, wpM_newD, wpM_itemE, wpM_itemT, wpM_hasE, wpM_get1, wpM_get2, wS_putE, wS_putT, and_self, if_true, if_false, Bool.false_eq_true, reduceIte, wS_setS, wS_seq, wS_if, wS_asg, wS_exS, wS_retS, wS_nxS, wS_nx, wS_ret, wpM_op2, wpM_op1, wpM_asT, wpM_trt, wpM_notT, wpM_andT, wpM_orT, wpM_andV, wpM_notE, wpM_ifE, wpM_lnil, wpM_lcons, wpM_tupE, wpM_lstF, wpM_frz, wpM_new, wpM_cal, wpM_calB, wpM_calF, wpM_isiE, wpM_vr, wpM_ct, wpM_meth, wpM_chn, wpM_cut, wpM_cutF, wpM_ono, wpM_osm, wpM_revT, wpM_lfE, wS_for, tgN, List.getElem?_cons_zero, List.getElem?_cons_succ, List.set_cons_zero, List.set_cons_succ, List.map_cons, List.map_nil, List.length_cons, List.length_nil, List.replicate_succ, List.replicate_zero, Nat.reduceAdd, Nat.reduceSub, List.cons_append, List.nil_append]
          exact ⟨op, hop, by trivial, hS7⟩
      · simp only [c, mkR_eq, wS_augS, wpM_dcN, wpM_rg1, wpM_rg2, wpM_enumA, wpM_iof, wpM_lfS, wS_rai, wS_try, wpM_catF, wpM_revA, wpM_newD, wpM_itemE, wpM_itemT, wpM_hasE, wpM_get1, wpM_get2, wS_putE, wS_putT, and_self, if_true, if_false, Bool.false_eq_true, reduceIte, wS_setS, wS_seq, wS_if, wS_asg, wS_exS, wS_retS, wS_nxS, wS_nx, wS_ret, wpM_op2, wpM_op1, wpM_asT, wpM_trt, wpM_notT, wpM_andT, wpM_orT, wpM_andV, wpM_notE, wpM_ifE, wpM_lnil, wpM_lcons, wpM_tupE, wpM_lstF, wpM_frz, wpM_new, wpM_cal, wpM_calB, wpM_calF, wpM_isiE, wpM_vr, wpM_ct, wpM_meth, wpM_chn, wpM_cut, wpM_cutF, wpM_ono, wpM_osm, wpM_revT, wpM_lfE, wS_for, tgN, List.getElem?_cons_zero, List.getElem?_cons_succ, List.set_cons_zero, List.set_cons_succ, List.map_cons, List.map_nil, List.length_cons, List.length_nil, List.replicate_succ, List.replicate_zero, Nat.reduceAdd, Nat.reduceSub, List.cons_append, List.nil_append]
        exact ⟨op, hop, by trivial, hS6⟩
    rintro e S7 ⟨op', hop', rfl, hS7⟩
    refine appP1_J rfl (J_vr (P := OpT t) rfl hop') hS7 (by omega) ?_
    intro x S8 hx hS8
    exact ⟨row ++ [x], _, _, rfl, hS8, hr.app (LP.one hx)⟩
  · rintro e S5 ⟨row, e6, e7, rfl, hS5, hr⟩
    refine ⟨okSrc_nil, ?_⟩
    rw [rgL_len, Nat.zero_add] at hr
    have g : o_tupleA S5 [.ref (rest.length + 2)] = some (.tup row) := by
      show (seqOf S5 (.ref (rest.length + 2))).map D.tup = _
      rw [seq_at hS5.last]; rfl
    simp only [mkR_eq, wS_augS, wpM_dcN, wpM_rg1, wpM_rg2, wpM_enumA, wpM_iof, wpM_lfS, wS_rai, wS_try, wpM_catF, wpM_revA, wpM_newD, wpM_itemE, wpM_itemT, wpM_hasE, wpM_get1, wpM_get2, wS_putE, wS_putT, and_self, if_true, if_false, Bool.false_eq_true, reduceIte, wS_setS, wS_seq, wS_if, wS_asg, wS_exS, wS_retS, wS_nxS, wS_nx, wS_ret, wpM_op2, wpM_op1, wpM_asT, wpM_trt, wpM_notT, wpM_andT, wpM_orT, wpM_andV, wpM_notE, wpM_ifE, wpM_lnil, wpM_lcons, wpM_tupE, wpM_lstF, wpM_frz, wpM_new, wpM_cal, wpM_calB, wpM_calF, wpM_isiE, wpM_vr, wpM_ct, wpM_meth, wpM_chn, wpM_cut, wpM_cutF, wpM_ono, wpM_osm, wpM_revT, wpM_lfE, wS_for, tgN, List.getElem?_cons_zero, List.getElem?_cons_succ, List.set_cons_zero, List.set_cons_succ, List.map_cons, List.map_nil, List.length_cons, List.length_nil, List.replicate_succ, List.replicate_zero, Nat.reduceAdd, Nat.reduceSub, List.cons_append, List.nil_append, g]
    have hrow : RowOk t row := ⟨hr.1, by rw [hr.2]; omega⟩
    rw [scope_pure (fd_pure (row_fd hrow)), wpM_ok]
    exact k row _ (hS.trunc hS5) hrow (by rw [hr.2]; omega)
end
end Z

end
section
set_option Elab.async false
set_option linter.all false
set_option maxRecDepth 100000
set_option maxHeartbeats 4000000
set_option autoImplicit false
namespace Z
open PySem PySem.Spec L2 Y PySem.W
section
variable {rest S : Sto} {Q : D → Sto → Prop} {E : Str → List (Str × D) → Sto → Prop} {d : D} {L : Str} {t : Tab} {n : Nat} {row : List D} {env : En} {j : Nat}
theorem J_ix0 {I : Sto → Prop} {i : Nat} {a b : Str} (h : env[i]? = some (some (.tup [.str a, .str b]))) (ha : FS n a) : J I env (op2 o_ix (vr i) (ct (.int 0))) (IsS n) := J_op2 (J_vr (P := fun d => d = .tup [.str a, .str b]) h rfl) (J_ct (P := fun d => d = .int 0) rfl) fun S x y e1 e2 => by
  subst e1 e2
  exact ⟨_, ixT0, _, rfl, ha⟩
theorem J_ix1 {I : Sto → Prop} {i : Nat} {a b : Str} (h : env[i]? = some (some (.tup [.str a, .str b]))) (hb : FS n b) : J I env (op2 o_ix (vr i) (ct (.int 1))) (IsS n) := J_op2 (J_vr (P := fun d => d = .tup [.str a, .str b]) h rfl) (J_ct (P := fun d => d = .int 1) rfl) fun S x y e1 e2 => by
  subst e1 e2
  exact ⟨_, ixT1, _, rfl, hb⟩
/-- what is asked about -/
def Th (d : D) : Prop := fd d = true ∧ ∀ ds, d = .tup ds → ds.length ≤ 2000
theorem Th_T {I : Sto → Prop} {m : EM} {k : Nat} (h : J I env m (IsT k)) (hk : k ≤ 2000) : J I env m Th := h.mono fun d ⟨ds, e, p, q⟩ => ⟨by rw [e]; exact p, fun es he => by rw [e] at he; cases he; omega⟩
theorem Th_L {I : Sto → Prop} {m : EM} {k : Nat} (h : J I env m (FdL k)) : J I env m Th := h.mono fun d ⟨ds, e, p, q⟩ => ⟨by rw [e]; exact p, fun es he => by rw [e] at he; cases he⟩
theorem Th_S {I : Sto → Prop} {m : EM} {k : Nat} (h : J I env m (IsS k)) (hk : k ≤ 1000000) : J I env m Th := h.mono fun d ⟨z, e, p⟩ => ⟨by rw [e]; exact p.okS hk, fun es he => by rw [e] at he; cases he⟩
theorem Th_ct {I : Sto → Prop} {d : D} (h : fd d = true) (hn : isT d = false) : J I env (ct d) Th := J_ct ⟨h, fun ds e => by rw [e] at hn; cases hn⟩
/-- .. of a shorter kind -/
def Ts (d : D) : Prop := fd d = true ∧ ∀ ds, d = .tup ds → ds.length ≤ 10
theorem Ts.th (h : Ts d) : Th d := ⟨h.1, fun ds e => Nat.le_trans (h.2 ds e) (by omega)⟩
theorem J_item2 {r : Sto} {i k : Nat} {a b : Str} {c : Int} (h0 : env[i]? = some (some (.ref (j + 2)))) (h1 : env[k]? = some (some (.tup [.str a, .str b]))) (hj : r[j]? = some (some (.dT t))) (hv : valD t [.inr a, .inr b] = some (.int c)) : J (PP r) env (itemE (vr i) (vr k)) Fd := fun S hS => by
  simp only [mkR_eq, wpM_itemE, wpM_vr, h0, h1, hasT (hS.at hj), hv]
  exact ⟨rfl, hS⟩
theorem fd_of_LP {k : Nat} {ds : List D} (h : LP Fd k ds) : fdL ds = true := fdL_mem.mpr h.1
theorem len_gt {i : Nat} (h : env[i]? = some (some (.tup row))) : asT (op2 o_gt (calB o_len (lcons (vr i) lnil)) (ct (.int 0))) env S = .ok (decide (0 < (row.length : Int))) S := by
  refine eq_of_wp ?_
  simp only [mkR_eq, wS_augS, wpM_dcN, wpM_rg1, wpM_rg2, wpM_enumA, wpM_iof, wpM_lfS, wS_rai, wS_try, wpM_catF, wpM_revA, wpM_newD, wpM_itemE, wpM_itemT, wpM_hasE, wpM_get1, wpM_get2, wS_putE, wS_putT, and_self, if_true, if_false, Bool.false_eq_true, reduceIte, wS_setS, wS_seq, wS_if, wS_asg, wS_exS, wS_retS, wS_nxS, wS_nx, wS_ret, wpM_op2, wpM_op1, wpM_asT, wpM_trt, wpM_notT, wpM_andT, wpM_orT, wpM_andV, wpM_notE, wpM_ifE, wpM_lnil, wpM_lcons, wpM_tupE, wpM_lstF, wpM_frz, wpM_new, wpM_cal, wpM_calB, wpM_calF, wpM_isiE, wpM_vr, wpM_ct, wpM_meth, wpM_chn, wpM_cut, wpM_cutF, wpM_ono, wpM_osm, wpM_revT, wpM_lfE, wS_for, tgN, List.getElem?_cons_zero, List.getElem?_cons_succ, List.set_cons_zero, List.set_cons_succ, List.map_cons, List.map_nil, List.length_cons, List.length_nil, List.replicate_succ, List.replicate_zero, Nat.reduceAdd, Nat.reduceSub, List.cons_append, List.nil_append, h, len_tup, cmp_int]
theorem strange_wp {es : List D} {k : Nat} (hS : PP rest S) (hj : rest[j]? = some (some (.dT t))) (hL : LOk k L) (hk : 0 < k) (hk1 : k ≤ 26) (hr : RowOk t row) (q : ∀ n ds S', PP rest S' → LP Fd n ds → 0 < n → n ≤ 40 → Q (.lst ds) S') : wpM (M__law_strange_ops [.ref 1, .tup [.str L, .tup es], .ref (j + 2), .tup row] S) Q E := by
  have hLf : FS 26 L := hL.fs.mono hk1
  have hLl := hL.len
  have hrl := hr.len
  unfold M__law_strange_ops
  refine wpM_fn ?_
  unfold m__law_strange_ops
  simp only [mkR_eq, List.map_cons, List.map_nil, List.length_cons, List.length_nil, Nat.reduceAdd, Nat.reduceSub, List.replicate_succ, List.replicate_zero, List.cons_append, List.nil_append]
  refine asg_J (P := fun d => d = .str L) (I := PP rest) (fun S hS => by
    simp only [mkR_eq, wpM_op2, wpM_vr, wpM_ct, List.getElem?_cons_succ, List.getElem?_cons_zero, ixT0, wpM_lfS]
    exact ⟨by trivial, hS⟩) hS ?_
  rintro d S1 rfl hS1
  dsimp only [List.set_cons_zero, List.set_cons_succ]
  refine asg_J (P := IsS 1) (I := PP rest) (J_sign rfl hLf (by decide) (J_draw rfl (J_lenS rfl (by omega)) (by omega) (by omega))) hS1 ?_
  rintro d S2 ⟨one, rfl, h1⟩ hS2
  dsimp only [List.set_cons_zero, List.set_cons_succ]
  refine asg_J (P := IsS 1) (I := PP rest) (J_sign rfl hLf (by decide) (J_draw rfl (J_lenS rfl (by omega)) (by omega) (by omega))) hS2 ?_
  rintro d S3 ⟨two, rfl, h2⟩ hS3
  dsimp only [List.set_cons_zero, List.set_cons_succ]
  refine newR_J (R := LP Fd 7) ?_ (fun ds h => by have := h.2; omega) hS3 ?_
  · refine LP_cons ?_ (LP_cons ?_ (LP_cons ?_ (LP_cons ?_ (LP_cons ?_ (LP_cons ?_ (LP_cons ?_ LP_nil))))))
    all_goals (repeat' (first | exact FL_nil | apply FL_cons | exact JO_ono | apply JO_osm | apply JI_add | apply JI_sub | apply JI_neg | exact JI_ct | (apply JI_vr (by exact rfl) <;> omega) | exact JI_vr (by exact rfl) (Int.le_refl _) (Int.le_refl _) | apply JS_add | apply JS_cut | apply JS_rev | (refine JS_mul ?_ (by decide) (by decide) ?_) | apply JS_mul | (apply JS_vr (by exact rfl); assumption) | (apply JS_ct; exact Nat.le_refl _) | exact J_ct rfl | apply J_tupF | exact J_vr rfl (by assumption) | (apply Fd_lst; apply J_lstF) | apply J_lstF | apply J_cat | (apply Fd_int; first | exact JI_ct | apply JI_neg | (apply JI_vr (by exact rfl) (Int.le_refl _) (Int.le_refl _))) | apply Fd_str | decide))
  intro d1 S4 l1 hS4
  dsimp only [List.set_cons_zero, List.set_cons_succ]
  refine newCR_J (R := LP Fd 11) rfl ?_ (fun ds h => by have := h.2; have := l1.2; omega) hS4 ?_
  · refine J_lstP (LP_cons ?_ (LP_cons ?_ (LP_cons ?_ (LP_cons ?_ (LP_cons ?_ (LP_cons ?_ (LP_cons ?_ (LP_cons ?_ (LP_cons ?_ (LP_cons ?_ (LP_cons ?_ LP_nil))))))))))) (by decide)
    all_goals (repeat' (first | exact FL_nil | apply FL_cons | exact JO_ono | apply JO_osm | apply JI_add | apply JI_sub | apply JI_neg | exact JI_ct | (apply JI_vr (by exact rfl) <;> omega) | exact JI_vr (by exact rfl) (Int.le_refl _) (Int.le_refl _) | apply JS_add | apply JS_cut | apply JS_rev | (refine JS_mul ?_ (by decide) (by decide) ?_) | apply JS_mul | (apply JS_vr (by exact rfl); assumption) | (apply JS_ct; exact Nat.le_refl _) | exact J_ct rfl | apply J_tupF | exact J_vr rfl (by assumption) | (apply Fd_lst; apply J_lstF) | apply J_lstF | apply J_cat | (apply Fd_int; first | exact JI_ct | apply JI_neg | (apply JI_vr (by exact rfl) (Int.le_refl _) (Int.le_refl _))) | apply Fd_str | decide))
  intro d2 S5 l2 hS5
  have l2 := l1.app l2
  generalize d1 ++ d2 = d2 at l2 hS5
  dsimp only [List.set_cons_zero, List.set_cons_succ]
  refine newCR_J (R := LP Fd 7) rfl ?_ (fun ds h => by have := h.2; have := l2.2; omega) hS5 ?_
  · refine J_lstP (LP_cons ?_ (LP_cons ?_ (LP_cons ?_ (LP_cons ?_ (LP_cons ?_ (LP_cons ?_ (LP_cons ?_ LP_nil))))))) (by decide)
    all_goals (repeat' (first | exact FL_nil | apply FL_cons | exact JO_ono | apply JO_osm | apply JI_add | apply JI_sub | apply JI_neg | exact JI_ct | (apply JI_vr (by exact rfl) <;> omega) | exact JI_vr (by exact rfl) (Int.le_refl _) (Int.le_refl _) | apply JS_add | apply JS_cut | apply JS_rev | (refine JS_mul ?_ (by decide) (by decide) ?_) | apply JS_mul | (apply JS_vr (by exact rfl); assumption) | (apply JS_ct; exact Nat.le_refl _) | exact J_ct rfl | apply J_tupF | exact J_vr rfl (by assumption) | (apply Fd_lst; apply J_lstF) | apply J_lstF | apply J_cat | (apply Fd_int; first | exact JI_ct | apply JI_neg | (apply JI_vr (by exact rfl) (Int.le_refl _) (Int.le_refl _))) | apply Fd_str | decide))
  intro d3 S6 l3 hS6
  have l3 := l2.app l3
  generalize d2 ++ d3 = d3 at l3 hS6
  dsimp only [List.set_cons_zero, List.set_cons_succ]
  refine appP_J (P := Fd) rfl ?_ hS6 (by have := l3.2; omega) ?_
  · (repeat' (first | exact FL_nil | apply FL_cons | exact JO_ono | apply JO_osm | apply JI_add | apply JI_sub | apply JI_neg | exact JI_ct | (apply JI_vr (by exact rfl) <;> omega) | exact JI_vr (by exact rfl) (Int.le_refl _) (Int.le_refl _) | apply JS_add | apply JS_cut | apply JS_rev | (refine JS_mul ?_ (by decide) (by decide) ?_) | apply JS_mul | (apply JS_vr (by exact rfl); assumption) | (apply JS_ct; exact Nat.le_refl _) | exact J_ct rfl | apply J_tupF | exact J_vr rfl (by assumption) | (apply Fd_lst; apply J_lstF) | apply J_lstF | apply J_cat | (apply Fd_int; first | exact JI_ct | apply JI_neg | (apply JI_vr (by exact rfl) (Int.le_refl _) (Int.le_refl _))) | apply Fd_str | decide))
  intro x S7 hx hS7
  have l4 := l3.app (LP.one hx)
  generalize d3 ++ [x] = d4 at l4 hS7
  have fin : ∀ n ds X S', LP Fd n ds → 0 < n → n ≤ 40 → PP (rest ++ X ++ [some (.lst ds)]) S' → wpM (scope S (.ok (.ref ((rest ++ X).length + 2)) S')) Q E := fun n ds X S' h0 h1 h2 hS' => by
    rw [scope_ref (by rw [hS.len, List.length_append]; omega) hS'.last (fdL_pure (fd_of_LP h0)), wpM_ok]
    have hz := hS'.setLast (o' := none)
    rw [List.append_assoc] at hz
    exact q n ds _ (hS.trunc hz) h0 h1 h2
  rw [wS_seq]
  by_cases h0 : 0 < row.length
  · refine wS_ifT (by rw [len_gt rfl, decide_eq_true (by omega)]) ?_
    refine asg_J (P := OpT t) (I := PP (rest ++ [some (.lst d1)] ++ [some (.lst d2)] ++ [some (.lst d4)])) (J_pickVT rfl (J_draw rfl (J_lenT rfl) (by omega) (by omega)) hr.op) hS7 ?_
    rintro d S8 ⟨a, b, c, rfl, ha, hb, hv⟩ hS8
    dsimp only [List.set_cons_zero, List.set_cons_succ]
    have hop : Fd (.tup [.str a, .str b]) := OpT.fd (t := t) ⟨a, b, c, rfl, ha, hb, hv⟩
    have hj' : (rest ++ [some (Ob.lst d1)] ++ [some (Ob.lst d2)] ++ [some (Ob.lst d4)])[j]? = some (some (.dT t)) := at_app (at_app (at_app hj))
    refine newCR1_J (R := LP Fd 6) rfl ?_ (fun ds h => by have := h.2; have := l4.2; omega) hS8 ?_
    · refine J_lstP (LP_cons ?_ (LP_cons ?_ (LP_cons ?_ (LP_cons ?_ (LP_cons ?_ (LP_cons ?_ LP_nil)))))) (by decide)
      · exact Fd_lst (J_listT (n := 2) rfl hop (by simp))
      · exact J_tupF (FL_cons (Fd_str (J_ix1 rfl hb) (by decide)) (FL_cons (Fd_str (J_ix0 rfl ha) (by decide)) FL_nil)) (by decide)
      · exact Fd_tup (JT_add (JT_vr (n := 2) rfl hop (by simp)) (JT_tup (FL_cons (J_item2 rfl rfl hj' hv) FL_nil) (by decide)) (by decide))
      · exact J_tupF (FL_cons (Fd_str (J_ix0 rfl ha) (by decide)) (FL_cons (Fd_str (JS_add (J_ix1 rfl hb) (JS_vr rfl h1) (by decide)) (by decide)) FL_nil)) (by decide)
      · exact J_tupF (FL_cons (Fd_str (JS_add (J_ix0 rfl ha) (JS_vr rfl h2) (by decide)) (by decide)) (FL_cons (Fd_str (J_ix1 rfl hb) (by decide)) FL_nil)) (by decide)
      · exact J_tupF (FL_cons (J_vr rfl hop) FL_nil) (by decide)
    intro d5 S9 l5 hS9
    have l5 := l4.app l5
    simp only [mkR_eq, wS_retS, wpM_vr, List.set_cons_zero, List.set_cons_succ, List.getElem?_cons_succ, List.getElem?_cons_zero]
    have := fin _ (d4 ++ d5) [some (.lst d1), some (.lst d2), some (.lst d4)] S9 l5 (by omega) (by omega) (by simpa using hS9)
    simpa using this
  · refine wS_ifF (by rw [len_gt rfl, decide_eq_false (by omega)]) ?_
    rw [wS_nxS]
    simp only [mkR_eq, wS_retS, wpM_vr, List.getElem?_cons_succ, List.getElem?_cons_zero]
    have := fin _ d4 [some (.lst d1), some (.lst d2)] S7 l4 (by omega) (by omega) (by simpa using hS7)
    simpa using this
end
end Z

end
section
set_option Elab.async false
set_option linter.all false
set_option maxRecDepth 100000
set_option maxHeartbeats 4000000
set_option autoImplicit false
namespace Z
open PySem PySem.Spec L2 Y PySem.W
section
variable {rest S : Sto} {Q : D → Sto → Prop} {E : Str → List (Str × D) → Sto → Prop} {d : D} {L : Str} {t : Tab} {n : Nat} {row : List D} {env : En} {j : Nat} {es : List D}
/-- told and due agree -/
theorem agree (hB : BkOk L es) (hS : S[n]? = some (some (.dT (tabB L es)))) (hd : Th d) : M__law_check_told [.tup [.str L, .tup es], d] S = .ok (dueD (lenT d) (rowF (tabB L es) d)) S ∧ M__law_row_due [.ref n, d] S = .ok (dueD (lenT d) (rowF (tabB L es) d)) S ∧ M__law_same [dueD (lenT d) (rowF (tabB L es) d), dueD (lenT d) (rowF (tabB L es) d)] S = .ok (.bl true) S :=
  ⟨told hB hd.1 (fun ds e => Nat.le_trans (hd.2 ds e) (by omega)), row_due_eq hS hd.1 (fun ds e => Nat.le_trans (hd.2 ds e) (by omega)), same_self dueD_ok⟩
theorem row_Th (hr : RowOk t row) : Th (.tup row) := ⟨row_fd hr, fun ds e => by cases e; have := hr.len; omega⟩
theorem checks_wp {k : Nat} (hS : PP rest S) (hj : rest[j]? = some (some (.dT (tabB L es)))) (hB : BkOk L es) (hL : LOk k L) (hk : 0 < k) (hk1 : k ≤ 26) (hr : RowOk (tabB L es) row) (q : ∀ S', PP rest S' → Q (.bl true) S') : wpM (M__law_checks_hold [.ref 1, .tup [.str L, .tup es], .ref (j + 2), .tup row] S) Q E := by
  have hrl := hr.len
  have hrf := row_fd hr
  have hrT : ∀ {I : Sto → Prop} {env : En} {i : Nat}, env[i]? = some (some (.tup row)) → J I env (vr i) (IsT 600) := fun h => JT_vr h hrf hrl
  unfold M__law_checks_hold
  refine wpM_fn ?_
  unfold m__law_checks_hold
  simp only [mkR_eq, List.map_cons, List.map_nil, List.length_cons, List.length_nil, Nat.reduceAdd, Nat.reduceSub, List.replicate_succ, List.replicate_zero, List.cons_append, List.nil_append]
  refine asg_J (P := IsI 0 ((row.length : Int) + 1 - 1)) (I := PP rest) (J_draw rfl ?_ (by omega) (by omega)) hS ?_
  · exact J_op2 (J_lenT rfl) (J_ct (P := fun d => d = .int 1) rfl) fun S x y e1 e2 => by subst e1 e2; exact ⟨_, rfl, rfl⟩
  rintro d S1 ⟨at', rfl, a0, a1⟩ hS1
  dsimp only [List.set_cons_zero, List.set_cons_succ]
  refine asg_J (P := fun d => ∃ n ds, d = .lst ds ∧ LP Fd n ds ∧ 0 < n ∧ n ≤ 40) (I := PP rest) (fun S hS => ?_) hS1 ?_
  · simp only [mkR_eq, wpM_cal, wpM_lcons, wpM_lnil, wpM_vr, List.getElem?_cons_succ, List.getElem?_cons_zero]
    exact strange_wp hS hj hL hk hk1 hr fun n ds S' h1 h2 h3 h4 => ⟨⟨n, ds, rfl, h2, h3, h4⟩, h1⟩
  rintro d S2 ⟨n, st, rfl, hst, n0, n1⟩ hS2
  dsimp only [List.set_cons_zero, List.set_cons_succ]
  have hsl := hst.2
  refine newR_J (R := LP Th 10) ?_ (fun ds h => by have := h.2; omega) hS2 ?_
  · refine LP_cons ?_ (LP_cons ?_ (LP_cons ?_ (LP_cons ?_ (LP_cons ?_ (LP_cons ?_ (LP_cons ?_ (LP_cons ?_ (LP_cons ?_ (LP_cons ?_ LP_nil)))))))))
    · exact J_vr rfl (row_Th hr)
    · exact Th_L (J_listT (n := 600) rfl hrf hrl)
    · exact Th_ct rfl rfl
    · exact Th_S (JS_ct (n := 0) (by decide)) (by decide)
    · exact Th_S (JS_ct (n := 2) (by decide)) (by decide)
    · exact Th_ct rfl rfl
    · exact Th_ct rfl rfl
    · exact Th_T (JT_tup (FL_cons (J_vr rfl hrf) FL_nil) (by decide)) (by decide)
    · exact Th_T (JT_tup FL_nil (by decide)) (by decide)
    · exact Th_L (J_lstF (FL_cons (J_tupF FL_nil (by decide)) FL_nil) (by decide))
  intro th S3 hth hS3
  dsimp only [List.set_cons_zero, List.set_cons_succ]
  refine wS_seqP (fun e S' => ∃ th e7, e = [some (.ref 1), some (.tup [.str L, .tup es]), some (.ref (j + 2)), some (.tup row), some (.int at'), some (.lst st), some (.ref (rest.length + 2)), e7, none, none, none] ∧ PP (rest ++ [some (.lst th)]) S' ∧ LP Th (10 + n) th) ?_ ?_
  · simp only [mkR_eq, wS_for, wpM_iof, wpM_vr, List.getElem?_cons_succ, List.getElem?_cons_zero, srcOf, wpM_lfS]
    refine wS_loop (fun i e S' => ∃ th e7, e = [some (.ref 1), some (.tup [.str L, .tup es]), some (.ref (j + 2)), some (.tup row), some (.int at'), some (.lst st), some (.ref (rest.length + 2)), e7, none, none, none] ∧ PP (rest ++ [some (.lst th)]) S' ∧ LP Th (10 + i) th) st 0 _ _ ⟨th, none, rfl, hS3, hth⟩ ?_ ?_
    · rintro i d e S4 hi ⟨th, e7, rfl, hS4, hth⟩
      have hil := (List.getElem?_eq_some_iff.mp hi).1
      have hdf : Fd d := hst.1 d (List.mem_of_getElem? hi)
      rw [Nat.zero_add] at hth ⊢
      refine ⟨okSrc_nil, _, rfl, ?_⟩
      dsimp only [List.set_cons_zero, List.set_cons_succ]
      have ja : ∀ {I : Sto → Prop} {env : En}, env[4]? = some (some (.int at')) → JO I env (osmM (vr 4)) := fun h => JO_osm (JI_vr h (Int.le_refl _) (Int.le_refl _))
      refine appP1_J (P := Th) rfl ?_ hS4 (by have := hth.2; omega) ?_
      · exact Th_T (JT_add (JT_add (JT_cut (hrT rfl) JO_ono (ja rfl)) (JT_tup (FL_cons (J_vr rfl hdf) FL_nil) (by decide)) (by decide)) (JT_cut (hrT rfl) (ja rfl) JO_ono) (by decide)) (by decide)
      intro x S5 hx hS5
      exact ⟨th ++ [x], _, rfl, hS5, hth.app (LP.one hx)⟩
    · rintro e S4 ⟨th, e7, rfl, hS4, hth⟩
      rw [Nat.zero_add, hsl] at hth
      exact ⟨okSrc_nil, th, e7, rfl, hS4, hth⟩
  rintro e S4 ⟨th, e7, rfl, hS4, hth⟩
  refine asg_J (P := Fd) (I := PP (rest ++ [some (.lst th)])) (J_pickV rfl (J_draw rfl (J_lenL rfl) (by omega) (by omega)) hst.1) hS4 ?_
  intro x S5 hx hS5
  dsimp only [List.set_cons_zero, List.set_cons_succ]
  refine asg_J (P := Fd) (I := PP (rest ++ [some (.lst th)])) (J_pickV rfl (J_draw rfl (J_lenL rfl) (by omega) (by omega)) hst.1) hS5 ?_
  intro y S6 hy hS6
  dsimp only [List.set_cons_zero, List.set_cons_succ]
  refine appP_J (P := Th) rfl ?_ hS6 (by have := hth.2; omega) ?_
  · exact Th_T (JT_add (JT_add (JT_tup (FL_cons (J_vr rfl hx) FL_nil) (by decide)) (hrT rfl) (by decide)) (JT_tup (FL_cons (J_vr rfl hy) FL_nil) (by decide)) (by decide)) (by decide)
  intro z S7 hz hS7
  have hth := hth.app (LP.one hz)
  generalize th ++ [z] = th2 at hth hS7
  rw [wS_seq, wS_for, wpM_iof]
  refine (J_catRR (R := LP Th 1) rfl (J_lstP (LP_cons (J_vr rfl (row_Th hr)) LP_nil) (by decide)) (fun ds h => by have := h.2; have := hth.2; omega)).use hS7 ?_
  rintro d S8 ⟨e1, rfl, he1⟩ hS8
  have hall := hth.app he1
  generalize th2 ++ e1 = all at hall
  simp only [mkR_eq, srcOf, wpM_lfS]
  have hS8j : S8[j + 2]? = some (some (.dT (tabB L es))) := hS8.at (at_app hj)
  refine wS_loop (fun i e S' => S' = S8 ∧ ∃ e10, e = [some (.ref 1), some (.tup [.str L, .tup es]), some (.ref (j + 2)), some (.tup row), some (.int at'), some (.lst st), some (.ref (rest.length + 2)), e7, some x, some y, e10]) all 0 _ _ ⟨rfl, none, rfl⟩ ?_ ?_
  · rintro i d e S' hi ⟨rfl, e10, rfl⟩
    refine ⟨okSrc_nil, _, rfl, ?_⟩
    obtain ⟨q1, q2, q3⟩ := agree hB hS8j (hall.1 d (List.mem_of_getElem? hi))
    simp only [mkR_eq, wS_augS, wpM_dcN, wpM_rg1, wpM_rg2, wpM_enumA, wpM_iof, wpM_lfS, wS_rai, wS_try, wpM_catF, wpM_revA, wpM_newD, wpM_itemE, wpM_itemT, wpM_hasE, wpM_get1, wpM_get2, wS_putE, wS_putT, and_self, if_true, if_false, Bool.false_eq_true, reduceIte, wS_setS, wS_seq, wS_if, wS_asg, wS_exS, wS_retS, wS_nxS, wS_nx, wS_ret, wpM_op2, wpM_op1, wpM_asT, wpM_trt, wpM_notT, wpM_andT, wpM_orT, wpM_andV, wpM_notE, wpM_ifE, wpM_lnil, wpM_lcons, wpM_tupE, wpM_lstF, wpM_frz, wpM_new, wpM_cal, wpM_calB, wpM_calF, wpM_isiE, wpM_vr, wpM_ct, wpM_meth, wpM_chn, wpM_cut, wpM_cutF, wpM_ono, wpM_osm, wpM_revT, wpM_lfE, wS_for, tgN, List.getElem?_cons_zero, List.getElem?_cons_succ, List.set_cons_zero, List.set_cons_succ, List.map_cons, List.map_nil, List.length_cons, List.length_nil, List.replicate_succ, List.replicate_zero, Nat.reduceAdd, Nat.reduceSub, List.cons_append, List.nil_append, q1, q2, q3, wpM_ok, tru, Bool.not_true]
    exact ⟨by trivial, _, rfl⟩
  · rintro e S' ⟨rfl, e10, rfl⟩
    refine ⟨okSrc_nil, ?_⟩
    simp only [mkR_eq, wS_augS, wpM_dcN, wpM_rg1, wpM_rg2, wpM_enumA, wpM_iof, wpM_lfS, wS_rai, wS_try, wpM_catF, wpM_revA, wpM_newD, wpM_itemE, wpM_itemT, wpM_hasE, wpM_get1, wpM_get2, wS_putE, wS_putT, and_self, if_true, if_false, Bool.false_eq_true, reduceIte, wS_setS, wS_seq, wS_if, wS_asg, wS_exS, wS_retS, wS_nxS, wS_nx, wS_ret, wpM_op2, wpM_op1, wpM_asT, wpM_trt, wpM_notT, wpM_andT, wpM_orT, wpM_andV, wpM_notE, wpM_ifE, wpM_lnil, wpM_lcons, wpM_tupE, wpM_lstF, wpM_frz, wpM_new, wpM_cal, wpM_calB, wpM_calF, wpM_isiE, wpM_vr, wpM_ct, wpM_meth, wpM_chn, wpM_cut, wpM_cutF, wpM_ono, wpM_osm, wpM_revT, wpM_lfE, wS_for, tgN, List.getElem?_cons_zero, List.getElem?_cons_succ, List.set_cons_zero, List.set_cons_succ, List.map_cons, List.map_nil, List.length_cons, List.length_nil, List.replicate_succ, List.replicate_zero, Nat.reduceAdd, Nat.reduceSub, List.cons_append, List.nil_append]
    rw [scope_bl, wpM_ok]
    exact q _ (hS.trunc hS8)
end
end Z

end
section
set_option Elab.async false
set_option linter.all false
set_option maxRecDepth 100000
set_option maxHeartbeats 4000000
set_option autoImplicit false
namespace Z
open PySem PySem.Spec L2 Y PySem.W
section
variable {rest S : Sto} {Q : D → Sto → Prop} {E : Str → List (Str × D) → Sto → Prop} {d : D} {L : Str} {t : Tab} {n : Nat} {row : List D} {env : En} {j : Nat} {es : List D}
theorem J_tupP {I : Sto → Prop} {P : D → Prop} {l : LM} {k : Nat} (h : JL I env l (LP P k)) (hk : k ≤ 1000) : J I env (tupE l) (fun d => ∃ ds, d = .tup ds ∧ LP P k ds) := fun S hS => by
  rw [wpM_tupE]
  refine wpM_mono' (h S hS) ?_
  rintro ds S1 ⟨h1, h3⟩
  rw [if_pos (le_szL (by have := h1.2; omega))]
  exact ⟨⟨ds, rfl, h1⟩, h3⟩
theorem long_wp (hS : PP rest S) (hj : rest[j]? = some (some (.dT (tabB L es)))) (hB : BkOk L es) (hp : 0 < L.length) (q : ∀ S', PP rest S' → Q (.bl true) S') : wpM (M__law_long_holds [.ref 1, .tup [.str L, .tup es], .ref (j + 2)] S) Q E := by
  unfold M__law_long_holds
  refine wpM_fn ?_
  unfold m__law_long_holds
  have hops := ops_ok hB.kv
  have hol := ops_len (t := tabB L es)
  have htp := tabB_pos (es := es) hp
  have htl := hB.ln
  simp only [mkR_eq, List.map_cons, List.map_nil, List.length_cons, List.length_nil, Nat.reduceAdd, Nat.reduceSub, List.replicate_succ, List.replicate_zero, List.cons_append, List.nil_append]
  refine asg_J (P := fun d => d = .lst ((ksT (tabB L es)).mergeSort leD)) (I := PP rest) (fun S hS => ?_) hS ?_
  · simp only [mkR_eq, wS_augS, wpM_dcN, wpM_rg1, wpM_rg2, wpM_enumA, wpM_iof, wpM_lfS, wS_rai, wS_try, wpM_catF, wpM_revA, wpM_newD, wpM_itemE, wpM_itemT, wpM_hasE, wpM_get1, wpM_get2, wS_putE, wS_putT, and_self, if_true, if_false, Bool.false_eq_true, reduceIte, wS_setS, wS_seq, wS_if, wS_asg, wS_exS, wS_retS, wS_nxS, wS_nx, wS_ret, wpM_op2, wpM_op1, wpM_asT, wpM_trt, wpM_notT, wpM_andT, wpM_orT, wpM_andV, wpM_notE, wpM_ifE, wpM_lnil, wpM_lcons, wpM_tupE, wpM_lstF, wpM_frz, wpM_new, wpM_cal, wpM_calB, wpM_calF, wpM_isiE, wpM_vr, wpM_ct, wpM_meth, wpM_chn, wpM_cut, wpM_cutF, wpM_ono, wpM_osm, wpM_revT, wpM_lfE, wS_for, tgN, List.getElem?_cons_zero, List.getElem?_cons_succ, List.set_cons_zero, List.set_cons_succ, List.map_cons, List.map_nil, List.length_cons, List.length_nil, List.replicate_succ, List.replicate_zero, Nat.reduceAdd, Nat.reduceSub, List.cons_append, List.nil_append, sorted_ops hB.kv (hS.at hj)]
    exact ⟨by trivial, hS⟩
  generalize (ksT (tabB L es)).mergeSort leD = ops at hops hol
  rintro d S1 rfl hS1
  dsimp only [List.set_cons_zero, List.set_cons_succ]
  refine asg_J (P := IsI 0 ((ops.length : Int) - 1)) (I := PP rest) (J_draw rfl (J_lenL rfl) (by omega) (by omega)) hS1 ?_
  rintro d S2 ⟨first, rfl, f0, f1⟩ hS2
  dsimp only [List.set_cons_zero, List.set_cons_succ]
  refine asg_J (P := IsI (1 + 0) (1 + (6 - 1))) (I := PP rest) (JI_add JI_ct (J_draw rfl (J_ct rfl) (by decide) (by decide))) hS2 ?_
  rintro d S3 ⟨step, rfl, s0, s1⟩ hS3
  dsimp only [List.set_cons_zero, List.set_cons_succ]
  refine asg_J (P := fun d => ∃ row, d = .tup row ∧ LP (OpT (tabB L es)) 600 row) (I := PP rest) (fun S hS => ?_) hS3 ?_
  · simp only [mkR_eq, wpM_calB, wpM_lcons, wpM_lnil]
    refine comp_pool (A := fun all => all = rgL 0 600) (R := OpT (tabB L es)) (rest := rest) ?_ ?_ ?_
    · simp only [mkR_eq, wpM_rg1, wpM_lcons, wpM_lnil, wpM_ct]
      exact ⟨rgOk_of (by decide) (by decide), by trivial, hS, by rw [show (600 : Int) = ((600 : Nat) : Int) from rfl, rgL_len]; omega, by trivial⟩
    · rintro all rfl d hd X S' hS'
      obtain ⟨i, hi⟩ := List.mem_iff_getElem?.mp hd
      obtain ⟨rfl, hi6⟩ := rgL_get (n := 600) hi
      refine ⟨_, rfl, ?_⟩
      have hm : IntMulOk (i : Int) step := mul_ok (by omega) (by omega)
      have hv0 : 0 ≤ (first + (i : Int) * step) % (ops.length : Int) := Int.emod_nonneg _ (by omega)
      have hv1 : (first + (i : Int) * step) % (ops.length : Int) < ops.length := Int.emod_lt_of_pos _ (by omega)
      obtain ⟨op, ho, e⟩ := ix_lst (ds := ops) hv0 hv1
      simp only [mkR_eq, wS_augS, wpM_dcN, wpM_rg1, wpM_rg2, wpM_enumA, wpM_iof, wpM_lfS, wS_rai, wS_try, wpM_catF, wpM_revA, wpM_newD, wpM_itemE, wpM_itemT, wpM_hasE, wpM_get1, wpM_get2, wS_putE, wS_putT, and_self, if_true, if_false, Bool.false_eq_true, reduceIte, wS_setS, wS_seq, wS_if, wS_asg, wS_exS, wS_retS, wS_nxS, wS_nx, wS_ret, wpM_op2, wpM_op1, wpM_asT, wpM_trt, wpM_notT, wpM_andT, wpM_orT, wpM_andV, wpM_notE, wpM_ifE, wpM_lnil, wpM_lcons, wpM_tupE, wpM_lstF, wpM_frz, wpM_new, wpM_cal, wpM_calB, wpM_calF, wpM_isiE, wpM_vr, wpM_ct, wpM_meth, wpM_chn, wpM_cut, wpM_cutF, wpM_ono, wpM_osm, wpM_revT, wpM_lfE, wS_for, tgN, List.getElem?_cons_zero, List.getElem?_cons_succ, List.set_cons_zero, List.set_cons_succ, List.map_cons, List.map_nil, List.length_cons, List.length_nil, List.replicate_succ, List.replicate_zero, Nat.reduceAdd, Nat.reduceSub, List.cons_append, List.nil_append, wipeE, mulA_int hm, add_int, o_int, len_lst, mod_int (show (0 : Int) < (ops.length : Int) by omega), e]
      exact ⟨hops op ho, fd_pure (hops op ho).fd, hS'⟩
    · rintro all acc S' rfl hS' hl hR
      simp only [mkR_eq, o_tupleA, o_tuple, seqOf, Option.map_some, wpM_lfS]
      exact ⟨⟨acc, rfl, hR, by rw [hl, show (600 : Int) = ((600 : Nat) : Int) from rfl, rgL_len]⟩, hS'⟩
  rintro d S4 ⟨row, rfl, hrow⟩ hS4
  dsimp only [List.set_cons_zero, List.set_cons_succ]
  have hr : RowOk (tabB L es) row := ⟨hrow.1, by rw [hrow.2]; omega⟩
  have hrf := row_fd hr
  have hrl := hrow.2
  have hrT : ∀ {I : Sto → Prop} {env : En} {i : Nat}, env[i]? = some (some (.tup row)) → J I env (vr i) (IsT 600) := fun h => JT_vr h hrf (by omega)
  refine wS_seqP (fun e S' => e = [some (.ref 1), some (.tup [.str L, .tup es]), some (.ref (j + 2)), some (.lst ops), some (.int first), some (.int step), some (.tup row), none, none, none] ∧ S' = S4) ?_ ?_
  · simp only [mkR_eq, wS_augS, wpM_dcN, wpM_rg1, wpM_rg2, wpM_enumA, wpM_iof, wpM_lfS, wS_rai, wS_try, wpM_catF, wpM_revA, wpM_newD, wpM_itemE, wpM_itemT, wpM_hasE, wpM_get1, wpM_get2, wS_putE, wS_putT, and_self, if_true, if_false, Bool.false_eq_true, reduceIte, wS_setS, wS_seq, wS_if, wS_asg, wS_exS, wS_retS, wS_nxS, wS_nx, wS_ret, wpM_op2, wpM_op1, wpM_asT, wpM_trt, wpM_notT, wpM_andT, wpM_orT, wpM_andV, wpM_notE, wpM_ifE, wpM_lnil, wpM_lcons, wpM_tupE, wpM_lstF, wpM_frz, wpM_new, wpM_cal, wpM_calB, wpM_calF, wpM_isiE, wpM_vr, wpM_ct, wpM_meth, wpM_chn, wpM_cut, wpM_cutF, wpM_ono, wpM_osm, wpM_revT, wpM_lfE, wS_for, tgN, List.getElem?_cons_zero, List.getElem?_cons_succ, List.set_cons_zero, List.set_cons_succ, List.map_cons, List.map_nil, List.length_cons, List.length_nil, List.replicate_succ, List.replicate_zero, Nat.reduceAdd, Nat.reduceSub, List.cons_append, List.nil_append, row_holds_eq hB hr (hS4.at hj), wpM_ok, tru, Bool.not_true]
  rintro e S5 ⟨rfl, rfl⟩
  refine asg_J (P := IsI (590 + 0) (590 + (10 - 1))) (I := PP rest) (JI_add JI_ct (J_draw rfl (J_ct rfl) (by decide) (by decide))) hS4 ?_
  rintro d S6 ⟨late, rfl, l0, l1⟩ hS6
  dsimp only [List.set_cons_zero, List.set_cons_succ]
  rw [wS_seq, wS_for, wpM_iof]
  have jl : ∀ {I : Sto → Prop} {env : En}, env[7]? = some (some (.int late)) → J I env (vr 7) (IsI late late) := fun h => JI_vr h (Int.le_refl _) (Int.le_refl _)
  refine (J_tupP (P := Th) (k := 4) (LP_cons ?_ (LP_cons ?_ (LP_cons ?_ (LP_cons ?_ LP_nil)))) (by decide)).use hS6 ?_
  · exact Th_T (JT_add (hrT rfl) (JT_cut (hrT rfl) JO_ono (JO_osm JI_ct)) (by decide)) (by decide)
  · exact Th_T (JT_add (JT_cut (hrT rfl) JO_ono (JO_osm JI_ct)) (JT_tup (FL_cons (J_tupF (FL_cons (Fd_str (JS_ct (n := 0) (by decide)) (by decide)) (FL_cons (Fd_str (JS_ct (n := 0) (by decide)) (by decide)) FL_nil)) (by decide)) FL_nil) (by decide)) (by decide)) (by decide)
  · exact Th_T (JT_add (hrT rfl) (JT_tup (FL_cons (J_ct rfl) FL_nil) (by decide)) (by decide)) (by decide)
  · exact Th_T (JT_add (JT_add (JT_cut (hrT rfl) JO_ono (JO_osm (jl rfl))) (JT_tup (FL_cons (J_tupF (FL_cons (Fd_str (JS_ct (n := 1) (by decide)) (by decide)) (FL_cons (Fd_str (JS_ct (n := 0) (by decide)) (by decide)) FL_nil)) (by decide)) FL_nil) (by decide)) (by decide)) (JT_cut (hrT rfl) (JO_osm (JI_add (jl rfl) JI_ct)) JO_ono) (by decide)) (by decide)
  rintro d S8 ⟨all, rfl, hall⟩ hS8
  simp only [mkR_eq, srcOf, wpM_lfS]
  have hS8j : S8[j + 2]? = some (some (.dT (tabB L es))) := hS8.at hj
  refine wS_loop (fun i e S' => S' = S8 ∧ ∃ e8, e = [some (.ref 1), some (.tup [.str L, .tup es]), some (.ref (j + 2)), some (.lst ops), some (.int first), some (.int step), some (.tup row), some (.int late), e8, none]) all 0 _ _ ⟨rfl, none, rfl⟩ ?_ ?_
  · rintro i d e S' hi ⟨rfl, e8, rfl⟩
    refine ⟨okSrc_nil, _, rfl, ?_⟩
    obtain ⟨q1, q2, q3⟩ := agree hB hS8j (hall.1 d (List.mem_of_getElem? hi))
    simp only [mkR_eq, wS_augS, wpM_dcN, wpM_rg1, wpM_rg2, wpM_enumA, wpM_iof, wpM_lfS, wS_rai, wS_try, wpM_catF, wpM_revA, wpM_newD, wpM_itemE, wpM_itemT, wpM_hasE, wpM_get1, wpM_get2, wS_putE, wS_putT, and_self, if_true, if_false, Bool.false_eq_true, reduceIte, wS_setS, wS_seq, wS_if, wS_asg, wS_exS, wS_retS, wS_nxS, wS_nx, wS_ret, wpM_op2, wpM_op1, wpM_asT, wpM_trt, wpM_notT, wpM_andT, wpM_orT, wpM_andV, wpM_notE, wpM_ifE, wpM_lnil, wpM_lcons, wpM_tupE, wpM_lstF, wpM_frz, wpM_new, wpM_cal, wpM_calB, wpM_calF, wpM_isiE, wpM_vr, wpM_ct, wpM_meth, wpM_chn, wpM_cut, wpM_cutF, wpM_ono, wpM_osm, wpM_revT, wpM_lfE, wS_for, tgN, List.getElem?_cons_zero, List.getElem?_cons_succ, List.set_cons_zero, List.set_cons_succ, List.map_cons, List.map_nil, List.length_cons, List.length_nil, List.replicate_succ, List.replicate_zero, Nat.reduceAdd, Nat.reduceSub, List.cons_append, List.nil_append, q1, q2, q3, wpM_ok, tru, Bool.not_true]
    exact ⟨by trivial, _, rfl⟩
  · rintro e S' ⟨rfl, e8, rfl⟩
    refine ⟨okSrc_nil, ?_⟩
    simp only [mkR_eq, wS_augS, wpM_dcN, wpM_rg1, wpM_rg2, wpM_enumA, wpM_iof, wpM_lfS, wS_rai, wS_try, wpM_catF, wpM_revA, wpM_newD, wpM_itemE, wpM_itemT, wpM_hasE, wpM_get1, wpM_get2, wS_putE, wS_putT, and_self, if_true, if_false, Bool.false_eq_true, reduceIte, wS_setS, wS_seq, wS_if, wS_asg, wS_exS, wS_retS, wS_nxS, wS_nx, wS_ret, wpM_op2, wpM_op1, wpM_asT, wpM_trt, wpM_notT, wpM_andT, wpM_orT, wpM_andV, wpM_notE, wpM_ifE, wpM_lnil, wpM_lcons, wpM_tupE, wpM_lstF, wpM_frz, wpM_new, wpM_cal, wpM_calB, wpM_calF, wpM_isiE, wpM_vr, wpM_ct, wpM_meth, wpM_chn, wpM_cut, wpM_cutF, wpM_ono, wpM_osm, wpM_revT, wpM_lfE, wS_for, tgN, List.getElem?_cons_zero, List.getElem?_cons_succ, List.set_cons_zero, List.set_cons_succ, List.map_cons, List.map_nil, List.length_cons, List.length_nil, List.replicate_succ, List.replicate_zero, Nat.reduceAdd, Nat.reduceSub, List.cons_append, List.nil_append]
    rw [scope_bl, wpM_ok]
    exact q _ (hS.trunc0 hS8)
end
end Z

end
section
set_option Elab.async false
set_option linter.all false
set_option maxRecDepth 100000
set_option maxHeartbeats 4000000
set_option autoImplicit false
namespace Z
open PySem PySem.Spec L2 Y PySem.W
section
variable {rest S : Sto} {Q : D → Sto → Prop} {E : Str → List (Str × D) → Sto → Prop} {d : D} {L : Str} {t : Tab} {n : Nat} {row : List D} {env : En} {j : Nat} {es : List D}
theorem ok_of_wp {r : Res D} {d : D} (h : wpM r (fun x _ => x = d) (fun _ _ _ => False)) : ∃ S, r = .ok d S := by
  cases r with
  | ok x S => have h : x = d := h; exact ⟨S, by rw [h]⟩
  | exc c fs S => exact h.elim
  | err => exact h.elim
theorem addL_some {k : List Key} : ∀ {cs : List Nat} {t : Tab}, ((valD t k).isSome = true ∨ ∃ c ∈ cs, k = [.inr (sg c), .inr (sg c)]) → (valD (addL t cs) k).isSome = true
  | [], t, h => h.elim id fun ⟨c, hc, _⟩ => nomatch hc
  | c :: cs, t, h => by
    refine addL_some (cs := cs) (t := putD t [.inr (sg c), .inr (sg c)] (.int 0)) ?_
    rw [get_put]
    by_cases hk : k = [.inr (sg c), .inr (sg c)]
    · exact .inl (by rw [if_pos hk]; rfl)
    · rw [if_neg hk]
      refine h.imp id ?_
      rintro ⟨c', hc', e⟩
      rcases List.mem_cons.mp hc' with rfl | hc'
      · exact absurd e hk
      · exact ⟨c', hc', e⟩
theorem addE_some {r w : Str} : ∀ {es : List D} {t : Tab}, (∀ e ∈ es, EdOk e) → ((valD t [.inr r, .inr w]).isSome = true ∨ ∃ c, .tup [.str r, .str w, .int c] ∈ es) → (valD (addE t es) [.inr r, .inr w]).isSome = true
  | [], t, _, h => h.elim id fun ⟨c, hc⟩ => nomatch hc
  | e :: es, t, he, h => by
    obtain ⟨r', w', c', rfl, _⟩ := he e List.mem_cons_self
    refine addE_some (es := es) (t := putD t [.inr r', .inr w'] (.int c')) (fun x hx => he x (List.mem_cons_of_mem _ hx)) ?_
    rw [get_put]
    by_cases hk : ([.inr r, .inr w] : List Key) = [.inr r', .inr w']
    · exact .inl (by rw [if_pos hk]; rfl)
    · rw [if_neg hk]
      refine h.imp id ?_
      rintro ⟨c, hc⟩
      rcases List.mem_cons.mp hc with e | hc
      · cases e; exact absurd rfl hk
      · exact ⟨c, hc⟩
theorem kv_int (h : KV3 t) {k : List Key} (hs : (valD t k).isSome = true) : ∃ c, valD t k = some (.int c) := by
  obtain ⟨v, hv⟩ := Option.isSome_iff_exists.mp hs
  obtain ⟨p, hp, e⟩ := Option.map_eq_some_iff.mp hv
  obtain ⟨r, w, c, rfl, _⟩ := h p (List.mem_of_find?_eq_some hp)
  exact ⟨c, by rw [hv]; exact congrArg some e.symm⟩
theorem opT_of (hB : BkOk L es) {a b : Str} (ha : FS 3 a) (hb : FS 3 b) (h : (valD (addL [] L.cps.toList) [.inr a, .inr b]).isSome = true ∨ ∃ c, .tup [.str a, .str b, .int c] ∈ es) : OpT (tabB L es) (.tup [.str a, .str b]) := by
  obtain ⟨c, e⟩ := kv_int hB.kv (addE_some hB.eds h)
  exact ⟨a, b, c, rfl, ha, hb, e⟩
def edP (p : Str × Str × Int) : PyData := .tuple [.str p.1, .str p.2.1, .int p.2.2]
theorem toPL_eds : ∀ {ds : List D}, (∀ d ∈ ds, EdOk d) → ∃ ps : List (Str × Str × Int), toPL ds = some (ps.map edP)
  | [], _ => ⟨[], rfl⟩
  | d :: ds, h => by
    obtain ⟨r, w, c, rfl, _⟩ := h d List.mem_cons_self
    obtain ⟨ps, e⟩ := toPL_eds fun x hx => h x (List.mem_cons_of_mem _ hx)
    refine ⟨(r, w, c) :: ps, ?_⟩
    show (toP (.tup [.str r, .str w, .int c])).bind (fun p => (toPL ds).map fun ps => p :: ps) = _
    rw [e]; rfl
theorem sortK_eds {ds : List D} (hd : ∀ d ∈ ds, EdOk d) : sortK ds = some (ds.mergeSort leD) := by
  obtain ⟨ps, e⟩ := toPL_eds hd
  unfold sortK
  rw [e, Option.bind_some, if_pos]
  refine ⟨AllAlike.of (enc := edP) fun a b => by simp [edP, alike, alikeAll], Sortable.tuples (enc := edP) fun b => ⟨_, _, rfl⟩, fun p hp => ?_⟩
  obtain ⟨t, _, rfl⟩ := List.mem_map.mp hp
  simp [edP, PyData.depth, PyData.depthAll]
/-- the made edits -/
def zz (z : Str) : Str := z ++ z
def z3 (z : Str) : Str := Txt.mul z 3
def eds (z : Str) : List D := [.tup [.str (zz z), .str z, .int 7], .tup [.str (Str.ofString ""), .str z, .int 3], .tup [.str z, .str (Str.ofString ""), .int 5], .tup [.str z, .str (z3 z), .int 2]]
def ops6 (z : Str) : List D := [.tup [.str (zz z), .str z], .tup [.str (Str.ofString ""), .str z], .tup [.str z, .str (Str.ofString "")], .tup [.str z, .str (z3 z)], .tup [.str z, .str z], .tup [.str z, .str z]]
theorem fs0 {k : Nat} : FS k (Str.ofString "") := ⟨Nat.zero_le _, strOk_of ""⟩
theorem fs_zz {z : Str} (h : FS 1 z) : FS 3 (zz z) := (h.app h).mono (by decide)
theorem fs_z3 {z : Str} (h : FS 1 z) : FS 3 (z3 z) := (h.mul (k := 3) (by decide)).mono (by decide)
theorem eds_ok {z : Str} (h : FS 1 z) : ∀ e ∈ eds z, EdOk e := fun e he => by
  simp only [eds, List.mem_cons, List.not_mem_nil, or_false] at he
  have h3 : FS 3 z := h.mono (by decide)
  rcases he with rfl | rfl | rfl | rfl
  · exact ⟨_, _, _, rfl, fs_zz h, h3, by decide, by decide⟩
  · exact ⟨_, _, _, rfl, fs0, h3, by decide, by decide⟩
  · exact ⟨_, _, _, rfl, h3, fs0, by decide, by decide⟩
  · exact ⟨_, _, _, rfl, h3, fs_z3 h, by decide, by decide⟩
theorem ops6_ok {c : Nat} (hL : FS 26 L) (hc : c ∈ L.cps.toList) (hB : BkOk L ((eds (sg c)).mergeSort leD)) : ∀ d ∈ ops6 (sg c), OpT (tabB L ((eds (sg c)).mergeSort leD)) d := fun d hd => by
  have h : FS 1 (sg c) := FS.one (strOk_iff.mp hL.ok c hc)
  have h3 : FS 3 (sg c) := h.mono (by decide)
  have me : ∀ e, e ∈ eds (sg c) → e ∈ (eds (sg c)).mergeSort leD := fun e he => List.mem_mergeSort.mpr he
  simp only [ops6, List.mem_cons, List.not_mem_nil, or_false] at hd
  rcases hd with rfl | rfl | rfl | rfl | rfl | rfl
  · exact opT_of hB (fs_zz h) h3 (.inr ⟨7, me _ (by simp [eds])⟩)
  · exact opT_of hB fs0 h3 (.inr ⟨3, me _ (by simp [eds])⟩)
  · exact opT_of hB h3 fs0 (.inr ⟨5, me _ (by simp [eds])⟩)
  · exact opT_of hB h3 (fs_z3 h) (.inr ⟨2, me _ (by simp [eds])⟩)
  · exact opT_of hB h3 h3 (.inl (addL_some (.inr ⟨c, hc, rfl⟩)))
  · exact opT_of hB h3 h3 (.inl (addL_some (.inr ⟨c, hc, rfl⟩)))
theorem RowOk.cut {lo hi : Option Int} (h : RowOk t row) : RowOk t (cutL row lo hi) := ⟨fun d hd => h.op d (cutL_mem hd), Nat.le_trans cutL_len h.len⟩
def RowD (t : Tab) (d : D) : Prop := ∃ row, d = .tup row ∧ RowOk t row
theorem JR_cut {I : Sto → Prop} {i : Nat} {lo hi : OM} (h : env[i]? = some (some (.tup row))) (hr : RowOk t row) (hlo : JO I env lo) (hhi : JO I env hi) : J I env (cut o_cut (vr i) lo hi) (RowD t) := J_cut (J_vr (P := fun d => d = .tup row) h rfl) hlo hhi fun S x a b e => by
  subst e
  exact ⟨_, cut_tup, _, rfl, hr.cut⟩
end
end Z

end
section
set_option Elab.async false
set_option linter.all false
set_option maxRecDepth 100000
set_option maxHeartbeats 4000000
set_option autoImplicit false
namespace Z
open PySem PySem.Spec L2 Y PySem.W
section
variable {rest S : Sto} {Q : D → Sto → Prop} {E : Str → List (Str × D) → Sto → Prop} {d : D} {L : Str} {t : Tab} {n : Nat} {row : List D} {env : En} {j : Nat} {es : List D}
theorem fdiv2 {i : Int} : o_fdiv S (.int i) (.int 2) = some (.int (i / 2)) := by
  simp only [o_fdiv]
  rw [if_pos (by decide)]
/-- what a lap leaves -/
def Left (r : Sto) (e3 e4 e5 : Option D) : Prop := ∃ L k es r0, e3 = some (.str L) ∧ e4 = some (.tup [.str L, .tup es]) ∧ e5 = some (.ref (r0.length + 2)) ∧ r = r0 ++ [some (.dT (tabB L es))] ∧ LOk k L ∧ 0 < k ∧ k ≤ 26 ∧ BkOk L es
noncomputable def lapM : SM :=
  (seqS (asg (tgN 3) (cal M__law_letters (lcons (vr 1) (lcons (op2 o_add (ct (.int 1)) (cal M__law_draw (lcons (vr 1) (lcons (ct (.int 6)) lnil)))) lnil))))
  (seqS (asg (tgN 4) (cal M__law_book (lcons (vr 1) (lcons (vr 3) (lcons (op2 o_ix (frz (lstF (lcons (ct (.int 0)) (lcons (ct (.int 4)) (lcons (ct (.int 9)) (lcons (ct (.int 20)) lnil)))))) (cal M__law_draw (lcons (vr 1) (lcons (ct (.int 4)) lnil)))) (lcons (op2 o_ix (frz (lstF (lcons (ct (.int 3)) (lcons (ct (.int 1000)) lnil)))) (vr 2)) lnil))))))
  (seqS (asg (tgN 5) (cal M__law_costs (lcons (vr 4) lnil)))
  (seqS (asg (tgN 6) (cal M__law_drawn_row (lcons (vr 1) (lcons (vr 5) (lcons (ct (.int 30)) lnil)))))
  (seqS (asg (tgN 7) (op2 o_fdiv (calB o_len (lcons (vr 6) lnil)) (ct (.int 2))))
  (seqS (forS (i_of (tupE (lcons (vr 6) (lcons (cut o_cut (vr 6) onoM (osmM (vr 7))) (lcons (cut o_cut (vr 6) (osmM (vr 7)) onoM) (lcons (tupE lnil) lnil)))))) (tgN 8) (ifS (notT (trt (cal M__law_row_holds (lcons (vr 4) (lcons (vr 5) (lcons (vr 8) lnil)))))) (retS (ct (.bl false))) nxS))
  (ifS (notT (trt (cal M__law_checks_hold (lcons (vr 1) (lcons (vr 4) (lcons (vr 5) (lcons (vr 6) lnil))))))) (retS (ct (.bl false))) nxS)))))))
theorem lap_wp {r : Sto} {e4 e5 e6 e7 e8 sc : Option D} {i : Nat} {K : SK} (hS2 : PP r S) (hi2 : i < 2) (K0 : ∀ e S' r' e3 e4 e5 e6 e7 e8, e = [sc, some (.ref 1), some (.int i), e3, e4, e5, e6, e7, e8, none, none, none, none] → PP r' S' → Left r' e3 e4 e5 → K.nx e S') {e3 : Option D} : wS (lapM [sc, some (.ref 1), some (.int i), e3, e4, e5, e6, e7, e8, none, none, none, none] S) K := by
  unfold lapM
  refine wS_seqP (fun e S' => ∃ L k, e = [sc, some (.ref 1), some (.int i), some (.str L), e4, e5, e6, e7, e8, none, none, none, none] ∧ PP r S' ∧ LOk k L ∧ 0 < k ∧ k ≤ 6) ?_ ?_
  · simp only [mkR_eq, wS_augS, wpM_dcN, wpM_rg1, wpM_rg2, wpM_enumA, wpM_iof, wpM_lfS, wS_rai, wS_try, wpM_catF, wpM_revA, wpM_newD, wpM_itemE, wpM_itemT, wpM_hasE, wpM_get1, wpM_get2, wS_putE, wS_putT, and_self, if_true, if_false, Bool.false_eq_true, reduceIte, wS_setS, wS_seq, wS_if, wS_asg, wS_exS, wS_retS, wS_nxS, wS_nx, wS_ret, wpM_op2, wpM_op1, wpM_asT, wpM_trt, wpM_notT, wpM_andT, wpM_orT, wpM_andV, wpM_notE, wpM_ifE, wpM_lnil, wpM_lcons, wpM_tupE, wpM_lstF, wpM_frz, wpM_new, wpM_cal, wpM_calB, wpM_calF, wpM_isiE, wpM_vr, wpM_ct, wpM_meth, wpM_chn, wpM_cut, wpM_cutF, wpM_ono, wpM_osm, wpM_revT, wpM_lfE, wS_for, tgN, List.getElem?_cons_zero, List.getElem?_cons_succ, List.set_cons_zero, List.set_cons_succ, List.map_cons, List.map_nil, List.length_cons, List.length_nil, List.replicate_succ, List.replicate_zero, Nat.reduceAdd, Nat.reduceSub, List.cons_append, List.nil_append]
    refine draw_wp hS2 (by decide) (by decide) ?_
    intro v S3 hS3 v0 v1
    obtain ⟨q, hq⟩ := Int.eq_ofNat_of_zero_le v0
    simp only [mkR_eq, wS_augS, wpM_dcN, wpM_rg1, wpM_rg2, wpM_enumA, wpM_iof, wpM_lfS, wS_rai, wS_try, wpM_catF, wpM_revA, wpM_newD, wpM_itemE, wpM_itemT, wpM_hasE, wpM_get1, wpM_get2, wS_putE, wS_putT, and_self, if_true, if_false, Bool.false_eq_true, reduceIte, wS_setS, wS_seq, wS_if, wS_asg, wS_exS, wS_retS, wS_nxS, wS_nx, wS_ret, wpM_op2, wpM_op1, wpM_asT, wpM_trt, wpM_notT, wpM_andT, wpM_orT, wpM_andV, wpM_notE, wpM_ifE, wpM_lnil, wpM_lcons, wpM_tupE, wpM_lstF, wpM_frz, wpM_new, wpM_cal, wpM_calB, wpM_calF, wpM_isiE, wpM_vr, wpM_ct, wpM_meth, wpM_chn, wpM_cut, wpM_cutF, wpM_ono, wpM_osm, wpM_revT, wpM_lfE, wS_for, tgN, List.getElem?_cons_zero, List.getElem?_cons_succ, List.set_cons_zero, List.set_cons_succ, List.map_cons, List.map_nil, List.length_cons, List.length_nil, List.replicate_succ, List.replicate_zero, Nat.reduceAdd, Nat.reduceSub, List.cons_append, List.nil_append, add_int]
    refine letters_wp (n := q + 1) hS3 (by omega) (by omega) ?_
    intro L S4 hS4 hL
    exact ⟨L, q + 1, rfl, hS4, hL, by omega, by omega⟩
  rintro e S3 ⟨L, k, rfl, hS3, hL, hk0, hk6⟩
  refine wS_seqP (fun e S' => ∃ es, e = [sc, some (.ref 1), some (.int i), some (.str L), some (.tup [.str L, .tup es]), e5, e6, e7, e8, none, none, none, none] ∧ PP r S' ∧ BkOk L es) ?_ ?_
  · simp only [mkR_eq, wS_augS, wpM_dcN, wpM_rg1, wpM_rg2, wpM_enumA, wpM_iof, wpM_lfS, wS_rai, wS_try, wpM_catF, wpM_revA, wpM_newD, wpM_itemE, wpM_itemT, wpM_hasE, wpM_get1, wpM_get2, wS_putE, wS_putT, and_self, if_true, if_false, Bool.false_eq_true, reduceIte, wS_setS, wS_seq, wS_if, wS_asg, wS_exS, wS_retS, wS_nxS, wS_nx, wS_ret, wpM_op2, wpM_op1, wpM_asT, wpM_trt, wpM_notT, wpM_andT, wpM_orT, wpM_andV, wpM_notE, wpM_ifE, wpM_lnil, wpM_lcons, wpM_tupE, wpM_lstF, wpM_frz, wpM_new, wpM_cal, wpM_calB, wpM_calF, wpM_isiE, wpM_vr, wpM_ct, wpM_meth, wpM_chn, wpM_cut, wpM_cutF, wpM_ono, wpM_osm, wpM_revT, wpM_lfE, wS_for, tgN, List.getElem?_cons_zero, List.getElem?_cons_succ, List.set_cons_zero, List.set_cons_succ, List.map_cons, List.map_nil, List.length_cons, List.length_nil, List.replicate_succ, List.replicate_zero, Nat.reduceAdd, Nat.reduceSub, List.cons_append, List.nil_append, le_sz (n := 4) rfl, le_sz (n := 2) rfl]
    refine draw_wp hS3 (by decide) (by decide) ?_
    intro v S4 hS4 v0 v1
    obtain ⟨m, hm, em⟩ := ix_lst (ds := [.int 0, .int 4, .int 9, .int 20]) v0 (by simp; omega)
    have hm : ∃ q : Nat, m = .int (q : Int) ∧ q ≤ 20 := by
      simp only [List.mem_cons, List.not_mem_nil, or_false] at hm
      rcases hm with rfl | rfl | rfl | rfl
      · exact ⟨0, rfl, by omega⟩
      · exact ⟨4, rfl, by omega⟩
      · exact ⟨9, rfl, by omega⟩
      · exact ⟨20, rfl, by omega⟩
    obtain ⟨q, rfl, hq⟩ := hm
    obtain ⟨c, hc, ec⟩ := ix_lst (ds := [.int 3, .int 1000]) (v := (i : Int)) (by omega) (by simp; omega)
    have hc : ∃ q : Int, c = .int q ∧ 0 < q ∧ q ≤ 1000 := by
      simp only [List.mem_cons, List.not_mem_nil, or_false] at hc
      rcases hc with rfl | rfl
      · exact ⟨3, rfl, by omega, by omega⟩
      · exact ⟨1000, rfl, by omega, by omega⟩
    obtain ⟨c, rfl, c0, c1⟩ := hc
    simp only [mkR_eq, wS_augS, wpM_dcN, wpM_rg1, wpM_rg2, wpM_enumA, wpM_iof, wpM_lfS, wS_rai, wS_try, wpM_catF, wpM_revA, wpM_newD, wpM_itemE, wpM_itemT, wpM_hasE, wpM_get1, wpM_get2, wS_putE, wS_putT, and_self, if_true, if_false, Bool.false_eq_true, reduceIte, wS_setS, wS_seq, wS_if, wS_asg, wS_exS, wS_retS, wS_nxS, wS_nx, wS_ret, wpM_op2, wpM_op1, wpM_asT, wpM_trt, wpM_notT, wpM_andT, wpM_orT, wpM_andV, wpM_notE, wpM_ifE, wpM_lnil, wpM_lcons, wpM_tupE, wpM_lstF, wpM_frz, wpM_new, wpM_cal, wpM_calB, wpM_calF, wpM_isiE, wpM_vr, wpM_ct, wpM_meth, wpM_chn, wpM_cut, wpM_cutF, wpM_ono, wpM_osm, wpM_revT, wpM_lfE, wS_for, tgN, List.getElem?_cons_zero, List.getElem?_cons_succ, List.set_cons_zero, List.set_cons_succ, List.map_cons, List.map_nil, List.length_cons, List.length_nil, List.replicate_succ, List.replicate_zero, Nat.reduceAdd, Nat.reduceSub, List.cons_append, List.nil_append, em, ec]
    refine book_wp hS4 hL hk0 (by omega) rfl (by omega) c0 (by omega) ?_
    intro es S5 hS5 hle hes
    exact ⟨es, rfl, hS5, hL.fs.mono (by omega), hes, by omega⟩
  rintro e S4 ⟨es, rfl, hS4, hB⟩
  refine wS_seqP (fun e S' => e = [sc, some (.ref 1), some (.int i), some (.str L), some (.tup [.str L, .tup es]), some (.ref (r.length + 2)), e6, e7, e8, none, none, none, none] ∧ PP (r ++ [some (.dT (tabB L es))]) S') ?_ ?_
  · simp only [mkR_eq, wS_augS, wpM_dcN, wpM_rg1, wpM_rg2, wpM_enumA, wpM_iof, wpM_lfS, wS_rai, wS_try, wpM_catF, wpM_revA, wpM_newD, wpM_itemE, wpM_itemT, wpM_hasE, wpM_get1, wpM_get2, wS_putE, wS_putT, and_self, if_true, if_false, Bool.false_eq_true, reduceIte, wS_setS, wS_seq, wS_if, wS_asg, wS_exS, wS_retS, wS_nxS, wS_nx, wS_ret, wpM_op2, wpM_op1, wpM_asT, wpM_trt, wpM_notT, wpM_andT, wpM_orT, wpM_andV, wpM_notE, wpM_ifE, wpM_lnil, wpM_lcons, wpM_tupE, wpM_lstF, wpM_frz, wpM_new, wpM_cal, wpM_calB, wpM_calF, wpM_isiE, wpM_vr, wpM_ct, wpM_meth, wpM_chn, wpM_cut, wpM_cutF, wpM_ono, wpM_osm, wpM_revT, wpM_lfE, wS_for, tgN, List.getElem?_cons_zero, List.getElem?_cons_succ, List.set_cons_zero, List.set_cons_succ, List.map_cons, List.map_nil, List.length_cons, List.length_nil, List.replicate_succ, List.replicate_zero, Nat.reduceAdd, Nat.reduceSub, List.cons_append, List.nil_append, lcosts_eq hB, wpM_ok, hS4.len]
    exact ⟨by trivial, hS4.app⟩
  rintro e S5 ⟨rfl, hS5⟩
  have hj : (r ++ [some (Ob.dT (tabB L es))])[r.length]? = some (some (.dT (tabB L es))) := by simp
  have hpos : 0 < L.length := by rw [hL.len]; exact hk0
  refine wS_seqP (fun e S' => ∃ row, e = [sc, some (.ref 1), some (.int i), some (.str L), some (.tup [.str L, .tup es]), some (.ref (r.length + 2)), some (.tup row), e7, e8, none, none, none, none] ∧ PP (r ++ [some (.dT (tabB L es))]) S' ∧ RowOk (tabB L es) row) ?_ ?_
  · simp only [mkR_eq, wS_augS, wpM_dcN, wpM_rg1, wpM_rg2, wpM_enumA, wpM_iof, wpM_lfS, wS_rai, wS_try, wpM_catF, wpM_revA, wpM_newD, wpM_itemE, wpM_itemT, wpM_hasE, wpM_get1, wpM_get2, wS_putE, wS_putT, and_self, if_true, if_false, Bool.false_eq_true, reduceIte, wS_setS, wS_seq, wS_if, wS_asg, wS_exS, wS_retS, wS_nxS, wS_nx, wS_ret, wpM_op2, wpM_op1, wpM_asT, wpM_trt, wpM_notT, wpM_andT, wpM_orT, wpM_andV, wpM_notE, wpM_ifE, wpM_lnil, wpM_lcons, wpM_tupE, wpM_lstF, wpM_frz, wpM_new, wpM_cal, wpM_calB, wpM_calF, wpM_isiE, wpM_vr, wpM_ct, wpM_meth, wpM_chn, wpM_cut, wpM_cutF, wpM_ono, wpM_osm, wpM_revT, wpM_lfE, wS_for, tgN, List.getElem?_cons_zero, List.getElem?_cons_succ, List.set_cons_zero, List.set_cons_succ, List.map_cons, List.map_nil, List.length_cons, List.length_nil, List.replicate_succ, List.replicate_zero, Nat.reduceAdd, Nat.reduceSub, List.cons_append, List.nil_append]
    refine drawn_wp (n := 30) hS5 hj hB.kv (tabB_pos hpos) (by have := hB.ln; omega) rfl (by omega) ?_
    intro row S6 hS6 hr _
    exact ⟨row, rfl, hS6, hr⟩
  rintro e S6 ⟨row, rfl, hS6, hr⟩
  refine wS_seqP (fun e S' => ∃ h, e = [sc, some (.ref 1), some (.int i), some (.str L), some (.tup [.str L, .tup es]), some (.ref (r.length + 2)), some (.tup row), some (.int h), e8, none, none, none, none] ∧ S' = S6) ?_ ?_
  · simp only [mkR_eq, wS_augS, wpM_dcN, wpM_rg1, wpM_rg2, wpM_enumA, wpM_iof, wpM_lfS, wS_rai, wS_try, wpM_catF, wpM_revA, wpM_newD, wpM_itemE, wpM_itemT, wpM_hasE, wpM_get1, wpM_get2, wS_putE, wS_putT, and_self, if_true, if_false, Bool.false_eq_true, reduceIte, wS_setS, wS_seq, wS_if, wS_asg, wS_exS, wS_retS, wS_nxS, wS_nx, wS_ret, wpM_op2, wpM_op1, wpM_asT, wpM_trt, wpM_notT, wpM_andT, wpM_orT, wpM_andV, wpM_notE, wpM_ifE, wpM_lnil, wpM_lcons, wpM_tupE, wpM_lstF, wpM_frz, wpM_new, wpM_cal, wpM_calB, wpM_calF, wpM_isiE, wpM_vr, wpM_ct, wpM_meth, wpM_chn, wpM_cut, wpM_cutF, wpM_ono, wpM_osm, wpM_revT, wpM_lfE, wS_for, tgN, List.getElem?_cons_zero, List.getElem?_cons_succ, List.set_cons_zero, List.set_cons_succ, List.map_cons, List.map_nil, List.length_cons, List.length_nil, List.replicate_succ, List.replicate_zero, Nat.reduceAdd, Nat.reduceSub, List.cons_append, List.nil_append, len_tup, fdiv2]
    exact ⟨_, rfl, by trivial⟩
  rintro e S7 ⟨hf, rfl, rfl⟩
  have jh : ∀ {I : Sto → Prop} {env : En}, env[7]? = some (some (.int hf)) → JO I env (osmM (vr 7)) := fun h => JO_osm (JI_vr h (Int.le_refl _) (Int.le_refl _))
  rw [wS_seq, wS_for, wpM_iof]
  refine (J_tupP (P := RowD (tabB L es)) (k := 4) (LP_cons (J_vr rfl ⟨_, rfl, hr⟩) (LP_cons (JR_cut rfl hr JO_ono (jh rfl)) (LP_cons (JR_cut rfl hr (jh rfl) JO_ono) (LP_cons ?_ LP_nil)))) (by decide)).use hS6 ?_
  · intro S hS
    simp only [mkR_eq, wpM_tupE, wpM_lnil, List.length_nil, le_sz (n := 0) rfl, if_true]
    exact ⟨⟨[], rfl, fun d hd => (nomatch hd), Nat.zero_le _⟩, hS⟩
  rintro d S8 ⟨parts, rfl, hparts⟩ hS8
  simp only [mkR_eq, srcOf, wpM_lfS]
  refine wS_loop (fun i2 e S' => S' = S8 ∧ ∃ e8, e = [sc, some (.ref 1), some (.int i), some (.str L), some (.tup [.str L, .tup es]), some (.ref (r.length + 2)), some (.tup row), some (.int hf), e8, none, none, none, none]) parts 0 _ _ ⟨rfl, _, rfl⟩ ?_ ?_
  · rintro i2 d e S' hi3 ⟨rfl, e8, rfl⟩
    refine ⟨okSrc_nil, _, rfl, ?_⟩
    obtain ⟨row2, rfl, hr2⟩ := hparts.1 d (List.mem_of_getElem? hi3)
    simp only [mkR_eq, wS_augS, wpM_dcN, wpM_rg1, wpM_rg2, wpM_enumA, wpM_iof, wpM_lfS, wS_rai, wS_try, wpM_catF, wpM_revA, wpM_newD, wpM_itemE, wpM_itemT, wpM_hasE, wpM_get1, wpM_get2, wS_putE, wS_putT, and_self, if_true, if_false, Bool.false_eq_true, reduceIte, wS_setS, wS_seq, wS_if, wS_asg, wS_exS, wS_retS, wS_nxS, wS_nx, wS_ret, wpM_op2, wpM_op1, wpM_asT, wpM_trt, wpM_notT, wpM_andT, wpM_orT, wpM_andV, wpM_notE, wpM_ifE, wpM_lnil, wpM_lcons, wpM_tupE, wpM_lstF, wpM_frz, wpM_new, wpM_cal, wpM_calB, wpM_calF, wpM_isiE, wpM_vr, wpM_ct, wpM_meth, wpM_chn, wpM_cut, wpM_cutF, wpM_ono, wpM_osm, wpM_revT, wpM_lfE, wS_for, tgN, List.getElem?_cons_zero, List.getElem?_cons_succ, List.set_cons_zero, List.set_cons_succ, List.map_cons, List.map_nil, List.length_cons, List.length_nil, List.replicate_succ, List.replicate_zero, Nat.reduceAdd, Nat.reduceSub, List.cons_append, List.nil_append, row_holds_eq hB hr2 (hS8.at hj), wpM_ok, tru, Bool.not_true]
    exact ⟨by trivial, _, rfl⟩
  · rintro e S' ⟨rfl, e8, rfl⟩
    refine ⟨okSrc_nil, ?_⟩
    simp only [mkR_eq, wS_augS, wpM_dcN, wpM_rg1, wpM_rg2, wpM_enumA, wpM_iof, wpM_lfS, wS_rai, wS_try, wpM_catF, wpM_revA, wpM_newD, wpM_itemE, wpM_itemT, wpM_hasE, wpM_get1, wpM_get2, wS_putE, wS_putT, and_self, if_true, if_false, Bool.false_eq_true, reduceIte, wS_setS, wS_seq, wS_if, wS_asg, wS_exS, wS_retS, wS_nxS, wS_nx, wS_ret, wpM_op2, wpM_op1, wpM_asT, wpM_trt, wpM_notT, wpM_andT, wpM_orT, wpM_andV, wpM_notE, wpM_ifE, wpM_lnil, wpM_lcons, wpM_tupE, wpM_lstF, wpM_frz, wpM_new, wpM_cal, wpM_calB, wpM_calF, wpM_isiE, wpM_vr, wpM_ct, wpM_meth, wpM_chn, wpM_cut, wpM_cutF, wpM_ono, wpM_osm, wpM_revT, wpM_lfE, wS_for, tgN, List.getElem?_cons_zero, List.getElem?_cons_succ, List.set_cons_zero, List.set_cons_succ, List.map_cons, List.map_nil, List.length_cons, List.length_nil, List.replicate_succ, List.replicate_zero, Nat.reduceAdd, Nat.reduceSub, List.cons_append, List.nil_append]
    refine checks_wp hS8 hj hB hL hk0 (by omega) hr ?_
    intro S9 hS9
    simp only [mkR_eq, wS_augS, wpM_dcN, wpM_rg1, wpM_rg2, wpM_enumA, wpM_iof, wpM_lfS, wS_rai, wS_try, wpM_catF, wpM_revA, wpM_newD, wpM_itemE, wpM_itemT, wpM_hasE, wpM_get1, wpM_get2, wS_putE, wS_putT, and_self, if_true, if_false, Bool.false_eq_true, reduceIte, wS_setS, wS_seq, wS_if, wS_asg, wS_exS, wS_retS, wS_nxS, wS_nx, wS_ret, wpM_op2, wpM_op1, wpM_asT, wpM_trt, wpM_notT, wpM_andT, wpM_orT, wpM_andV, wpM_notE, wpM_ifE, wpM_lnil, wpM_lcons, wpM_tupE, wpM_lstF, wpM_frz, wpM_new, wpM_cal, wpM_calB, wpM_calF, wpM_isiE, wpM_vr, wpM_ct, wpM_meth, wpM_chn, wpM_cut, wpM_cutF, wpM_ono, wpM_osm, wpM_revT, wpM_lfE, wS_for, tgN, List.getElem?_cons_zero, List.getElem?_cons_succ, List.set_cons_zero, List.set_cons_succ, List.map_cons, List.map_nil, List.length_cons, List.length_nil, List.replicate_succ, List.replicate_zero, Nat.reduceAdd, Nat.reduceSub, List.cons_append, List.nil_append, tru, Bool.not_true]
    exact K0 _ _ _ _ _ _ _ _ _ rfl hS9 ⟨L, k, es, r, rfl, rfl, rfl, rfl, hL, hk0, by omega, hB⟩
end
end Z

end
section
set_option Elab.async false
set_option linter.all false
set_option maxRecDepth 100000
set_option maxHeartbeats 4000000
set_option autoImplicit false
namespace Z
open PySem PySem.Spec L2 Y PySem.W
section
variable {rest S : Sto} {Q : D → Sto → Prop} {E : Str → List (Str × D) → Sto → Prop} {d : D} {L : Str} {t : Tab} {n : Nat} {row : List D} {env : En} {j : Nat} {es : List D}
noncomputable def endM : SM :=
  (seqS (asg (tgN 9) (op2 o_ix (vr 3) (ct (.int 0))))
  (seqS (asg (tgN 10) (tupE (lcons (tupE (lcons (op2 o_add (vr 9) (vr 9)) (lcons (vr 9) (lcons (ct (.int 7)) lnil)))) (lcons (tupE (lcons (ct (.str (Str.ofString ""))) (lcons (vr 9) (lcons (ct (.int 3)) lnil)))) (lcons (tupE (lcons (vr 9) (lcons (ct (.str (Str.ofString ""))) (lcons (ct (.int 5)) lnil)))) (lcons (tupE (lcons (vr 9) (lcons (op2 o_mulA (vr 9) (ct (.int 3))) (lcons (ct (.int 2)) lnil)))) lnil))))))
  (seqS (asg (tgN 11) (tupE (lcons (vr 3) (lcons (calB o_tupleA (lcons (frz (calF o_sortedV (lcons (vr 10) lnil))) lnil)) lnil))))
  (seqS (asg (tgN 6) (calB o_tupleA (lcons (cal M__law_shuffled (lcons (vr 1) (lcons (frz (catF (compF (i_of (vr 10)) (tgN 12) yesT (cut o_cut (vr 12) onoM (osmM (ct (.int 2)))) [12]) (frz (lstF (lcons (tupE (lcons (vr 9) (lcons (vr 9) lnil))) (lcons (tupE (lcons (vr 9) (lcons (vr 9) lnil))) lnil)))))) lnil))) lnil)))
  (seqS (ifS (notT (trt (cal M__law_row_holds (lcons (vr 11) (lcons (cal M__law_costs (lcons (vr 11) lnil)) (lcons (vr 6) lnil)))))) (retS (ct (.bl false))) nxS)
  (seqS (ifS (asT (op2 o_eq (cal M__law_draw (lcons (vr 1) (lcons (ct (.int 7)) lnil))) (ct (.int 2)))) (retS (cal M__law_long_holds (lcons (vr 1) (lcons (vr 4) (lcons (vr 5) lnil))))) nxS)
  (retS (ct (.bl true)))))))))
theorem ops6_len {z : Str} : (ops6 z).length = 6 := rfl
theorem eds_len {z : Str} : (eds z).length = 4 := rfl
def cut2 : D → D
  | .tup ds => .tup (cutL ds none (some 2))
  | _ => .non
theorem eds_cut {z : Str} : (eds z).map cut2 ++ [.tup [.str z, .str z], .tup [.str z, .str z]] = ops6 z := rfl
noncomputable def end2M : SM :=
  (seqS (asg (tgN 6) (calB o_tupleA (lcons (cal M__law_shuffled (lcons (vr 1) (lcons (frz (catF (compF (i_of (vr 10)) (tgN 12) yesT (cut o_cut (vr 12) onoM (osmM (ct (.int 2)))) [12]) (frz (lstF (lcons (tupE (lcons (vr 9) (lcons (vr 9) lnil))) (lcons (tupE (lcons (vr 9) (lcons (vr 9) lnil))) lnil)))))) lnil))) lnil)))
  (seqS (ifS (notT (trt (cal M__law_row_holds (lcons (vr 11) (lcons (cal M__law_costs (lcons (vr 11) lnil)) (lcons (vr 6) lnil)))))) (retS (ct (.bl false))) nxS)
  (seqS (ifS (asT (op2 o_eq (cal M__law_draw (lcons (vr 1) (lcons (ct (.int 7)) lnil))) (ct (.int 2)))) (retS (cal M__law_long_holds (lcons (vr 1) (lcons (vr 4) (lcons (vr 5) lnil))))) nxS)
  (retS (ct (.bl true))))))
theorem end2_wp {r0 : Sto} {e2 e6 e7 e8 sc : Option D} {K : SK} {es2 : List D} {z : Str} (hS5 : PP (r0 ++ [some (.dT (tabB L es))]) S) (hp : 0 < L.length) (hB : BkOk L es) (hz : FS 1 z) (hB2 : BkOk L es2) (hops : ∀ d ∈ ops6 z, OpT (tabB L es2) d) (K0 : ∀ S', K.rt (.bl true) S') :
    wS (end2M [sc, some (.ref 1), e2, some (.str L), some (.tup [.str L, .tup es]), some (.ref (r0.length + 2)), e6, e7, e8, some (.str z), some (.tup (eds z)), some (.tup [.str L, .tup es2]), none] S) K := by
  unfold end2M
  refine wS_seqP (fun e S' => ∃ row, e = [sc, some (.ref 1), e2, some (.str L), some (.tup [.str L, .tup es]), some (.ref (r0.length + 2)), some (.tup row), e7, e8, some (.str z), some (.tup (eds z)), some (.tup [.str L, .tup es2]), none] ∧ PP (r0 ++ [some (.dT (tabB L es))]) S' ∧ RowOk (tabB L es2) row) ?_ ?_
  · simp only [mkR_eq, wS_augS, wpM_dcN, wpM_rg1, wpM_rg2, wpM_enumA, wpM_iof, wpM_lfS, wS_rai, wS_try, wpM_catF, wpM_revA, wpM_newD, wpM_itemE, wpM_itemT, wpM_hasE, wpM_get1, wpM_get2, wS_putE, wS_putT, and_self, if_true, if_false, Bool.false_eq_true, reduceIte, wS_setS, wS_seq, wS_if, wS_asg, wS_exS, wS_retS, wS_nxS, wS_nx, wS_ret, wpM_op2, wpM_op1, wpM_asT, wpM_trt, wpM_notT, wpM_andT, wpM_orT, wpM_andV, wpM_notE, wpM_ifE, wpM_lnil, wpM_lcons, wpM_tupE, wpM_lstF, wpM_frz, wpM_new, wpM_cal, wpM_calB, wpM_calF, wpM_isiE, wpM_vr, wpM_ct, wpM_meth, wpM_chn, wpM_cut, wpM_cutF, wpM_ono, wpM_osm, wpM_revT, wpM_lfE, wS_for, tgN, List.getElem?_cons_zero, List.getElem?_cons_succ, List.set_cons_zero, List.set_cons_succ, List.map_cons, List.map_nil, List.length_cons, List.length_nil, List.replicate_succ, List.replicate_zero, Nat.reduceAdd, Nat.reduceSub, List.cons_append, List.nil_append, le_sz (n := 2) rfl]
    refine ok_eq (comp_all (f := cut2) (it_tup rfl) (fun X => okSrc_nilX X) (by rw [eds_len]; omega) (fun d hd => ?_) (fun d hd X => ?_)) ?_
    · obtain ⟨r, w, c, rfl, _⟩ := eds_ok hz d hd
      rfl
    · obtain ⟨r, w, c, rfl, _⟩ := eds_ok hz d hd
      refine ⟨_, rfl, eq_of_wp ?_⟩
      simp only [mkR_eq, wS_augS, wpM_dcN, wpM_rg1, wpM_rg2, wpM_enumA, wpM_iof, wpM_lfS, wS_rai, wS_try, wpM_catF, wpM_revA, wpM_newD, wpM_itemE, wpM_itemT, wpM_hasE, wpM_get1, wpM_get2, wS_putE, wS_putT, and_self, if_true, if_false, Bool.false_eq_true, reduceIte, wS_setS, wS_seq, wS_if, wS_asg, wS_exS, wS_retS, wS_nxS, wS_nx, wS_ret, wpM_op2, wpM_op1, wpM_asT, wpM_trt, wpM_notT, wpM_andT, wpM_orT, wpM_andV, wpM_notE, wpM_ifE, wpM_lnil, wpM_lcons, wpM_tupE, wpM_lstF, wpM_frz, wpM_new, wpM_cal, wpM_calB, wpM_calF, wpM_isiE, wpM_vr, wpM_ct, wpM_meth, wpM_chn, wpM_cut, wpM_cutF, wpM_ono, wpM_osm, wpM_revT, wpM_lfE, wS_for, tgN, List.getElem?_cons_zero, List.getElem?_cons_succ, List.set_cons_zero, List.set_cons_succ, List.map_cons, List.map_nil, List.length_cons, List.length_nil, List.replicate_succ, List.replicate_zero, Nat.reduceAdd, Nat.reduceSub, List.cons_append, List.nil_append, wipeE, cut_tup, cut2]
    simp only [mkR_eq, wS_augS, wpM_dcN, wpM_rg1, wpM_rg2, wpM_enumA, wpM_iof, wpM_lfS, wS_rai, wS_try, wpM_catF, wpM_revA, wpM_newD, wpM_itemE, wpM_itemT, wpM_hasE, wpM_get1, wpM_get2, wS_putE, wS_putT, and_self, if_true, if_false, Bool.false_eq_true, reduceIte, wS_setS, wS_seq, wS_if, wS_asg, wS_exS, wS_retS, wS_nxS, wS_nx, wS_ret, wpM_op2, wpM_op1, wpM_asT, wpM_trt, wpM_notT, wpM_andT, wpM_orT, wpM_andV, wpM_notE, wpM_ifE, wpM_lnil, wpM_lcons, wpM_tupE, wpM_lstF, wpM_frz, wpM_new, wpM_cal, wpM_calB, wpM_calF, wpM_isiE, wpM_vr, wpM_ct, wpM_meth, wpM_chn, wpM_cut, wpM_cutF, wpM_ono, wpM_osm, wpM_revT, wpM_lfE, wS_for, tgN, List.getElem?_cons_zero, List.getElem?_cons_succ, List.set_cons_zero, List.set_cons_succ, List.map_cons, List.map_nil, List.length_cons, List.length_nil, List.replicate_succ, List.replicate_zero, Nat.reduceAdd, Nat.reduceSub, List.cons_append, List.nil_append, lstOf, Option.bind_some, List.length_map, eds_len, le_sz (n := 4 + 2) rfl, eds_cut]
    refine shuf_wp (ds := ops6 z) hS5 (fun S => rfl) (fun S => rfl) (fun d hd => fd_pure (hops d hd).fd) (by rw [ops6_len]; omega) ?_
    intro out S6 hS6 hl hm
    have hr : RowOk (tabB L es2) out := ⟨fun d hd => hops d (hm d hd), by rw [hl, ops6_len]; omega⟩
    have et : o_tupleA S6 [.lst out] = some (.tup out) := rfl
    simp only [mkR_eq, wS_augS, wpM_dcN, wpM_rg1, wpM_rg2, wpM_enumA, wpM_iof, wpM_lfS, wS_rai, wS_try, wpM_catF, wpM_revA, wpM_newD, wpM_itemE, wpM_itemT, wpM_hasE, wpM_get1, wpM_get2, wS_putE, wS_putT, and_self, if_true, if_false, Bool.false_eq_true, reduceIte, wS_setS, wS_seq, wS_if, wS_asg, wS_exS, wS_retS, wS_nxS, wS_nx, wS_ret, wpM_op2, wpM_op1, wpM_asT, wpM_trt, wpM_notT, wpM_andT, wpM_orT, wpM_andV, wpM_notE, wpM_ifE, wpM_lnil, wpM_lcons, wpM_tupE, wpM_lstF, wpM_frz, wpM_new, wpM_cal, wpM_calB, wpM_calF, wpM_isiE, wpM_vr, wpM_ct, wpM_meth, wpM_chn, wpM_cut, wpM_cutF, wpM_ono, wpM_osm, wpM_revT, wpM_lfE, wS_for, tgN, List.getElem?_cons_zero, List.getElem?_cons_succ, List.set_cons_zero, List.set_cons_succ, List.map_cons, List.map_nil, List.length_cons, List.length_nil, List.replicate_succ, List.replicate_zero, Nat.reduceAdd, Nat.reduceSub, List.cons_append, List.nil_append, et]
    exact ⟨out, rfl, hS6, hr⟩
  rintro e S6 ⟨row, rfl, hS6, hr⟩
  refine wS_seqP (fun e S' => e = [sc, some (.ref 1), e2, some (.str L), some (.tup [.str L, .tup es]), some (.ref (r0.length + 2)), some (.tup row), e7, e8, some (.str z), some (.tup (eds z)), some (.tup [.str L, .tup es2]), none] ∧ PP (r0 ++ [some (.dT (tabB L es))] ++ [some (.dT (tabB L es2))]) S') ?_ ?_
  · simp only [mkR_eq, wS_augS, wpM_dcN, wpM_rg1, wpM_rg2, wpM_enumA, wpM_iof, wpM_lfS, wS_rai, wS_try, wpM_catF, wpM_revA, wpM_newD, wpM_itemE, wpM_itemT, wpM_hasE, wpM_get1, wpM_get2, wS_putE, wS_putT, and_self, if_true, if_false, Bool.false_eq_true, reduceIte, wS_setS, wS_seq, wS_if, wS_asg, wS_exS, wS_retS, wS_nxS, wS_nx, wS_ret, wpM_op2, wpM_op1, wpM_asT, wpM_trt, wpM_notT, wpM_andT, wpM_orT, wpM_andV, wpM_notE, wpM_ifE, wpM_lnil, wpM_lcons, wpM_tupE, wpM_lstF, wpM_frz, wpM_new, wpM_cal, wpM_calB, wpM_calF, wpM_isiE, wpM_vr, wpM_ct, wpM_meth, wpM_chn, wpM_cut, wpM_cutF, wpM_ono, wpM_osm, wpM_revT, wpM_lfE, wS_for, tgN, List.getElem?_cons_zero, List.getElem?_cons_succ, List.set_cons_zero, List.set_cons_succ, List.map_cons, List.map_nil, List.length_cons, List.length_nil, List.replicate_succ, List.replicate_zero, Nat.reduceAdd, Nat.reduceSub, List.cons_append, List.nil_append, lcosts_eq hB2, wpM_ok, row_holds_eq hB2 hr (end_at (S := S6)), tru, Bool.not_true]
    exact ⟨by trivial, hS6.app⟩
  rintro e S7 ⟨rfl, hS7⟩
  refine wS_seqP (fun e S' => e = [sc, some (.ref 1), e2, some (.str L), some (.tup [.str L, .tup es]), some (.ref (r0.length + 2)), some (.tup row), e7, e8, some (.str z), some (.tup (eds z)), some (.tup [.str L, .tup es2]), none]) ?_ ?_
  · simp only [mkR_eq, wS_augS, wpM_dcN, wpM_rg1, wpM_rg2, wpM_enumA, wpM_iof, wpM_lfS, wS_rai, wS_try, wpM_catF, wpM_revA, wpM_newD, wpM_itemE, wpM_itemT, wpM_hasE, wpM_get1, wpM_get2, wS_putE, wS_putT, and_self, if_true, if_false, Bool.false_eq_true, reduceIte, wS_setS, wS_seq, wS_if, wS_asg, wS_exS, wS_retS, wS_nxS, wS_nx, wS_ret, wpM_op2, wpM_op1, wpM_asT, wpM_trt, wpM_notT, wpM_andT, wpM_orT, wpM_andV, wpM_notE, wpM_ifE, wpM_lnil, wpM_lcons, wpM_tupE, wpM_lstF, wpM_frz, wpM_new, wpM_cal, wpM_calB, wpM_calF, wpM_isiE, wpM_vr, wpM_ct, wpM_meth, wpM_chn, wpM_cut, wpM_cutF, wpM_ono, wpM_osm, wpM_revT, wpM_lfE, wS_for, tgN, List.getElem?_cons_zero, List.getElem?_cons_succ, List.set_cons_zero, List.set_cons_succ, List.map_cons, List.map_nil, List.length_cons, List.length_nil, List.replicate_succ, List.replicate_zero, Nat.reduceAdd, Nat.reduceSub, List.cons_append, List.nil_append]
    refine draw_wp hS7 (by decide) (by decide) ?_
    intro v S8 hS8 v0 v1
    simp only [mkR_eq, wS_augS, wpM_dcN, wpM_rg1, wpM_rg2, wpM_enumA, wpM_iof, wpM_lfS, wS_rai, wS_try, wpM_catF, wpM_revA, wpM_newD, wpM_itemE, wpM_itemT, wpM_hasE, wpM_get1, wpM_get2, wS_putE, wS_putT, and_self, if_true, if_false, Bool.false_eq_true, reduceIte, wS_setS, wS_seq, wS_if, wS_asg, wS_exS, wS_retS, wS_nxS, wS_nx, wS_ret, wpM_op2, wpM_op1, wpM_asT, wpM_trt, wpM_notT, wpM_andT, wpM_orT, wpM_andV, wpM_notE, wpM_ifE, wpM_lnil, wpM_lcons, wpM_tupE, wpM_lstF, wpM_frz, wpM_new, wpM_cal, wpM_calB, wpM_calF, wpM_isiE, wpM_vr, wpM_ct, wpM_meth, wpM_chn, wpM_cut, wpM_cutF, wpM_ono, wpM_osm, wpM_revT, wpM_lfE, wS_for, tgN, List.getElem?_cons_zero, List.getElem?_cons_succ, List.set_cons_zero, List.set_cons_succ, List.map_cons, List.map_nil, List.length_cons, List.length_nil, List.replicate_succ, List.replicate_zero, Nat.reduceAdd, Nat.reduceSub, List.cons_append, List.nil_append, eq_int]
    rcases Bool.eq_false_or_eq_true (v == 2) with c | c
    · simp only [c, mkR_eq, wS_augS, wpM_dcN, wpM_rg1, wpM_rg2, wpM_enumA, wpM_iof, wpM_lfS, wS_rai, wS_try, wpM_catF, wpM_revA, wpM_newD, wpM_itemE, wpM_itemT, wpM_hasE, wpM_get1, wpM_get2, wS_putE, wS_putT, and_self, if_true, if_false, Bool.false_eq_true, reduceIte, wS_setS, wS_seq, wS_if, wS_asg, wS_exS, wS_retS, wS_nxS, wS_nx, wS_ret, wpM_op2, wpM_op1, wpM_asT, wpM_trt, wpM_notT, wpM_andT, wpM_orT, wpM_andV, wpM_notE, wpM_ifE, wpM_lnil, wpM_lcons, wpM_tupE, wpM_lstF, wpM_frz, wpM_new, wpM_cal, wpM_calB, wpM_calF, wpM_isiE, wpM_vr, wpM_ct, wpM_meth, wpM_chn, wpM_cut, wpM_cutF, wpM_ono, wpM_osm, wpM_revT, wpM_lfE, wS_for, tgN, List.getElem?_cons_zero, List.getElem?_cons_succ, List.set_cons_zero, List.set_cons_succ, List.map_cons, List.map_nil, List.length_cons, List.length_nil, List.replicate_succ, List.replicate_zero, Nat.reduceAdd, Nat.reduceSub, List.cons_append, List.nil_append]
      have hj : (r0 ++ [some (Ob.dT (tabB L es))] ++ [some (Ob.dT (tabB L es2))])[r0.length]? = some (some (.dT (tabB L es))) := at_app (by simp)
      exact long_wp hS8 hj hB hp fun S' _ => K0 S'
    · simp only [c, mkR_eq, wS_augS, wpM_dcN, wpM_rg1, wpM_rg2, wpM_enumA, wpM_iof, wpM_lfS, wS_rai, wS_try, wpM_catF, wpM_revA, wpM_newD, wpM_itemE, wpM_itemT, wpM_hasE, wpM_get1, wpM_get2, wS_putE, wS_putT, and_self, if_true, if_false, Bool.false_eq_true, reduceIte, wS_setS, wS_seq, wS_if, wS_asg, wS_exS, wS_retS, wS_nxS, wS_nx, wS_ret, wpM_op2, wpM_op1, wpM_asT, wpM_trt, wpM_notT, wpM_andT, wpM_orT, wpM_andV, wpM_notE, wpM_ifE, wpM_lnil, wpM_lcons, wpM_tupE, wpM_lstF, wpM_frz, wpM_new, wpM_cal, wpM_calB, wpM_calF, wpM_isiE, wpM_vr, wpM_ct, wpM_meth, wpM_chn, wpM_cut, wpM_cutF, wpM_ono, wpM_osm, wpM_revT, wpM_lfE, wS_for, tgN, List.getElem?_cons_zero, List.getElem?_cons_succ, List.set_cons_zero, List.set_cons_succ, List.map_cons, List.map_nil, List.length_cons, List.length_nil, List.replicate_succ, List.replicate_zero, Nat.reduceAdd, Nat.reduceSub, List.cons_append, List.nil_append]
  rintro e S8 rfl
  simp only [mkR_eq, wS_augS, wpM_dcN, wpM_rg1, wpM_rg2, wpM_enumA, wpM_iof, wpM_lfS, wS_rai, wS_try, wpM_catF, wpM_revA, wpM_newD, wpM_itemE, wpM_itemT, wpM_hasE, wpM_get1, wpM_get2, wS_putE, wS_putT, and_self, if_true, if_false, Bool.false_eq_true, reduceIte, wS_setS, wS_seq, wS_if, wS_asg, wS_exS, wS_retS, wS_nxS, wS_nx, wS_ret, wpM_op2, wpM_op1, wpM_asT, wpM_trt, wpM_notT, wpM_andT, wpM_orT, wpM_andV, wpM_notE, wpM_ifE, wpM_lnil, wpM_lcons, wpM_tupE, wpM_lstF, wpM_frz, wpM_new, wpM_cal, wpM_calB, wpM_calF, wpM_isiE, wpM_vr, wpM_ct, wpM_meth, wpM_chn, wpM_cut, wpM_cutF, wpM_ono, wpM_osm, wpM_revT, wpM_lfE, wS_for, tgN, List.getElem?_cons_zero, List.getElem?_cons_succ, List.set_cons_zero, List.set_cons_succ, List.map_cons, List.map_nil, List.length_cons, List.length_nil, List.replicate_succ, List.replicate_zero, Nat.reduceAdd, Nat.reduceSub, List.cons_append, List.nil_append]
  exact K0 S8
theorem end_wp {r0 : Sto} {e2 e6 e7 e8 sc : Option D} {k : Nat} {K : SK} (hS2 : PP (r0 ++ [some (.dT (tabB L es))]) S) (hL : LOk k L) (hk0 : 0 < k) (hk26 : k ≤ 26) (hB : BkOk L es) (K0 : ∀ S', K.rt (.bl true) S') : wS (endM [sc, some (.ref 1), e2, some (.str L), some (.tup [.str L, .tup es]), some (.ref (r0.length + 2)), e6, e7, e8, none, none, none, none] S) K := by
  unfold endM
  have hLf : FS 26 L := hL.fs.mono hk26
  have hLl := hL.len
  obtain ⟨c, hc, _, ec⟩ := ixS_at (L := L) (v := 0) hLf (by omega) (by omega) (by omega)
  have hz : FS 1 (sg c) := FS.one (strOk_iff.mp hLf.ok c hc)
  have hB2 : BkOk L ((eds (sg c)).mergeSort leD) := ⟨hLf, fun e he => eds_ok hz e (List.mem_mergeSort.mp he), by rw [List.length_mergeSort, eds_len]; omega⟩
  refine wS_seqP (fun e S' => e = [sc, some (.ref 1), e2, some (.str L), some (.tup [.str L, .tup es]), some (.ref (r0.length + 2)), e6, e7, e8, some (.str (sg c)), none, none, none] ∧ S' = S) ?_ ?_
  · simp only [mkR_eq, wS_augS, wpM_dcN, wpM_rg1, wpM_rg2, wpM_enumA, wpM_iof, wpM_lfS, wS_rai, wS_try, wpM_catF, wpM_revA, wpM_newD, wpM_itemE, wpM_itemT, wpM_hasE, wpM_get1, wpM_get2, wS_putE, wS_putT, and_self, if_true, if_false, Bool.false_eq_true, reduceIte, wS_setS, wS_seq, wS_if, wS_asg, wS_exS, wS_retS, wS_nxS, wS_nx, wS_ret, wpM_op2, wpM_op1, wpM_asT, wpM_trt, wpM_notT, wpM_andT, wpM_orT, wpM_andV, wpM_notE, wpM_ifE, wpM_lnil, wpM_lcons, wpM_tupE, wpM_lstF, wpM_frz, wpM_new, wpM_cal, wpM_calB, wpM_calF, wpM_isiE, wpM_vr, wpM_ct, wpM_meth, wpM_chn, wpM_cut, wpM_cutF, wpM_ono, wpM_osm, wpM_revT, wpM_lfE, wS_for, tgN, List.getElem?_cons_zero, List.getElem?_cons_succ, List.set_cons_zero, List.set_cons_succ, List.map_cons, List.map_nil, List.length_cons, List.length_nil, List.replicate_succ, List.replicate_zero, Nat.reduceAdd, Nat.reduceSub, List.cons_append, List.nil_append, ec]
    exact ⟨by trivial, by trivial⟩
  rintro e S3 ⟨rfl, rfl⟩
  refine wS_seqP (fun e S' => e = [sc, some (.ref 1), e2, some (.str L), some (.tup [.str L, .tup es]), some (.ref (r0.length + 2)), e6, e7, e8, some (.str (sg c)), some (.tup (eds (sg c))), none, none] ∧ S' = S3) ?_ ?_
  · have ea : o_add S3 (.str (sg c)) (.str (sg c)) = some (.str (zz (sg c))) := add_str hz hz (by omega)
    have em : o_mulA S3 (.str (sg c)) (.int 3) = some (.str (z3 (sg c))) := mul_str hz (by omega) (by omega) (by omega)
    simp only [mkR_eq, wS_augS, wpM_dcN, wpM_rg1, wpM_rg2, wpM_enumA, wpM_iof, wpM_lfS, wS_rai, wS_try, wpM_catF, wpM_revA, wpM_newD, wpM_itemE, wpM_itemT, wpM_hasE, wpM_get1, wpM_get2, wS_putE, wS_putT, and_self, if_true, if_false, Bool.false_eq_true, reduceIte, wS_setS, wS_seq, wS_if, wS_asg, wS_exS, wS_retS, wS_nxS, wS_nx, wS_ret, wpM_op2, wpM_op1, wpM_asT, wpM_trt, wpM_notT, wpM_andT, wpM_orT, wpM_andV, wpM_notE, wpM_ifE, wpM_lnil, wpM_lcons, wpM_tupE, wpM_lstF, wpM_frz, wpM_new, wpM_cal, wpM_calB, wpM_calF, wpM_isiE, wpM_vr, wpM_ct, wpM_meth, wpM_chn, wpM_cut, wpM_cutF, wpM_ono, wpM_osm, wpM_revT, wpM_lfE, wS_for, tgN, List.getElem?_cons_zero, List.getElem?_cons_succ, List.set_cons_zero, List.set_cons_succ, List.map_cons, List.map_nil, List.length_cons, List.length_nil, List.replicate_succ, List.replicate_zero, Nat.reduceAdd, Nat.reduceSub, List.cons_append, List.nil_append, ea, em, le_sz (n := 3) rfl, le_sz (n := 4) rfl]
    exact ⟨rfl, by trivial⟩
  rintro e S4 ⟨rfl, rfl⟩
  refine wS_seqP (fun e S' => e = [sc, some (.ref 1), e2, some (.str L), some (.tup [.str L, .tup es]), some (.ref (r0.length + 2)), e6, e7, e8, some (.str (sg c)), some (.tup (eds (sg c))), some (.tup [.str L, .tup ((eds (sg c)).mergeSort leD)]), none] ∧ S' = S4) ?_ ?_
  · have eo : o_sortedV S4 [.tup (eds (sg c))] = some ((eds (sg c)).mergeSort leD) := sortK_eds (eds_ok hz)
    simp only [mkR_eq, wS_augS, wpM_dcN, wpM_rg1, wpM_rg2, wpM_enumA, wpM_iof, wpM_lfS, wS_rai, wS_try, wpM_catF, wpM_revA, wpM_newD, wpM_itemE, wpM_itemT, wpM_hasE, wpM_get1, wpM_get2, wS_putE, wS_putT, and_self, if_true, if_false, Bool.false_eq_true, reduceIte, wS_setS, wS_seq, wS_if, wS_asg, wS_exS, wS_retS, wS_nxS, wS_nx, wS_ret, wpM_op2, wpM_op1, wpM_asT, wpM_trt, wpM_notT, wpM_andT, wpM_orT, wpM_andV, wpM_notE, wpM_ifE, wpM_lnil, wpM_lcons, wpM_tupE, wpM_lstF, wpM_frz, wpM_new, wpM_cal, wpM_calB, wpM_calF, wpM_isiE, wpM_vr, wpM_ct, wpM_meth, wpM_chn, wpM_cut, wpM_cutF, wpM_ono, wpM_osm, wpM_revT, wpM_lfE, wS_for, tgN, List.getElem?_cons_zero, List.getElem?_cons_succ, List.set_cons_zero, List.set_cons_succ, List.map_cons, List.map_nil, List.length_cons, List.length_nil, List.replicate_succ, List.replicate_zero, Nat.reduceAdd, Nat.reduceSub, List.cons_append, List.nil_append, eo, o_tupleA, o_tuple, seqOf, Option.map_some, le_sz (n := 2) rfl]
  rintro e S5 ⟨rfl, rfl⟩
  exact end2_wp hS2 (by omega) hB hz hB2 (ops6_ok hLf hc hB2) K0
theorem plain (ns : List Int) (hn : ns.length ≤ 63) : ∃ S, M_law [.lst (ns.map .int)] [] = .ok (.bl true) S := by
  refine ok_of_wp ?_
  unfold M_law
  refine wpM_fn ?_
  unfold m_law
  simp only [mkR_eq, List.map_cons, List.map_nil, List.length_cons, List.length_nil, Nat.reduceAdd, Nat.reduceSub, List.replicate_succ, List.replicate_zero, List.cons_append, List.nil_append]
  generalize hsc : D.lst (ns.map .int) = sc
  refine wS_seqP (fun e S' => e = [some sc, some (.ref 1), none, none, none, none, none, none, none, none, none, none, none] ∧ PP [] S') ?_ ?_
  · simp only [mkR_eq, wS_augS, wpM_dcN, wpM_rg1, wpM_rg2, wpM_enumA, wpM_iof, wpM_lfS, wS_rai, wS_try, wpM_catF, wpM_revA, wpM_newD, wpM_itemE, wpM_itemT, wpM_hasE, wpM_get1, wpM_get2, wS_putE, wS_putT, and_self, if_true, if_false, Bool.false_eq_true, reduceIte, wS_setS, wS_seq, wS_if, wS_asg, wS_exS, wS_retS, wS_nxS, wS_nx, wS_ret, wpM_op2, wpM_op1, wpM_asT, wpM_trt, wpM_notT, wpM_andT, wpM_orT, wpM_andV, wpM_notE, wpM_ifE, wpM_lnil, wpM_lcons, wpM_tupE, wpM_lstF, wpM_frz, wpM_new, wpM_cal, wpM_calB, wpM_calF, wpM_isiE, wpM_vr, wpM_ct, wpM_meth, wpM_chn, wpM_cut, wpM_cutF, wpM_ono, wpM_osm, wpM_revT, wpM_lfE, wS_for, tgN, List.getElem?_cons_zero, List.getElem?_cons_succ, List.set_cons_zero, List.set_cons_succ, List.map_cons, List.map_nil, List.length_cons, List.length_nil, List.replicate_succ, List.replicate_zero, Nat.reduceAdd, Nat.reduceSub, List.cons_append, List.nil_append, ← hsc]
    exact pool_wp hn fun S hS => ⟨by trivial, hS⟩
  rintro env S1 ⟨rfl, hS1⟩
  refine wS_seqP (fun e S' => ∃ r e2 e3 e4 e5 e6 e7 e8, e = [some sc, some (.ref 1), e2, e3, e4, e5, e6, e7, e8, none, none, none, none] ∧ PP r S' ∧ Left r e3 e4 e5) ?_ ?_
  · simp only [mkR_eq, wS_for, wpM_rg1, wpM_lcons, wpM_lnil, wpM_ct]
    refine ⟨rgOk_of (by decide) (by decide), ?_⟩
    refine wS_loop (fun i e S' => ∃ r e2 e3 e4 e5 e6 e7 e8, e = [some sc, some (.ref 1), e2, e3, e4, e5, e6, e7, e8, none, none, none, none] ∧ PP r S' ∧ (0 < i → Left r e3 e4 e5)) (rgL 0 ((2 : Nat) : Int)) 0 _ _ ⟨[], none, none, none, none, none, none, none, rfl, hS1, fun h => absurd h (by decide)⟩ ?_ ?_
    · rintro i d e S2 hi ⟨r, e2, e3, e4, e5, e6, e7, e8, rfl, hS2, _⟩
      obtain ⟨rfl, hi2⟩ := rgL_get hi
      refine ⟨okSrc_nil, _, rfl, ?_⟩
      dsimp only [List.set_cons_zero, List.set_cons_succ]
      refine lap_wp hS2 hi2 ?_
      intro e S' r' e3 e4 e5 e6 e7 e8 h1 h2 h3
      exact ⟨r', _, e3, e4, e5, e6, e7, e8, h1, h2, fun _ => h3⟩
    · rintro e S2 ⟨r, e2, e3, e4, e5, e6, e7, e8, rfl, hS2, hl⟩
      exact ⟨okSrc_nil, r, e2, e3, e4, e5, e6, e7, e8, rfl, hS2, hl (by rw [rgL_len]; decide)⟩
  rintro e S2 ⟨r, e2, e3, e4, e5, e6, e7, e8, rfl, hS2, L, k, es, r0, rfl, rfl, rfl, rfl, hL, hk0, hk26, hB⟩
  refine end_wp hS2 hL hk0 hk26 hB ?_
  intro S'
  simp only
  rw [scope_bl]; rfl
end
end Z

end
section
set_option maxHeartbeats 0
namespace Z
open PySem PySem.Spec L2 Y
theorem all_mk {P : Program} {w : World} {K : PySem.W.Frag} {h : Heap} {mg : Str → Option Value} {fa : Addr} (X : K.In h) (G : h.Ns mainGlobals mg) (hfa : mg "law" = some (.ref fa))
    {t_ROW_MOST : Tok}
    {C_BadRow I_BadRow : Addr} {nm_BadRow q_BadRow : Str} {N_BadRow : Addr} {bs_BadRow : List Value} {sn_BadRow : List Str} {sub_BadRow : List Value} {ab_BadRow : Bool} {col_BadRow : Option Bool} {dd_BadRow : Option Addr} {m0_BadRow m1_BadRow m2_BadRow m3_BadRow m5_BadRow : Option Value} {oc_BadRow dc_BadRow pm_BadRow cd_BadRow ct_BadRow kV_BadRow : Value} {od_BadRow an_BadRow : Option Addr} {sl_BadRow : Array (Option Value)}
    {C_MendError : Addr}
    {f__law_pool : Addr} {oc__law_pool dc__law_pool pm__law_pool cd__law_pool ct__law_pool kV__law_pool : Value} {od__law_pool an__law_pool : Option Addr} {sl__law_pool : Array (Option Value)}
    {f__law_draw : Addr} {oc__law_draw dc__law_draw pm__law_draw cd__law_draw ct__law_draw kV__law_draw : Value} {od__law_draw an__law_draw : Option Addr} {sl__law_draw : Array (Option Value)}
    {f__law_shuffled : Addr} {oc__law_shuffled dc__law_shuffled pm__law_shuffled cd__law_shuffled ct__law_shuffled kV__law_shuffled : Value} {od__law_shuffled an__law_shuffled : Option Addr} {sl__law_shuffled : Array (Option Value)}
    {f__law_letters : Addr} {oc__law_letters dc__law_letters pm__law_letters cd__law_letters ct__law_letters kV__law_letters : Value} {od__law_letters an__law_letters : Option Addr} {sl__law_letters : Array (Option Value)}
    {f__law_text : Addr} {oc__law_text dc__law_text pm__law_text cd__law_text ct__law_text kV__law_text : Value} {od__law_text an__law_text : Option Addr} {sl__law_text : Array (Option Value)}
    {f__law_book : Addr} {oc__law_book dc__law_book pm__law_book cd__law_book ct__law_book kV__law_book : Value} {od__law_book an__law_book : Option Addr} {sl__law_book : Array (Option Value)}
    {f__law_costs : Addr} {oc__law_costs dc__law_costs pm__law_costs cd__law_costs ct__law_costs kV__law_costs : Value} {od__law_costs an__law_costs : Option Addr} {sl__law_costs : Array (Option Value)}
    {f__law_drawn_row : Addr} {oc__law_drawn_row dc__law_drawn_row pm__law_drawn_row cd__law_drawn_row ct__law_drawn_row kV__law_drawn_row : Value} {od__law_drawn_row an__law_drawn_row : Option Addr} {sl__law_drawn_row : Array (Option Value)}
    {f__law_is_whole : Addr} {oc__law_is_whole dc__law_is_whole pm__law_is_whole cd__law_is_whole ct__law_is_whole kV__law_is_whole : Value} {od__law_is_whole an__law_is_whole : Option Addr} {sl__law_is_whole : Array (Option Value)}
    {f__law_same : Addr} {oc__law_same dc__law_same pm__law_same cd__law_same ct__law_same kV__law_same : Value} {od__law_same an__law_same : Option Addr} {sl__law_same : Array (Option Value)}
    {f_operation_costs : Addr} {oc_operation_costs dc_operation_costs pm_operation_costs cd_operation_costs ct_operation_costs kV_operation_costs : Value} {od_operation_costs an_operation_costs : Option Addr} {sl_operation_costs : Array (Option Value)}
    {f_is_operation : Addr} {oc_is_operation dc_is_operation pm_is_operation cd_is_operation ct_is_operation kV_is_operation : Value} {od_is_operation an_is_operation : Option Addr} {sl_is_operation : Array (Option Value)}
    {f_row_fault : Addr} {oc_row_fault dc_row_fault pm_row_fault cd_row_fault ct_row_fault kV_row_fault : Value} {od_row_fault an_row_fault : Option Addr} {sl_row_fault : Array (Option Value)}
    {f_check_row : Addr} {oc_check_row dc_check_row pm_check_row cd_check_row ct_check_row kV_check_row : Value} {od_check_row an_check_row : Option Addr} {sl_check_row : Array (Option Value)}
    {f__law_check_told : Addr} {oc__law_check_told dc__law_check_told pm__law_check_told cd__law_check_told ct__law_check_told kV__law_check_told : Value} {od__law_check_told an__law_check_told : Option Addr} {sl__law_check_told : Array (Option Value)}
    {f_cost_of : Addr} {oc_cost_of dc_cost_of pm_cost_of cd_cost_of ct_cost_of kV_cost_of : Value} {od_cost_of an_cost_of : Option Addr} {sl_cost_of : Array (Option Value)}
    {f_read_of : Addr} {oc_read_of dc_read_of pm_read_of cd_read_of ct_read_of kV_read_of : Value} {od_read_of an_read_of : Option Addr} {sl_read_of : Array (Option Value)}
    {f_written_of : Addr} {oc_written_of dc_written_of pm_written_of cd_written_of ct_written_of kV_written_of : Value} {od_written_of an_written_of : Option Addr} {sl_written_of : Array (Option Value)}
    {f_filled : Addr} {oc_filled dc_filled pm_filled cd_filled ct_filled kV_filled : Value} {od_filled an_filled : Option Addr} {sl_filled : Array (Option Value)}
    {f_row_lines : Addr} {oc_row_lines dc_row_lines pm_row_lines cd_row_lines ct_row_lines kV_row_lines : Value} {od_row_lines an_row_lines : Option Addr} {sl_row_lines : Array (Option Value)}
    {f_row_kinds : Addr} {oc_row_kinds dc_row_kinds pm_row_kinds cd_row_kinds ct_row_kinds kV_row_kinds : Value} {od_row_kinds an_row_kinds : Option Addr} {sl_row_kinds : Array (Option Value)}
    {f__law_row_holds : Addr} {oc__law_row_holds dc__law_row_holds pm__law_row_holds cd__law_row_holds ct__law_row_holds kV__law_row_holds : Value} {od__law_row_holds an__law_row_holds : Option Addr} {sl__law_row_holds : Array (Option Value)}
    {f__law_row_due : Addr} {oc__law_row_due dc__law_row_due pm__law_row_due cd__law_row_due ct__law_row_due kV__law_row_due : Value} {od__law_row_due an__law_row_due : Option Addr} {sl__law_row_due : Array (Option Value)}
    {f__law_long_holds : Addr} {oc__law_long_holds dc__law_long_holds pm__law_long_holds cd__law_long_holds ct__law_long_holds kV__law_long_holds : Value} {od__law_long_holds an__law_long_holds : Option Addr} {sl__law_long_holds : Array (Option Value)}
    {f__law_strange_ops : Addr} {oc__law_strange_ops dc__law_strange_ops pm__law_strange_ops cd__law_strange_ops ct__law_strange_ops kV__law_strange_ops : Value} {od__law_strange_ops an__law_strange_ops : Option Addr} {sl__law_strange_ops : Array (Option Value)}
    {f__law_checks_hold : Addr} {oc__law_checks_hold dc__law_checks_hold pm__law_checks_hold cd__law_checks_hold ct__law_checks_hold kV__law_checks_hold : Value} {od__law_checks_hold an__law_checks_hold : Option Addr} {sl__law_checks_hold : Array (Option Value)}
    {f_law : Addr} {oc_law dc_law pm_law cd_law ct_law kV_law : Value} {od_law an_law : Option Addr} {sl_law : Array (Option Value)}
    (n_abs : PySem.W.nsIn K mainGlobals "abs" = some none)
    (n_bool : PySem.W.nsIn K mainGlobals "bool" = some none)
    (n_enumerate : PySem.W.nsIn K mainGlobals "enumerate" = some none)
    (n_int : PySem.W.nsIn K mainGlobals "int" = some none)
    (n_isinstance : PySem.W.nsIn K mainGlobals "isinstance" = some none)
    (n_len : PySem.W.nsIn K mainGlobals "len" = some none)
    (n_list : PySem.W.nsIn K mainGlobals "list" = some none)
    (n_max : PySem.W.nsIn K mainGlobals "max" = some none)
    (n_range : PySem.W.nsIn K mainGlobals "range" = some none)
    (n_sorted : PySem.W.nsIn K mainGlobals "sorted" = some none)
    (n_str : PySem.W.nsIn K mainGlobals "str" = some none)
    (n_sum : PySem.W.nsIn K mainGlobals "sum" = some none)
    (n_tuple : PySem.W.nsIn K mainGlobals "tuple" = some none)
    (c_ROW_MOST : PySem.W.nsIn K mainGlobals "ROW_MOST" = some (some (.int 600 t_ROW_MOST)))
    (aC_BadRow : PySem.W.nsIn K mainGlobals "BadRow" = some (some (.ref C_BadRow)))
    (xL_BadRow : K.lookup C_BadRow = some (excClassObj nm_BadRow q_BadRow C_BadRow N_BadRow bs_BadRow [.ref C_MendError, .type "ValueError", .type "Exception", .type "BaseException", .type "object"] true sn_BadRow sub_BadRow ab_BadRow col_BadRow dd_BadRow m0_BadRow m1_BadRow m2_BadRow m3_BadRow m5_BadRow "ValueError.__new__"))
    (sa_BadRow : PySem.W.findIn K (.ref C_BadRow) "__setattr__" = some (some (.builtin "object.__setattr__")))
    (ga_BadRow : PySem.W.findIn K (.ref C_BadRow) "__getattribute__" = some (some (.builtin "BaseException.__getattribute__")))
    (gg_BadRow : PySem.W.findIn K (.ref C_BadRow) "__getattr__" = some none)
    (nf_BadRow_at : PySem.W.findIn K (.ref C_BadRow) "at" = some none)
    (nf_BadRow_word : PySem.W.findIn K (.ref C_BadRow) "word" = some none)
    (a1_BadRow : PySem.W.findIn K (.ref C_BadRow) "__init__" = some (some (.ref I_BadRow)))
    (t1_BadRow : PySem.W.typeIn K (.ref I_BadRow) = some (.type "function"))
    (l1_BadRow : K.lookup I_BadRow = some ⟨oc_BadRow, od_BadRow, .func (PySem.W.fnOf "__init__" "BadRow.__init__" (defArgs in_BadRow) (defBody in_BadRow) (defScope in_BadRow) .none kV_BadRow dc_BadRow pm_BadRow an_BadRow cd_BadRow ct_BadRow), sl_BadRow⟩)
    (c1_BadRow : PySem.W.codeIn K cd_BadRow "BadRow.__init__" = true)
    (k1_BadRow : PySem.W.keepIn K (.ref I_BadRow) = true)
    (kC_BadRow : PySem.W.keepIn K (.ref C_BadRow) = true)
    (eC_BadRow : PySem.W.subIn K (.ref C_BadRow) (.type "BaseException") = some true)
    (tC_BadRow : PySem.W.typeIn K (.ref C_BadRow) = some (.type "type"))
    (hC_BadRow : PySem.W.hasDictIn K C_BadRow = true)
    (iC_BadRow : PySem.W.isClsIn K C_BadRow = true)
    (sC_BadRow : PySem.W.subIn K (.ref C_BadRow) (.ref C_BadRow) = some true)
    (aC_MendError : PySem.W.nsIn K mainGlobals "MendError" = some (some (.ref C_MendError)))
    (eC_MendError : PySem.W.subIn K (.ref C_MendError) (.type "BaseException") = some true)
    (hC_MendError : PySem.W.hasDictIn K C_MendError = true)
    (tC_MendError : PySem.W.typeIn K (.ref C_MendError) = some (.type "type"))
    (s_BadRow_MendError : PySem.W.subIn K (.ref C_BadRow) (.ref C_MendError) = some true)
    (sp__ : PySem.W.specialIn K (.builtin "object.__class__") "__get__" = some (some (.builtin "getset_descriptor.__get__")))
    (tk__ : PySem.W.takesIn K (.builtin "object.__class__") = some true)
    (cl_BadRow : PySem.W.findIn K (.ref C_BadRow) "__class__" = some (some (.builtin "object.__class__")))
    (mr_BadRow : PySem.W.mroIn K C_BadRow (.type "object") = some true)
    (k_BadRow_BadRow : PySem.W.kitOne K (.ref C_BadRow) (.ref C_BadRow) = some true)
    (a__law_pool : PySem.W.nsIn K mainGlobals "_law_pool" = some (some (.ref f__law_pool)))
    (l__law_pool : K.lookup f__law_pool = some ⟨oc__law_pool, od__law_pool, .func (PySem.W.fnOf "_law_pool" "_law_pool" (defArgs st__law_pool) (defBody st__law_pool) (defScope st__law_pool) .none kV__law_pool dc__law_pool pm__law_pool an__law_pool cd__law_pool ct__law_pool), sl__law_pool⟩)
    (co__law_pool : PySem.W.codeIn K cd__law_pool "_law_pool" = true)
    (ke__law_pool : PySem.W.keepIn K (.ref f__law_pool) = true)
    (a__law_draw : PySem.W.nsIn K mainGlobals "_law_draw" = some (some (.ref f__law_draw)))
    (l__law_draw : K.lookup f__law_draw = some ⟨oc__law_draw, od__law_draw, .func (PySem.W.fnOf "_law_draw" "_law_draw" (defArgs st__law_draw) (defBody st__law_draw) (defScope st__law_draw) .none kV__law_draw dc__law_draw pm__law_draw an__law_draw cd__law_draw ct__law_draw), sl__law_draw⟩)
    (co__law_draw : PySem.W.codeIn K cd__law_draw "_law_draw" = true)
    (ke__law_draw : PySem.W.keepIn K (.ref f__law_draw) = true)
    (a__law_shuffled : PySem.W.nsIn K mainGlobals "_law_shuffled" = some (some (.ref f__law_shuffled)))
    (l__law_shuffled : K.lookup f__law_shuffled = some ⟨oc__law_shuffled, od__law_shuffled, .func (PySem.W.fnOf "_law_shuffled" "_law_shuffled" (defArgs st__law_shuffled) (defBody st__law_shuffled) (defScope st__law_shuffled) .none kV__law_shuffled dc__law_shuffled pm__law_shuffled an__law_shuffled cd__law_shuffled ct__law_shuffled), sl__law_shuffled⟩)
    (co__law_shuffled : PySem.W.codeIn K cd__law_shuffled "_law_shuffled" = true)
    (ke__law_shuffled : PySem.W.keepIn K (.ref f__law_shuffled) = true)
    (a__law_letters : PySem.W.nsIn K mainGlobals "_law_letters" = some (some (.ref f__law_letters)))
    (l__law_letters : K.lookup f__law_letters = some ⟨oc__law_letters, od__law_letters, .func (PySem.W.fnOf "_law_letters" "_law_letters" (defArgs st__law_letters) (defBody st__law_letters) (defScope st__law_letters) .none kV__law_letters dc__law_letters pm__law_letters an__law_letters cd__law_letters ct__law_letters), sl__law_letters⟩)
    (co__law_letters : PySem.W.codeIn K cd__law_letters "_law_letters" = true)
    (ke__law_letters : PySem.W.keepIn K (.ref f__law_letters) = true)
    (a__law_text : PySem.W.nsIn K mainGlobals "_law_text" = some (some (.ref f__law_text)))
    (l__law_text : K.lookup f__law_text = some ⟨oc__law_text, od__law_text, .func (PySem.W.fnOf "_law_text" "_law_text" (defArgs st__law_text) (defBody st__law_text) (defScope st__law_text) .none kV__law_text dc__law_text pm__law_text an__law_text cd__law_text ct__law_text), sl__law_text⟩)
    (co__law_text : PySem.W.codeIn K cd__law_text "_law_text" = true)
    (ke__law_text : PySem.W.keepIn K (.ref f__law_text) = true)
    (a__law_book : PySem.W.nsIn K mainGlobals "_law_book" = some (some (.ref f__law_book)))
    (l__law_book : K.lookup f__law_book = some ⟨oc__law_book, od__law_book, .func (PySem.W.fnOf "_law_book" "_law_book" (defArgs st__law_book) (defBody st__law_book) (defScope st__law_book) .none kV__law_book dc__law_book pm__law_book an__law_book cd__law_book ct__law_book), sl__law_book⟩)
    (co__law_book : PySem.W.codeIn K cd__law_book "_law_book" = true)
    (ke__law_book : PySem.W.keepIn K (.ref f__law_book) = true)
    (a__law_costs : PySem.W.nsIn K mainGlobals "_law_costs" = some (some (.ref f__law_costs)))
    (l__law_costs : K.lookup f__law_costs = some ⟨oc__law_costs, od__law_costs, .func (PySem.W.fnOf "_law_costs" "_law_costs" (defArgs st__law_costs) (defBody st__law_costs) (defScope st__law_costs) .none kV__law_costs dc__law_costs pm__law_costs an__law_costs cd__law_costs ct__law_costs), sl__law_costs⟩)
    (co__law_costs : PySem.W.codeIn K cd__law_costs "_law_costs" = true)
    (ke__law_costs : PySem.W.keepIn K (.ref f__law_costs) = true)
    (a__law_drawn_row : PySem.W.nsIn K mainGlobals "_law_drawn_row" = some (some (.ref f__law_drawn_row)))
    (l__law_drawn_row : K.lookup f__law_drawn_row = some ⟨oc__law_drawn_row, od__law_drawn_row, .func (PySem.W.fnOf "_law_drawn_row" "_law_drawn_row" (defArgs st__law_drawn_row) (defBody st__law_drawn_row) (defScope st__law_drawn_row) .none kV__law_drawn_row dc__law_drawn_row pm__law_drawn_row an__law_drawn_row cd__law_drawn_row ct__law_drawn_row), sl__law_drawn_row⟩)
    (co__law_drawn_row : PySem.W.codeIn K cd__law_drawn_row "_law_drawn_row" = true)
    (ke__law_drawn_row : PySem.W.keepIn K (.ref f__law_drawn_row) = true)
    (a__law_is_whole : PySem.W.nsIn K mainGlobals "_law_is_whole" = some (some (.ref f__law_is_whole)))
    (l__law_is_whole : K.lookup f__law_is_whole = some ⟨oc__law_is_whole, od__law_is_whole, .func (PySem.W.fnOf "_law_is_whole" "_law_is_whole" (defArgs st__law_is_whole) (defBody st__law_is_whole) (defScope st__law_is_whole) .none kV__law_is_whole dc__law_is_whole pm__law_is_whole an__law_is_whole cd__law_is_whole ct__law_is_whole), sl__law_is_whole⟩)
    (co__law_is_whole : PySem.W.codeIn K cd__law_is_whole "_law_is_whole" = true)
    (ke__law_is_whole : PySem.W.keepIn K (.ref f__law_is_whole) = true)
    (a__law_same : PySem.W.nsIn K mainGlobals "_law_same" = some (some (.ref f__law_same)))
    (l__law_same : K.lookup f__law_same = some ⟨oc__law_same, od__law_same, .func (PySem.W.fnOf "_law_same" "_law_same" (defArgs st__law_same) (defBody st__law_same) (defScope st__law_same) .none kV__law_same dc__law_same pm__law_same an__law_same cd__law_same ct__law_same), sl__law_same⟩)
    (co__law_same : PySem.W.codeIn K cd__law_same "_law_same" = true)
    (ke__law_same : PySem.W.keepIn K (.ref f__law_same) = true)
    (a_operation_costs : PySem.W.nsIn K mainGlobals "operation_costs" = some (some (.ref f_operation_costs)))
    (l_operation_costs : K.lookup f_operation_costs = some ⟨oc_operation_costs, od_operation_costs, .func (PySem.W.fnOf "operation_costs" "operation_costs" (defArgs st_operation_costs) (defBody st_operation_costs) (defScope st_operation_costs) .none kV_operation_costs dc_operation_costs pm_operation_costs an_operation_costs cd_operation_costs ct_operation_costs), sl_operation_costs⟩)
    (co_operation_costs : PySem.W.codeIn K cd_operation_costs "operation_costs" = true)
    (ke_operation_costs : PySem.W.keepIn K (.ref f_operation_costs) = true)
    (a_is_operation : PySem.W.nsIn K mainGlobals "is_operation" = some (some (.ref f_is_operation)))
    (l_is_operation : K.lookup f_is_operation = some ⟨oc_is_operation, od_is_operation, .func (PySem.W.fnOf "is_operation" "is_operation" (defArgs st_is_operation) (defBody st_is_operation) (defScope st_is_operation) .none kV_is_operation dc_is_operation pm_is_operation an_is_operation cd_is_operation ct_is_operation), sl_is_operation⟩)
    (co_is_operation : PySem.W.codeIn K cd_is_operation "is_operation" = true)
    (ke_is_operation : PySem.W.keepIn K (.ref f_is_operation) = true)
    (a_row_fault : PySem.W.nsIn K mainGlobals "row_fault" = some (some (.ref f_row_fault)))
    (l_row_fault : K.lookup f_row_fault = some ⟨oc_row_fault, od_row_fault, .func (PySem.W.fnOf "row_fault" "row_fault" (defArgs st_row_fault) (defBody st_row_fault) (defScope st_row_fault) .none kV_row_fault dc_row_fault pm_row_fault an_row_fault cd_row_fault ct_row_fault), sl_row_fault⟩)
    (co_row_fault : PySem.W.codeIn K cd_row_fault "row_fault" = true)
    (ke_row_fault : PySem.W.keepIn K (.ref f_row_fault) = true)
    (a_check_row : PySem.W.nsIn K mainGlobals "check_row" = some (some (.ref f_check_row)))
    (l_check_row : K.lookup f_check_row = some ⟨oc_check_row, od_check_row, .func (PySem.W.fnOf "check_row" "check_row" (defArgs st_check_row) (defBody st_check_row) (defScope st_check_row) .none kV_check_row dc_check_row pm_check_row an_check_row cd_check_row ct_check_row), sl_check_row⟩)
    (co_check_row : PySem.W.codeIn K cd_check_row "check_row" = true)
    (ke_check_row : PySem.W.keepIn K (.ref f_check_row) = true)
    (a__law_check_told : PySem.W.nsIn K mainGlobals "_law_check_told" = some (some (.ref f__law_check_told)))
    (l__law_check_told : K.lookup f__law_check_told = some ⟨oc__law_check_told, od__law_check_told, .func (PySem.W.fnOf "_law_check_told" "_law_check_told" (defArgs st__law_check_told) (defBody st__law_check_told) (defScope st__law_check_told) .none kV__law_check_told dc__law_check_told pm__law_check_told an__law_check_told cd__law_check_told ct__law_check_told), sl__law_check_told⟩)
    (co__law_check_told : PySem.W.codeIn K cd__law_check_told "_law_check_told" = true)
    (ke__law_check_told : PySem.W.keepIn K (.ref f__law_check_told) = true)
    (a_cost_of : PySem.W.nsIn K mainGlobals "cost_of" = some (some (.ref f_cost_of)))
    (l_cost_of : K.lookup f_cost_of = some ⟨oc_cost_of, od_cost_of, .func (PySem.W.fnOf "cost_of" "cost_of" (defArgs st_cost_of) (defBody st_cost_of) (defScope st_cost_of) .none kV_cost_of dc_cost_of pm_cost_of an_cost_of cd_cost_of ct_cost_of), sl_cost_of⟩)
    (co_cost_of : PySem.W.codeIn K cd_cost_of "cost_of" = true)
    (ke_cost_of : PySem.W.keepIn K (.ref f_cost_of) = true)
    (a_read_of : PySem.W.nsIn K mainGlobals "read_of" = some (some (.ref f_read_of)))
    (l_read_of : K.lookup f_read_of = some ⟨oc_read_of, od_read_of, .func (PySem.W.fnOf "read_of" "read_of" (defArgs st_read_of) (defBody st_read_of) (defScope st_read_of) .none kV_read_of dc_read_of pm_read_of an_read_of cd_read_of ct_read_of), sl_read_of⟩)
    (co_read_of : PySem.W.codeIn K cd_read_of "read_of" = true)
    (ke_read_of : PySem.W.keepIn K (.ref f_read_of) = true)
    (a_written_of : PySem.W.nsIn K mainGlobals "written_of" = some (some (.ref f_written_of)))
    (l_written_of : K.lookup f_written_of = some ⟨oc_written_of, od_written_of, .func (PySem.W.fnOf "written_of" "written_of" (defArgs st_written_of) (defBody st_written_of) (defScope st_written_of) .none kV_written_of dc_written_of pm_written_of an_written_of cd_written_of ct_written_of), sl_written_of⟩)
    (co_written_of : PySem.W.codeIn K cd_written_of "written_of" = true)
    (ke_written_of : PySem.W.keepIn K (.ref f_written_of) = true)
    (a_filled : PySem.W.nsIn K mainGlobals "filled" = some (some (.ref f_filled)))
    (l_filled : K.lookup f_filled = some ⟨oc_filled, od_filled, .func (PySem.W.fnOf "filled" "filled" (defArgs st_filled) (defBody st_filled) (defScope st_filled) .none kV_filled dc_filled pm_filled an_filled cd_filled ct_filled), sl_filled⟩)
    (co_filled : PySem.W.codeIn K cd_filled "filled" = true)
    (ke_filled : PySem.W.keepIn K (.ref f_filled) = true)
    (a_row_lines : PySem.W.nsIn K mainGlobals "row_lines" = some (some (.ref f_row_lines)))
    (l_row_lines : K.lookup f_row_lines = some ⟨oc_row_lines, od_row_lines, .func (PySem.W.fnOf "row_lines" "row_lines" (defArgs st_row_lines) (defBody st_row_lines) (defScope st_row_lines) .none kV_row_lines dc_row_lines pm_row_lines an_row_lines cd_row_lines ct_row_lines), sl_row_lines⟩)
    (co_row_lines : PySem.W.codeIn K cd_row_lines "row_lines" = true)
    (ke_row_lines : PySem.W.keepIn K (.ref f_row_lines) = true)
    (a_row_kinds : PySem.W.nsIn K mainGlobals "row_kinds" = some (some (.ref f_row_kinds)))
    (l_row_kinds : K.lookup f_row_kinds = some ⟨oc_row_kinds, od_row_kinds, .func (PySem.W.fnOf "row_kinds" "row_kinds" (defArgs st_row_kinds) (defBody st_row_kinds) (defScope st_row_kinds) .none kV_row_kinds dc_row_kinds pm_row_kinds an_row_kinds cd_row_kinds ct_row_kinds), sl_row_kinds⟩)
    (co_row_kinds : PySem.W.codeIn K cd_row_kinds "row_kinds" = true)
    (ke_row_kinds : PySem.W.keepIn K (.ref f_row_kinds) = true)
    (a__law_row_holds : PySem.W.nsIn K mainGlobals "_law_row_holds" = some (some (.ref f__law_row_holds)))
    (l__law_row_holds : K.lookup f__law_row_holds = some ⟨oc__law_row_holds, od__law_row_holds, .func (PySem.W.fnOf "_law_row_holds" "_law_row_holds" (defArgs st__law_row_holds) (defBody st__law_row_holds) (defScope st__law_row_holds) .none kV__law_row_holds dc__law_row_holds pm__law_row_holds an__law_row_holds cd__law_row_holds ct__law_row_holds), sl__law_row_holds⟩)
    (co__law_row_holds : PySem.W.codeIn K cd__law_row_holds "_law_row_holds" = true)
    (ke__law_row_holds : PySem.W.keepIn K (.ref f__law_row_holds) = true)
    (a__law_row_due : PySem.W.nsIn K mainGlobals "_law_row_due" = some (some (.ref f__law_row_due)))
    (l__law_row_due : K.lookup f__law_row_due = some ⟨oc__law_row_due, od__law_row_due, .func (PySem.W.fnOf "_law_row_due" "_law_row_due" (defArgs st__law_row_due) (defBody st__law_row_due) (defScope st__law_row_due) .none kV__law_row_due dc__law_row_due pm__law_row_due an__law_row_due cd__law_row_due ct__law_row_due), sl__law_row_due⟩)
    (co__law_row_due : PySem.W.codeIn K cd__law_row_due "_law_row_due" = true)
    (ke__law_row_due : PySem.W.keepIn K (.ref f__law_row_due) = true)
    (a__law_long_holds : PySem.W.nsIn K mainGlobals "_law_long_holds" = some (some (.ref f__law_long_holds)))
    (l__law_long_holds : K.lookup f__law_long_holds = some ⟨oc__law_long_holds, od__law_long_holds, .func (PySem.W.fnOf "_law_long_holds" "_law_long_holds" (defArgs st__law_long_holds) (defBody st__law_long_holds) (defScope st__law_long_holds) .none kV__law_long_holds dc__law_long_holds pm__law_long_holds an__law_long_holds cd__law_long_holds ct__law_long_holds), sl__law_long_holds⟩)
    (co__law_long_holds : PySem.W.codeIn K cd__law_long_holds "_law_long_holds" = true)
    (ke__law_long_holds : PySem.W.keepIn K (.ref f__law_long_holds) = true)
    (a__law_strange_ops : PySem.W.nsIn K mainGlobals "_law_strange_ops" = some (some (.ref f__law_strange_ops)))
    (l__law_strange_ops : K.lookup f__law_strange_ops = some ⟨oc__law_strange_ops, od__law_strange_ops, .func (PySem.W.fnOf "_law_strange_ops" "_law_strange_ops" (defArgs st__law_strange_ops) (defBody st__law_strange_ops) (defScope st__law_strange_ops) .none kV__law_strange_ops dc__law_strange_ops pm__law_strange_ops an__law_strange_ops cd__law_strange_ops ct__law_strange_ops), sl__law_strange_ops⟩)
    (co__law_strange_ops : PySem.W.codeIn K cd__law_strange_ops "_law_strange_ops" = true)
    (ke__law_strange_ops : PySem.W.keepIn K (.ref f__law_strange_ops) = true)
    (a__law_checks_hold : PySem.W.nsIn K mainGlobals "_law_checks_hold" = some (some (.ref f__law_checks_hold)))
    (l__law_checks_hold : K.lookup f__law_checks_hold = some ⟨oc__law_checks_hold, od__law_checks_hold, .func (PySem.W.fnOf "_law_checks_hold" "_law_checks_hold" (defArgs st__law_checks_hold) (defBody st__law_checks_hold) (defScope st__law_checks_hold) .none kV__law_checks_hold dc__law_checks_hold pm__law_checks_hold an__law_checks_hold cd__law_checks_hold ct__law_checks_hold), sl__law_checks_hold⟩)
    (co__law_checks_hold : PySem.W.codeIn K cd__law_checks_hold "_law_checks_hold" = true)
    (ke__law_checks_hold : PySem.W.keepIn K (.ref f__law_checks_hold) = true)
    (a_law : PySem.W.nsIn K mainGlobals "law" = some (some (.ref f_law)))
    (l_law : K.lookup f_law = some ⟨oc_law, od_law, .func (PySem.W.fnOf "law" "law" (defArgs st_law) (defBody st_law) (defScope st_law) .none kV_law dc_law pm_law an_law cd_law ct_law), sl_law⟩)
    (co_law : PySem.W.codeIn K cd_law "law" = true)
    (ke_law : PySem.W.keepIn K (.ref f_law) = true)
    (plain : ∀ ns : List Int, ns.length ≤ 63 → ∃ S, M_law [.lst (ns.map .int)] [] = .ok (.bl true) S) :
    ∃ fd : FuncData, (∀ (s : Shared) (v : Value), BindsTo s fd ⟨[v], []⟩ [("script", v)]) ∧ ∀ base : Heap, K.In base → base.Ns mainGlobals mg → FnOk P w K mg base (L2.CX P w) 7 fa fd ["script"] (spLaw K) := by
  have e := hfa.symm.trans (PySem.W.mg_of X G a_law)
  cases e
  have F__law_pool := fun_mk (st := st__law_pool) l__law_pool co__law_pool ke__law_pool
  have b__law_pool := F__law_pool.binds (ps := ["script", "salt"]) fun _ _ _ _ _ _ us hl => match us, hl with | [_, _], _ => rfl
  have U__law_pool : Fu K mg "_law_pool" st__law_pool ["script", "salt"] := ⟨_, _, F__law_pool, PySem.W.mg_of X G a__law_pool, b__law_pool⟩
  have F__law_draw := fun_mk (st := st__law_draw) l__law_draw co__law_draw ke__law_draw
  have b__law_draw := F__law_draw.binds (ps := ["pool", "many"]) fun _ _ _ _ _ _ us hl => match us, hl with | [_, _], _ => rfl
  have U__law_draw : Fu K mg "_law_draw" st__law_draw ["pool", "many"] := ⟨_, _, F__law_draw, PySem.W.mg_of X G a__law_draw, b__law_draw⟩
  have F__law_shuffled := fun_mk (st := st__law_shuffled) l__law_shuffled co__law_shuffled ke__law_shuffled
  have b__law_shuffled := F__law_shuffled.binds (ps := ["pool", "things"]) fun _ _ _ _ _ _ us hl => match us, hl with | [_, _], _ => rfl
  have U__law_shuffled : Fu K mg "_law_shuffled" st__law_shuffled ["pool", "things"] := ⟨_, _, F__law_shuffled, PySem.W.mg_of X G a__law_shuffled, b__law_shuffled⟩
  have F__law_letters := fun_mk (st := st__law_letters) l__law_letters co__law_letters ke__law_letters
  have b__law_letters := F__law_letters.binds (ps := ["pool", "many"]) fun _ _ _ _ _ _ us hl => match us, hl with | [_, _], _ => rfl
  have U__law_letters : Fu K mg "_law_letters" st__law_letters ["pool", "many"] := ⟨_, _, F__law_letters, PySem.W.mg_of X G a__law_letters, b__law_letters⟩
  have F__law_text := fun_mk (st := st__law_text) l__law_text co__law_text ke__law_text
  have b__law_text := F__law_text.binds (ps := ["pool", "letters", "most"]) fun _ _ _ _ _ _ us hl => match us, hl with | [_, _, _], _ => rfl
  have U__law_text : Fu K mg "_law_text" st__law_text ["pool", "letters", "most"] := ⟨_, _, F__law_text, PySem.W.mg_of X G a__law_text, b__law_text⟩
  have F__law_book := fun_mk (st := st__law_book) l__law_book co__law_book ke__law_book
  have b__law_book := F__law_book.binds (ps := ["pool", "letters", "many", "most"]) fun _ _ _ _ _ _ us hl => match us, hl with | [_, _, _, _], _ => rfl
  have U__law_book : Fu K mg "_law_book" st__law_book ["pool", "letters", "many", "most"] := ⟨_, _, F__law_book, PySem.W.mg_of X G a__law_book, b__law_book⟩
  have F__law_costs := fun_mk (st := st__law_costs) l__law_costs co__law_costs ke__law_costs
  have b__law_costs := F__law_costs.binds (ps := ["book"]) fun _ _ _ _ _ _ us hl => match us, hl with | [_], _ => rfl
  have U__law_costs : Fu K mg "_law_costs" st__law_costs ["book"] := ⟨_, _, F__law_costs, PySem.W.mg_of X G a__law_costs, b__law_costs⟩
  have F__law_drawn_row := fun_mk (st := st__law_drawn_row) l__law_drawn_row co__law_drawn_row ke__law_drawn_row
  have b__law_drawn_row := F__law_drawn_row.binds (ps := ["pool", "costs", "most"]) fun _ _ _ _ _ _ us hl => match us, hl with | [_, _, _], _ => rfl
  have U__law_drawn_row : Fu K mg "_law_drawn_row" st__law_drawn_row ["pool", "costs", "most"] := ⟨_, _, F__law_drawn_row, PySem.W.mg_of X G a__law_drawn_row, b__law_drawn_row⟩
  have F__law_is_whole := fun_mk (st := st__law_is_whole) l__law_is_whole co__law_is_whole ke__law_is_whole
  have b__law_is_whole := F__law_is_whole.binds (ps := ["thing"]) fun _ _ _ _ _ _ us hl => match us, hl with | [_], _ => rfl
  have U__law_is_whole : Fu K mg "_law_is_whole" st__law_is_whole ["thing"] := ⟨_, _, F__law_is_whole, PySem.W.mg_of X G a__law_is_whole, b__law_is_whole⟩
  have F__law_same := fun_mk (st := st__law_same) l__law_same co__law_same ke__law_same
  have b__law_same := F__law_same.binds (ps := ["told", "due"]) fun _ _ _ _ _ _ us hl => match us, hl with | [_, _], _ => rfl
  have U__law_same : Fu K mg "_law_same" st__law_same ["told", "due"] := ⟨_, _, F__law_same, PySem.W.mg_of X G a__law_same, b__law_same⟩
  have F_operation_costs := fun_mk (st := st_operation_costs) l_operation_costs co_operation_costs ke_operation_costs
  have b_operation_costs := F_operation_costs.binds (ps := ["book"]) fun _ _ _ _ _ _ us hl => match us, hl with | [_], _ => rfl
  have U_operation_costs : Fu K mg "operation_costs" st_operation_costs ["book"] := ⟨_, _, F_operation_costs, PySem.W.mg_of X G a_operation_costs, b_operation_costs⟩
  have F_is_operation := fun_mk (st := st_is_operation) l_is_operation co_is_operation ke_is_operation
  have b_is_operation := F_is_operation.binds (ps := ["costs", "thing"]) fun _ _ _ _ _ _ us hl => match us, hl with | [_, _], _ => rfl
  have U_is_operation : Fu K mg "is_operation" st_is_operation ["costs", "thing"] := ⟨_, _, F_is_operation, PySem.W.mg_of X G a_is_operation, b_is_operation⟩
  have F_row_fault := fun_mk (st := st_row_fault) l_row_fault co_row_fault ke_row_fault
  have b_row_fault := F_row_fault.binds (ps := ["book", "thing"]) fun _ _ _ _ _ _ us hl => match us, hl with | [_, _], _ => rfl
  have U_row_fault : Fu K mg "row_fault" st_row_fault ["book", "thing"] := ⟨_, _, F_row_fault, PySem.W.mg_of X G a_row_fault, b_row_fault⟩
  have F_check_row := fun_mk (st := st_check_row) l_check_row co_check_row ke_check_row
  have b_check_row := F_check_row.binds (ps := ["book", "thing"]) fun _ _ _ _ _ _ us hl => match us, hl with | [_, _], _ => rfl
  have U_check_row : Fu K mg "check_row" st_check_row ["book", "thing"] := ⟨_, _, F_check_row, PySem.W.mg_of X G a_check_row, b_check_row⟩
  have F__law_check_told := fun_mk (st := st__law_check_told) l__law_check_told co__law_check_told ke__law_check_told
  have b__law_check_told := F__law_check_told.binds (ps := ["book", "thing"]) fun _ _ _ _ _ _ us hl => match us, hl with | [_, _], _ => rfl
  have U__law_check_told : Fu K mg "_law_check_told" st__law_check_told ["book", "thing"] := ⟨_, _, F__law_check_told, PySem.W.mg_of X G a__law_check_told, b__law_check_told⟩
  have F_cost_of := fun_mk (st := st_cost_of) l_cost_of co_cost_of ke_cost_of
  have b_cost_of := F_cost_of.binds (ps := ["book", "row"]) fun _ _ _ _ _ _ us hl => match us, hl with | [_, _], _ => rfl
  have U_cost_of : Fu K mg "cost_of" st_cost_of ["book", "row"] := ⟨_, _, F_cost_of, PySem.W.mg_of X G a_cost_of, b_cost_of⟩
  have F_read_of := fun_mk (st := st_read_of) l_read_of co_read_of ke_read_of
  have b_read_of := F_read_of.binds (ps := ["row"]) fun _ _ _ _ _ _ us hl => match us, hl with | [_], _ => rfl
  have U_read_of : Fu K mg "read_of" st_read_of ["row"] := ⟨_, _, F_read_of, PySem.W.mg_of X G a_read_of, b_read_of⟩
  have F_written_of := fun_mk (st := st_written_of) l_written_of co_written_of ke_written_of
  have b_written_of := F_written_of.binds (ps := ["row"]) fun _ _ _ _ _ _ us hl => match us, hl with | [_], _ => rfl
  have U_written_of : Fu K mg "written_of" st_written_of ["row"] := ⟨_, _, F_written_of, PySem.W.mg_of X G a_written_of, b_written_of⟩
  have F_filled := fun_mk (st := st_filled) l_filled co_filled ke_filled
  have b_filled := F_filled.binds (ps := ["text", "width"]) fun _ _ _ _ _ _ us hl => match us, hl with | [_, _], _ => rfl
  have U_filled : Fu K mg "filled" st_filled ["text", "width"] := ⟨_, _, F_filled, PySem.W.mg_of X G a_filled, b_filled⟩
  have F_row_lines := fun_mk (st := st_row_lines) l_row_lines co_row_lines ke_row_lines
  have b_row_lines := F_row_lines.binds (ps := ["row"]) fun _ _ _ _ _ _ us hl => match us, hl with | [_], _ => rfl
  have U_row_lines : Fu K mg "row_lines" st_row_lines ["row"] := ⟨_, _, F_row_lines, PySem.W.mg_of X G a_row_lines, b_row_lines⟩
  have F_row_kinds := fun_mk (st := st_row_kinds) l_row_kinds co_row_kinds ke_row_kinds
  have b_row_kinds := F_row_kinds.binds (ps := ["row"]) fun _ _ _ _ _ _ us hl => match us, hl with | [_], _ => rfl
  have U_row_kinds : Fu K mg "row_kinds" st_row_kinds ["row"] := ⟨_, _, F_row_kinds, PySem.W.mg_of X G a_row_kinds, b_row_kinds⟩
  have F__law_row_holds := fun_mk (st := st__law_row_holds) l__law_row_holds co__law_row_holds ke__law_row_holds
  have b__law_row_holds := F__law_row_holds.binds (ps := ["book", "costs", "row"]) fun _ _ _ _ _ _ us hl => match us, hl with | [_, _, _], _ => rfl
  have U__law_row_holds : Fu K mg "_law_row_holds" st__law_row_holds ["book", "costs", "row"] := ⟨_, _, F__law_row_holds, PySem.W.mg_of X G a__law_row_holds, b__law_row_holds⟩
  have F__law_row_due := fun_mk (st := st__law_row_due) l__law_row_due co__law_row_due ke__law_row_due
  have b__law_row_due := F__law_row_due.binds (ps := ["costs", "thing"]) fun _ _ _ _ _ _ us hl => match us, hl with | [_, _], _ => rfl
  have U__law_row_due : Fu K mg "_law_row_due" st__law_row_due ["costs", "thing"] := ⟨_, _, F__law_row_due, PySem.W.mg_of X G a__law_row_due, b__law_row_due⟩
  have F__law_long_holds := fun_mk (st := st__law_long_holds) l__law_long_holds co__law_long_holds ke__law_long_holds
  have b__law_long_holds := F__law_long_holds.binds (ps := ["pool", "book", "costs"]) fun _ _ _ _ _ _ us hl => match us, hl with | [_, _, _], _ => rfl
  have U__law_long_holds : Fu K mg "_law_long_holds" st__law_long_holds ["pool", "book", "costs"] := ⟨_, _, F__law_long_holds, PySem.W.mg_of X G a__law_long_holds, b__law_long_holds⟩
  have F__law_strange_ops := fun_mk (st := st__law_strange_ops) l__law_strange_ops co__law_strange_ops ke__law_strange_ops
  have b__law_strange_ops := F__law_strange_ops.binds (ps := ["pool", "book", "costs", "row"]) fun _ _ _ _ _ _ us hl => match us, hl with | [_, _, _, _], _ => rfl
  have U__law_strange_ops : Fu K mg "_law_strange_ops" st__law_strange_ops ["pool", "book", "costs", "row"] := ⟨_, _, F__law_strange_ops, PySem.W.mg_of X G a__law_strange_ops, b__law_strange_ops⟩
  have F__law_checks_hold := fun_mk (st := st__law_checks_hold) l__law_checks_hold co__law_checks_hold ke__law_checks_hold
  have b__law_checks_hold := F__law_checks_hold.binds (ps := ["pool", "book", "costs", "row"]) fun _ _ _ _ _ _ us hl => match us, hl with | [_, _, _, _], _ => rfl
  have U__law_checks_hold : Fu K mg "_law_checks_hold" st__law_checks_hold ["pool", "book", "costs", "row"] := ⟨_, _, F__law_checks_hold, PySem.W.mg_of X G a__law_checks_hold, b__law_checks_hold⟩
  have F_law := fun_mk (st := st_law) l_law co_law ke_law
  have b_law := F_law.binds (ps := ["script"]) fun _ _ _ _ _ _ us hl => match us, hl with | [_], _ => rfl
  have U_law : Fu K mg "law" st_law ["script"] := ⟨_, _, F_law, PySem.W.mg_of X G a_law, b_law⟩
  have G_BadRow := fun_mk (st := in_BadRow) l1_BadRow c1_BadRow k1_BadRow
  have bI_BadRow := G_BadRow.binds (ps := ["self", "at", "word"]) fun _ _ _ _ _ _ us hl => match us, hl with | [_, _, _], _ => rfl
  have oe_BadRow : OexC K C_BadRow := ⟨⟨_, _, _, _, _, _, _, _, _, _, _, _, _, _, _, xL_BadRow, by rfl⟩, sa_BadRow, eC_BadRow, tC_BadRow, kC_BadRow⟩
  have xf_BadRow : XfC K C_BadRow := ⟨ga_BadRow, gg_BadRow, eC_BadRow, hC_BadRow⟩
  refine ⟨PySem.W.fnOf "law" "law" (defArgs st_law) (defBody st_law) (defScope st_law) .none kV_law dc_law pm_law an_law cd_law ct_law, fun s v => .of_eq rfl, fun base _ _ => ?_⟩
  have z : Zs P w K mg base := {
    n_abs := PySem.W.mg_none_of X G n_abs,
    n_bool := PySem.W.mg_none_of X G n_bool,
    n_enumerate := PySem.W.mg_none_of X G n_enumerate,
    n_int := PySem.W.mg_none_of X G n_int,
    n_isinstance := PySem.W.mg_none_of X G n_isinstance,
    n_len := PySem.W.mg_none_of X G n_len,
    n_list := PySem.W.mg_none_of X G n_list,
    n_max := PySem.W.mg_none_of X G n_max,
    n_range := PySem.W.mg_none_of X G n_range,
    n_sorted := PySem.W.mg_none_of X G n_sorted,
    n_str := PySem.W.mg_none_of X G n_str,
    n_sum := PySem.W.mg_none_of X G n_sum,
    n_tuple := PySem.W.mg_none_of X G n_tuple,
    c_ROW_MOST := ⟨_, PySem.W.mg_of X G c_ROW_MOST⟩,
    x_BadRow := ⟨C_BadRow, I_BadRow, _, _, oe_BadRow, a1_BadRow, t1_BadRow, ok_init2 (k := 0) G_BadRow scI_BadRow rfl (fun cdv A outer s H E => ss_init2 oe_BadRow nf_BadRow_at nf_BadRow_word (pe_var (i := 0) rfl (Or.inl rfl)) (pe_var (i := 1) rfl (Or.inl rfl)) (pe_var (i := 0) rfl (Or.inl rfl)) (pe_var (i := 2) rfl (Or.inl rfl))), bI_BadRow, PySem.W.mg_of X G aC_BadRow⟩,
    h_MendError := ⟨C_MendError, PySem.W.mg_of X G aC_MendError, fun c C b hc hy => allL_of (l := [("BadRow", true)]) (P := fun c b => ∀ C, mg c = some (.ref C) → PySem.W.exmOne K (.ref C) (.ref C_MendError) = some b) (And.intro (fun C h => by
      cases h.symm.trans (PySem.W.mg_of X G aC_BadRow)
      exact PySem.W.exm_ref eC_MendError hC_MendError tC_MendError s_BadRow_MendError) trivial) hy C hc⟩,
    i_MendError_BadRow := ⟨C_BadRow, PySem.W.mg_of X G aC_BadRow, fun c C b hc hy => allL_of (l := [("BadRow", true)]) (P := fun c b => ∀ C, mg c = some (.ref C) → ExcC K C ∧ PySem.W.kitOne K (.ref C) (.ref C_BadRow) = some b) (And.intro (fun C h => by
      cases h.symm.trans (PySem.W.mg_of X G aC_BadRow)
      exact ⟨⟨ga_BadRow, gg_BadRow, eC_BadRow, hC_BadRow, cl_BadRow, sp__, tk__, mr_BadRow⟩, k_BadRow_BadRow⟩) trivial) hy C hc⟩,
    f_MendError_at := fun c hc C hm => allM_of (l := ["BadRow"]) (P := fun c => ∀ C, mg c = some (.ref C) → XfC K C ∧ PySem.W.findIn K (.ref C) "at" = some none) (And.intro (fun C h => by
      cases h.symm.trans (PySem.W.mg_of X G aC_BadRow)
      exact ⟨xf_BadRow, nf_BadRow_at⟩) trivial) hc C hm,
    f_MendError_word := fun c hc C hm => allM_of (l := ["BadRow"]) (P := fun c => ∀ C, mg c = some (.ref C) → XfC K C ∧ PySem.W.findIn K (.ref C) "word" = some none) (And.intro (fun C h => by
      cases h.symm.trans (PySem.W.mg_of X G aC_BadRow)
      exact ⟨xf_BadRow, nf_BadRow_word⟩) trivial) hc C hm }
  have C__law_pool := ok__law_pool z U__law_pool 
  have C__law_draw := ok__law_draw z U__law_draw 
  have C__law_shuffled := ok__law_shuffled z U__law_shuffled C__law_draw
  have C__law_letters := ok__law_letters z U__law_letters C__law_shuffled
  have C__law_text := ok__law_text z U__law_text C__law_draw
  have C__law_book := ok__law_book z U__law_book C__law_draw C__law_text
  have C__law_costs := ok__law_costs z U__law_costs 
  have C__law_drawn_row := ok__law_drawn_row z U__law_drawn_row C__law_draw
  have C__law_is_whole := ok__law_is_whole z U__law_is_whole 
  have C__law_same := ok__law_same z U__law_same C__law_is_whole
  have C_operation_costs := ok_operation_costs z U_operation_costs 
  have C_is_operation := ok_is_operation z U_is_operation 
  have C_row_fault := ok_row_fault z U_row_fault C_operation_costs C_is_operation
  have C_check_row := ok_check_row z U_check_row C_row_fault
  have C__law_check_told := ok__law_check_told z U__law_check_told C_check_row
  have C_cost_of := ok_cost_of z U_cost_of C_operation_costs
  have C_read_of := ok_read_of z U_read_of 
  have C_written_of := ok_written_of z U_written_of 
  have C_filled := ok_filled z U_filled 
  have C_row_lines := ok_row_lines z U_row_lines C_filled
  have C_row_kinds := ok_row_kinds z U_row_kinds 
  have C__law_row_holds := ok__law_row_holds z U__law_row_holds C__law_same C__law_check_told C_cost_of C_read_of C_written_of C_row_lines C_row_kinds
  have C__law_row_due := ok__law_row_due z U__law_row_due 
  have C__law_long_holds := ok__law_long_holds z U__law_long_holds C__law_draw C__law_same C__law_check_told C__law_row_holds C__law_row_due
  have C__law_strange_ops := ok__law_strange_ops z U__law_strange_ops C__law_draw
  have C__law_checks_hold := ok__law_checks_hold z U__law_checks_hold C__law_draw C__law_same C__law_check_told C__law_row_due C__law_strange_ops
  exact law_end (ok_law z F_law C__law_pool C__law_draw C__law_shuffled C__law_letters C__law_book C__law_costs C__law_drawn_row C__law_row_holds C__law_long_holds C__law_checks_hold) rfl plain
end Z

end
section
open PySem PySem.W PyProof.Rows
set_option maxHeartbeats 0 in
theorem PySem.Challenge.cw_fewmends_k02_rows_holds : PySem.Challenge.rw_fewmends_k02_rows.Holds := by
  w_on; o_law; k_head; (case hw => w_witness2)
  k_fill
  refine L2.walk_of (l := PySem.Challenge.rw_fewmends_k02_rows) (n := 63) (k := 7) (x := "script") (CX := fun w => L2.CX PySem.Challenge.rw_fewmends_k02_rows.prog w) (sp := fun w => Y.spLaw _) rfl (by decide) rfl ⟨rfl, by decide, by decide⟩ (fun w h Y => PySem.W.kIn_of Y) ?F (fun _ _ a ns hl _ hS => ⟨a, ns, rfl, hS, hl, fun _ => rfl⟩) (fun w H s e s' h => Y.noCX h)
  case F =>
    intro w mg fa h KX G hmg
    refine' Z.all_mk KX G hmg ?n_abs ?n_bool ?n_enumerate ?n_int ?n_isinstance ?n_len ?n_list ?n_max ?n_range ?n_sorted ?n_str ?n_sum ?n_tuple ?c_ROW_MOST ?aC_BadRow ?xL_BadRow ?sa_BadRow ?ga_BadRow ?gg_BadRow ?nf_BadRow_at ?nf_BadRow_word ?a1_BadRow ?t1_BadRow ?l1_BadRow ?c1_BadRow ?k1_BadRow ?kC_BadRow ?eC_BadRow ?tC_BadRow ?hC_BadRow ?iC_BadRow ?sC_BadRow ?aC_MendError ?eC_MendError ?hC_MendError ?tC_MendError ?s_BadRow_MendError ?sp__ ?tk__ ?cl_BadRow ?mr_BadRow ?k_BadRow_BadRow ?a__law_pool ?l__law_pool ?co__law_pool ?ke__law_pool ?a__law_draw ?l__law_draw ?co__law_draw ?ke__law_draw ?a__law_shuffled ?l__law_shuffled ?co__law_shuffled ?ke__law_shuffled ?a__law_letters ?l__law_letters ?co__law_letters ?ke__law_letters ?a__law_text ?l__law_text ?co__law_text ?ke__law_text ?a__law_book ?l__law_book ?co__law_book ?ke__law_book ?a__law_costs ?l__law_costs ?co__law_costs ?ke__law_costs ?a__law_drawn_row ?l__law_drawn_row ?co__law_drawn_row ?ke__law_drawn_row ?a__law_is_whole ?l__law_is_whole ?co__law_is_whole ?ke__law_is_whole ?a__law_same ?l__law_same ?co__law_same ?ke__law_same ?a_operation_costs ?l_operation_costs ?co_operation_costs ?ke_operation_costs ?a_is_operation ?l_is_operation ?co_is_operation ?ke_is_operation ?a_row_fault ?l_row_fault ?co_row_fault ?ke_row_fault ?a_check_row ?l_check_row ?co_check_row ?ke_check_row ?a__law_check_told ?l__law_check_told ?co__law_check_told ?ke__law_check_told ?a_cost_of ?l_cost_of ?co_cost_of ?ke_cost_of ?a_read_of ?l_read_of ?co_read_of ?ke_read_of ?a_written_of ?l_written_of ?co_written_of ?ke_written_of ?a_filled ?l_filled ?co_filled ?ke_filled ?a_row_lines ?l_row_lines ?co_row_lines ?ke_row_lines ?a_row_kinds ?l_row_kinds ?co_row_kinds ?ke_row_kinds ?a__law_row_holds ?l__law_row_holds ?co__law_row_holds ?ke__law_row_holds ?a__law_row_due ?l__law_row_due ?co__law_row_due ?ke__law_row_due ?a__law_long_holds ?l__law_long_holds ?co__law_long_holds ?ke__law_long_holds ?a__law_strange_ops ?l__law_strange_ops ?co__law_strange_ops ?ke__law_strange_ops ?a__law_checks_hold ?l__law_checks_hold ?co__law_checks_hold ?ke__law_checks_hold ?a_law ?l_law ?co_law ?ke_law Z.plain
    (case n_abs => first | k_is | rfl); (case n_bool => first | k_is | rfl); (case n_enumerate => first | k_is | rfl); (case n_int => first | k_is | rfl); (case n_isinstance => first | k_is | rfl); (case n_len => first | k_is | rfl); (case n_list => first | k_is | rfl); (case n_max => first | k_is | rfl)
    (case n_range => first | k_is | rfl); (case n_sorted => first | k_is | rfl); (case n_str => first | k_is | rfl); (case n_sum => first | k_is | rfl); (case n_tuple => first | k_is | rfl); (case c_ROW_MOST => first | k_is | rfl); (case aC_BadRow => first | k_is | rfl); (case xL_BadRow => first | k_is | rfl)
    (case sa_BadRow => first | k_is | rfl); (case ga_BadRow => first | k_is | rfl); (case gg_BadRow => first | k_is | rfl); (case nf_BadRow_at => first | k_is | rfl); (case nf_BadRow_word => first | k_is | rfl); (case a1_BadRow => first | k_is | rfl); (case t1_BadRow => first | k_is | rfl); (case l1_BadRow => first | k_is | rfl)
    (case c1_BadRow => first | k_is | rfl); (case k1_BadRow => first | k_is | rfl); (case kC_BadRow => first | k_is | rfl); (case eC_BadRow => first | k_is | rfl); (case tC_BadRow => first | k_is | rfl); (case hC_BadRow => first | k_is | rfl); (case iC_BadRow => first | k_is | rfl); (case sC_BadRow => first | k_is | rfl)
    (case aC_MendError => first | k_is | rfl); (case eC_MendError => first | k_is | rfl); (case hC_MendError => first | k_is | rfl); (case tC_MendError => first | k_is | rfl); (case s_BadRow_MendError => first | k_is | rfl); (case sp__ => first | k_is | rfl); (case tk__ => first | k_is | rfl); (case cl_BadRow => first | k_is | rfl)
    (case mr_BadRow => first | k_is | rfl); (case k_BadRow_BadRow => first | k_is | rfl); (case a__law_pool => first | k_is | rfl); (case l__law_pool => first | k_is | rfl); (case co__law_pool => first | k_is | rfl); (case ke__law_pool => first | k_is | rfl); (case a__law_draw => first | k_is | rfl); (case l__law_draw => first | k_is | rfl)
    (case co__law_draw => first | k_is | rfl); (case ke__law_draw => first | k_is | rfl); (case a__law_shuffled => first | k_is | rfl); (case l__law_shuffled => first | k_is | rfl); (case co__law_shuffled => first | k_is | rfl); (case ke__law_shuffled => first | k_is | rfl); (case a__law_letters => first | k_is | rfl); (case l__law_letters => first | k_is | rfl)
    (case co__law_letters => first | k_is | rfl); (case ke__law_letters => first | k_is | rfl); (case a__law_text => first | k_is | rfl); (case l__law_text => first | k_is | rfl); (case co__law_text => first | k_is | rfl); (case ke__law_text => first | k_is | rfl); (case a__law_book => first | k_is | rfl); (case l__law_book => first | k_is | rfl)
    (case co__law_book => first | k_is | rfl); (case ke__law_book => first | k_is | rfl); (case a__law_costs => first | k_is | rfl); (case l__law_costs => first | k_is | rfl); (case co__law_costs => first | k_is | rfl); (case ke__law_costs => first | k_is | rfl); (case a__law_drawn_row => first | k_is | rfl); (case l__law_drawn_row => first | k_is | rfl)
    (case co__law_drawn_row => first | k_is | rfl); (case ke__law_drawn_row => first | k_is | rfl); (case a__law_is_whole => first | k_is | rfl); (case l__law_is_whole => first | k_is | rfl); (case co__law_is_whole => first | k_is | rfl); (case ke__law_is_whole => first | k_is | rfl); (case a__law_same => first | k_is | rfl); (case l__law_same => first | k_is | rfl)
    (case co__law_same => first | k_is | rfl); (case ke__law_same => first | k_is | rfl); (case a_operation_costs => first | k_is | rfl); (case l_operation_costs => first | k_is | rfl); (case co_operation_costs => first | k_is | rfl); (case ke_operation_costs => first | k_is | rfl); (case a_is_operation => first | k_is | rfl); (case l_is_operation => first | k_is | rfl)
    (case co_is_operation => first | k_is | rfl); (case ke_is_operation => first | k_is | rfl); (case a_row_fault => first | k_is | rfl); (case l_row_fault => first | k_is | rfl); (case co_row_fault => first | k_is | rfl); (case ke_row_fault => first | k_is | rfl); (case a_check_row => first | k_is | rfl); (case l_check_row => first | k_is | rfl)
    (case co_check_row => first | k_is | rfl); (case ke_check_row => first | k_is | rfl); (case a__law_check_told => first | k_is | rfl); (case l__law_check_told => first | k_is | rfl); (case co__law_check_told => first | k_is | rfl); (case ke__law_check_told => first | k_is | rfl); (case a_cost_of => first | k_is | rfl); (case l_cost_of => first | k_is | rfl)
    (case co_cost_of => first | k_is | rfl); (case ke_cost_of => first | k_is | rfl); (case a_read_of => first | k_is | rfl); (case l_read_of => first | k_is | rfl); (case co_read_of => first | k_is | rfl); (case ke_read_of => first | k_is | rfl); (case a_written_of => first | k_is | rfl); (case l_written_of => first | k_is | rfl)
    (case co_written_of => first | k_is | rfl); (case ke_written_of => first | k_is | rfl); (case a_filled => first | k_is | rfl); (case l_filled => first | k_is | rfl); (case co_filled => first | k_is | rfl); (case ke_filled => first | k_is | rfl); (case a_row_lines => first | k_is | rfl); (case l_row_lines => first | k_is | rfl)
    (case co_row_lines => first | k_is | rfl); (case ke_row_lines => first | k_is | rfl); (case a_row_kinds => first | k_is | rfl); (case l_row_kinds => first | k_is | rfl); (case co_row_kinds => first | k_is | rfl); (case ke_row_kinds => first | k_is | rfl); (case a__law_row_holds => first | k_is | rfl); (case l__law_row_holds => first | k_is | rfl)
    (case co__law_row_holds => first | k_is | rfl); (case ke__law_row_holds => first | k_is | rfl); (case a__law_row_due => first | k_is | rfl); (case l__law_row_due => first | k_is | rfl); (case co__law_row_due => first | k_is | rfl); (case ke__law_row_due => first | k_is | rfl); (case a__law_long_holds => first | k_is | rfl); (case l__law_long_holds => first | k_is | rfl)
    (case co__law_long_holds => first | k_is | rfl); (case ke__law_long_holds => first | k_is | rfl); (case a__law_strange_ops => first | k_is | rfl); (case l__law_strange_ops => first | k_is | rfl); (case co__law_strange_ops => first | k_is | rfl); (case ke__law_strange_ops => first | k_is | rfl); (case a__law_checks_hold => first | k_is | rfl); (case l__law_checks_hold => first | k_is | rfl)
    (case co__law_checks_hold => first | k_is | rfl); (case ke__law_checks_hold => first | k_is | rfl); (case a_law => first | k_is | rfl); (case l_law => first | k_is | rfl); (case co_law => first | k_is | rfl); (case ke_law => first | k_is | rfl)

end
