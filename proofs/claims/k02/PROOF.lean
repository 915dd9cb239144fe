import PyProof.Rows.All
import Wide.All
import OpenK.AllK
import Wide.FinOn
import HandS.ForMost
import HandS.Deep
import HandS.Flow
import HandS.TupAny
import HandS.TupMul
import HandS.Style
import HandS.IsInst
import HandS.Zip
import HandS.Conv
import HandS.TupLen
import HandS.Sort
import HandS.More
import HandS.Words
import HandS.Defaults
import HandS.DictComp
import HandS.NoneIn
import HandS.SortInts
import HandS.SortRule
import HandS.SetFor
import HandS.Head0
import HandS.Head1
import HandS.Head2
import HandS.HeadEnd
import HandS.HeadHook1
import HandS.HeadHook2
import HandS.HeadHook3
import PySem.Challenge.RW_semigroupbench_k02_lights_of_few_broken
set_option Elab.async false
set_option linter.all false
set_option maxRecDepth 100000
set_option maxHeartbeats 4000000
/-! DL: data trees over the hand layer: what a value stands for, who owns a list -/
namespace DL
open PySem PySem.Spec PyProof.Rows L2

/-! ### data trees -/
inductive D where
  | non
  | bl (b : Bool)
  | int (i : Int)
  | str (s : Str)
  | tup (xs : List D)
  | ktp (xs : List D)
  | lst (xs : List D)
  | dct (t : Bool) (ks xs : List D)
  | rng (lo hi : Int)
  | ty (n : String)

/-- a text that the rules take -/
def okS (s : Str) : Bool := decide (s.length ≤ sizeLine) && s.cps.all (fun c => c < 0xD800)
def keyD : D → Option Key
  | .int i => some (.inl i)
  | .str s => if okS s = true then some (.inr s) else none
  | _ => none
def keysD : D → Option (List Key)
  | .tup xs => if xs.length ≤ 1000 then xs.mapM keyD else none
  | _ => none

/-- a tuple of the module's top -/
def KTup (K : PySem.W.Frag) (a : Addr) (xs : List V) : Prop :=
  ∃ (o : Obj) (its : Array Value) (n : Nat), K.lookup a = some o ∧ o.cls = .type "tuple" ∧ o.data = .seq its n ∧ its.size ≤ sizeLine ∧ Vals xs its.toList
/-- what may be read as data: no record of a lock -/
def plainO : HO → Bool
  | .lst _ => true
  | .dK _ => true
  | .dT _ => true
  | .tup _ => true
  | _ => false

def MutO : Option HO → Prop
  | some (.lst _) => True
  | some (.dK _) => True
  | some (.dT _) => True
  | _ => False

/-- a dict with such keys, the values as R says: t: the keys are tuples -/
def DAt (rd : HO → Prop) (R : List V → Prop) (ks : List D) : Bool → Prop
  | false => ∃ ps : List (Key × V), rd (.dK ps) ∧ ks.map keyD = ps.map (fun p => some p.1) ∧ R (ps.map (·.2))
  | true => ∃ ps : List (List Key × V), rd (.dT ps) ∧ ks.map keysD = ps.map (fun p => some p.1) ∧ R (ps.map (·.2))
theorem DAt.imp {rd rd' : HO → Prop} {R R' : List V → Prop} {ks : List D} {t : Bool} (h : DAt rd R ks t) (h1 : ∀ o, plainO o = true → MutO (some o) → rd o → rd' o) (h2 : ∀ vs, R vs → R' vs) : DAt rd' R' ks t := by
  cases t with
  | false => obtain ⟨ps, a, b, c⟩ := h; exact ⟨ps, h1 _ rfl trivial a, b, h2 _ c⟩
  | true => obtain ⟨ps, a, b, c⟩ := h; exact ⟨ps, h1 _ rfl trivial a, b, h2 _ c⟩

section
variable (K : PySem.W.Frag) (H : Hp) (Z : Addr → Prop)
mutual
/-- v stands for d; the lists and dicts within are in Z -/
def Rep : D → V → Prop
  | .non, v => v = .non
  | .bl b, v => v = .bl b
  | .int i, v => v = .int i
  | .str s, v => v = .str s ∧ okS s = true
  | .tup ds, v => ∃ a vs, v = .ref a ∧ H a = some (.tup vs) ∧ vs.length ≤ sizeLine ∧ Reps ds vs
  | .ktp ds, v => ∃ a vs, v = .ref a ∧ KTup K a vs ∧ vs.length ≤ sizeLine ∧ Reps ds vs
  | .lst ds, v => ∃ a vs, v = .ref a ∧ Z a ∧ Rd H a (.lst vs) ∧ vs.length ≤ sizeLine ∧ Reps ds vs
  | .dct t ks xs, v => ∃ a, v = .ref a ∧ Z a ∧ ks.length ≤ sizeLine ∧ DAt (fun o => Rd H a o) (fun vs => Reps xs vs) ks t
  | .ty n, v => v = .ty n
  | .rng lo hi, v => ∃ a, v = .ref a ∧ H a = some (.rng lo hi) ∧ -(2 ^ 62) ≤ lo ∧ lo < 2 ^ 62 ∧ -(2 ^ 62) ≤ hi ∧ hi < 2 ^ 62
def Reps : List D → List V → Prop
  | [], vs => vs = []
  | d :: ds, vs => ∃ v r, vs = v :: r ∧ Rep d v ∧ Reps ds r
end
/-- lists of values, each with what it owns -/
def LO (P : D → V → List Addr → Prop) : List D → List V → List Addr → Prop
  | [], vs, B => vs = [] ∧ B = []
  | d :: ds, vs, B => ∃ v r B1 B2, vs = v :: r ∧ P d v B1 ∧ LO P ds r B2 ∧ B = B1 ++ B2
/-- v stands for d; its lists and dicts down to the depth n are its own, at B -/
def Own : Nat → D → V → List Addr → Prop
  | 0, d, v, B => Rep K H Z d v ∧ B = []
  | n + 1, d, v, B => match d with
    | .lst ds => ∃ a vs Bs, v = .ref a ∧ H a = some (.lst vs) ∧ vs.length ≤ sizeLine ∧ LO (Own n) ds vs Bs ∧ B = a :: Bs
    | .dct t ks xs => ∃ a Bs, v = .ref a ∧ ks.length ≤ sizeLine ∧ DAt (fun o => H a = some o) (fun vs => LO (Own n) xs vs Bs) ks t ∧ B = a :: Bs
    | d => Rep K H Z d v ∧ B = []
end

/-! ### what a change leaves -/
structure Pre (Z : Addr → Prop) (H H' : Hp) : Prop where
  fz : ∀ a u, plainO u = true → Z a → Rd H a u → Rd H' a u
  tp : ∀ a vs, H a = some (.tup vs) → H' a = some (.tup vs)
  rg : ∀ a lo hi, H a = some (.rng lo hi) → H' a = some (.rng lo hi)

section
variable {K : PySem.W.Frag} {H H' : Hp} {Z Z' : Addr → Prop}
mutual
theorem Rep.mono (hz : ∀ a, Z a → Z' a) (p : Pre Z H H') : ∀ (d : D) (v : V), Rep K H Z d v → Rep K H' Z' d v
  | .non, v, h => by simpa [Rep] using h
  | .bl b, v, h => by simpa [Rep] using h
  | .int i, v, h => by simpa [Rep] using h
  | .str s, v, h => by simpa [Rep] using h
  | .ty s, v, h => by simpa [Rep] using h
  | .tup ds, v, h => by
    unfold Rep at h ⊢
    obtain ⟨a, vs, e, h1, h2, h3⟩ := h
    exact ⟨a, vs, e, p.tp _ _ h1, h2, Reps.mono hz p ds vs h3⟩
  | .ktp ds, v, h => by
    unfold Rep at h ⊢
    obtain ⟨a, vs, e, h1, h2, h3⟩ := h
    exact ⟨a, vs, e, h1, h2, Reps.mono hz p ds vs h3⟩
  | .lst ds, v, h => by
    unfold Rep at h ⊢
    obtain ⟨a, vs, e, z, h1, h2, h3⟩ := h
    exact ⟨a, vs, e, hz a z, p.fz _ _ rfl z h1, h2, Reps.mono hz p ds vs h3⟩
  | .dct t ks xs, v, h => by
    unfold Rep at h ⊢
    obtain ⟨a, e, z, hl, h⟩ := h
    exact ⟨a, e, hz a z, hl, h.imp (fun o po _ q => p.fz _ _ po z q) fun vs q => Reps.mono hz p xs vs q⟩
  | .rng lo hi, v, h => by
    unfold Rep at h ⊢
    obtain ⟨a, e, h, hb⟩ := h
    exact ⟨a, e, p.rg _ _ _ h, hb⟩
theorem Reps.mono (hz : ∀ a, Z a → Z' a) (p : Pre Z H H') : ∀ (ds : List D) (vs : List V), Reps K H Z ds vs → Reps K H' Z' ds vs
  | [], vs, h => by simpa [Reps] using h
  | d :: ds, vs, h => by
    unfold Reps at h ⊢
    obtain ⟨v, r, e, h1, h2⟩ := h
    exact ⟨v, r, e, Rep.mono hz p d v h1, Reps.mono hz p ds r h2⟩
end
theorem Pre.refl : Pre Z H H := ⟨fun _ _ _ _ h => h, fun _ _ h => h, fun _ _ _ h => h⟩
theorem Pre.of_same (h : ∀ a o, H a = some o → H' a = some o) : Pre Z H H' :=
  ⟨fun a u _ _ r => by rcases r with r | ⟨o, r⟩; exact .inl (h _ _ r); exact .inr ⟨o, h _ _ r⟩,
   fun a vs r => h _ _ r, fun a lo hi r => h _ _ r⟩
theorem Reps.length : ∀ {ds : List D} {vs : List V}, Reps K H Z ds vs → vs.length = ds.length
  | [], vs, h => by unfold Reps at h; rw [h]; rfl
  | d :: ds, vs, h => by
    unfold Reps at h
    obtain ⟨v, r, e, _, h2⟩ := h
    rw [e, List.length_cons, List.length_cons, Reps.length h2]
theorem Reps.get : ∀ {ds : List D} {vs : List V} {i : Nat} {d : D}, Reps K H Z ds vs → ds[i]? = some d → ∃ v, vs[i]? = some v ∧ Rep K H Z d v
  | [], vs, i, d, h, e => by simp at e
  | d :: ds, vs, 0, d', h, e => by
    unfold Reps at h
    obtain ⟨v, r, e1, h1, _⟩ := h
    have : d = d' := by simpa using e
    subst this
    exact ⟨v, by rw [e1]; rfl, h1⟩
  | d :: ds, vs, i + 1, d', h, e => by
    unfold Reps at h
    obtain ⟨v, r, e1, _, h2⟩ := h
    obtain ⟨u, h3, h4⟩ := Reps.get (i := i) (d := d') h2 (by simpa using e)
    exact ⟨u, by rw [e1]; simpa using h3, h4⟩
theorem Reps.get' : ∀ {ds : List D} {vs : List V} {i : Nat} {v : V}, Reps K H Z ds vs → vs[i]? = some v → ∃ d, ds[i]? = some d ∧ Rep K H Z d v := by
  intro ds vs i v h e
  have hl := h.length
  have hi : i < vs.length := (List.getElem?_eq_some_iff.mp e).1
  obtain ⟨d, hd⟩ : ∃ d, ds[i]? = some d := ⟨ds[i]'(by omega), by simp⟩
  obtain ⟨u, hu, r⟩ := h.get hd
  rw [e] at hu
  cases hu
  exact ⟨d, hd, r⟩
theorem Reps.append : ∀ {ds es : List D} {vs us : List V}, Reps K H Z ds vs → Reps K H Z es us → Reps K H Z (ds ++ es) (vs ++ us)
  | [], es, vs, us, h, g => by unfold Reps at h; rw [h]; exact g
  | d :: ds, es, vs, us, h, g => by
    unfold Reps at h
    obtain ⟨v, r, e, h1, h2⟩ := h
    rw [e]
    show Reps K H Z (d :: (ds ++ es)) (v :: (r ++ us))
    unfold Reps
    exact ⟨v, _, rfl, h1, h2.append g⟩
theorem Reps.one {d : D} {v : V} (h : Rep K H Z d v) : Reps K H Z [d] [v] := by
  unfold Reps
  exact ⟨v, [], rfl, h, by unfold Reps; rfl⟩
theorem Reps.nil : Reps K H Z [] [] := by unfold Reps; rfl
theorem Reps.cons {d : D} {v : V} {ds : List D} {vs : List V} (h : Rep K H Z d v) (g : Reps K H Z ds vs) : Reps K H Z (d :: ds) (v :: vs) := by
  unfold Reps
  exact ⟨v, vs, rfl, h, g⟩
theorem Reps.take : ∀ {ds : List D} {vs : List V} (n : Nat), Reps K H Z ds vs → Reps K H Z (ds.take n) (vs.take n)
  | ds, vs, 0, h => by simpa using Reps.nil
  | [], vs, n + 1, h => by unfold Reps at h; rw [h]; simpa using Reps.nil
  | d :: ds, vs, n + 1, h => by
    unfold Reps at h
    obtain ⟨v, r, e, h1, h2⟩ := h
    rw [e]
    exact Reps.cons h1 (h2.take n)
theorem Reps.drop : ∀ {ds : List D} {vs : List V} (n : Nat), Reps K H Z ds vs → Reps K H Z (ds.drop n) (vs.drop n)
  | ds, vs, 0, h => by simpa using h
  | [], vs, n + 1, h => by unfold Reps at h; rw [h]; simpa using Reps.nil
  | d :: ds, vs, n + 1, h => by
    unfold Reps at h
    obtain ⟨v, r, e, h1, h2⟩ := h
    rw [e]
    exact h2.drop n
theorem Reps.reverse {ds : List D} {vs : List V} (h : Reps K H Z ds vs) : Reps K H Z ds.reverse vs.reverse := by
  induction ds generalizing vs with
  | nil => unfold Reps at h; rw [h]; simpa using Reps.nil
  | cons d ds ih =>
    unfold Reps at h
    obtain ⟨v, r, e, h1, h2⟩ := h
    rw [e, List.reverse_cons, List.reverse_cons]
    exact (ih h2).append (Reps.one h1)
theorem Reps.set : ∀ {ds : List D} {vs : List V} {d : D} {v : V} (i : Nat), Reps K H Z ds vs → Rep K H Z d v → Reps K H Z (ds.set i d) (vs.set i v)
  | [], vs, d, v, i, h, g => by unfold Reps at h; rw [h]; simpa using Reps.nil
  | e :: ds, vs, d, v, 0, h, g => by
    unfold Reps at h
    obtain ⟨w, r, q, h1, h2⟩ := h
    rw [q]
    exact Reps.cons g h2
  | e :: ds, vs, d, v, i + 1, h, g => by
    unfold Reps at h
    obtain ⟨w, r, q, h1, h2⟩ := h
    rw [q]
    exact Reps.cons h1 (h2.set i g)
/-- all the same thing -/
theorem Reps.replicate {d : D} {v : V} (h : Rep K H Z d v) : ∀ n, Reps K H Z (List.replicate n d) (List.replicate n v)
  | 0 => Reps.nil
  | n + 1 => Reps.cons h (Reps.replicate h n)
end

/-! ### what is owned -/
section
variable {K : PySem.W.Frag} {H H' : Hp} {Z Z' : Addr → Prop}
theorem LO.mono {P P' : D → V → List Addr → Prop} : ∀ {ds : List D} {vs : List V} {B : List Addr}, LO P ds vs B → (∀ d v B1, (∀ a ∈ B1, a ∈ B) → P d v B1 → P' d v B1) → LO P' ds vs B
  | [], vs, B, h, f => h
  | d :: ds, vs, B, h, f => by
    obtain ⟨v, r, B1, B2, e, h1, h2, eb⟩ := h
    refine ⟨v, r, B1, B2, e, f d v B1 (fun a ha => by rw [eb]; exact List.mem_append_left _ ha) h1, LO.mono h2 fun d' v' B' hb hp => f d' v' B' (fun a ha => by rw [eb]; exact List.mem_append_right _ (hb a ha)) hp, eb⟩
theorem LO.length {P : D → V → List Addr → Prop} : ∀ {ds : List D} {vs : List V} {B : List Addr}, LO P ds vs B → vs.length = ds.length
  | [], vs, B, h => by rw [h.1]; rfl
  | d :: ds, vs, B, h => by
    obtain ⟨v, r, B1, B2, e, h1, h2, eb⟩ := h
    rw [e, List.length_cons, List.length_cons, LO.length h2]
theorem LO.reps {Q : D → V → Prop} {P : D → V → List Addr → Prop} (f : ∀ d v B, P d v B → Rep K H Z d v) : ∀ {ds : List D} {vs : List V} {B : List Addr}, LO P ds vs B → Reps K H Z ds vs
  | [], vs, B, h => by rw [h.1]; exact Reps.nil
  | d :: ds, vs, B, h => by
    obtain ⟨v, r, B1, B2, e, h1, h2, eb⟩ := h
    rw [e]
    exact Reps.cons (f _ _ _ h1) (LO.reps (Q := Q) f h2)
theorem LO.of_reps : ∀ {ds : List D} {vs : List V}, Reps K H Z ds vs → LO (Own K H Z 0) ds vs []
  | [], vs, h => by unfold Reps at h; exact ⟨h, rfl⟩
  | d :: ds, vs, h => by
    unfold Reps at h
    obtain ⟨v, r, e, h1, h2⟩ := h
    exact ⟨v, r, [], [], e, ⟨h1, rfl⟩, LO.of_reps h2, rfl⟩
theorem LO.to_reps : ∀ {ds : List D} {vs : List V} {B : List Addr}, LO (Own K H Z 0) ds vs B → Reps K H Z ds vs ∧ B = []
  | [], vs, B, h => ⟨by rw [h.1]; exact Reps.nil, h.2⟩
  | d :: ds, vs, B, h => by
    obtain ⟨v, r, B1, B2, e, h1, h2, eb⟩ := h
    obtain ⟨q1, q2⟩ := LO.to_reps h2
    exact ⟨by rw [e]; exact Reps.cons h1.1 q1, by rw [eb, h1.2, q2]; rfl⟩
theorem Own.mono (hz : ∀ a, Z a → Z' a) (p : Pre Z H H') : ∀ (n : Nat) {d : D} {v : V} {B : List Addr}, (∀ a ∈ B, ∀ o, H a = some o → H' a = some o) → Own K H Z n d v B → Own K H' Z' n d v B
  | 0, d, v, B, hb, h => ⟨Rep.mono hz p d v h.1, h.2⟩
  | n + 1, d, v, B, hb, h => by
    cases d with
    | lst ds =>
      obtain ⟨a, vs, Bs, e, ha, hl, h1, eb⟩ := h
      refine ⟨a, vs, Bs, e, hb a (by rw [eb]; exact List.mem_cons_self) _ ha, hl, h1.mono fun d v B1 hs q => ?_, eb⟩
      exact Own.mono hz p n (fun b hb1 => hb b (by rw [eb]; exact List.mem_cons_of_mem _ (hs b hb1))) q
    | dct t ks xs =>
      obtain ⟨a, Bs, e, hl, h1, eb⟩ := h
      refine ⟨a, Bs, e, hl, ?_, eb⟩
      have hba := hb a (by rw [eb]; exact List.mem_cons_self)
      have f : ∀ d v B1, (∀ b ∈ B1, b ∈ Bs) → Own K H Z n d v B1 → Own K H' Z' n d v B1 := fun d v B1 hs q =>
        Own.mono hz p n (fun b hb1 => hb b (by rw [eb]; exact List.mem_cons_of_mem _ (hs b hb1))) q
      exact h1.imp (fun o _ _ q => hba _ q) fun vs q => q.mono f
    | non => exact ⟨Rep.mono hz p _ v h.1, h.2⟩
    | bl b => exact ⟨Rep.mono hz p _ v h.1, h.2⟩
    | int i => exact ⟨Rep.mono hz p _ v h.1, h.2⟩
    | str s => exact ⟨Rep.mono hz p _ v h.1, h.2⟩
    | tup ds => exact ⟨Rep.mono hz p _ v h.1, h.2⟩
    | ktp ds => exact ⟨Rep.mono hz p _ v h.1, h.2⟩
    | rng lo hi => exact ⟨Rep.mono hz p _ v h.1, h.2⟩
    | ty n => exact ⟨Rep.mono hz p _ v h.1, h.2⟩
/-- what is owned may be read, once those at B may -/
theorem Own.rep (hz : ∀ a, Z a → Z' a) : ∀ (n : Nat) {d : D} {v : V} {B : List Addr}, (∀ a ∈ B, Z' a) → Own K H Z n d v B → Rep K H Z' d v
  | 0, d, v, B, hb, h => Rep.mono hz Pre.refl d v h.1
  | n + 1, d, v, B, hb, h => by
    cases d with
    | lst ds =>
      obtain ⟨a, vs, Bs, e, ha, hl, h1, eb⟩ := h
      unfold Rep
      have q := h1.mono (P' := fun d v _ => Rep K H Z' d v) fun d v B1 hs q => Own.rep hz n (fun b hb1 => hb b (by rw [eb]; exact List.mem_cons_of_mem _ (hs b hb1))) q
      exact ⟨a, vs, e, hb a (by rw [eb]; exact List.mem_cons_self), .inl ha, hl, q.reps (Q := fun _ _ => True) fun _ _ _ z => z⟩
    | dct t ks xs =>
      obtain ⟨a, Bs, e, hl, h1, eb⟩ := h
      unfold Rep
      refine ⟨a, e, hb a (by rw [eb]; exact List.mem_cons_self), hl, ?_⟩
      have f : ∀ d v B1, (∀ b ∈ B1, b ∈ Bs) → Own K H Z n d v B1 → Rep K H Z' d v := fun d v B1 hs q => Own.rep hz n (fun b hb1 => hb b (by rw [eb]; exact List.mem_cons_of_mem _ (hs b hb1))) q
      exact h1.imp (fun o _ _ q => .inl q) fun vs q => (q.mono (P' := fun d v _ => Rep K H Z' d v) f).reps (Q := fun _ _ => True) fun _ _ _ z => z
    | non => exact Rep.mono hz Pre.refl _ v h.1
    | bl b => exact Rep.mono hz Pre.refl _ v h.1
    | int i => exact Rep.mono hz Pre.refl _ v h.1
    | str s => exact Rep.mono hz Pre.refl _ v h.1
    | tup ds => exact Rep.mono hz Pre.refl _ v h.1
    | ktp ds => exact Rep.mono hz Pre.refl _ v h.1
    | rng lo hi => exact Rep.mono hz Pre.refl _ v h.1
    | ty n => exact Rep.mono hz Pre.refl _ v h.1
/-- any place may be read -/
abbrev ZT : Addr → Prop := fun _ => True
theorem Own.read {n : Nat} {d : D} {v : V} {B : List Addr} (h : Own K H Z n d v B) : Rep K H ZT d v := Own.rep (fun _ _ => trivial) n (fun _ _ => trivial) h
/-- data without lists and dicts -/
def isFl : D → Bool
  | .lst _ => false
  | .dct _ _ _ => false
  | _ => true
theorem Own.of_rep {n : Nat} {d : D} {v : V} (h : Rep K H Z d v) (hd : isFl d = true) : Own K H Z n d v [] := by
  cases n with
  | zero => exact ⟨h, rfl⟩
  | succ n =>
    cases d with
    | lst ds => cases hd
    | dct t ks xs => cases hd
    | non => exact ⟨h, rfl⟩
    | bl b => exact ⟨h, rfl⟩
    | int i => exact ⟨h, rfl⟩
    | str s => exact ⟨h, rfl⟩
    | tup ds => exact ⟨h, rfl⟩
    | ktp ds => exact ⟨h, rfl⟩
    | rng lo hi => exact ⟨h, rfl⟩
    | ty n => exact ⟨h, rfl⟩
theorem Own.to_rep {n : Nat} {d : D} {v : V} {B : List Addr} (h : Own K H Z n d v B) (hd : isFl d = true) : Rep K H Z d v ∧ B = [] := by
  cases n with
  | zero => exact h
  | succ n =>
    cases d with
    | lst ds => cases hd
    | dct t ks xs => cases hd
    | non => exact h
    | bl b => exact h
    | int i => exact h
    | str s => exact h
    | tup ds => exact h
    | ktp ds => exact h
    | rng lo hi => exact h
    | ty n => exact h
end

/-! ### the state: slots, what they stand for, what they own -/
abbrev Env := List (Option (Nat × D))

structure RS (K : PySem.W.Frag) (ρ : Env) (σ : L2.St) (H : Hp) (Z : Addr → Prop) (As : Nat → List Addr) : Prop where
  slot : ∀ i m d, ρ[i]? = some (some (m, d)) → ∃ v, σ[i]? = some (some v) ∧ Own K H Z m d v (As i)
  nd : ∀ i, (As i).Nodup
  dj : ∀ i j a, a ∈ As i → a ∈ As j → i = j
  nz : ∀ i a, a ∈ As i → ¬ Z a
  mt : ∀ i a, a ∈ As i → MutO (H a)
  zd : ∀ a, Z a → H a ≠ none
  len : ρ.length = σ.length

/-- a change: what is tracked stays, but (W) what slots own -/
structure Chg (W : Bool) (H : Hp) (Z : Addr → Prop) (As : Nat → List Addr) (H' : Hp) (Z' : Addr → Prop) (As' : Nat → List Addr) : Prop where
  keep : ∀ a o, H a = some o → (W = true → ∀ i, a ∉ As i) → H' a = some o
  dom : ∀ a, H a ≠ none → H' a ≠ none
  zz : ∀ a, Z a → Z' a
  zf : ∀ a, Z' a → Z a ∨ H a = none ∨ ∃ i, a ∈ As i
  af : ∀ i a, a ∈ As' i → H a = none ∨ ∃ j, a ∈ As j

section
variable {K : PySem.W.Frag} {ρ ρ' : Env} {σ σ' : L2.St} {H H' H1 H2 H3 : Hp} {Z Z' Z1 Z2 Z3 : Addr → Prop} {As As' As1 As2 As3 : Nat → List Addr} {W W' : Bool}
theorem MutO.ne {o : Option HO} (h : MutO o) : o ≠ none := by
  intro e; rw [e] at h; exact h
theorem Chg.refl : Chg W H Z As H Z As := ⟨fun _ _ h _ => h, fun _ h => h, fun _ h => h, fun _ h => .inl h, fun i _ h => .inr ⟨i, h⟩⟩
theorem Chg.trans (r : RS K ρ σ H1 Z1 As1) (a : Chg W H1 Z1 As1 H2 Z2 As2) (b : Chg W' H2 Z2 As2 H3 Z3 As3) : Chg (W || W') H1 Z1 As1 H3 Z3 As3 where
  keep := fun x o h hw => by
    have e1 : H2 x = some o := a.keep x o h fun w => hw (by rw [w]; rfl)
    refine b.keep x o e1 fun w i hi => ?_
    rcases a.af i x hi with h' | ⟨j, hj⟩
    · rw [h] at h'; cases h'
    · exact hw (by rw [w]; simp) j hj
  dom := fun x h => b.dom x (a.dom x h)
  zz := fun x h => b.zz x (a.zz x h)
  zf := fun x h => by
    rcases b.zf x h with h | h | ⟨i, h⟩
    · exact a.zf x h
    · refine .inr (.inl ?_)
      cases e : H1 x with
      | none => rfl
      | some o => exact absurd h (a.dom x (by rw [e]; exact fun z => nomatch z))
    · rcases a.af i x h with h | h
      · exact .inr (.inl h)
      · exact .inr (.inr h)
  af := fun i x h => by
    rcases b.af i x h with h | ⟨j, h⟩
    · refine .inl ?_
      cases e : H1 x with
      | none => rfl
      | some o => exact absurd h (a.dom x (by rw [e]; exact fun z => nomatch z))
    · exact a.af j x h
theorem Chg.up (a : Chg W H1 Z1 As1 H2 Z2 As2) : Chg true H1 Z1 As1 H2 Z2 As2 :=
  { keep := fun x o h hw => a.keep x o h (fun _ => hw rfl), dom := a.dom, zz := a.zz, zf := a.zf, af := a.af }
theorem Chg.of_false (a : Chg false H1 Z1 As1 H2 Z2 As2) : Chg W H1 Z1 As1 H2 Z2 As2 :=
  { keep := fun x o h _ => a.keep x o h (fun w => by cases w), dom := a.dom, zz := a.zz, zf := a.zf, af := a.af }
/-- what a change leaves of what is in Z -/
theorem Chg.pre (r : RS K ρ σ H Z As) (c : Chg W H Z As H' Z' As') : Pre Z H H' where
  fz := fun a u _ z h => by
    rcases h with h | ⟨o, h⟩
    · exact .inl (c.keep a _ h fun _ i hi => r.nz i a hi z)
    · exact .inr ⟨o, c.keep a _ h fun _ i hi => r.nz i a hi z⟩
  tp := fun a vs h => c.keep a _ h fun _ i hi => by have q := r.mt i a hi; rw [h] at q; exact q
  rg := fun a lo hi h => c.keep a _ h fun _ i hi => by have q := r.mt i a hi; rw [h] at q; exact q
/-- a value that waits while something else is reckoned: frozen, or nothing owned changes -/
theorem Own.wait {n : Nat} {d : D} {v : V} {B : List Addr} (r : RS K ρ σ H Z As) (c : Chg W H Z As H' Z' As') (hw : n = 0 ∨ W = false) (h : Own K H Z n d v B) : Own K H' Z' n d v B := by
  rcases hw with hw | hw
  · subst hw
    exact ⟨Rep.mono c.zz (c.pre r) d v h.1, h.2⟩
  · subst hw
    exact Own.mono c.zz (c.pre r) n (fun a _ o e => c.keep a o e fun w => nomatch w) h
theorem Rep.wait {d : D} {v : V} (r : RS K ρ σ H Z As) (c : Chg W H Z As H' Z' As') (h : Rep K H Z d v) : Rep K H' Z' d v := Rep.mono c.zz (c.pre r) d v h
end
end DL
/-! DL2: readings over data: expressions, tests, arguments -/
namespace DL
open PySem PySem.Spec PyProof.Rows L2

theorem PE.conv {X : Cx} {e : Expr} {t t' : TE} (h : PE X e t) (c : ∀ σ H Q, t' σ H Q → t σ H Q) : PE X e t' := ⟨fun pins s σ H Q I q => h.run pins s σ H Q I (c σ H Q q)⟩
theorem PT.conv {X : Cx} {e : Expr} {t t' : TT} (h : PT X e t) (c : ∀ σ H Q, t' σ H Q → t σ H Q) : PT X e t' := ⟨fun pins s σ H Q I q => h.run pins s σ H Q I (c σ H Q q)⟩
theorem PA.conv {X : Cx} {es : List Expr} {t t' : TA} (h : PA X es t) (c : ∀ σ H Q, t' σ H Q → t σ H Q) : PA X es t' := ⟨fun pos pins s σ H Q I q => h.run pos pins s σ H Q I (c σ H Q q)⟩

/-- what a value brings that is new -/
structure Gr (H : Hp) (Z : Addr → Prop) (H' : Hp) (Z' : Addr → Prop) (B : List Addr) : Prop where
  same : ∀ a o, H a = some o → H' a = some o
  zz : ∀ a, Z a → Z' a
  zf : ∀ a, Z' a → Z a ∨ H a = none
  zd : ∀ a, Z' a → H' a ≠ none
  nd : B.Nodup
  bb : ∀ b ∈ B, H b = none ∧ MutO (H' b) ∧ ¬ Z' b
/-- what is owned stands apart from all else -/
structure Sep (B : List Addr) (H : Hp) (As : Nat → List Addr) (H' : Hp) (Z' : Addr → Prop) (As' : Nat → List Addr) : Prop where
  nd : B.Nodup
  nz : ∀ b ∈ B, ¬ Z' b
  dj : ∀ b ∈ B, ∀ i, b ∉ As' i
  mt : ∀ b ∈ B, MutO (H' b)
  af : ∀ b ∈ B, H b = none ∨ ∃ j, b ∈ As j
abbrev EM := Env → Option (D × Env)
abbrev TM := Env → Option (Bool × Env)
abbrev AM := Env → Option (List D × Env)

section
variable {K : PySem.W.Frag} {ρ ρ' : Env} {σ σ' : L2.St} {H H' H1 H2 H3 : Hp} {Z Z' Z1 Z2 Z3 : Addr → Prop} {As As' As1 As2 As3 : Nat → List Addr} {W W' : Bool} {B : List Addr}
theorem Sep.nil : Sep [] H As H' Z' As' := ⟨List.nodup_nil, (fun _ h => by cases h), (fun _ h => by cases h), (fun _ h => by cases h), (fun _ h => by cases h)⟩
theorem Gr.refl (zd : ∀ a, Z a → H a ≠ none) : Gr H Z H Z [] := ⟨fun _ _ h => h, fun _ h => h, fun _ h => .inl h, zd, List.nodup_nil, (fun _ h => by cases h)⟩
/-- a new object, frozen -/
theorem Gr.new (zd : ∀ a, Z a → H a ≠ none) {p : Addr} {o : HO} (hp : H p = none) : Gr H Z (upd H p o) (fun a => Z a ∨ a = p) [] where
  same := fun a u e => by rw [upd_ne (ne_of_none e hp)]; exact e
  zz := fun a h => .inl h
  zf := fun a h => by rcases h with h | h; exact .inl h; exact .inr (by rw [h]; exact hp)
  zd := fun a h => by
    by_cases e : a = p
    · rw [e, upd_same]; exact fun z => nomatch z
    · rw [upd_ne e]; exact zd a (h.resolve_right e)
  nd := List.nodup_nil
  bb := fun _ h => by cases h
/-- a new object, owned -/
theorem Gr.own (zd : ∀ a, Z a → H a ≠ none) {p : Addr} {o : HO} (hp : H p = none) (mo : MutO (some o)) : Gr H Z (upd H p o) Z [p] where
  same := fun a u e => by rw [upd_ne (ne_of_none e hp)]; exact e
  zz := fun a h => h
  zf := fun a h => .inl h
  zd := fun a h => by
    by_cases e : a = p
    · rw [e, upd_same]; exact fun z => nomatch z
    · rw [upd_ne e]; exact zd a h
  nd := by simp
  bb := fun b h => by
    have e : b = p := by simpa using h
    subst e
    exact ⟨hp, by rw [upd_same]; exact mo, fun z => zd b z hp⟩
/-- a new object that no data hangs on (a tuple, a range) -/
theorem Gr.tup (zd : ∀ a, Z a → H a ≠ none) {p : Addr} {o : HO} (hp : H p = none) : Gr H Z (upd H p o) Z [] where
  same := fun a u e => by rw [upd_ne (ne_of_none e hp)]; exact e
  zz := fun a h => h
  zf := fun a h => .inl h
  zd := fun a h => by
    by_cases e : a = p
    · rw [e, upd_same]; exact fun z => nomatch z
    · rw [upd_ne e]; exact zd a h
  nd := List.nodup_nil
  bb := fun _ h => by cases h
theorem Gr.pre (g : Gr H Z H' Z' B) : Pre Z1 H H' := Pre.of_same g.same
theorem Gr.rep (g : Gr H Z H' Z' B) {d : D} {v : V} (h : Rep K H Z d v) : Rep K H' Z' d v := Rep.mono g.zz g.pre d v h
theorem Gr.reps (g : Gr H Z H' Z' B) {d : List D} {v : List V} (h : Reps K H Z d v) : Reps K H' Z' d v := Reps.mono g.zz g.pre d v h
theorem Gr.ow (g : Gr H Z H' Z' B) {n : Nat} {d : D} {v : V} {B1 : List Addr} (h : Own K H Z n d v B1) : Own K H' Z' n d v B1 := Own.mono g.zz g.pre n (fun a _ o e => g.same a o e) h
theorem RS.gr (r : RS K ρ σ H Z As) (g : Gr H Z H' Z' B) : RS K ρ σ H' Z' As where
  slot := fun i m d e => let ⟨v, h1, h2⟩ := r.slot i m d e; ⟨v, h1, g.ow h2⟩
  nd := r.nd
  dj := r.dj
  nz := fun i a h z => by
    rcases g.zf a z with z | z
    · exact r.nz i a h z
    · exact (r.mt i a h).ne z
  mt := fun i a h => by
    have q := r.mt i a h
    cases e : H a with
    | none => exact absurd e q.ne
    | some o => rw [e] at q; rw [g.same a o e]; exact q
  zd := g.zd
  len := r.len
theorem Chg.gr (g : Gr H Z H' Z' B) : Chg W H Z As H' Z' As where
  keep := fun a o e _ => g.same a o e
  dom := fun a h => by
    cases e : H a with
    | none => exact absurd e h
    | some o => rw [g.same a o e]; exact fun z => nomatch z
  zz := g.zz
  zf := fun a h => by
    rcases g.zf a h with h | h
    · exact .inl h
    · exact .inr (.inl h)
  af := fun i a h => .inr ⟨i, h⟩
theorem Sep.gr (r : RS K ρ σ H1 Z1 As1) (c : Chg W H Z As H1 Z1 As1) (g : Gr H1 Z1 H' Z' B) : Sep B H As H' Z' As1 where
  nd := g.nd
  nz := fun b h => (g.bb b h).2.2
  dj := fun b h i hi => (r.mt i b hi).ne (g.bb b h).1
  mt := fun b h => (g.bb b h).2.1
  af := fun b h => by
    cases e : H b with
    | none => exact .inl rfl
    | some o => exact absurd (g.bb b h).1 (c.dom b (by rw [e]; exact fun z => nomatch z))
/-- what is owned is given up: it is frozen from now on -/
theorem RS.release (r : RS K ρ σ H Z As) (sp : Sep B H1 As1 H Z As) : RS K ρ σ H (fun a => Z a ∨ a ∈ B) As where
  slot := fun i m d e => let ⟨v, h1, h2⟩ := r.slot i m d e; ⟨v, h1, Own.mono (fun _ h => .inl h) Pre.refl m (fun _ _ _ e => e) h2⟩
  nd := r.nd
  dj := r.dj
  nz := fun i a h z => by
    rcases z with z | z
    · exact r.nz i a h z
    · exact sp.dj a z i h
  mt := r.mt
  zd := fun a h => by
    rcases h with h | h
    · exact r.zd a h
    · exact (sp.mt a h).ne
  len := r.len
theorem Chg.release (c : Chg W H1 Z1 As1 H Z As) (sp : Sep B H1 As1 H Z As) : Chg W H1 Z1 As1 H (fun a => Z a ∨ a ∈ B) As where
  keep := c.keep
  dom := c.dom
  zz := fun a h => .inl (c.zz a h)
  zf := fun a h => by
    rcases h with h | h
    · exact c.zf a h
    · exact .inr (sp.af a h)
  af := c.af
end

/-! ### the readings -/
def tE (K : PySem.W.Frag) (W o : Bool) (k : Nat) (f : EM) : TE := fun σ H Q => ∃ ρ Z As, RS K ρ σ H Z As ∧ ∃ d ρ', f ρ = some (d, ρ') ∧
  ∀ v H' Z' As' B, RS K ρ' σ H' Z' As' → Own K H' Z' k d v B → Chg W H Z As H' Z' As' → (o = true → Sep B H As H' Z' As') → Q v H'
def tT (K : PySem.W.Frag) (W : Bool) (f : TM) : TT := fun σ H Q => ∃ ρ Z As, RS K ρ σ H Z As ∧ ∃ b ρ', f ρ = some (b, ρ') ∧
  ∀ H' Z' As', RS K ρ' σ H' Z' As' → Chg W H Z As H' Z' As' → Q b H'
/-- several values, each as told by its place -/
def Owns (K : PySem.W.Frag) (H : Hp) (Z : Addr → Prop) : List Nat → List D → List V → Prop
  | [], ds, vs => ds = [] ∧ vs = []
  | k :: ks, ds, vs => ∃ d dr v vr B, ds = d :: dr ∧ vs = v :: vr ∧ Own K H Z k d v B ∧ Owns K H Z ks dr vr
def tA (K : PySem.W.Frag) (W : Bool) (ks : List Nat) (f : AM) : TA := fun σ H Q => ∃ ρ Z As, RS K ρ σ H Z As ∧ ∃ ds ρ', f ρ = some (ds, ρ') ∧
  ∀ vs H' Z' As', RS K ρ' σ H' Z' As' → Owns K H' Z' ks ds vs → Chg W H Z As H' Z' As' → Q vs H'
abbrev DE (X : Cx) (e : Expr) (W o : Bool) (k : Nat) (f : EM) : Prop := PE X e (tE X.K W o k f)
abbrev DT (X : Cx) (e : Expr) (W : Bool) (f : TM) : Prop := PT X e (tT X.K W f)
abbrev DA (X : Cx) (es : List Expr) (W : Bool) (ks : List Nat) (f : AM) : Prop := PA X es (tA X.K W ks f)

section
variable {X : Cx} {e a b c : Expr} {es : List Expr} {pos : Pos} {W Wa Wb Wc o oa ob oc : Bool} {k ka kb kc : Nat} {f fa fb fc : EM} {ks : List Nat} {fs : AM}
/-- less is told: what is owned need not be -/
theorem DE.peek (h : DE X e W true k f) : DE X e W false k f := PE.conv h fun σ H Q q => by
  obtain ⟨ρ, Z, As, r, d, ρ', ef, q⟩ := q
  exact ⟨ρ, Z, As, r, d, ρ', ef, fun v H' Z' As' B r' ow c _ => q v H' Z' As' B r' ow c fun z => nomatch z⟩
/-- what is new is frozen -/
theorem DE.fz (h : DE X e W true k f) : DE X e W true 0 f := PE.conv h fun σ H Q q => by
  obtain ⟨ρ, Z, As, r, d, ρ', ef, q⟩ := q
  refine ⟨ρ, Z, As, r, d, ρ', ef, fun v H' Z' As' B r' ow c sp => ?_⟩
  have sp := sp rfl
  exact q v H' _ As' [] (r'.release sp) ⟨Own.rep (fun _ h => .inl h) k (fun _ h => .inr h) ow, rfl⟩ (c.release sp) fun _ => Sep.nil
theorem DE.up (h : DE X e false o k f) : DE X e W o k f := PE.conv h fun σ H Q q => by
  obtain ⟨ρ, Z, As, r, d, ρ', ef, q⟩ := q
  exact ⟨ρ, Z, As, r, d, ρ', ef, fun v H' Z' As' B r' ow c sp => q v H' Z' As' B r' ow c.of_false sp⟩
theorem DT.up {f : TM} (h : DT X e false f) : DT X e W f := PT.conv h fun σ H Q q => by
  obtain ⟨ρ, Z, As, r, d, ρ', ef, q⟩ := q
  exact ⟨ρ, Z, As, r, d, ρ', ef, fun H' Z' As' r' c => q H' Z' As' r' c.of_false⟩
/-- a peek at nothing owned owns nothing -/
theorem DE.own0 (h : DE X e W false 0 f) : DE X e W true 0 f := PE.conv h fun σ H Q q => by
  obtain ⟨ρ, Z, As, r, d, ρ', ef, q⟩ := q
  refine ⟨ρ, Z, As, r, d, ρ', ef, fun v H' Z' As' B r' ow c _ => q v H' Z' As' B r' ow c fun _ => ?_⟩
  rw [ow.2]
  exact Sep.nil

/-! ### names, constants -/
def eVar (i m : Nat) : EM := fun ρ => match ρ[i]? with
  | some (some (m', d)) => if m' = m then some (d, ρ) else none
  | _ => none
theorem de_var (i : Nat) {m : Nat} {x : Str} (hN : X.N[i]? = some x := by rfl) (hv : Vis X.env.scope x := by first | exact Or.inl rfl | exact Or.inr (Or.inl rfl) | exact Or.inr (Or.inr rfl)) (hd : (x == ("__debug__" : Str)) = false := by decide)
    (hcd : (x == ("__classdict__" : Str)) = false := by decide) : DE X (.Name x pos) false false m (eVar i m) := PE.conv (pe_var hN hv hd hcd) fun σ H Q q => by
  obtain ⟨ρ, Z, As, r, d, ρ', ef, q⟩ := q
  unfold eVar at ef
  split at ef
  · rename_i m' d' he
    split at ef
    · rename_i hm
      subst hm
      cases ef
      obtain ⟨v, h1, h2⟩ := r.slot i _ _ he
      exact ⟨v, h1, q v H Z As _ r h2 Chg.refl fun z => nomatch z⟩
    · cases ef
  · cases ef
def eC (d : D) : EM := fun ρ => some (d, ρ)
/-- a value that stands for d in every heap -/
theorem de_c {v : V} {d : D} (h : PE X e (tC v)) (hr : ∀ H Z, Rep X.K H Z d v) : DE X e false true 0 (eC d) := PE.conv h fun σ H Q q => by
  obtain ⟨ρ, Z, As, r, d, ρ', ef, q⟩ := q
  cases ef
  exact q v H Z As [] r ⟨hr H Z, rfl⟩ Chg.refl fun _ => Sep.nil
theorem de_int {i : Int} {j} : DE X (.Constant (.int i) j pos) false true 0 (eC (.int i)) := de_c pe_int fun _ _ => by unfold Rep; rfl
theorem de_bl {i : Bool} {j} : DE X (.Constant (.bool i) j pos) false true 0 (eC (.bl i)) := de_c pe_bl fun _ _ => by unfold Rep; rfl
theorem de_non {j} : DE X (.Constant .none j pos) false true 0 (eC .non) := de_c pe_non fun _ _ => by unfold Rep; rfl
theorem de_str {x : Str} {j} (h : okS x = true := by decide +kernel) : DE X (.Constant (.str x) j pos) false true 0 (eC (.str x)) := de_c pe_str fun _ _ => by unfold Rep; exact ⟨rfl, h⟩

/-! ### two operands -/
def Op2At (K : PySem.W.Frag) (r : R2) (x y d : D) (k : Nat) : Prop := ∀ (H : Hp) (Z : Addr → Prop) (ja jb : Nat) (u v : V) (Bx By : List Addr), (∀ a, Z a → H a ≠ none) → ja ≤ 1 → jb ≤ 1 → Own K H Z ja x u Bx → Own K H Z jb y v By →
  ∀ Q : VK, (∀ w H' Z' B, Gr H Z H' Z' B → Own K H' Z' k d w B → Q w H') → r u v H Q
def eOp2 (g : D → D → Option D) (fa fb : EM) : EM := fun ρ => (fa ρ).bind fun p => (fb p.2).bind fun q => (g p.1 q.1).map fun d => (d, q.2)
theorem read2 {r : R2} {x y d : D} (hr : Op2At X.K r x y d k) {σ : L2.St} {H : Hp} {Q : VK} {ρ ρ1 ρ2 : Env} {Z : Addr → Prop} {As : Nat → List Addr} (rs : RS X.K ρ σ H Z As) (ea : fa ρ = some (x, ρ1)) (eb : fb ρ1 = some (y, ρ2)) (hw : ka = 0 ∨ Wb = false) (hk : ka ≤ 1 ∧ kb ≤ 1)
    (q : ∀ v H' Z' As' B, RS X.K ρ2 σ H' Z' As' → Own X.K H' Z' k d v B → Chg (Wa || Wb) H Z As H' Z' As' → Sep B H As H' Z' As' → Q v H') :
    tOp r (tE X.K Wa oa ka fa) (tE X.K Wb ob kb fb) σ H Q := by
  refine ⟨ρ, Z, As, rs, x, ρ1, ea, fun u H1 Z1 As1 B1 r1 o1 c1 _ => ?_⟩
  refine ⟨ρ1, Z1, As1, r1, y, ρ2, eb, fun v H2 Z2 As2 B2 r2 o2 c2 _ => ?_⟩
  refine hr H2 Z2 ka kb u v B1 B2 r2.zd hk.1 hk.2 (o1.wait r1 c2 hw) o2 Q fun w H3 Z3 B g o3 => ?_
  have c := c1.trans rs c2
  refine q w H3 Z3 As2 B (r2.gr g) o3 ?_ (Sep.gr r2 c g)
  have := c.trans rs (Chg.gr (W := false) (As := As2) g)
  simpa using this
theorem de_op {op : Operator} {g : D → D → Option D} (hg : ∀ x y d, g x y = some d → ∃ r, OpR X (binaryOp op) r ∧ Op2At X.K r x y d k) (ha : DE X a Wa oa ka fa) (hb : DE X b Wb ob kb fb) (hw : ka = 0 ∨ Wb = false := by first | exact .inl rfl | exact .inr rfl) (hk : ka ≤ 1 ∧ kb ≤ 1 := by decide) :
    DE X (.BinOp a op b pos) (Wa || Wb) true k (eOp2 g fa fb) := by
  refine ⟨fun pins s σ H Q I q => ?_⟩
  obtain ⟨ρ, Z, As, r, d, ρ', ef, q⟩ := q
  unfold eOp2 at ef
  obtain ⟨⟨x, ρ1⟩, e1, ef⟩ := Option.bind_eq_some_iff.mp ef
  obtain ⟨⟨y, ρ2⟩, e2, ef⟩ := Option.bind_eq_some_iff.mp ef
  obtain ⟨d', e3, ef⟩ := Option.map_eq_some_iff.mp ef
  cases ef
  obtain ⟨rr, ho, hr⟩ := hg _ _ _ e3
  exact (pe_op ho ha hb).run pins s σ H Q I (read2 hr r e1 e2 hw hk fun v H' Z' As' B r' o' c sp => q v H' Z' As' B r' o' c fun _ => sp)
theorem de_cmp {op : CmpOp} {g : D → D → Option D} (hg : ∀ x y d, g x y = some d → ∃ r, OpR X (compareOp op) r ∧ Op2At X.K r x y d k) (ha : DE X a Wa oa ka fa) (hb : DE X b Wb ob kb fb) (hw : ka = 0 ∨ Wb = false := by first | exact .inl rfl | exact .inr rfl) (hk : ka ≤ 1 ∧ kb ≤ 1 := by decide)
    (hm : behindInMarks op b = false := by first | exact nomark _ | rfl) : DE X (.Compare a [op] [b] pos) (Wa || Wb) true k (eOp2 g fa fb) := by
  refine ⟨fun pins s σ H Q I q => ?_⟩
  obtain ⟨ρ, Z, As, r, d, ρ', ef, q⟩ := q
  unfold eOp2 at ef
  obtain ⟨⟨x, ρ1⟩, e1, ef⟩ := Option.bind_eq_some_iff.mp ef
  obtain ⟨⟨y, ρ2⟩, e2, ef⟩ := Option.bind_eq_some_iff.mp ef
  obtain ⟨d', e3, ef⟩ := Option.map_eq_some_iff.mp ef
  cases ef
  obtain ⟨rr, ho, hr⟩ := hg _ _ _ e3
  exact (pe_cmpR ho ha hb hm).run pins s σ H Q I (read2 hr r e1 e2 hw hk fun v H' Z' As' B r' o' c sp => q v H' Z' As' B r' o' c fun _ => sp)
/-- a comparison as a test -/
def tCmpM (g : D → D → Option D) (fa fb : EM) : TM := fun ρ => (eOp2 g fa fb ρ).bind fun p => match p.1 with | .bl b => some (b, p.2) | _ => none
theorem dt_cmp {op : CmpOp} {g : D → D → Option D} (hg : ∀ x y d, g x y = some d → ∃ r, OpR X (compareOp op) r ∧ Op2At X.K r x y d 0) (ha : DE X a Wa oa ka fa) (hb : DE X b Wb ob kb fb) (hw : ka = 0 ∨ Wb = false := by first | exact .inl rfl | exact .inr rfl) (hk : ka ≤ 1 ∧ kb ≤ 1 := by decide)
    (hm : behindInMarks op b = false := by first | exact nomark _ | rfl) : DT X (.Compare a [op] [b] pos) (Wa || Wb) (tCmpM g fa fb) := by
  refine ⟨fun pins s σ H Q I q => ?_⟩
  obtain ⟨ρ, Z, As, r, bb, ρ', ef, q⟩ := q
  unfold tCmpM at ef
  obtain ⟨⟨d, ρ3⟩, ef, eb⟩ := Option.bind_eq_some_iff.mp ef
  unfold eOp2 at ef
  obtain ⟨⟨x, ρ1⟩, e1, ef⟩ := Option.bind_eq_some_iff.mp ef
  obtain ⟨⟨y, ρ2⟩, e2, ef⟩ := Option.bind_eq_some_iff.mp ef
  obtain ⟨d', e3, ef⟩ := Option.map_eq_some_iff.mp ef
  cases ef
  obtain ⟨rr, ho, hr⟩ := hg _ _ _ e3
  refine (pt_cmpR ho ha hb hm).run pins s σ H Q I (read2 hr r e1 e2 hw hk fun v H' Z' As' B r' o' c sp => ?_)
  cases d with
  | bl b0 =>
    cases eb
    have q1 := o'.1
    unfold Rep at q1
    exact ⟨bb, q1, q H' Z' As' r' c⟩
  | _ => cases eb
/-- a op b op c -/
def eChain (g g' : D → D → Option D) (fa fb fc : EM) : EM := fun ρ => (fa ρ).bind fun p => (fb p.2).bind fun q => (g p.1 q.1).bind fun d => match d with
  | .bl true => (fc q.2).bind fun s => (g' q.1 s.1).map fun d' => (d', s.2)
  | .bl false => some (.bl false, q.2)
  | _ => none
theorem readChain {rr rr' : R2} {g' : D → D → Option D} {x y d d0 : D} {σ : L2.St} {H : Hp} {Q : VK} {ρ ρ1 ρ2 ρ' : Env} {Z : Addr → Prop} {As : Nat → List Addr} (rs : RS X.K ρ σ H Z As) (ea : fa ρ = some (x, ρ1)) (eb : fb ρ1 = some (y, ρ2))
    (hr : Op2At X.K rr x y d0 0) (hr' : ∀ z ρ3, d0 = .bl true → fc ρ2 = some (z, ρ3) → g' y z = some d → ρ3 = ρ' → Op2At X.K rr' y z d 0)
    (hk : ka ≤ 1 ∧ kb ≤ 1 ∧ kc ≤ 1) (hd : (d0 = .bl true ∧ ∃ z, fc ρ2 = some (z, ρ') ∧ g' y z = some d) ∨ (d0 = .bl false ∧ d = .bl false ∧ ρ2 = ρ'))
    (q : ∀ v H' Z' As' B, RS X.K ρ' σ H' Z' As' → Own X.K H' Z' 0 d v B → Chg false H Z As H' Z' As' → Sep B H As H' Z' As' → Q v H') :
    tChain rr rr' (tE X.K false oa ka fa) (tE X.K false ob kb fb) (tE X.K false oc kc fc) σ H Q := by
  refine ⟨ρ, Z, As, rs, x, ρ1, ea, fun u H1 Z1 As1 B1 r1 o1 c1 _ => ?_⟩
  refine ⟨ρ1, Z1, As1, r1, y, ρ2, eb, fun v H2 Z2 As2 B2 r2 o2 c2 _ => ?_⟩
  refine hr H2 Z2 ka kb u v B1 B2 r2.zd hk.1 hk.2.1 (o1.wait r1 c2 (.inr rfl)) o2 _ fun w H3 Z3 B g3 o3 => ?_
  have c12 := c1.trans rs c2
  have c123 := c12.trans rs (Chg.gr (W := false) (As := As2) g3)
  have r3 := r2.gr g3
  have o2' := g3.ow o2
  rcases hd with ⟨e0, z, ez, eg⟩ | ⟨e0, e1, e2⟩
  · have h3 := o3.1
    rw [e0] at h3
    unfold Rep at h3
    refine ⟨true, h3, ?_⟩
    show if true = true then _ else _
    rw [if_pos rfl]
    refine ⟨ρ2, Z3, As2, r3, z, ρ', ez, fun t H4 Z4 As4 B4 r4 o4 c4 _ => ?_⟩
    refine hr' z ρ' e0 ez eg rfl H4 Z4 kb kc v t B2 B4 r4.zd hk.2.1 hk.2.2 (o2'.wait r3 c4 (.inr rfl)) o4 _ fun w' H5 Z5 B5 g5 o5 => ?_
    have c := c123.trans rs c4
    refine q w' H5 Z5 As4 B5 (r4.gr g5) o5 ?_ (Sep.gr r4 c g5)
    have := c.trans rs (Chg.gr (W := false) (As := As4) g5)
    simpa using this
  · have h3 := o3.1
    rw [e0] at h3
    unfold Rep at h3
    refine ⟨false, h3, ?_⟩
    show if false = true then _ else _
    rw [if_neg (by decide)]
    subst e2
    refine q (.bl false) H3 Z3 As2 [] r3 ⟨by rw [e1]; unfold Rep; rfl, rfl⟩ ?_ Sep.nil
    simpa using c123
theorem chainCase {g g' : D → D → Option D} {ρ ρ' : Env} {d : D} (ef : eChain g g' fa fb fc ρ = some (d, ρ')) : ∃ x y d0 ρ1 ρ2, fa ρ = some (x, ρ1) ∧ fb ρ1 = some (y, ρ2) ∧ g x y = some d0 ∧
    ((d0 = .bl true ∧ ∃ z, fc ρ2 = some (z, ρ') ∧ g' y z = some d) ∨ (d0 = .bl false ∧ d = .bl false ∧ ρ2 = ρ')) := by
  unfold eChain at ef
  obtain ⟨⟨x, ρ1⟩, e1, ef⟩ := Option.bind_eq_some_iff.mp ef
  obtain ⟨⟨y, ρ2⟩, e2, ef⟩ := Option.bind_eq_some_iff.mp ef
  obtain ⟨d0, e3, ef⟩ := Option.bind_eq_some_iff.mp ef
  refine ⟨x, y, d0, ρ1, ρ2, e1, e2, e3, ?_⟩
  cases d0 with
  | bl b =>
    cases b with
    | true =>
      obtain ⟨⟨z, ρ3⟩, e4, ef⟩ := Option.bind_eq_some_iff.mp ef
      obtain ⟨d', e5, ef⟩ := Option.map_eq_some_iff.mp ef
      cases ef
      exact .inl ⟨rfl, z, e4, e5⟩
    | false =>
      cases ef
      exact .inr ⟨rfl, rfl, rfl⟩
  | _ => cases ef
theorem de_chain {op op' : CmpOp} {g g' : D → D → Option D} (hg : ∀ x y d, g x y = some d → ∃ r, OpR X (compareOp op) r ∧ Op2At X.K r x y d 0) (hg' : ∀ x y d, g' x y = some d → ∃ r, OpR X (compareOp op') r ∧ Op2At X.K r x y d 0)
    (h0 : ∃ r, OpR X (compareOp op') r) (ha : DE X a false oa ka fa) (hb : DE X b false ob kb fb) (hc : DE X c false oc kc fc) (hk : ka ≤ 1 ∧ kb ≤ 1 ∧ kc ≤ 1 := by decide) (hm : lastMarks [op, op'] [b, c] = false := by with_unfolding_all rfl) :
    DE X (.Compare a [op, op'] [b, c] pos) false true 0 (eChain g g' fa fb fc) := by
  refine ⟨fun pins s σ H Q I q => ?_⟩
  obtain ⟨ρ, Z, As, r, d, ρ', ef, q⟩ := q
  obtain ⟨x, y, d0, ρ1, ρ2, e1, e2, e3, hd⟩ := chainCase ef
  obtain ⟨rr, ho, hr⟩ := hg _ _ _ e3
  obtain ⟨rr', ho', hr'⟩ : ∃ rr', OpR X (compareOp op') rr' ∧ ∀ z ρ3, d0 = .bl true → fc ρ2 = some (z, ρ3) → g' y z = some d → ρ3 = ρ' → Op2At X.K rr' y z d 0 := by
    rcases hd with ⟨e0, z, ez, eg⟩ | ⟨e0, _, _⟩
    · obtain ⟨rr', ho', hr'⟩ := hg' _ _ _ eg
      refine ⟨rr', ho', fun z' ρ3 _ ez' _ _ => ?_⟩
      rw [ez] at ez'
      cases ez'
      exact hr'
    · obtain ⟨rr', ho'⟩ := h0
      exact ⟨rr', ho', fun z ρ3 e _ _ _ => by rw [e0] at e; cases e⟩
  exact (pe_chain ho ho' ha hb hc hm).run pins s σ H Q I (readChain r e1 e2 hr hr' hk hd fun v H' Z' As' B r' o' c sp => q v H' Z' As' B r' o' c fun _ => sp)
def tChainM (g g' : D → D → Option D) (fa fb fc : EM) : TM := fun ρ => (eChain g g' fa fb fc ρ).bind fun p => match p.1 with | .bl b => some (b, p.2) | _ => none
theorem dt_chain {op op' : CmpOp} {g g' : D → D → Option D} (hg : ∀ x y d, g x y = some d → ∃ r, OpR X (compareOp op) r ∧ Op2At X.K r x y d 0) (hg' : ∀ x y d, g' x y = some d → ∃ r, OpR X (compareOp op') r ∧ Op2At X.K r x y d 0)
    (h0 : ∃ r, OpR X (compareOp op') r) (ha : DE X a false oa ka fa) (hb : DE X b false ob kb fb) (hc : DE X c false oc kc fc) (hk : ka ≤ 1 ∧ kb ≤ 1 ∧ kc ≤ 1 := by decide) (hm : lastMarks [op, op'] [b, c] = false := by with_unfolding_all rfl) :
    DT X (.Compare a [op, op'] [b, c] pos) false (tChainM g g' fa fb fc) := by
  refine ⟨fun pins s σ H Q I q => ?_⟩
  obtain ⟨ρ, Z, As, r, bb, ρ', ef, q⟩ := q
  unfold tChainM at ef
  obtain ⟨⟨d, ρ3⟩, ef, eb⟩ := Option.bind_eq_some_iff.mp ef
  obtain ⟨x, y, d0, ρ1, ρ2, e1, e2, e3, hd⟩ := chainCase ef
  obtain ⟨rr, ho, hr⟩ := hg _ _ _ e3
  obtain ⟨rr', ho', hr'⟩ : ∃ rr', OpR X (compareOp op') rr' ∧ ∀ z ρ4, d0 = .bl true → fc ρ2 = some (z, ρ4) → g' y z = some d → ρ4 = ρ3 → Op2At X.K rr' y z d 0 := by
    rcases hd with ⟨e0, z, ez, eg⟩ | ⟨e0, _, _⟩
    · obtain ⟨rr', ho', hr'⟩ := hg' _ _ _ eg
      refine ⟨rr', ho', fun z' ρ3 _ ez' _ _ => ?_⟩
      rw [ez] at ez'
      cases ez'
      exact hr'
    · obtain ⟨rr', ho'⟩ := h0
      exact ⟨rr', ho', fun z ρ3 e _ _ _ => by rw [e0] at e; cases e⟩
  refine (pt_chain ho ho' ha hb hc hm).run pins s σ H Q I (readChain r e1 e2 hr hr' hk hd fun v H' Z' As' B r' o' c sp => ?_)
  cases d with
  | bl b0 =>
    cases eb
    have q1 := o'.1
    unfold Rep at q1
    exact ⟨bb, q1, q H' Z' As' r' c⟩
  | _ => cases eb
end
end DL
/-! DL3: truth, and, or, not, conditional expressions, arguments, displays, built-ins by name -/
namespace DL
open PySem PySem.Spec PyProof.Rows L2

def truth : D → Option Bool
  | .non => some false
  | .bl b => some b
  | .int i => some (i != 0)
  | .str s => some ((s.length : Int) != 0)
  | .tup xs => some (!xs.isEmpty)
  | .ktp xs => some (!xs.isEmpty)
  | .lst xs => some (!xs.isEmpty)
  | _ => none
section
variable {K : PySem.W.Frag} {H H' : Hp} {Z Z' : Addr → Prop}
theorem okS_len {s : Str} (h : okS s = true) : s.length ≤ sizeLine := by
  unfold okS at h
  rw [Bool.and_eq_true] at h
  exact of_decide_eq_true h.1
theorem Reps.isEmpty {ds : List D} {vs : List V} (h : Reps K H Z ds vs) : vs.isEmpty = ds.isEmpty := by
  have hl := h.length
  cases ds <;> cases vs <;> first | rfl | simp at hl
theorem SqT.k {a : Addr} {vs : List V} (h : KTup K a vs) : SqT K H a vs := .inr h
theorem Rep.truth {d : D} {v : V} {k : Bool} (h : Rep K H Z d v) (e : truth d = some k) : TruV K v H k := by
  cases d with
  | non => unfold Rep at h; cases e; subst h; rfl
  | bl b => unfold Rep at h; cases e; subst h; rfl
  | int i => unfold Rep at h; cases e; subst h; rfl
  | str s => unfold Rep at h; cases e; obtain ⟨h, hs⟩ := h; subst h; exact ⟨okS_len hs, rfl⟩
  | tup ds =>
    unfold Rep at h; cases e
    obtain ⟨a, vs, rfl, h1, h2, h3⟩ := h
    exact .inr (.inl ⟨vs, SqT.of h1, by rw [h3.isEmpty]⟩)
  | ktp ds =>
    unfold Rep at h; cases e
    obtain ⟨a, vs, rfl, h1, h2, h3⟩ := h
    exact .inr (.inl ⟨vs, SqT.k h1, by rw [h3.isEmpty]⟩)
  | lst ds =>
    unfold Rep at h; cases e
    obtain ⟨a, vs, rfl, z, h1, h2, h3⟩ := h
    exact .inl ⟨vs, .inl h1, by rw [h3.isEmpty]⟩
  | dct t ks xs => cases e
  | rng lo hi => cases e
  | ty n => cases e
end
section
variable {X : Cx} {e a b c : Expr} {es rest : List Expr} {pos : Pos} {W Wa Wb Wc Wt o oa ob oc : Bool} {k ka kb kc : Nat} {f fa fb fc : EM} {ks : List Nat} {fs : AM} {ft ft' : TM}
theorem Chg.orL {H H' : Hp} {Z Z' : Addr → Prop} {As As' : Nat → List Addr} (c : Chg Wa H Z As H' Z' As') : Chg (Wa || Wb) H Z As H' Z' As' := by
  cases Wa with
  | true => exact c
  | false => exact c.of_false
theorem Chg.orR {H H' : Hp} {Z Z' : Addr → Prop} {As As' : Nat → List Addr} (c : Chg Wb H Z As H' Z' As') : Chg (Wa || Wb) H Z As H' Z' As' := by
  cases Wb with
  | true => rw [Bool.or_true]; exact c
  | false => exact c.of_false
/-- an expression of any kind as a test -/
def tVal (f : EM) : TM := fun ρ => (f ρ).bind fun p => (truth p.1).map fun b => (b, p.2)
theorem dt_val (h : DE X a Wa oa ka fa) (he : ∀ whole, isTrue a X.env whole = (do let v ← whole; standAt a.pos; holding [v] (truthy v)) := by intro _; rfl) : DT X a Wa (tVal fa) := PT.conv (pt_truth h he) fun σ H Q q => by
  obtain ⟨ρ, Z, As, r, b, ρ', ef, q⟩ := q
  unfold tVal at ef
  obtain ⟨⟨d, ρ1⟩, e1, ef⟩ := Option.bind_eq_some_iff.mp ef
  obtain ⟨b', e2, ef⟩ := Option.map_eq_some_iff.mp ef
  cases ef
  exact ⟨ρ, Z, As, r, d, _, e1, fun v H' Z' As' B r' ow c _ => ⟨b, ow.read.truth e2, q H' Z' As' r' c⟩⟩
/-- not -/
def tNotM (f : TM) : TM := fun ρ => (f ρ).map fun p => (!p.1, p.2)
theorem dt_not (h : DT X a Wa ft) : DT X (.UnaryOp .Not a pos) Wa (tNotM ft) := PT.conv (pt_not h) fun σ H Q q => by
  obtain ⟨ρ, Z, As, r, b, ρ', ef, q⟩ := q
  unfold tNotM at ef
  obtain ⟨⟨b', ρ1⟩, e1, ef⟩ := Option.map_eq_some_iff.mp ef
  cases ef
  exact ⟨ρ, Z, As, r, b', _, e1, fun H' Z' As' r' c => q H' Z' As' r' c⟩
/-- and, or as tests -/
abbrev DW (X : Cx) (e : Expr) (W : Bool) (f : TM) : Prop := PW X e (tT X.K W f)
theorem PW.conv {t t' : TT} (h : PW X e t) (c : ∀ σ H Q, t' σ H Q → t σ H Q) : PW X e t' := ⟨fun wh pins s σ H Q I q => h.run wh pins s σ H Q I (c σ H Q q)⟩
def tAndM (f g : TM) : TM := fun ρ => (f ρ).bind fun p => if p.1 = true then g p.2 else some (false, p.2)
def tOrM (f g : TM) : TM := fun ρ => (f ρ).bind fun p => if p.1 = true then some (true, p.2) else g p.2
theorem dw_and1 (h : DT X a Wa ft) : DW X (.BoolOp .And [a] pos) Wa ft := pw_and1 h
theorem dw_or1 (h : DT X a Wa ft) : DW X (.BoolOp .Or [a] pos) Wa ft := pw_or1 h
theorem dw_and (h : DT X a Wa ft) (g : DW X (.BoolOp .And (b :: rest) pos) Wb ft') : DW X (.BoolOp .And (a :: b :: rest) pos) (Wa || Wb) (tAndM ft ft') := PW.conv (pw_and h g) fun σ H Q q => by
  obtain ⟨ρ, Z, As, r, b, ρ', ef, q⟩ := q
  unfold tAndM at ef
  obtain ⟨⟨b1, ρ1⟩, e1, ef⟩ := Option.bind_eq_some_iff.mp ef
  refine ⟨ρ, Z, As, r, b1, ρ1, e1, fun H1 Z1 As1 r1 c1 => ?_⟩
  cases b1 with
  | true => exact ⟨ρ1, Z1, As1, r1, b, ρ', ef, fun H2 Z2 As2 r2 c2 => q H2 Z2 As2 r2 (c1.trans r c2)⟩
  | false =>
    cases ef
    exact q H1 Z1 As1 r1 c1.orL
theorem dw_or (h : DT X a Wa ft) (g : DW X (.BoolOp .Or (b :: rest) pos) Wb ft') : DW X (.BoolOp .Or (a :: b :: rest) pos) (Wa || Wb) (tOrM ft ft') := PW.conv (pw_or h g) fun σ H Q q => by
  obtain ⟨ρ, Z, As, r, b, ρ', ef, q⟩ := q
  unfold tOrM at ef
  obtain ⟨⟨b1, ρ1⟩, e1, ef⟩ := Option.bind_eq_some_iff.mp ef
  refine ⟨ρ, Z, As, r, b1, ρ1, e1, fun H1 Z1 As1 r1 c1 => ?_⟩
  cases b1 with
  | false => exact ⟨ρ1, Z1, As1, r1, b, ρ', ef, fun H2 Z2 As2 r2 c2 => q H2 Z2 As2 r2 (c1.trans r c2)⟩
  | true =>
    cases ef
    exact q H1 Z1 As1 r1 c1.orL
theorem dt_bool (h : DW X e W ft) : DT X e W ft := h.pt
/-- .. as values -/
def eAndM (f g : EM) : EM := fun ρ => (f ρ).bind fun p => (truth p.1).bind fun b => if b = true then g p.2 else some p
def eOrM (f g : EM) : EM := fun ρ => (f ρ).bind fun p => (truth p.1).bind fun b => if b = true then some p else g p.2
def eNotM (f : EM) : EM := fun ρ => (f ρ).bind fun p => (truth p.1).map fun b => (.bl (!b), p.2)
theorem de_one {op} (h : DE X a Wa oa ka fa) : DE X (.BoolOp op [a] pos) Wa oa ka fa := pe_one h
theorem de_and (h : DE X a Wa oa 0 fa) (g : DE X (.BoolOp .And (b :: rest) pos) Wb ob 0 fb) : DE X (.BoolOp .And (a :: b :: rest) pos) (Wa || Wb) true 0 (eAndM fa fb) := PE.conv (pe_andT h g) fun σ H Q q => by
  obtain ⟨ρ, Z, As, r, d, ρ', ef, q⟩ := q
  unfold eAndM at ef
  obtain ⟨⟨x, ρ1⟩, e1, ef⟩ := Option.bind_eq_some_iff.mp ef
  obtain ⟨b1, e2, ef⟩ := Option.bind_eq_some_iff.mp ef
  refine ⟨ρ, Z, As, r, x, ρ1, e1, fun v H1 Z1 As1 B1 r1 o1 c1 _ => ⟨b1, o1.read.truth e2, ?_⟩⟩
  cases b1 with
  | true => exact ⟨ρ1, Z1, As1, r1, d, ρ', ef, fun v H2 Z2 As2 B r2 o2 c2 _ => q v H2 Z2 As2 B r2 o2 (c1.trans r c2) fun _ => by rw [o2.2]; exact Sep.nil⟩
  | false =>
    cases ef
    exact q v H1 Z1 As1 B1 r1 o1 c1.orL fun _ => by rw [o1.2]; exact Sep.nil
theorem de_or (h : DE X a Wa oa 0 fa) (g : DE X (.BoolOp .Or (b :: rest) pos) Wb ob 0 fb) : DE X (.BoolOp .Or (a :: b :: rest) pos) (Wa || Wb) true 0 (eOrM fa fb) := PE.conv (pe_orT h g) fun σ H Q q => by
  obtain ⟨ρ, Z, As, r, d, ρ', ef, q⟩ := q
  unfold eOrM at ef
  obtain ⟨⟨x, ρ1⟩, e1, ef⟩ := Option.bind_eq_some_iff.mp ef
  obtain ⟨b1, e2, ef⟩ := Option.bind_eq_some_iff.mp ef
  refine ⟨ρ, Z, As, r, x, ρ1, e1, fun v H1 Z1 As1 B1 r1 o1 c1 _ => ⟨b1, o1.read.truth e2, ?_⟩⟩
  cases b1 with
  | false => exact ⟨ρ1, Z1, As1, r1, d, ρ', ef, fun v H2 Z2 As2 B r2 o2 c2 _ => q v H2 Z2 As2 B r2 o2 (c1.trans r c2) fun _ => by rw [o2.2]; exact Sep.nil⟩
  | true =>
    cases ef
    exact q v H1 Z1 As1 B1 r1 o1 c1.orL fun _ => by rw [o1.2]; exact Sep.nil
theorem de_not (h : DE X a Wa oa ka fa) : DE X (.UnaryOp .Not a pos) Wa true 0 (eNotM fa) := PE.conv (pe_notT h) fun σ H Q q => by
  obtain ⟨ρ, Z, As, r, d, ρ', ef, q⟩ := q
  unfold eNotM at ef
  obtain ⟨⟨x, ρ1⟩, e1, ef⟩ := Option.bind_eq_some_iff.mp ef
  obtain ⟨b1, e2, ef⟩ := Option.map_eq_some_iff.mp ef
  cases ef
  exact ⟨ρ, Z, As, r, x, _, e1, fun v H1 Z1 As1 B1 r1 o1 c1 _ => ⟨b1, o1.read.truth e2, q (.bl (!b1)) H1 Z1 As1 [] r1 ⟨by unfold Rep; rfl, rfl⟩ c1 fun _ => Sep.nil⟩⟩
/-- a if t else b -/
def eIfM (t : TM) (f g : EM) : EM := fun ρ => (t ρ).bind fun p => if p.1 = true then f p.2 else g p.2
theorem de_if (ht : DT X c Wt ft) (ha : DE X a Wa o k fa) (hb : DE X b Wb o k fb) : DE X (.IfExp c a b pos) (Wt || (Wa || Wb)) o k (eIfM ft fa fb) := PE.conv (pe_ifExp ht ha hb) fun σ H Q q => by
  obtain ⟨ρ, Z, As, r, d, ρ', ef, q⟩ := q
  unfold eIfM at ef
  obtain ⟨⟨b1, ρ1⟩, e1, ef⟩ := Option.bind_eq_some_iff.mp ef
  refine ⟨ρ, Z, As, r, b1, ρ1, e1, fun H1 Z1 As1 r1 c1 => ?_⟩
  have sep : ∀ {B H2 Z2 As2}, Chg Wt H Z As H1 Z1 As1 → Sep B H1 As1 H2 Z2 As2 → Sep B H As H2 Z2 As2 := fun {B H2 Z2 As2} c sp =>
    ⟨sp.nd, sp.nz, sp.dj, sp.mt, fun b hb => by
      rcases sp.af b hb with h | ⟨j, h⟩
      · refine .inl ?_
        cases e : H b with
        | none => rfl
        | some o => exact absurd h (c.dom b (by rw [e]; exact fun z => nomatch z))
      · exact c.af j b h⟩
  cases b1 with
  | true => exact ⟨ρ1, Z1, As1, r1, d, ρ', ef, fun v H2 Z2 As2 B r2 o2 c2 sp => q v H2 Z2 As2 B r2 o2 (c1.trans r c2.orL) fun h => sep c1 (sp h)⟩
  | false => exact ⟨ρ1, Z1, As1, r1, d, ρ', ef, fun v H2 Z2 As2 B r2 o2 c2 sp => q v H2 Z2 As2 B r2 o2 (c1.trans r c2.orR) fun h => sep c1 (sp h)⟩

/-! ### arguments -/
def aNil : AM := fun ρ => some ([], ρ)
def aCons (f : EM) (g : AM) : AM := fun ρ => (f ρ).bind fun p => (g p.2).map fun q => (p.1 :: q.1, q.2)
theorem Owns.wait {K : PySem.W.Frag} {ρ : Env} {σ : L2.St} {H H' : Hp} {Z Z' : Addr → Prop} {As As' : Nat → List Addr} (r : RS K ρ σ H Z As) (c : Chg W H Z As H' Z' As') : ∀ {ks : List Nat} {ds : List D} {vs : List V}, (ks.all (· == 0) = true ∨ W = false) → Owns K H Z ks ds vs → Owns K H' Z' ks ds vs
  | [], ds, vs, hw, h => h
  | k :: ks, ds, vs, hw, h => by
    obtain ⟨d, dr, v, vr, B, e1, e2, h1, h2⟩ := h
    have hk : k = 0 ∨ W = false := hw.imp (fun z => by simp at z; exact z.1) id
    have hks : ks.all (· == 0) = true ∨ W = false := hw.imp (fun z => by simp at z ⊢; exact z.2) id
    exact ⟨d, dr, v, vr, B, e1, e2, h1.wait r c hk, Owns.wait r c hks h2⟩
theorem da_nil : DA X [] false [] aNil := PA.conv pa_nil fun σ H Q q => by
  obtain ⟨ρ, Z, As, r, d, ρ', ef, q⟩ := q
  cases ef
  exact q [] H Z As r ⟨rfl, rfl⟩ Chg.refl
theorem da_cons (h : DE X e Wa oa ka fa) (g : DA X es Wb ks fs) (hw : ka = 0 ∨ Wb = false := by first | exact .inl rfl | exact .inr rfl) (hs : starEach (e :: es) X.env = (false, eval e X.env) :: starEach es X.env := by rfl) : DA X (e :: es) (Wa || Wb) (ka :: ks) (aCons fa fs) := PA.conv (pa_cons h g hs) fun σ H Q q => by
  obtain ⟨ρ, Z, As, r, ds, ρ', ef, q⟩ := q
  unfold aCons at ef
  obtain ⟨⟨x, ρ1⟩, e1, ef⟩ := Option.bind_eq_some_iff.mp ef
  obtain ⟨⟨dr, ρ2⟩, e2, ef⟩ := Option.map_eq_some_iff.mp ef
  cases ef
  refine ⟨ρ, Z, As, r, x, ρ1, e1, fun v H1 Z1 As1 B1 r1 o1 c1 _ => ?_⟩
  refine ⟨ρ1, Z1, As1, r1, dr, _, e2, fun vs H2 Z2 As2 r2 os c2 => ?_⟩
  exact q (v :: vs) H2 Z2 As2 r2 ⟨x, dr, v, vs, B1, rfl, rfl, o1.wait r1 c2 hw, os⟩ (c1.trans r c2)
theorem Owns.reps {K : PySem.W.Frag} {H : Hp} {Z : Addr → Prop} : ∀ {ks : List Nat} {ds : List D} {vs : List V}, ks.all (· == 0) = true → Owns K H Z ks ds vs → Reps K H Z ds vs
  | [], ds, vs, hk, h => by rw [h.1, h.2]; exact Reps.nil
  | k :: ks, ds, vs, hk, h => by
    obtain ⟨d, dr, v, vr, B, e1, e2, h1, h2⟩ := h
    have hk0 : k = 0 ∧ ks.all (· == 0) = true := by simp at hk ⊢; exact hk
    rw [hk0.1] at h1
    rw [e1, e2]
    exact Reps.cons h1.1 (Owns.reps hk0.2 h2)
theorem Owns.read {K : PySem.W.Frag} {H : Hp} {Z : Addr → Prop} : ∀ {ks : List Nat} {ds : List D} {vs : List V}, Owns K H Z ks ds vs → Reps K H ZT ds vs
  | [], ds, vs, h => by rw [h.1, h.2]; exact Reps.nil
  | k :: ks, ds, vs, h => by
    obtain ⟨d, dr, v, vr, B, e1, e2, h1, h2⟩ := h
    rw [e1, e2]
    exact Reps.cons h1.read (Owns.read h2)
theorem Owns.length {K : PySem.W.Frag} {H : Hp} {Z : Addr → Prop} : ∀ {ks : List Nat} {ds : List D} {vs : List V}, Owns K H Z ks ds vs → ds.length = ks.length ∧ vs.length = ks.length
  | [], ds, vs, h => by rw [h.1, h.2]; exact ⟨rfl, rfl⟩
  | k :: ks, ds, vs, h => by
    obtain ⟨d, dr, v, vr, B, e1, e2, h1, h2⟩ := h
    obtain ⟨q1, q2⟩ := Owns.length h2
    rw [e1, e2]
    exact ⟨by rw [List.length_cons, List.length_cons, q1], by rw [List.length_cons, List.length_cons, q2]⟩
/-- (a, b, ..) -/
def eTup (g : AM) : EM := fun ρ => (g ρ).map fun p => (.tup p.1, p.2)
theorem de_tup {n} (h : DA X es W ks fs) (h0 : ks.all (· == 0) = true := by rfl) (hl : ks.length ≤ sizeLine := by decide) : DE X (.Tuple es n pos) W true 0 (eTup fs) := PE.conv (pe_tup h) fun σ H Q q => by
  obtain ⟨ρ, Z, As, r, d, ρ', ef, q⟩ := q
  unfold eTup at ef
  obtain ⟨⟨ds, ρ1⟩, e1, ef⟩ := Option.map_eq_some_iff.mp ef
  cases ef
  refine ⟨ρ, Z, As, r, ds, _, e1, fun vs H1 Z1 As1 r1 os c1 => ?_⟩
  have hlen := os.length
  have hz : vs.length ≤ sizeLine := by rw [hlen.2]; exact hl
  refine ⟨hz, fun p hp => ?_⟩
  have g : Gr H1 Z1 (upd H1 p (.tup vs)) Z1 [] := Gr.tup r1.zd hp
  refine q (.ref p) _ Z1 As1 [] (r1.gr g) ⟨?_, rfl⟩ ?_ fun _ => Sep.nil
  · unfold Rep
    exact ⟨p, vs, rfl, upd_same, hz, g.reps (os.reps h0)⟩
  · have := c1.trans r (Chg.gr (W := false) (As := As1) g)
    simpa using this
/-- [a, b, ..] -/
def eLst (g : AM) : EM := fun ρ => (g ρ).map fun p => (.lst p.1, p.2)
theorem de_lst (h : DA X es W ks fs) (h0 : ks.all (· == 0) = true := by rfl) (hl : ks.length ≤ sizeLine := by decide) : DE X (.List es pos) W true 1 (eLst fs) := PE.conv (pe_lst h) fun σ H Q q => by
  obtain ⟨ρ, Z, As, r, d, ρ', ef, q⟩ := q
  unfold eLst at ef
  obtain ⟨⟨ds, ρ1⟩, e1, ef⟩ := Option.map_eq_some_iff.mp ef
  cases ef
  refine ⟨ρ, Z, As, r, ds, _, e1, fun vs H1 Z1 As1 r1 os c1 => ?_⟩
  have hlen := os.length
  have hz : vs.length ≤ sizeLine := by rw [hlen.2]; exact hl
  refine ⟨hz, fun p hp => ?_⟩
  have g : Gr H1 Z1 (upd H1 p (.lst vs)) Z1 [p] := Gr.own r1.zd hp trivial
  refine q (.ref p) _ Z1 As1 [p] (r1.gr g) ⟨p, vs, [], rfl, upd_same, hz, LO.of_reps (g.reps (os.reps h0)), rfl⟩ ?_ fun _ => Sep.gr r1 c1 g
  have := c1.trans r (Chg.gr (W := false) (As := As1) g)
  simpa using this
/-- [], owned at any depth -/
theorem de_nil (n : Nat) : DE X (.List [] pos) false true (n + 1) (eC (.lst [])) := PE.conv (pe_lst pa_nil) fun σ H Q q => by
  obtain ⟨ρ, Z, As, r, d, ρ', ef, q⟩ := q
  cases ef
  refine ⟨Nat.zero_le _, fun p hp => ?_⟩
  have g : Gr H Z (upd H p (.lst [])) Z [p] := Gr.own r.zd hp trivial
  exact q (.ref p) _ Z As [p] (r.gr g) ⟨p, [], [], rfl, upd_same, Nat.zero_le _, ⟨rfl, rfl⟩, rfl⟩ (Chg.gr g) fun _ => Sep.gr r (Chg.refl (W := false)) g
/-- {}, owned at any depth -/
theorem de_dnew (n : Nat) : DE X (.Dict [] [] pos) false true (n + 1) (eC (.dct false [] [])) := PE.conv pe_dnewK fun σ H Q q => by
  obtain ⟨ρ, Z, As, r, d, ρ', ef, q⟩ := q
  cases ef
  intro p hp
  have g : Gr H Z (upd H p (.dK [])) Z [p] := Gr.own r.zd hp trivial
  exact q (.ref p) _ Z As [p] (r.gr g) ⟨p, [], rfl, Nat.zero_le _, ⟨[], upd_same, rfl, rfl, rfl⟩, rfl⟩ (Chg.gr g) fun _ => Sep.gr r (Chg.refl (W := false)) g
/-- {}, whose keys will be tuples -/
theorem de_dnewT (n : Nat) : DE X (.Dict [] [] pos) false true (n + 1) (eC (.dct true [] [])) := PE.conv pe_dnewT fun σ H Q q => by
  obtain ⟨ρ, Z, As, r, d, ρ', ef, q⟩ := q
  cases ef
  intro p hp
  have g : Gr H Z (upd H p (.dT [])) Z [p] := Gr.own r.zd hp trivial
  exact q (.ref p) _ Z As [p] (r.gr g) ⟨p, [], rfl, Nat.zero_le _, ⟨[], upd_same, rfl, rfl, rfl⟩, rfl⟩ (Chg.gr g) fun _ => Sep.gr r (Chg.refl (W := false)) g

/-! ### a built-in by its name -/
def CallAt (K : PySem.W.Frag) (r : List V → Hp → VK → Prop) (ds : List D) (d : D) (k : Nat) : Prop := ∀ (H : Hp) (Z : Addr → Prop) (ks : List Nat) (vs : List V), (∀ a, Z a → H a ≠ none) → (∀ j ∈ ks, j ≤ 1) → Owns K H Z ks ds vs →
  ∀ Q : VK, (∀ w H' Z' B, Gr H Z H' Z' B → Own K H' Z' k d w B → Q w H') → r vs H Q
def eCall (g : List D → Option D) (fs : AM) : EM := fun ρ => (fs ρ).bind fun p => (g p.1).map fun d => (d, p.2)
theorem readC {r : List V → Hp → VK → Prop} {ds : List D} {d : D} (hr : CallAt X.K r ds d k) (hks : ∀ j ∈ ks, j ≤ 1) {σ : L2.St} {H : Hp} {Q : VK} {ρ ρ' : Env} {Z : Addr → Prop} {As : Nat → List Addr} (rs : RS X.K ρ σ H Z As) (ea : fs ρ = some (ds, ρ'))
    (q : ∀ v H' Z' As' B, RS X.K ρ' σ H' Z' As' → Own X.K H' Z' k d v B → Chg W H Z As H' Z' As' → Sep B H As H' Z' As' → Q v H') :
    tCB r (tA X.K W ks fs) σ H Q := by
  refine ⟨ρ, Z, As, rs, ds, ρ', ea, fun vs H1 Z1 As1 r1 os c1 => ?_⟩
  refine hr H1 Z1 ks vs r1.zd hks os Q fun w H3 Z3 B g o3 => ?_
  refine q w H3 Z3 As1 B (r1.gr g) o3 ?_ (Sep.gr r1 c1 g)
  have := c1.trans rs (Chg.gr (W := false) (As := As1) g)
  simpa using this
theorem de_callB {g : List D → Option D} {id : String} {x : Str} {p : Pos} (hg : ∀ ds d, g ds = some d → ∃ r, CallR X (.builtin id) r ∧ CallAt X.K r ds d k) (hgl : Gl X x) (hm : X.mg x = none) (hv : bootBuiltins x = some (.builtin id))
    (ha : DA X (e :: es) W ks fs) (hks : ∀ j ∈ ks, j ≤ 1 := by decide) (hn : x ≠ "__name__" := by decide) (hdb : (x == ("__debug__" : Str)) = false := by decide) (hst : starEach (e :: es) X.env = (false, eval e X.env) :: starEach es X.env := by rfl) (hpl : (backTo pos (starEach es X.env)).any (·.1) = false := by rfl) :
    DE X (.Call (.Name x p) (e :: es) [] pos) W true k (eCall g fs) := by
  refine ⟨fun pins s σ H Q I q => ?_⟩
  obtain ⟨ρ, Z, As, r, d, ρ', ef, q⟩ := q
  unfold eCall at ef
  obtain ⟨⟨ds, ρ1⟩, e1, ef⟩ := Option.bind_eq_some_iff.mp ef
  obtain ⟨d', e3, ef⟩ := Option.map_eq_some_iff.mp ef
  cases ef
  obtain ⟨rr, ho, hr⟩ := hg _ _ e3
  exact (pe_callB ho hgl hm hv ha hn hdb hst hpl).run pins s σ H Q I (readC hr hks r e1 fun v H' Z' As' B r' o' c sp => q v H' Z' As' B r' o' c fun _ => sp)
theorem de_callTy {g : List D → Option D} {T : String} {x : Str} {p : Pos} (hg : ∀ ds d, g ds = some d → ∃ r, CallR X (.type T) r ∧ CallAt X.K r ds d k) (hgl : Gl X x) (hm : X.mg x = none) (hv : bootBuiltins x = some (.type T))
    (ha : DA X (e :: es) W ks fs) (hks : ∀ j ∈ ks, j ≤ 1 := by decide) (hn : x ≠ "__name__" := by decide) (hdb : (x == ("__debug__" : Str)) = false := by decide) (hst : starEach (e :: es) X.env = (false, eval e X.env) :: starEach es X.env := by rfl) (hpl : (backTo pos (starEach es X.env)).any (·.1) = false := by rfl) :
    DE X (.Call (.Name x p) (e :: es) [] pos) W true k (eCall g fs) := by
  refine ⟨fun pins s σ H Q I q => ?_⟩
  obtain ⟨ρ, Z, As, r, d, ρ', ef, q⟩ := q
  unfold eCall at ef
  obtain ⟨⟨ds, ρ1⟩, e1, ef⟩ := Option.bind_eq_some_iff.mp ef
  obtain ⟨d', e3, ef⟩ := Option.map_eq_some_iff.mp ef
  cases ef
  obtain ⟨rr, ho, hr⟩ := hg _ _ e3
  exact (pe_callTy ho hgl hm hv ha hn hdb hst hpl).run pins s σ H Q I (readC hr hks r e1 fun v H' Z' As' B r' o' c sp => q v H' Z' As' B r' o' c fun _ => sp)
end
end DL
/-! DL4: operators, comparisons, subscripts, built-ins, by values -/
namespace DL
open PySem PySem.Spec PyProof.Rows L2

section
variable {K : PySem.W.Frag} {H H' : Hp} {Z Z' : Addr → Prop} {n j : Nat} {v : V} {B : List Addr}
theorem Own.int {i : Int} (h : Own K H Z n (.int i) v B) : v = .int i := by have := h.read; unfold Rep at this; exact this
theorem Own.bl {i : Bool} (h : Own K H Z n (.bl i) v B) : v = .bl i := by have := h.read; unfold Rep at this; exact this
theorem Own.non (h : Own K H Z n .non v B) : v = .non := by have := h.read; unfold Rep at this; exact this
theorem Own.str {s : Str} (h : Own K H Z n (.str s) v B) : v = .str s ∧ okS s = true := by have := h.read; unfold Rep at this; exact this
theorem Own.ty {s : String} (h : Own K H Z n (.ty s) v B) : v = .ty s := by have := h.read; unfold Rep at this; exact this
theorem ow_int {i : Int} : Own K H Z n (.int i) (.int i) [] := Own.of_rep (by unfold Rep; rfl) rfl
theorem ow_bl {i : Bool} : Own K H Z n (.bl i) (.bl i) [] := Own.of_rep (by unfold Rep; rfl) rfl
theorem ow_str {s : Str} (h : okS s = true) : Own K H Z n (.str s) (.str s) [] := Own.of_rep (by unfold Rep; exact ⟨rfl, h⟩) rfl
theorem Own.lst1 {ds : List D} (hj : j ≤ 1) (h : Own K H Z j (.lst ds) v B) : ∃ a vs, v = .ref a ∧ Rd H a (.lst vs) ∧ vs.length ≤ sizeLine ∧ Reps K H Z ds vs := by
  match j, hj, h with
  | 0, _, h =>
    have h := h.1
    unfold Rep at h
    obtain ⟨a, vs, e, _, h1, h2, h3⟩ := h
    exact ⟨a, vs, e, h1, h2, h3⟩
  | 1, _, h =>
    obtain ⟨a, vs, Bs, e, h1, h2, h3, _⟩ := h
    exact ⟨a, vs, e, .inl h1, h2, (LO.to_reps h3).1⟩
theorem Own.tup1 {ds : List D} (h : Own K H Z j (.tup ds) v B) : ∃ a vs, v = .ref a ∧ H a = some (.tup vs) ∧ vs.length ≤ sizeLine ∧ Reps K H Z ds vs := by
  have h := (h.to_rep rfl).1
  unfold Rep at h
  exact h
theorem Own.ktp1 {ds : List D} (h : Own K H Z j (.ktp ds) v B) : ∃ a vs, v = .ref a ∧ KTup K a vs ∧ vs.length ≤ sizeLine ∧ Reps K H Z ds vs := by
  have h := (h.to_rep rfl).1
  unfold Rep at h
  exact h
/-- the items of a tuple of either kind -/
def tupOf : D → Option (List D)
  | .tup ds => some ds
  | .ktp ds => some ds
  | _ => none
theorem Own.tupA {d : D} {ds : List D} (e : tupOf d = some ds) (h : Own K H Z j d v B) : ∃ a vs, v = .ref a ∧ SqT K H a vs ∧ vs.length ≤ sizeLine ∧ Reps K H Z ds vs := by
  cases d with
  | tup xs => cases e; obtain ⟨a, vs, e, h1, h2, h3⟩ := h.tup1; exact ⟨a, vs, e, SqT.of h1, h2, h3⟩
  | ktp xs => cases e; obtain ⟨a, vs, e, h1, h2, h3⟩ := h.ktp1; exact ⟨a, vs, e, SqT.k h1, h2, h3⟩
  | _ => cases e
end

section
variable {X : Cx} {K : PySem.W.Frag} {k : Nat}
theorem at_I0 {g : Int → Int → V} {i j : Int} {d : D} (hd : ∀ H Z, Own K H Z k d (g i j) []) : Op2At K (rI0 g) (.int i) (.int j) d k := by
  intro H Z ja jb u v Bx By zd h1 h2 ha hb Q q
  exact ⟨i, j, ha.int, hb.int, q _ H Z [] (Gr.refl zd) (hd H Z)⟩
theorem at_I {C : Int → Int → Prop} {g : Int → Int → V} {i j : Int} {d : D} (hc : C i j) (hd : ∀ H Z, Own K H Z k d (g i j) []) : Op2At K (rI C g) (.int i) (.int j) d k := by
  intro H Z ja jb u v Bx By zd h1 h2 ha hb Q q
  exact ⟨i, j, ha.int, hb.int, hc, q _ H Z [] (Gr.refl zd) (hd H Z)⟩

/-! ### arithmetic -/
def dSub : D → D → Option D
  | .int i, .int j => some (.int (i - j))
  | _, _ => none
theorem o_sub {x y d : D} (h : dSub x y = some d) : ∃ r, OpR X (binaryOp .Sub) r ∧ Op2At X.K r x y d k := by
  unfold dSub at h
  split at h
  · cases h; exact ⟨_, op_sub, at_I0 fun _ _ => ow_int⟩
  · cases h
def dMod : D → D → Option D
  | .int i, .int j => if j ≠ 0 then some (.int (i.fmod j)) else none
  | _, _ => none
theorem o_mod {x y d : D} (h : dMod x y = some d) : ∃ r, OpR X (binaryOp .Mod) r ∧ Op2At X.K r x y d k := by
  unfold dMod at h
  split at h
  · split at h
    · rename_i hj; cases h; exact ⟨_, op_modN, at_I hj fun _ _ => ow_int⟩
    · cases h
  · cases h
def dDiv : D → D → Option D
  | .int i, .int j => if j ≠ 0 ∧ j.natAbs < 1073741824 then some (.int (i.fdiv j)) else none
  | _, _ => none
theorem o_div {x y d : D} (h : dDiv x y = some d) : ∃ r, OpR X (binaryOp .FloorDiv) r ∧ Op2At X.K r x y d k := by
  unfold dDiv at h
  split at h
  · split at h
    · rename_i hj; cases h; exact ⟨_, op_fdivN, at_I hj fun _ _ => ow_int⟩
    · cases h
  · cases h
def dPow : D → D → Option D
  | .int i, .int j => if 0 ≤ j ∧ j ≤ 1000000 ∧ i.natAbs < 2 ^ 64 then some (.int (i ^ j.toNat)) else none
  | _, _ => none
theorem o_pow {x y d : D} (h : dPow x y = some d) : ∃ r, OpR X (binaryOp .Pow) r ∧ Op2At X.K r x y d k := by
  unfold dPow at h
  split at h
  · split at h
    · rename_i hj; cases h; exact ⟨_, op_pow, at_I hj fun _ _ => ow_int⟩
    · cases h
  · cases h

/-! ### sums: ints, texts, tuples, lists -/
theorem lstR {pins : List (Addr × Obj)} {σ : L2.St} {H : Hp} {s : Shared} {l : Addr} {xs : List V} (I : Inv X pins σ H s) (hH : Rd H l (.lst xs)) :
    xs.length ≤ sizeLine ∧ ∃ (its : List Value) (n : Nat), Vals xs its ∧ xs.length = its.length ∧ s.heap.get? l = some { cls := .type "list", data := .seq its.toArray n } := by
  obtain ⟨z, its, n, r, e⟩ := hH.ok I.hok
  exact ⟨z, its, n, r, r.length, e⟩
def rCatR : R2 := fun x y H Q => ∃ l b xs zs, x = .ref l ∧ y = .ref b ∧ Rd H l (.lst xs) ∧ Rd H b (.lst zs) ∧ xs.length + zs.length ≤ sizeLine ∧ ∀ p, H p = none → Q (.ref p) (upd H p (.lst (xs ++ zs)))
theorem op_catR : OpR X (binaryOp .Add) rCatR := by
  intro pins s σ H x y v u Q I rx ry h
  obtain ⟨l, b, xs, zs, rfl, rfl, hH, hB, hz, q⟩ := h
  cases rx
  cases ry
  obtain ⟨z, its, n, r, hl, e⟩ := lstR I hH
  obtain ⟨z2, its2, n2, r2, hl2, e2⟩ := lstR I hB
  refine PySem.P.add_list e e2 ?_ (by rw [List.size_toArray, List.size_toArray]; omega)
  have ea : its.toArray ++ its2.toArray = (its ++ its2).toArray := by simp
  rw [ea]
  exact ⟨.ref _, _, I.lnew (t' := s.toks) (r.append r2) (by rw [List.length_append]; omega), rfl, q _ I.fresh⟩
theorem okS_append {s t : Str} (hs : okS s = true) (ht : okS t = true) (hl : s.length + t.length ≤ sizeLine) : okS (s ++ t) = true := by
  unfold okS at *
  rw [Bool.and_eq_true] at *
  refine ⟨decide_eq_true ?_, ?_⟩
  · have : (s ++ t).length = s.length + t.length := by
      show (s.cps ++ t.cps).size = _
      rw [Array.size_append]; rfl
    omega
  · show (s.cps ++ t.cps).all _ = true
    rw [Array.all_append, hs.2, ht.2]; rfl
def dAdd : D → D → Option D
  | .int i, .int j => some (.int (i + j))
  | .str s, .str t => if s.length + t.length ≤ sizeLine then some (.str (s ++ t)) else none
  | .lst xs, .lst ys => if xs.length + ys.length ≤ sizeLine then some (.lst (xs ++ ys)) else none
  | x, y => (tupOf x).bind fun xs => (tupOf y).bind fun ys => if xs.length + ys.length ≤ sizeLine then (if xs = [] then some y else if ys = [] then some x else some (.tup (xs ++ ys))) else none

theorem tup_len {ds : List D} {vs : List V} {H : Hp} {Z : Addr → Prop} (r : Reps K H Z ds vs) : (vs = [] ↔ ds = []) := by
  have hl := r.length
  cases ds <;> cases vs <;> simp at hl ⊢
theorem o_add {x y d : D} (h : dAdd x y = some d) : ∃ r, OpR X (binaryOp .Add) r ∧ Op2At X.K r x y d 1 := by
  unfold dAdd at h
  split at h
  · cases h; exact ⟨_, op_add, at_I0 fun _ _ => ow_int⟩
  · rename_i s t
    split at h
    · rename_i hl
      cases h
      refine ⟨_, op_add_str, fun H Z ja jb u v Bx By zd h1 h2 ha hb Q q => ?_⟩
      obtain ⟨e1, k1⟩ := ha.str
      obtain ⟨e2, k2⟩ := hb.str
      exact ⟨s, t, e1, e2, hl, q _ H Z [] (Gr.refl zd) (ow_str (okS_append k1 k2 hl))⟩
    · cases h
  · rename_i xs ys
    split at h
    · rename_i hl
      cases h
      refine ⟨_, op_catR, fun H Z ja jb u v Bx By zd h1 h2 ha hb Q q => ?_⟩
      obtain ⟨a, vs, e1, r1, l1, p1⟩ := ha.lst1 h1
      obtain ⟨b, ws, e2, r2, l2, p2⟩ := hb.lst1 h2
      have hz : vs.length + ws.length ≤ sizeLine := by rw [p1.length, p2.length]; exact hl
      refine ⟨a, b, vs, ws, e1, e2, r1, r2, hz, fun p hp => ?_⟩
      have g : Gr H Z (upd H p (.lst (vs ++ ws))) Z [p] := Gr.own zd hp trivial
      exact q (.ref p) _ Z [p] g ⟨p, vs ++ ws, [], rfl, upd_same, by rw [List.length_append]; exact hz, LO.of_reps (g.reps (p1.append p2)), rfl⟩
    · cases h
  · obtain ⟨xs, ex, h⟩ := Option.bind_eq_some_iff.mp h
    obtain ⟨ys, ey, h⟩ := Option.bind_eq_some_iff.mp h
    split at h
    · rename_i hl
      refine ⟨_, op_catA, fun H Z ja jb u v Bx By zd h1 h2 ha hb Q q => ?_⟩
      obtain ⟨a, vs, e1, r1, l1, p1⟩ := ha.tupA ex
      obtain ⟨b, ws, e2, r2, l2, p2⟩ := hb.tupA ey
      have hz : vs.length + ws.length ≤ sizeLine := by rw [p1.length, p2.length]; exact hl
      refine ⟨a, b, vs, ws, e1, e2, r1, r2, hz, fun hv => ?_, fun hv hw => ?_, fun hv hw p hp => ?_⟩
      · have hx := (tup_len p1).mp hv
        rw [if_pos hx] at h
        cases h
        rw [← e2]
        cases y with
        | tup zs => exact q v H Z [] (Gr.refl zd) (Own.of_rep (hb.to_rep rfl).1 rfl)
        | ktp zs => exact q v H Z [] (Gr.refl zd) (Own.of_rep (hb.to_rep rfl).1 rfl)
        | _ => cases ey
      · have hx : ¬ xs = [] := fun z => hv ((tup_len p1).mpr z)
        have hy := (tup_len p2).mp hw
        rw [if_neg hx, if_pos hy] at h
        cases h
        rw [← e1]
        cases x with
        | tup zs => exact q u H Z [] (Gr.refl zd) (Own.of_rep (ha.to_rep rfl).1 rfl)
        | ktp zs => exact q u H Z [] (Gr.refl zd) (Own.of_rep (ha.to_rep rfl).1 rfl)
        | _ => cases ex
      · have hx : ¬ xs = [] := fun z => hv ((tup_len p1).mpr z)
        have hy : ¬ ys = [] := fun z => hw ((tup_len p2).mpr z)
        rw [if_neg hx, if_neg hy] at h
        cases h
        have g : Gr H Z (upd H p (.tup (vs ++ ws))) Z [] := Gr.tup zd hp
        refine q (.ref p) _ Z [] g (Own.of_rep ?_ rfl)
        unfold Rep
        exact ⟨p, vs ++ ws, rfl, upd_same, by rw [List.length_append]; exact hz, g.reps (p1.append p2)⟩
    · cases h

/-! ### products: ints, a list or a tuple times an int -/
def rRepR : R2 := fun x y H Q => ∃ l k xs, x = .ref l ∧ y = .int k ∧ Rd H l (.lst xs) ∧ -(2 ^ 63) ≤ k ∧ k < 2 ^ 63 ∧ xs.length * k.toNat ≤ sizeLine ∧
  ∀ p, H p = none → Q (.ref p) (upd H p (.lst (List.replicate k.toNat xs).flatten))
theorem op_repR : OpR X (binaryOp .Mult) rRepR := by
  intro pins s σ H x y v u Q I rx ry h
  obtain ⟨l, k, xs, rfl, rfl, hH, h1, h2, hz, q⟩ := h
  cases rx
  obtain ⟨t, rfl⟩ := ry
  obtain ⟨z, its, n, r, hl, e⟩ := lstR I hH
  have hlen : its.toArray.size * k.toNat ≤ sizeLine := by rw [List.size_toArray, ← hl]; exact hz
  have hcap : ¬ its.toArray.size * k.toNat > (2 ^ 63 - 1) / 8 := by
    have : (sizeLine : Nat) ≤ (2 ^ 63 - 1) / 8 := by decide
    omega
  have hfit : ¬ (!Builtin.List.listFitsIndex k) = true := by
    rw [fitsIndex_both h1 h2]
    exact Bool.false_ne_true
  have hlong : ¬ Builtin.List.listTooLong (its.toArray.size * k.toNat) = true := by
    rw [notLongL hlen]
    exact Bool.false_ne_true
  have hnew : List.foldl (fun x1 x2 => x1 ++ x2) #[] (List.replicate (if its.toArray.isEmpty = true then 0 else k.toNat) its.toArray) = (List.replicate k.toNat its).flatten.toArray := by
    have f0 : ∀ m : Nat, List.foldl (fun x1 x2 => x1 ++ x2) #[] (List.replicate m its.toArray) = (List.replicate m its).flatten.toArray := fun m => by
      have := foldl_rep its m []
      rw [List.nil_append] at this
      exact this
    rw [f0]
    cases its with
    | nil => simp
    | cons a r' => rw [if_neg (by simp)]
  refine wpAny_binaryOp_repeat_ref (T := "list") (U := "int") (by decide) ⟨_, e, rfl⟩ (fun s' => typeIs_int s' k t) noFill_list_mul F.fills_int_mul F.slot_int_rmul repeat_list F.slot_int_index.lookup
    (call_meets F.slot_int_rmul (typeIs_int s k t) F.entry_int_rmul (F.args_int_rmul_2 _ _) (int___rmul___int_list k t l its.toArray n)
      ⟨e, rfl, ⟨_, e, rfl⟩, call_meets F.slot_list_mul ⟨_, e, rfl⟩ F.entry_list_mul (F.args_list_mul_2 _ _) (AutoListH.list___mul___list_int_3 l its.toArray n k t hfit hcap hlong) ⟨e, ?_⟩⟩)
  rw [hnew]
  exact ⟨.ref _, _, I.lnew (t' := s.toks) (r.rep k.toNat) (by rw [PyProof.Rows.lm_len_rep_flat, Nat.mul_comm]; exact hz), rfl, q _ I.fresh⟩
theorem Reps.rep {H : Hp} {Z : Addr → Prop} {ds : List D} {vs : List V} (h : Reps K H Z ds vs) : ∀ n, Reps K H Z (List.replicate n ds).flatten (List.replicate n vs).flatten
  | 0 => Reps.nil
  | n + 1 => by
    rw [List.replicate_succ, List.replicate_succ, List.flatten_cons, List.flatten_cons]
    exact h.append (Reps.rep h n)
theorem len_rep {α : Type} (xs : List α) : ∀ n, ((List.replicate n xs).flatten).length = xs.length * n
  | 0 => by simp
  | n + 1 => by rw [List.replicate_succ, List.flatten_cons, List.length_append, len_rep xs n, Nat.mul_succ, Nat.add_comm]
def dMul : D → D → Option D
  | .int i, .int j => if (-(2 ^ 64) < i ∧ i < 2 ^ 64) ∨ (-(2 ^ 64) < j ∧ j < 2 ^ 64) then some (.int (i * j)) else none
  | .lst xs, .int k => if -(2 ^ 63) ≤ k ∧ k < 2 ^ 63 ∧ xs.length * k.toNat ≤ sizeLine then some (.lst (List.replicate k.toNat xs).flatten) else none
  | x, .int k => (tupOf x).bind fun xs => if xs ≠ [] ∧ 2 ≤ k ∧ k ≤ 1000 ∧ xs.length ≤ 1000 then some (.tup (List.replicate k.toNat xs).flatten) else none
  | _, _ => none
theorem o_mul {x y d : D} (h : dMul x y = some d) : ∃ r, OpR X (binaryOp .Mult) r ∧ Op2At X.K r x y d 1 := by
  unfold dMul at h
  split at h
  · split at h
    · rename_i hc; cases h; exact ⟨_, op_mul, at_I hc fun _ _ => ow_int⟩
    · cases h
  · rename_i xs k
    split at h
    · rename_i hc
      cases h
      refine ⟨_, op_repR, fun H Z ja jb u v Bx By zd h1 h2 ha hb Q q => ?_⟩
      obtain ⟨a, vs, e1, r1, l1, p1⟩ := ha.lst1 h1
      have hz : vs.length * k.toNat ≤ sizeLine := by rw [p1.length]; exact hc.2.2
      refine ⟨a, k, vs, e1, hb.int, r1, hc.1, hc.2.1, hz, fun p hp => ?_⟩
      have g : Gr H Z (upd H p (.lst (List.replicate k.toNat vs).flatten)) Z [p] := Gr.own zd hp trivial
      exact q (.ref p) _ Z [p] g ⟨p, _, [], rfl, upd_same, by rw [len_rep]; exact hz, LO.of_reps (g.reps (p1.rep _)), rfl⟩
    · cases h
  · rename_i k _ _
    obtain ⟨xs, ex, h⟩ := Option.bind_eq_some_iff.mp h
    split at h
    · rename_i hc
      cases h
      refine ⟨_, op_repT, fun H Z ja jb u v Bx By zd h1 h2 ha hb Q q => ?_⟩
      obtain ⟨a, vs, e1, r1, l1, p1⟩ := ha.tupA ex
      have hl := p1.length
      refine ⟨a, k, vs, e1, hb.int, r1, fun z => hc.1 ((tup_len p1).mp z), hc.2.1, hc.2.2.1, by omega, fun p hp => ?_⟩
      have g : Gr H Z (upd H p (.tup (List.replicate k.toNat vs).flatten)) Z [] := Gr.tup zd hp
      refine q (.ref p) _ Z [] g (Own.of_rep ?_ rfl)
      unfold Rep
      refine ⟨p, _, rfl, upd_same, ?_, g.reps (p1.rep _)⟩
      rw [len_rep, hl]
      have h1000 : k.toNat ≤ 1000 := by omega
      have : xs.length * k.toNat ≤ 1000 * 1000 := Nat.mul_le_mul hc.2.2.2 h1000
      exact Nat.le_trans this (by decide)
    · cases h
  · cases h

/-! ### comparisons -/
def dCmp (p : Int → Int → Bool) : D → D → Option D
  | .int i, .int j => some (.bl (p i j))
  | _, _ => none
abbrev dLt := dCmp fun i j => decide (i < j)
abbrev dLe := dCmp fun i j => decide (i ≤ j)
abbrev dGt := dCmp fun i j => decide (j < i)
abbrev dGe := dCmp fun i j => decide (j ≤ i)
theorem o_cmp {op : CmpOp} {p : Int → Int → Bool} (ho : OpR X (compareOp op) (rI0 fun i j => .bl (p i j))) {x y d : D} (h : dCmp p x y = some d) : ∃ r, OpR X (compareOp op) r ∧ Op2At X.K r x y d k := by
  unfold dCmp at h
  split at h
  · cases h; exact ⟨_, ho, at_I0 fun _ _ => ow_bl⟩
  · cases h
theorem o_lt {x y d : D} (h : dLt x y = some d) : ∃ r, OpR X (compareOp .Lt) r ∧ Op2At X.K r x y d k := o_cmp op_lt h
theorem o_le {x y d : D} (h : dLe x y = some d) : ∃ r, OpR X (compareOp .LtE) r ∧ Op2At X.K r x y d k := o_cmp op_le h
theorem o_gt {x y d : D} (h : dGt x y = some d) : ∃ r, OpR X (compareOp .Gt) r ∧ Op2At X.K r x y d k := o_cmp op_gt h
theorem o_ge {x y d : D} (h : dGe x y = some d) : ∃ r, OpR X (compareOp .GtE) r ∧ Op2At X.K r x y d k := o_cmp op_ge h
theorem h_lt : ∃ r, OpR X (compareOp .Lt) r := ⟨_, op_lt⟩
theorem h_le : ∃ r, OpR X (compareOp .LtE) r := ⟨_, op_le⟩
theorem h_gt : ∃ r, OpR X (compareOp .Gt) r := ⟨_, op_gt⟩
theorem h_ge : ∃ r, OpR X (compareOp .GtE) r := ⟨_, op_ge⟩
/-- is None, is True -/
def isNonD : D → Bool
  | .non => true
  | _ => false
def dIs : D → D → Option D
  | x, .non => some (.bl (isNonD x))
  | .bl a, .bl b => some (.bl (decide (a = b)))
  | _, _ => none
def dIsNot : D → D → Option D
  | x, .non => some (.bl (!isNonD x))
  | .bl a, .bl b => some (.bl (!decide (a = b)))
  | _, _ => none
theorem Rep.isNon {H : Hp} {Z : Addr → Prop} {d : D} {v : V} (h : Rep K H Z d v) : decide (v = .non) = isNonD d := by
  cases d with
  | non => unfold Rep at h; subst h; rfl
  | bl b => unfold Rep at h; subst h; rfl
  | int b => unfold Rep at h; subst h; rfl
  | ty b => unfold Rep at h; subst h; rfl
  | str b => unfold Rep at h; obtain ⟨h, _⟩ := h; subst h; rfl
  | tup b => unfold Rep at h; obtain ⟨a, vs, rfl, _⟩ := h; rfl
  | ktp b => unfold Rep at h; obtain ⟨a, vs, rfl, _⟩ := h; rfl
  | lst b => unfold Rep at h; obtain ⟨a, vs, rfl, _⟩ := h; rfl
  | dct t ks b => unfold Rep at h; obtain ⟨a, rfl, _⟩ := h; rfl
  | rng lo hi => unfold Rep at h; obtain ⟨a, rfl, _⟩ := h; rfl
theorem o_is {x y d : D} (h : dIs x y = some d) : ∃ r, OpR X (compareOp .Is) r ∧ Op2At X.K r x y d k := by
  unfold dIs at h
  split at h
  · cases h
    refine ⟨_, op_isN, fun H Z ja jb u v Bx By zd h1 h2 ha hb Q q => ⟨hb.non, ?_⟩⟩
    rw [ha.read.isNon]
    exact q _ H Z [] (Gr.refl zd) ow_bl
  · cases h
    refine ⟨_, op_isBl, fun H Z ja jb u v Bx By zd h1 h2 ha hb Q q => ⟨_, _, ha.bl, hb.bl, ?_⟩⟩
    exact q _ H Z [] (Gr.refl zd) ow_bl
  · cases h
theorem o_isnot {x y d : D} (h : dIsNot x y = some d) : ∃ r, OpR X (compareOp .IsNot) r ∧ Op2At X.K r x y d k := by
  unfold dIsNot at h
  split at h
  · cases h
    refine ⟨_, op_notN, fun H Z ja jb u v Bx By zd h1 h2 ha hb Q q => ⟨hb.non, ?_⟩⟩
    rw [ha.read.isNon]
    exact q _ H Z [] (Gr.refl zd) ow_bl
  · cases h
    refine ⟨_, op_notBl, fun H Z ja jb u v Bx By zd h1 h2 ha hb Q q => ⟨_, _, ha.bl, hb.bl, ?_⟩⟩
    exact q _ H Z [] (Gr.refl zd) ow_bl
  · cases h
end

/-! ### data as the library's data: == and in -/
mutual
def toPy : D → Option PyData
  | .non => some .none
  | .bl b => some (.bool b)
  | .int i => some (.int i)
  | .str s => some (.str s)
  | .tup ds => (toPys ds).map .tuple
  | .ktp ds => (toPys ds).map .tuple
  | .lst ds => (toPys ds).map .list
  | .dct _ _ _ => none
  | .rng _ _ => none
  | .ty _ => none
def toPys : List D → Option (List PyData)
  | [] => some []
  | d :: ds => (toPy d).bind fun p => (toPys ds).map fun ps => p :: ps
end
section
variable {K : PySem.W.Frag} {H H' : Hp} {Z Z' : Addr → Prop}
theorem okS_strOk {s : Str} (h : okS s = true) : PyData.strOk s = true := by
  unfold okS at h
  unfold PyData.strOk
  rw [Bool.and_eq_true] at h
  have h2 := h.2
  rw [Array.all_eq_true] at h2 ⊢
  intro i hi
  have := of_decide_eq_true (h2 i hi)
  exact decide_eq_true (Nat.lt_trans this (by decide))
mutual
theorem Rep.dp : ∀ (d : D) (v : V) (p : PyData), Rep K H Z d v → toPy d = some p → Dp K H v p ∧ p.canLay0 = true
  | .non, v, p, h, e => by unfold Rep at h; unfold toPy at e; cases e; subst h; exact ⟨.non, by simp [PyData.canLay0]⟩
  | .bl b, v, p, h, e => by unfold Rep at h; unfold toPy at e; cases e; subst h; exact ⟨.bl b, by simp [PyData.canLay0]⟩
  | .int b, v, p, h, e => by unfold Rep at h; unfold toPy at e; cases e; subst h; exact ⟨.int b, by simp [PyData.canLay0]⟩
  | .str b, v, p, h, e => by unfold Rep at h; unfold toPy at e; cases e; obtain ⟨h, hs⟩ := h; subst h; exact ⟨.str b, by simpa [PyData.canLay0] using okS_strOk hs⟩
  | .tup ds, v, p, h, e => by
    unfold Rep at h; unfold toPy at e
    obtain ⟨ps, e1, e2⟩ := Option.map_eq_some_iff.mp e
    obtain ⟨a, vs, rfl, h1, h2, h3⟩ := h
    obtain ⟨q1, q2⟩ := Reps.dp ds vs ps h3 e1
    subst e2
    exact ⟨.tup (SqT.of h1) q1, by simpa [PyData.canLay0] using q2⟩
  | .ktp ds, v, p, h, e => by
    unfold Rep at h; unfold toPy at e
    obtain ⟨ps, e1, e2⟩ := Option.map_eq_some_iff.mp e
    obtain ⟨a, vs, rfl, h1, h2, h3⟩ := h
    obtain ⟨q1, q2⟩ := Reps.dp ds vs ps h3 e1
    subst e2
    exact ⟨.tup (SqT.k h1) q1, by simpa [PyData.canLay0] using q2⟩
  | .lst ds, v, p, h, e => by
    unfold Rep at h; unfold toPy at e
    obtain ⟨ps, e1, e2⟩ := Option.map_eq_some_iff.mp e
    obtain ⟨a, vs, rfl, z, h1, h2, h3⟩ := h
    obtain ⟨q1, q2⟩ := Reps.dp ds vs ps h3 e1
    subst e2
    exact ⟨.lst (.inl h1) q1, by simpa [PyData.canLay0] using q2⟩
  | .dct t ks xs, v, p, h, e => by unfold toPy at e; cases e
  | .rng lo hi, v, p, h, e => by unfold toPy at e; cases e
  | .ty n, v, p, h, e => by unfold toPy at e; cases e
theorem Reps.dp : ∀ (ds : List D) (vs : List V) (ps : List PyData), Reps K H Z ds vs → toPys ds = some ps → DpAll K H vs ps ∧ PyData.canLayAll0 ps = true
  | [], vs, ps, h, e => by unfold Reps at h; unfold toPys at e; cases e; subst h; exact ⟨.nil, by simp [PyData.canLayAll0]⟩
  | d :: ds, vs, ps, h, e => by
    unfold Reps at h; unfold toPys at e
    obtain ⟨v, r, rfl, h1, h2⟩ := h
    obtain ⟨p, e1, e⟩ := Option.bind_eq_some_iff.mp e
    obtain ⟨pr, e2, e⟩ := Option.map_eq_some_iff.mp e
    subst e
    obtain ⟨a1, a2⟩ := Rep.dp d v p h1 e1
    obtain ⟨b1, b2⟩ := Reps.dp ds r pr h2 e2
    exact ⟨.cons a1 b1, by simp [PyData.canLayAll0, a2, b2]⟩
end
end
/-- two data that == takes, as the library's -/
def pyOk (p : PyData) : Bool := decide (p.depth ≤ 64)
def dEqB (x y : D) : Option Bool := (toPy x).bind fun p => (toPy y).bind fun q => if pyOk p = true ∧ pyOk q = true then some (PyData.eqv p q) else none
def dEq (x y : D) : Option D := (dEqB x y).map .bl
def dNe (x y : D) : Option D := (dEqB x y).map fun b => .bl (!b)
section
variable {X : Cx} {K : PySem.W.Frag} {k : Nat}
theorem dEqB_case {x y : D} {b : Bool} (h : dEqB x y = some b) : ∃ p q, toPy x = some p ∧ toPy y = some q ∧ p.depth ≤ 64 ∧ q.depth ≤ 64 ∧ b = PyData.eqv p q := by
  unfold dEqB at h
  obtain ⟨p, e1, h⟩ := Option.bind_eq_some_iff.mp h
  obtain ⟨q, e2, h⟩ := Option.bind_eq_some_iff.mp h
  split at h
  · rename_i hc; cases h; exact ⟨p, q, e1, e2, of_decide_eq_true hc.1, of_decide_eq_true hc.2, rfl⟩
  · cases h
theorem shaped_of {p : PyData} (h1 : p.canLay0 = true) (h2 : p.depth ≤ 64) : SeqAt.shaped p = true := by
  unfold SeqAt.shaped
  rw [h1, decide_eq_true h2]; rfl
theorem o_eq (hu : X.A.units + 64 < cLine) {x y d : D} (h : dEq x y = some d) : ∃ r, OpR X (compareOp .Eq) r ∧ Op2At X.K r x y d k := by
  unfold dEq at h
  obtain ⟨b, hb, e⟩ := Option.map_eq_some_iff.mp h
  subst e
  obtain ⟨p, q, e1, e2, d1, d2, rfl⟩ := dEqB_case hb
  refine ⟨_, op_eqD hu, fun H Z ja jb u v Bx By zd h1 h2 ha hb Q qq => ?_⟩
  obtain ⟨a1, a2⟩ := Rep.dp x u p ha.read e1
  obtain ⟨b1, b2⟩ := Rep.dp y v q hb.read e2
  exact ⟨p, q, a1, b1, shaped_of a2 d1, shaped_of b2 d2, qq _ H Z [] (Gr.refl zd) ow_bl⟩
theorem o_ne (hu : X.A.units + 64 < cLine) {x y d : D} (h : dNe x y = some d) : ∃ r, OpR X (compareOp .NotEq) r ∧ Op2At X.K r x y d k := by
  unfold dNe at h
  obtain ⟨b, hb, e⟩ := Option.map_eq_some_iff.mp h
  subst e
  obtain ⟨p, q, e1, e2, d1, d2, rfl⟩ := dEqB_case hb
  refine ⟨_, op_neD hu, fun H Z ja jb u v Bx By zd h1 h2 ha hb Q qq => ?_⟩
  obtain ⟨a1, a2⟩ := Rep.dp x u p ha.read e1
  obtain ⟨b1, b2⟩ := Rep.dp y v q hb.read e2
  exact ⟨p, q, a1, b1, shaped_of a2 d1, shaped_of b2 d2, qq _ H Z [] (Gr.refl zd) ow_bl⟩
end
end DL
/-! DL5: in, subscripts, slices, built-ins by name -/
namespace DL
open PySem PySem.Spec PyProof.Rows L2

/-! ### keys of a dict -/
section
variable {κ : Type} [DecidableEq κ]
/-- the place of a key -/
def kfind (kf : D → Option κ) (ks : List D) (k : κ) : Option Nat := ks.findIdx? fun z => decide (kf z = some k)
theorem valV_find {kf : D → Option κ} (k : κ) : ∀ {ks : List D} {ps : List (κ × V)}, ks.map kf = ps.map (fun p => some p.1) → valV ps k = (kfind kf ks k).bind fun i => (ps.map (·.2))[i]?
  | [], [], _ => rfl
  | [], _ :: _, h => by simp at h
  | _ :: _, [], h => by simp at h
  | z :: ks, p :: ps, h => by
    have h1 : kf z = some p.1 ∧ ks.map kf = ps.map (fun p => some p.1) := by simpa using h
    by_cases e : p.1 = k
    · rw [valV_pos e]
      unfold kfind
      rw [List.findIdx?_cons, if_pos (by rw [h1.1, e]; simp)]
      rfl
    · rw [valV_neg e, valV_find k h1.2]
      have e2 : ¬ (decide (kf z = some k) = true) := by rw [h1.1]; simpa using e
      unfold kfind
      rw [List.findIdx?_cons, if_neg e2]
      cases (ks.findIdx? fun z => decide (kf z = some k)) with
      | none => rfl
      | some i => rfl
theorem kfind_lt {kf : D → Option κ} {ks : List D} {k : κ} {i : Nat} (h : kfind kf ks k = some i) : i < ks.length := by
  unfold kfind at h
  exact (List.findIdx?_eq_some_iff_getElem.mp h).1
end
/-- the place of the key y; none: y is no key for such a dict -/
def dplace (t : Bool) (ks : List D) (y : D) : Option (Option Nat) := match t with
  | false => (keyD y).map (kfind keyD ks)
  | true => match y with
    | .tup _ => (keysD y).map (kfind keysD ks)
    | _ => none
def dlook (t : Bool) (ks xs : List D) (y : D) : Option (Option D) := (dplace t ks y).map fun o => o.bind fun i => xs[i]?
section
variable {K : PySem.W.Frag} {H H' : Hp} {Z Z' : Addr → Prop} {n j : Nat} {v u : V} {B : List Addr}
theorem keyD_rep {y : D} {k : Key} (e : keyD y = some k) (h : Rep K H Z y v) : v = kV k := by
  cases y with
  | int i => cases e; unfold Rep at h; exact h
  | str s =>
    unfold Rep at h
    have e : (if okS s = true then some (Sum.inr s : Key) else none) = some k := e
    rw [if_pos h.2] at e
    cases e
    exact h.1
  | _ => cases e
theorem keysD_reps : ∀ {ys : List D} {ks : List Key} {vs : List V}, ys.mapM keyD = some ks → Reps K H Z ys vs → vs = ks.map kV
  | [], ks, vs, e, h => by
    have e : ([] : List Key) = ks := by simpa using e
    subst e
    unfold Reps at h
    exact h
  | y :: ys, ks, vs, e, h => by
    rw [List.mapM_cons] at e
    obtain ⟨k, e1, e⟩ := Option.bind_eq_some_iff.mp e
    obtain ⟨kr, e2, e⟩ := Option.bind_eq_some_iff.mp e
    have e : k :: kr = ks := by simpa using e
    subst e
    unfold Reps at h
    obtain ⟨v, r, rfl, h1, h2⟩ := h
    rw [keyD_rep e1 h1, keysD_reps e2 h2]
    rfl
/-- a dict asked for a key -/
theorem dget_of {t : Bool} {ks : List D} {y : D} {a : Addr} {o : Option Nat} {R : List V → Prop} (h : DAt (fun o => Rd H a o) R ks t) (e : dplace t ks y = some o) (hy : Rep K H Z y u) :
    ∃ vs, R vs ∧ DGet H a u (o.bind fun i => vs[i]?) := by
  cases t with
  | false =>
    obtain ⟨ps, h1, h2, h3⟩ := h
    obtain ⟨k, ek, e⟩ := Option.map_eq_some_iff.mp e
    subst e
    refine ⟨_, h3, .inl ⟨ps, k, h1, keyD_rep ek hy, ?_⟩⟩
    rw [valV_find k h2]
  | true =>
    obtain ⟨ps, h1, h2, h3⟩ := h
    cases y with
    | tup ys =>
      obtain ⟨k, ek, e⟩ := Option.map_eq_some_iff.mp e
      subst e
      have ek : ys.mapM keyD = some k := by
        have ek : (if ys.length ≤ 1000 then ys.mapM keyD else none) = some k := ek
        split at ek
        · exact ek
        · cases ek
      unfold Rep at hy
      obtain ⟨b, vs, rfl, hb, _, hr⟩ := hy
      refine ⟨_, h3, .inr ⟨ps, k, b, h1, rfl, ?_, ?_⟩⟩
      · rw [hb, keysD_reps ek hr]
      · rw [valV_find k h2]
    | _ => cases e
theorem Rep.dct {t : Bool} {ks xs : List D} (h : Rep K H Z (.dct t ks xs) v) : ∃ a, v = .ref a ∧ DAt (fun o => Rd H a o) (fun vs => Reps K H Z xs vs) ks t := by
  unfold Rep at h
  obtain ⟨a, e, _, _, h⟩ := h
  exact ⟨a, e, h⟩
end

/-! ### in, not in -/
def dInB (neg : Bool) (x : D) : D → Option Bool
  | .str t => match x with
    | .str s => some (!(Builtin.Str.occurrences t s 0 t.length 1).isEmpty)
    | _ => none
  | .rng lo hi => match x with
    | .int i => if neg then none else some (decide (lo ≤ i ∧ i < hi))
    | _ => none
  | .dct t ks _ => (dplace t ks x).map (·.isSome)
  | .lst ys => (toPy x).bind fun p => (toPys ys).bind fun qs => if pyOk p = true ∧ pyOk (.list qs) = true then some (qs.any fun z => PyData.eqv z p) else none
  | y => (tupOf y).bind fun ys => (toPy x).bind fun p => (toPys ys).bind fun qs => if pyOk p = true ∧ pyOk (.tuple qs) = true then some (qs.any fun z => PyData.eqv z p) else none
def dIn (x y : D) : Option D := (dInB false x y).map .bl
def dNotIn (x y : D) : Option D := (dInB true x y).map fun b => .bl (!b)
section
variable {X : Cx} {K : PySem.W.Frag} {k : Nat}
def rDIn : R2 := fun y x H Q => ∃ a o, x = .ref a ∧ DGet H a y o ∧ Q (.bl o.isSome) H
def rDNotIn : R2 := fun y x H Q => ∃ a o, x = .ref a ∧ DGet H a y o ∧ Q (.bl (!o.isSome)) H
theorem op_inK (hu : X.A.units + 1 < cLine) : OpR X (compareOp .In) rDIn := by
  intro pins s σ H y x iv u Q I ry rx h
  obtain ⟨a, o, rfl, g, q⟩ := h
  obtain rfl : u = Value.ref a := rx
  exact d_in hu I g ry fun s3 I3 => ⟨.bl o.isSome, H, I3, rfl, q⟩
theorem op_notInK (hu : X.A.units + 1 < cLine) : OpR X (compareOp .NotIn) rDNotIn := by
  intro pins s σ H y x iv u Q I ry rx h
  obtain ⟨a, o, rfl, g, q⟩ := h
  obtain rfl : u = Value.ref a := rx
  exact d_notIn hu I g ry fun s3 I3 => ⟨.bl (!o.isSome), H, I3, rfl, q⟩
def rInTD (K : PySem.W.Frag) : R2 := fun x y H Q => ∃ d ds, Dp K H x d ∧ Dp K H y (.tuple ds) ∧ SeqAt.shaped d = true ∧ SeqAt.shaped (.tuple ds) = true ∧ Q (.bl (ds.any fun z => PyData.eqv z d)) H
def rNotInTD (K : PySem.W.Frag) : R2 := fun x y H Q => ∃ d ds, Dp K H x d ∧ Dp K H y (.tuple ds) ∧ SeqAt.shaped d = true ∧ SeqAt.shaped (.tuple ds) = true ∧ Q (.bl (!ds.any fun z => PyData.eqv z d)) H
theorem op_inTD (hu : X.A.units + 65 < cLine) : OpR X (compareOp .In) (rInTD X.K) := by
  intro pins s σ H x y v u Q I rx ry h
  obtain ⟨d, ds, hd, he, sd, se, q⟩ := h
  obtain ⟨as, r1⟩ := Dp.reads I d x v hd rx
  obtain ⟨bs, r2⟩ := Dp.reads I (.tuple ds) y u he ry
  exact SeqAt.in_tuple_reads r2 r1 (SeqAt.canLay_of_shaped se) (SeqAt.canLay_of_shaped sd) (room_in_shaped sd hu) ⟨.bl _, H, I, rfl, q⟩
theorem op_notInTD (hu : X.A.units + 65 < cLine) : OpR X (compareOp .NotIn) (rNotInTD X.K) := by
  intro pins s σ H x y v u Q I rx ry h
  obtain ⟨d, ds, hd, he, sd, se, q⟩ := h
  obtain ⟨as, r1⟩ := Dp.reads I d x v hd rx
  obtain ⟨bs, r2⟩ := Dp.reads I (.tuple ds) y u he ry
  exact SeqAt.notIn_tuple_reads r2 r1 (SeqAt.canLay_of_shaped se) (SeqAt.canLay_of_shaped sd) (room_in_shaped sd hu) ⟨.bl _, H, I, rfl, q⟩
/-- what a place of a key tells -/
theorem place_some {t : Bool} {ks : List D} {y : D} {o : Option Nat} (e : dplace t ks y = some o) {vs : List V} (hl : vs.length = ks.length) : (o.bind fun i => vs[i]?).isSome = o.isSome := by
  cases o with
  | none => rfl
  | some i =>
    have hi : i < ks.length := by
      unfold dplace at e
      split at e
      · obtain ⟨k, _, e⟩ := Option.map_eq_some_iff.mp e; exact kfind_lt e
      · split at e
        · obtain ⟨k, _, e⟩ := Option.map_eq_some_iff.mp e; exact kfind_lt e
        · cases e
    show (vs[i]?).isSome = true
    rw [List.getElem?_eq_getElem (by omega)]
    rfl
theorem DAt.len {rd : HO → Prop} {R : List V → Prop} {ks : List D} {t : Bool} (h : DAt rd R ks t) : ∃ vs, R vs ∧ vs.length = ks.length := by
  cases t with
  | false =>
    obtain ⟨ps, _, e, r⟩ := h
    refine ⟨_, r, ?_⟩
    have := congrArg List.length e
    simpa using this.symm
  | true =>
    obtain ⟨ps, _, e, r⟩ := h
    refine ⟨_, r, ?_⟩
    have := congrArg List.length e
    simpa using this.symm
theorem DAt.keepLen {rd : HO → Prop} {R : List V → Prop} {ks : List D} {t : Bool} (h : DAt rd R ks t) : DAt rd (fun vs => R vs ∧ vs.length = ks.length) ks t := by
  cases t with
  | false =>
    obtain ⟨ps, a, e, r⟩ := h
    refine ⟨ps, a, e, r, ?_⟩
    have := congrArg List.length e
    simpa using this.symm
  | true =>
    obtain ⟨ps, a, e, r⟩ := h
    refine ⟨ps, a, e, r, ?_⟩
    have := congrArg List.length e
    simpa using this.symm
theorem o_inB (hu : X.A.units + 65 < cLine) (neg : Bool) {x y : D} {b : Bool} (h : dInB neg x y = some b) : ∃ r, OpR X (compareOp (if neg then .NotIn else .In)) r ∧ Op2At X.K r x y (.bl (if neg then !b else b)) k := by
  have key : ∀ {r : R2}, (∀ (H : Hp) (Z : Addr → Prop) (ja jb : Nat) (u v : V) (Bx By : List Addr), Own X.K H Z ja x u Bx → Own X.K H Z jb y v By → ∀ Q : VK, Q (.bl (if neg then !b else b)) H → r u v H Q) → Op2At X.K r x y (.bl (if neg then !b else b)) k :=
    fun f H Z ja jb u v Bx By zd h1 h2 ha hb Q q => f H Z ja jb u v Bx By ha hb Q (q _ H Z [] (Gr.refl zd) ow_bl)
  have tups : ∀ {ys : List D}, tupOf y = some ys → ((toPy x).bind fun p => (toPys ys).bind fun qs => if pyOk p = true ∧ pyOk (.tuple qs) = true then some (qs.any fun z => PyData.eqv z p) else none) = some b →
      ∃ r, OpR X (compareOp (if neg then .NotIn else .In)) r ∧ Op2At X.K r x y (.bl (if neg then !b else b)) k := by
    intro ys ey h
    obtain ⟨p, e1, h⟩ := Option.bind_eq_some_iff.mp h
    obtain ⟨qs, e2, h⟩ := Option.bind_eq_some_iff.mp h
    split at h
    · rename_i hc
      cases h
      have red : ∀ (H : Hp) (Z : Addr → Prop) (ja jb : Nat) (u v : V) (Bx By : List Addr), Own X.K H Z ja x u Bx → Own X.K H Z jb y v By → Dp X.K H u p ∧ Dp X.K H v (.tuple qs) ∧ SeqAt.shaped p = true ∧ SeqAt.shaped (.tuple qs) = true := by
        intro H Z ja jb u v Bx By ha hb
        obtain ⟨a1, a2⟩ := Rep.dp x u p ha.read e1
        have et : toPy y = some (.tuple qs) := by
          cases y with
          | tup ds => cases ey; unfold toPy; rw [e2]; rfl
          | ktp ds => cases ey; unfold toPy; rw [e2]; rfl
          | _ => cases ey
        obtain ⟨b1, b2⟩ := Rep.dp y v _ hb.read et
        exact ⟨a1, b1, shaped_of a2 (of_decide_eq_true hc.1), shaped_of b2 (of_decide_eq_true hc.2)⟩
      cases neg with
      | false => exact ⟨_, op_inTD hu, key fun H Z ja jb u v Bx By ha hb Q q => by obtain ⟨a1, a2, a3, a4⟩ := red H Z ja jb u v Bx By ha hb; exact ⟨p, qs, a1, a2, a3, a4, q⟩⟩
      | true => exact ⟨_, op_notInTD hu, key fun H Z ja jb u v Bx By ha hb Q q => by obtain ⟨a1, a2, a3, a4⟩ := red H Z ja jb u v Bx By ha hb; exact ⟨p, qs, a1, a2, a3, a4, q⟩⟩
    · cases h
  have hu1 : X.A.units + 1 < cLine := by omega
  cases y with
  | str t =>
    cases x with
    | str s =>
      cases h
      cases neg with
      | false => exact ⟨_, op_in_str, key fun H Z ja jb u v Bx By ha hb Q q => ⟨s, t, ha.str.1, hb.str.1, q⟩⟩
      | true => exact ⟨_, op_notin_str, key fun H Z ja jb u v Bx By ha hb Q q => ⟨s, t, ha.str.1, hb.str.1, q⟩⟩
    | _ => cases h
  | rng lo hi =>
    cases x with
    | int i =>
      cases neg with
      | false =>
        cases h
        refine ⟨_, op_in_rng, key fun H Z ja jb u v Bx By ha hb Q q => ?_⟩
        have hb := (hb.to_rep rfl).1
        unfold Rep at hb
        obtain ⟨a, e, hr, _⟩ := hb
        exact ⟨i, a, lo, hi, ha.int, e, hr, q⟩
      | true => cases h
    | _ => cases h
  | dct t ks xs =>
    obtain ⟨o, e, eb⟩ := Option.map_eq_some_iff.mp (show (dplace t ks x).map (·.isSome) = some b from h)
    subst eb
    have red : ∀ (H : Hp) (Z : Addr → Prop) (ja jb : Nat) (u v : V) (Bx By : List Addr), Own X.K H Z ja x u Bx → Own X.K H Z jb (.dct t ks xs) v By → ∃ a w, v = .ref a ∧ DGet H a u w ∧ w.isSome = o.isSome := by
      intro H Z ja jb u v Bx By ha hb
      obtain ⟨a, ev, hd⟩ := hb.read.dct
      obtain ⟨vs, hvl, g⟩ := dget_of hd.keepLen e ha.read
      exact ⟨a, _, ev, g, place_some e hvl.2⟩
    cases neg with
    | false => exact ⟨_, op_inK hu1, key fun H Z ja jb u v Bx By ha hb Q q => by obtain ⟨a, w, a1, a2, a3⟩ := red H Z ja jb u v Bx By ha hb; exact ⟨a, w, a1, a2, by rw [a3]; exact q⟩⟩
    | true => exact ⟨_, op_notInK hu1, key fun H Z ja jb u v Bx By ha hb Q q => by obtain ⟨a, w, a1, a2, a3⟩ := red H Z ja jb u v Bx By ha hb; exact ⟨a, w, a1, a2, by rw [a3]; exact q⟩⟩
  | lst ys =>
    obtain ⟨p, e1, h⟩ := Option.bind_eq_some_iff.mp (show (toPy x).bind (fun p => (toPys ys).bind fun qs => if pyOk p = true ∧ pyOk (.list qs) = true then some (qs.any fun z => PyData.eqv z p) else none) = some b from h)
    obtain ⟨qs, e2, h⟩ := Option.bind_eq_some_iff.mp h
    split at h
    · rename_i hc
      cases h
      have red : ∀ (H : Hp) (Z : Addr → Prop) (ja jb : Nat) (u v : V) (Bx By : List Addr), Own X.K H Z ja x u Bx → Own X.K H Z jb (.lst ys) v By → Dp X.K H u p ∧ Dp X.K H v (.list qs) ∧ SeqAt.shaped p = true ∧ SeqAt.shaped (.list qs) = true := by
        intro H Z ja jb u v Bx By ha hb
        obtain ⟨a1, a2⟩ := Rep.dp x u p ha.read e1
        have et : toPy (.lst ys) = some (.list qs) := by unfold toPy; rw [e2]; rfl
        obtain ⟨b1, b2⟩ := Rep.dp _ v _ hb.read et
        exact ⟨a1, b1, shaped_of a2 (of_decide_eq_true hc.1), shaped_of b2 (of_decide_eq_true hc.2)⟩
      cases neg with
      | false => exact ⟨_, op_inD hu, key fun H Z ja jb u v Bx By ha hb Q q => by obtain ⟨a1, a2, a3, a4⟩ := red H Z ja jb u v Bx By ha hb; exact ⟨p, qs, a1, a2, a3, a4, q⟩⟩
      | true => exact ⟨_, op_notInD hu, key fun H Z ja jb u v Bx By ha hb Q q => by obtain ⟨a1, a2, a3, a4⟩ := red H Z ja jb u v Bx By ha hb; exact ⟨p, qs, a1, a2, a3, a4, q⟩⟩
    · cases h
  | tup ys => exact tups (ys := ys) rfl h
  | ktp ys => exact tups (ys := ys) rfl h
  | _ => cases h
theorem o_in (hu : X.A.units + 65 < cLine) {x y d : D} (h : dIn x y = some d) : ∃ r, OpR X (compareOp .In) r ∧ Op2At X.K r x y d k := by
  obtain ⟨b, hb, e⟩ := Option.map_eq_some_iff.mp h
  subst e
  exact o_inB hu false hb
theorem o_notin (hu : X.A.units + 65 < cLine) {x y d : D} (h : dNotIn x y = some d) : ∃ r, OpR X (compareOp .NotIn) r ∧ Op2At X.K r x y d k := by
  obtain ⟨b, hb, e⟩ := Option.map_eq_some_iff.mp h
  subst e
  exact o_inB hu true hb
end

/-! ### subscripts -/
def dIx (k : Nat) : D → D → Option D
  | .lst ds, .int i => atI ds i
  | .str s, .int i => if k = 0 then (atI s.cps.toList i).map fun c => .str ⟨#[c]⟩ else none
  | .dct t ks xs, y => (dlook t ks xs y).bind id
  | x, .int i => if k = 0 then (tupOf x).bind fun ds => atI ds i else none
  | _, _ => none
def eIx (k : Nat) (fa fb : EM) : EM := fun ρ => (fa ρ).bind fun p => (fb p.2).bind fun q => (dIx k p.1 q.1).map fun d => (d, q.2)
section
variable {K : PySem.W.Frag} {H H' : Hp} {Z Z' : Addr → Prop} {n j : Nat} {v u : V} {B : List Addr}
theorem LO.get {P : D → V → List Addr → Prop} : ∀ {ds : List D} {vs : List V} {B : List Addr} {i : Nat} {d : D}, LO P ds vs B → ds[i]? = some d → ∃ v B1, vs[i]? = some v ∧ P d v B1
  | [], vs, B, i, d, h, e => by simp at e
  | d :: ds, vs, B, 0, d', h, e => by
    obtain ⟨v, r, B1, B2, e1, h1, h2, eb⟩ := h
    have : d = d' := by simpa using e
    subst this
    exact ⟨v, B1, by rw [e1]; rfl, h1⟩
  | d :: ds, vs, B, i + 1, d', h, e => by
    obtain ⟨v, r, B1, B2, e1, h1, h2, eb⟩ := h
    obtain ⟨u, B3, h3, h4⟩ := LO.get (i := i) (d := d') h2 (by simpa using e)
    exact ⟨u, B3, by rw [e1]; simpa using h3, h4⟩
theorem atI_len {α β : Type} {xs : List α} {ys : List β} (hl : xs.length = ys.length) {i : Int} {x : α} (h : atI xs i = some x) : ∃ j, ixN xs.length i = some j ∧ xs[j]? = some x ∧ atI ys i = ys[j]? := by
  unfold atI at h ⊢
  obtain ⟨j, e1, e2⟩ := Option.bind_eq_some_iff.mp h
  exact ⟨j, e1, e2, by rw [← hl, e1]; rfl⟩
/-- the items of a list, each one owned a step less deep -/
theorem Own.items {ds : List D} (h : Own K H Z n (.lst ds) v B) : ∃ a vs B', v = .ref a ∧ SqL K H a vs ∧ vs.length = ds.length ∧ LO (Own K H Z (n - 1)) ds vs B' := by
  cases n with
  | zero =>
    have h := h.1
    unfold Rep at h
    obtain ⟨a, vs, e, _, h1, h2, h3⟩ := h
    exact ⟨a, vs, _, e, .inl h1, h3.length, LO.of_reps h3⟩
  | succ n =>
    obtain ⟨a, vs, Bs, e, h1, h2, h3, _⟩ := h
    exact ⟨a, vs, Bs, e, SqL.of h1, h3.length, h3⟩
theorem Own.vals {t : Bool} {ks xs : List D} (h : Own K H Z n (.dct t ks xs) v B) : ∃ a B', v = .ref a ∧ DAt (fun o => Rd H a o) (fun vs => LO (Own K H Z (n - 1)) xs vs B') ks t := by
  cases n with
  | zero =>
    have h := h.1
    unfold Rep at h
    obtain ⟨a, e, _, _, h1⟩ := h
    exact ⟨a, _, e, h1.imp (fun _ _ _ q => q) fun vs q => LO.of_reps q⟩
  | succ n =>
    obtain ⟨a, Bs, e, h1, h2, _⟩ := h
    exact ⟨a, Bs, e, h2.imp (fun _ _ _ q => .inl q) fun vs q => q⟩
end
section
variable {X : Cx} {e a b c : Expr} {pos : Pos} {Wa Wb oa ob : Bool} {ka kb : Nat} {fa fb : EM}
/-- an item, by values -/
def IxAt (K : PySem.W.Frag) (r : R2) (ka kb k : Nat) (x y d : D) : Prop := ∀ (H : Hp) (Z : Addr → Prop) (u v : V) (Bx By : List Addr), Own K H Z ka x u Bx → Own K H Z kb y v By → ∀ Q : VK, (∀ w B, Own K H Z k d w B → Q w H) → r u v H Q
theorem de_ix (ha : DE X a Wa oa ka fa) (hb : DE X b Wb ob kb fb) (hu : X.A.units + 1 < cLine) (hw : ka = 0 ∨ Wb = false := by first | exact .inl rfl | exact .inr rfl) (hs : PlainIx b := by exact fun _ _ => rfl) : DE X (.Subscript a b pos) (Wa || Wb) false (ka - 1) (eIx (ka - 1) fa fb) := by
  refine ⟨fun pins s σ H Q I q => ?_⟩
  obtain ⟨ρ, Z, As, rs, d, ρ', ef, q⟩ := q
  unfold eIx at ef
  obtain ⟨⟨x, ρ1⟩, e1, ef⟩ := Option.bind_eq_some_iff.mp ef
  obtain ⟨⟨y, ρ2⟩, e2, ef⟩ := Option.bind_eq_some_iff.mp ef
  obtain ⟨d', e3, ef⟩ := Option.map_eq_some_iff.mp ef
  cases ef
  have go : ∀ {r : R2}, IxAt X.K r ka kb (ka - 1) x y d → tOp r (tE X.K Wa oa ka fa) (tE X.K Wb ob kb fb) σ H Q := fun {r} hr => by
    refine ⟨ρ, Z, As, rs, x, ρ1, e1, fun u H1 Z1 As1 B1 r1 o1 c1 _ => ?_⟩
    refine ⟨ρ1, Z1, As1, r1, y, _, e2, fun v H2 Z2 As2 B2 r2 o2 c2 _ => ?_⟩
    exact hr H2 Z2 u v B1 B2 (o1.wait r1 c2 hw) o2 Q fun w B ow => q w H2 Z2 As2 B r2 ow (c1.trans rs c2) fun z => nomatch z
  have tup : ∀ {ds : List D} {i : Int}, tupOf x = some ds → y = .int i → (if ka - 1 = 0 then atI ds i else none) = some d → IxAt X.K (rIxT X.K) ka kb (ka - 1) x y d := by
    intro ds i ex ey h
    split at h
    · rename_i hk
      intro H Z u v Bx By ha hb Q q
      rw [ey] at hb
      obtain ⟨a, vs, e1, h1, h2, h3⟩ := ha.tupA ex
      obtain ⟨j, f1, f2, f3⟩ := atI_len h3.length.symm h
      obtain ⟨w, g1, g2⟩ := h3.get f2
      exact ⟨a, vs, i, w, e1, hb.int, h1, by rw [f3, g1], q w [] (by rw [hk]; exact ⟨g2, rfl⟩)⟩
    · cases h
  cases x with
  | lst ds =>
    cases y with
    | int i =>
      refine (pe_ix ix_list ha hb hs).run pins s σ H Q I (go ?_)
      intro H Z u v Bx By ha hb Q q
      obtain ⟨a, vs, B', ev, h1, h2, h3⟩ := ha.items
      obtain ⟨j, f1, f2, f3⟩ := atI_len h2.symm (show atI ds i = some d from e3)
      obtain ⟨w, B1, g1, g2⟩ := h3.get f2
      exact ⟨a, vs, i, w, ev, hb.int, h1, by rw [f3, g1], q w B1 g2⟩
    | _ => cases e3
  | str z =>
    cases y with
    | int i =>
      have e3 : (if ka - 1 = 0 then (atI z.cps.toList i).map (fun c => D.str ⟨#[c]⟩) else none) = some d := e3
      split at e3
      · rename_i hk
        obtain ⟨c, f1, f2⟩ := Option.map_eq_some_iff.mp e3
        refine (pe_ix ix_str ha hb hs).run pins s σ H Q I (go ?_)
        intro H Z u v Bx By ha hb Q q
        obtain ⟨g1, g2⟩ := ha.str
        refine ⟨z, i, c, g1, hb.int, okS_len g2, f1, q _ [] ?_⟩
        rw [← f2]
        refine ow_str ?_
        unfold okS at g2 ⊢
        rw [Bool.and_eq_true] at g2 ⊢
        refine ⟨decide_eq_true (by show 1 ≤ sizeLine; decide), ?_⟩
        have hm : c ∈ z.cps := by
          obtain ⟨j, _, q2, _⟩ := atI_len (ys := z.cps.toList) rfl f1
          have := List.mem_of_getElem? q2
          simpa using this
        have := (Array.all_eq_true_iff_forall_mem.mp g2.2) c hm
        simpa using this
      · cases e3
    | _ => cases e3
  | dct t ks xs =>
    have e3 : (dlook t ks xs y).bind id = some d := by cases y <;> exact e3
    obtain ⟨o, f1, f2⟩ := Option.bind_eq_some_iff.mp e3
    have f2 : o = some d := f2
    subst f2
    unfold dlook at f1
    obtain ⟨pl, f3, f4⟩ := Option.map_eq_some_iff.mp f1
    have hr : IxAt X.K (fun x y H Q => ∃ a v, x = .ref a ∧ DGet H a y (some v) ∧ Q v H) ka kb (ka - 1) (.dct t ks xs) y d := by
      intro H Z u v Bx By ha hb Q q
      obtain ⟨a, B', ev, hd⟩ := ha.vals
      obtain ⟨vs, g1, g2⟩ := dget_of hd f3 hb.read
      obtain ⟨i, h1, h2⟩ := Option.bind_eq_some_iff.mp f4
      obtain ⟨w, B1, h3, h4⟩ := g1.get h2
      rw [h1] at g2
      have g2 : DGet H a v (vs[i]?) := g2
      rw [h3] at g2
      exact ⟨a, w, ev, g2, q w B1 h4⟩
    exact (pe_dget hu ha hb hs).run pins s σ H Q I (go hr)
  | tup ds =>
    cases y with
    | int i => exact (pe_ix ix_tup ha hb hs).run pins s σ H Q I (go (tup rfl rfl e3))
    | _ => cases e3
  | ktp ds =>
    cases y with
    | int i => exact (pe_ix ix_tup ha hb hs).run pins s σ H Q I (go (tup rfl rfl e3))
    | _ => cases e3
  | _ => cases y <;> first | cases e3 | (exfalso; revert e3; simp [dIx, tupOf])
end
end DL
/-! DL6: slices; built-ins: len, isinstance, abs, int, max, min, sum, any, all, list, tuple, range -/
namespace DL
open PySem PySem.Spec PyProof.Rows L2

/-! ### slices -/
def cutD {α : Type} (xs : List α) (lo hi : Option Int) : List α := (xs.drop (HT.sIx xs.length 0 lo)).take (HT.sIx xs.length xs.length hi - HT.sIx xs.length 0 lo)
def dSl (lo hi : Option Int) : D → Option D
  | .lst ds => some (.lst (cutD ds lo hi))
  | .str s => some (.str (cutS s lo hi))
  | x => (tupOf x).map fun ds => if HT.sIx ds.length 0 lo = 0 ∧ HT.sIx ds.length ds.length hi = ds.length then x else .tup (cutD ds lo hi)
abbrev OM := Env → Option (Option Int × Env)
def oNo : OM := fun ρ => some (none, ρ)
def oSo (f : EM) : OM := fun ρ => (f ρ).bind fun p => match p.1 with | .int i => some (some i, p.2) | _ => none
def eSl (f : EM) (l h : OM) : EM := fun ρ => (f ρ).bind fun p => (l p.2).bind fun q => (h q.2).bind fun r => (dSl q.1 r.1 p.1).map fun d => (d, r.2)
section
variable {X : Cx} {e a b c : Expr} {lo hi : Option Expr} {pos p2 : Pos} {W Wa Wb We Wl Wh oa ob o : Bool} {ka kb k : Nat} {f fa fb : EM} {fl fh : OM}
def tOI (K : PySem.W.Frag) (W : Bool) (f : OM) : TO := fun σ H Q => ∃ ρ Z As, RS K ρ σ H Z As ∧ ∃ i ρ', f ρ = some (i, ρ') ∧ ∀ H' Z' As', RS K ρ' σ H' Z' As' → Chg W H Z As H' Z' As' → Q i H'
abbrev DO (X : Cx) (e : Option Expr) (W : Bool) (f : OM) : Prop := PO X e (tOI X.K W f)
theorem do_no : DO X none false oNo := ⟨fun pins s σ H Q I h => po_none.run pins s σ H Q I (by
  obtain ⟨ρ, Z, As, r, i, ρ', ef, q⟩ := h
  cases ef
  exact q H Z As r Chg.refl)⟩
theorem do_so (h : DE X e W o k f) : DO X (some e) W (oSo f) := ⟨fun pins s σ H Q I q => (po_some h).run pins s σ H Q I (by
  obtain ⟨ρ, Z, As, r, i, ρ', ef, q⟩ := q
  unfold oSo at ef
  obtain ⟨⟨d, ρ1⟩, e1, ef⟩ := Option.bind_eq_some_iff.mp ef
  cases d with
  | int j =>
    cases ef
    exact ⟨ρ, Z, As, r, _, _, e1, fun v H' Z' As' B r' ow c _ => ⟨j, ow.int, q H' Z' As' r' c⟩⟩
  | _ => cases ef)⟩
theorem Reps.cut {K : PySem.W.Frag} {H : Hp} {Z : Addr → Prop} {ds : List D} {vs : List V} (h : Reps K H Z ds vs) (lo hi : Option Int) : Reps K H Z (cutD ds lo hi) (cutV vs lo hi) := by
  unfold cutD cutV
  rw [h.length]
  exact (h.drop _).take _
theorem okS_cut {s : Str} (h : okS s = true) (lo hi : Option Int) : okS (cutS s lo hi) = true := by
  unfold okS at *
  rw [Bool.and_eq_true] at *
  refine ⟨decide_eq_true (Nat.le_trans (cutS_length s lo hi) (of_decide_eq_true h.1)), ?_⟩
  rw [Array.all_eq_true_iff_forall_mem] at *
  intro c hc
  refine h.2 c ?_
  have hc : c ∈ ((s.cps.toList.drop (HT.sIx s.length 0 lo)).take (HT.sIx s.length s.length hi - HT.sIx s.length 0 lo)).toArray := hc
  rw [List.mem_toArray] at hc
  have := List.mem_of_mem_drop (List.mem_of_mem_take hc)
  simpa using this
def SlAt (K : PySem.W.Frag) (r : V → Option Int → Option Int → Hp → VK → Prop) (x : D) (lo hi : Option Int) (d : D) (k : Nat) : Prop := ∀ (H : Hp) (Z : Addr → Prop) (j : Nat) (u : V) (B : List Addr), (∀ a, Z a → H a ≠ none) → j ≤ 1 → Own K H Z j x u B →
  ∀ Q : VK, (∀ w H' Z' B, Gr H Z H' Z' B → Own K H' Z' k d w B → Q w H') → r u lo hi H Q
theorem o_sl {x d : D} {lo hi : Option Int} (h : dSl lo hi x = some d) : ∃ r, SlR X r ∧ SlAt X.K r x lo hi d 1 := by
  have tups : ∀ {ds : List D}, tupOf x = some ds → isFl x = true → (if HT.sIx ds.length 0 lo = 0 ∧ HT.sIx ds.length ds.length hi = ds.length then x else .tup (cutD ds lo hi)) = d → ∃ r, SlR X r ∧ SlAt X.K r x lo hi d 1 := by
    intro ds ex hf e
    refine ⟨_, sl_tupA, fun H Z j u B zd hj ha Q q => ?_⟩
    obtain ⟨a, vs, e1, h1, h2, h3⟩ := ha.tupA ex
    refine ⟨a, vs, e1, h1, fun hw => ?_, fun hw p hp => ?_⟩
    · rw [h3.length] at hw
      rw [if_pos hw] at e
      rw [← e1, ← e] at *
      exact q u H Z [] (Gr.refl zd) (Own.of_rep (ha.to_rep hf).1 hf)
    · rw [h3.length] at hw
      rw [if_neg hw] at e
      rw [← e] at *
      have g : Gr H Z (upd H p (.tup (cutV vs lo hi))) Z [] := Gr.tup zd hp
      refine q (.ref p) _ Z [] g (Own.of_rep ?_ rfl)
      unfold Rep
      exact ⟨p, _, rfl, upd_same, Nat.le_trans (cutV_length vs lo hi) h2, g.reps (h3.cut lo hi)⟩
  cases x with
  | lst ds =>
    have h : some (D.lst (cutD ds lo hi)) = some d := h
    cases h
    refine ⟨_, sl_list, fun H Z j u B zd hj ha Q q => ?_⟩
    obtain ⟨a, vs, e1, h1, h2, h3⟩ := ha.lst1 hj
    refine ⟨a, vs, e1, .inl h1, fun p hp => ?_⟩
    have g : Gr H Z (upd H p (.lst (cutV vs lo hi))) Z [p] := Gr.own zd hp trivial
    exact q (.ref p) _ Z [p] g ⟨p, _, [], rfl, upd_same, Nat.le_trans (cutV_length vs lo hi) h2, LO.of_reps (g.reps (h3.cut lo hi)), rfl⟩
  | str s =>
    have h : some (D.str (cutS s lo hi)) = some d := h
    cases h
    refine ⟨_, sl_str, fun H Z j u B zd hj ha Q q => ?_⟩
    obtain ⟨e1, k1⟩ := ha.str
    exact ⟨s, e1, okS_len k1, q _ H Z [] (Gr.refl zd) (ow_str (okS_cut k1 lo hi))⟩
  | tup ds =>
    have h : some (if HT.sIx ds.length 0 lo = 0 ∧ HT.sIx ds.length ds.length hi = ds.length then D.tup ds else .tup (cutD ds lo hi)) = some d := h
    exact tups rfl rfl (Option.some.inj h)
  | ktp ds =>
    have h : some (if HT.sIx ds.length 0 lo = 0 ∧ HT.sIx ds.length ds.length hi = ds.length then D.ktp ds else .tup (cutD ds lo hi)) = some d := h
    exact tups rfl rfl (Option.some.inj h)
  | _ => cases h
theorem de_slice (he : DE X e We o k f) (hl : DO X lo false fl) (hh : DO X hi false fh) (hk : k ≤ 1 := by decide) : DE X (.Subscript e (.Slice lo hi none p2) pos) We true 1 (eSl f fl fh) := by
  refine ⟨fun pins s σ H Q I q => ?_⟩
  obtain ⟨ρ, Z, As, r, d, ρ', ef, q⟩ := q
  unfold eSl at ef
  obtain ⟨⟨x, ρ1⟩, e1, ef⟩ := Option.bind_eq_some_iff.mp ef
  obtain ⟨⟨i, ρ2⟩, e2, ef⟩ := Option.bind_eq_some_iff.mp ef
  obtain ⟨⟨j, ρ3⟩, e3, ef⟩ := Option.bind_eq_some_iff.mp ef
  obtain ⟨d', e4, ef⟩ := Option.map_eq_some_iff.mp ef
  cases ef
  obtain ⟨rr, ho, hr⟩ := o_sl (X := X) e4
  refine (pe_slice ho he hl hh).run pins s σ H Q I ?_
  refine ⟨ρ, Z, As, r, x, ρ1, e1, fun u H1 Z1 As1 B1 r1 o1 c1 _ => ?_⟩
  refine ⟨ρ1, Z1, As1, r1, i, ρ2, e2, fun H2 Z2 As2 r2 c2 => ?_⟩
  refine ⟨ρ2, Z2, As2, r2, j, _, e3, fun H3 Z3 As3 r3 c3 => ?_⟩
  refine hr H3 Z3 k u B1 r3.zd hk ((o1.wait r1 c2 (.inr rfl)).wait r2 c3 (.inr rfl)) Q fun w H4 Z4 B g o4 => ?_
  have c : Chg We H Z As H3 Z3 As3 := by
    have := (c1.trans r c2).trans r c3
    simpa using this
  refine q w H4 Z4 As3 B (r3.gr g) o4 ?_ fun _ => Sep.gr r3 c g
  have := c.trans r (Chg.gr (W := false) (As := As3) g)
  simpa using this
/-- xs[::-1] of a list -/
def eRevL (f : EM) : EM := fun ρ => (f ρ).bind fun p => match p.1 with | .lst ds => some (.lst ds.reverse, p.2) | _ => none
theorem de_revL {n : Nat} {p1 p3 : Pos} (he : DE X e We o k f) (hk : k ≤ 1 := by decide) : DE X (.Subscript e (.Slice none none (some (.UnaryOp .USub (.Constant (.int 1) n p1) p2)) p3) pos) We true 1 (eRevL f) := PE.conv (pe_revL he) fun σ H Q q => by
  obtain ⟨ρ, Z, As, r, d, ρ', ef, q⟩ := q
  unfold eRevL at ef
  obtain ⟨⟨x, ρ1⟩, e1, ef⟩ := Option.bind_eq_some_iff.mp ef
  cases x with
  | lst ds =>
    cases ef
    refine ⟨ρ, Z, As, r, _, _, e1, fun u H1 Z1 As1 B1 r1 o1 c1 _ => ?_⟩
    obtain ⟨a, vs, ea, h1, h2, h3⟩ := o1.lst1 hk
    refine ⟨a, vs, ea, .inl h1, fun p hp => ?_⟩
    have g : Gr H1 Z1 (upd H1 p (.lst vs.reverse)) Z1 [p] := Gr.own r1.zd hp trivial
    refine q (.ref p) _ Z1 As1 [p] (r1.gr g) ⟨p, _, [], rfl, upd_same, by rw [List.length_reverse]; exact h2, LO.of_reps (g.reps h3.reverse), rfl⟩ ?_ fun _ => Sep.gr r1 c1 g
    have := c1.trans r (Chg.gr (W := false) (As := As1) g)
    simpa using this
  | _ => cases ef
end

/-! ### built-ins by name -/
section
variable {X : Cx} {K : PySem.W.Frag} {k : Nat}
theorem one_own {H : Hp} {Z : Addr → Prop} {ks : List Nat} {x : D} {vs : List V} (h : Owns K H Z ks [x] vs) : ∃ v n B, vs = [v] ∧ ks = [n] ∧ Own K H Z n x v B := by
  match ks, h with
  | [], h => cases h.1
  | [n], h =>
    obtain ⟨d, dr, v, vr, B, e1, e2, h1, h2⟩ := h
    cases e1
    rw [h2.2] at e2
    exact ⟨v, n, B, e2, rfl, h1⟩
  | n :: m :: ks, h =>
    obtain ⟨d, dr, v, vr, B, e1, e2, h1, h2⟩ := h
    cases e1
    obtain ⟨_, _, _, _, _, e3, _⟩ := h2
    cases e3
theorem two_own {H : Hp} {Z : Addr → Prop} {ks : List Nat} {x y : D} {vs : List V} (h : Owns K H Z ks [x, y] vs) : ∃ u v n m B B', vs = [u, v] ∧ ks = [n, m] ∧ Own K H Z n x u B ∧ Own K H Z m y v B' := by
  match ks, h with
  | [], h => cases h.1
  | n :: ks, h =>
    obtain ⟨d, dr, v, vr, B, e1, e2, h1, h2⟩ := h
    cases e1
    obtain ⟨w, m, B', f1, f2, f3⟩ := one_own h2
    exact ⟨v, w, n, m, B, B', by rw [e2, f1], by rw [f2], h1, f3⟩
/-- len -/
def dLen : List D → Option D
  | [.lst ds] => some (.int ds.length)
  | [.str s] => some (.int s.length)
  | [.dct _ ks _] => some (.int ks.length)
  | [x] => (tupOf x).map fun ds => .int ds.length
  | _ => none
theorem call_lenD2 : CallR X (.builtin "len") (fun xs H Q => ∃ a kvs, xs = [V.ref a] ∧ Rd H a (.dK kvs) ∧ Q (.int kvs.length) H) := by
  intro pins s σ H xs us Q I r h
  obtain ⟨a, kvs, rfl, hr, q⟩ := h
  obtain ⟨u, rfl, rx⟩ := vals1 r
  obtain rfl : u = Value.ref a := rx
  exact d_len I hr fun t s' I' => ⟨.int kvs.length, H, I', ⟨t, rfl⟩, q⟩
def rLenT2 : List V → Hp → VK → Prop := fun xs H Q => ∃ (p : Addr) (kvs : List (List Key × V)), xs = [.ref p] ∧ Rd H p (.dT kvs) ∧ Q (.int ((kvs.length : Nat) : Int)) H
theorem call_lenT2 : CallR X (.builtin "len") rLenT2 := by
  intro pins s σ H xs us Q I r h
  obtain ⟨p, kvs, rfl, hp, q⟩ := h
  obtain ⟨u, rfl, rx⟩ := vals1 r
  obtain rfl : u = .ref p := rx
  obtain ⟨z, hd, ys, rel, dd⟩ := dt_rd I.hok hp
  have hl : kvs.length = ys.length := Paired.length rel
  refine call_len_dictH hd dd (by rw [← hl]; have := sizeLine_eq; omega) ?_
  exact ⟨.int _, H, (I.tok _).tok _, ⟨_, by rw [hl]⟩, q⟩
theorem o_len {ds : List D} {d : D} (h : dLen ds = some d) : ∃ r, CallR X (.builtin "len") r ∧ CallAt X.K r ds d k := by
  have tups : ∀ {x : D} {es : List D}, tupOf x = some es → ds = [x] → d = .int es.length → ∃ r, CallR X (.builtin "len") r ∧ CallAt X.K r ds d k := by
    intro x es ex e1 e2
    subst e1 e2
    refine ⟨_, call_len_seq, fun H Z ks vs zd hk os Q q => ?_⟩
    obtain ⟨v, n, B, rfl, rfl, ow⟩ := one_own os
    obtain ⟨a, ws, e1, h1, h2, h3⟩ := ow.tupA ex
    exact ⟨a, ws, by rw [e1], .inr h1, by rw [h3.length]; exact q _ H Z [] (Gr.refl zd) ow_int⟩
  match ds, h with
  | [.lst es], h =>
    have h : some (D.int es.length) = some d := h
    cases h
    refine ⟨_, call_len_seq, fun H Z ks vs zd hk os Q q => ?_⟩
    obtain ⟨v, n, B, rfl, rfl, ow⟩ := one_own os
    obtain ⟨a, ws, B', e1, h1, h2, h3⟩ := ow.items
    exact ⟨a, ws, by rw [e1], .inl h1, by rw [h2]; exact q _ H Z [] (Gr.refl zd) ow_int⟩
  | [.str s], h =>
    have h : some (D.int s.length) = some d := h
    cases h
    refine ⟨_, call_len_str, fun H Z ks vs zd hk os Q q => ?_⟩
    obtain ⟨v, n, B, rfl, rfl, ow⟩ := one_own os
    obtain ⟨e1, k1⟩ := ow.str
    exact ⟨s, by rw [e1], okS_len k1, q _ H Z [] (Gr.refl zd) ow_int⟩
  | [.dct false kk xs], h =>
    have h : some (D.int kk.length) = some d := h
    cases h
    refine ⟨_, call_lenD2, fun H Z ks vs zd hk os Q q => ?_⟩
    obtain ⟨v, n, B, rfl, rfl, ow⟩ := one_own os
    obtain ⟨a, ev, ps, h1, h2, h3⟩ := ow.read.dct
    have hl : kk.length = ps.length := by simpa using congrArg List.length h2
    exact ⟨a, ps, by rw [ev], h1, by rw [← hl]; exact q _ H Z [] (Gr.refl zd) ow_int⟩
  | [.dct true kk xs], h =>
    have h : some (D.int kk.length) = some d := h
    cases h
    refine ⟨_, call_lenT2, fun H Z ks vs zd hk os Q q => ?_⟩
    obtain ⟨v, n, B, rfl, rfl, ow⟩ := one_own os
    obtain ⟨a, ev, ps, h1, h2, h3⟩ := ow.read.dct
    have hl : kk.length = ps.length := by simpa using congrArg List.length h2
    exact ⟨a, ps, by rw [ev], h1, by rw [← hl]; exact q _ H Z [] (Gr.refl zd) ow_int⟩
  | [.tup es], h => exact tups (x := .tup es) (es := es) rfl rfl (by cases h; rfl)
  | [.ktp es], h => exact tups (x := .ktp es) (es := es) rfl rfl (by cases h; rfl)
  | [.non], h => cases h
  | [.bl _], h => cases h
  | [.int _], h => cases h
  | [.rng _ _], h => cases h
  | [.ty _], h => cases h
  | [], h => cases h
  | _ :: _ :: _, h => simp [dLen] at h
/-- abs, int, max, min of two -/
def dAbs : List D → Option D
  | [.int i] => some (.int (if i < 0 then -i else i))
  | _ => none
theorem o_abs {ds : List D} {d : D} (h : dAbs ds = some d) : ∃ r, CallR X (.builtin "abs") r ∧ CallAt X.K r ds d k := by
  unfold dAbs at h
  split at h
  · cases h
    refine ⟨_, call_abs, fun H Z ks vs zd hk os Q q => ?_⟩
    obtain ⟨v, n, B, rfl, rfl, ow⟩ := one_own os
    exact ⟨_, by rw [ow.int], q _ H Z [] (Gr.refl zd) ow_int⟩
  · cases h
def dIntC : List D → Option D
  | [.int i] => some (.int i)
  | [.bl b] => some (.int (if b then 1 else 0))
  | _ => none
theorem o_int {ds : List D} {d : D} (h : dIntC ds = some d) : ∃ r, CallR X (.type "int") r ∧ CallAt X.K r ds d k := by
  unfold dIntC at h
  split at h
  · cases h
    refine ⟨_, call_int1, fun H Z ks vs zd hk os Q q => ?_⟩
    obtain ⟨v, n, B, rfl, rfl, ow⟩ := one_own os
    exact .inl ⟨_, by rw [ow.int], q _ H Z [] (Gr.refl zd) ow_int⟩
  · cases h
    refine ⟨_, call_int1, fun H Z ks vs zd hk os Q q => ?_⟩
    obtain ⟨v, n, B, rfl, rfl, ow⟩ := one_own os
    exact .inr ⟨_, by rw [ow.bl], q _ H Z [] (Gr.refl zd) ow_int⟩
  · cases h
def dMax2 : List D → Option D
  | [.int i, .int j] => some (.int (if j > i then j else i))
  | _ => none
def dMin2 : List D → Option D
  | [.int i, .int j] => some (.int (if j < i then j else i))
  | _ => none
theorem o_max2 (hc : X.calm = true) {ds : List D} {d : D} (h : dMax2 ds = some d) : ∃ r, CallR X (.builtin "max") r ∧ CallAt X.K r ds d k := by
  unfold dMax2 at h
  split at h
  · cases h
    refine ⟨_, call_max2 hc, fun H Z ks vs zd hk os Q q => ?_⟩
    obtain ⟨u, v, n, m, B, B', rfl, rfl, o1, o2⟩ := two_own os
    exact ⟨_, _, by rw [o1.int, o2.int], q _ H Z [] (Gr.refl zd) ow_int⟩
  · cases h
theorem o_min2 (hc : X.calm = true) {ds : List D} {d : D} (h : dMin2 ds = some d) : ∃ r, CallR X (.builtin "min") r ∧ CallAt X.K r ds d k := by
  unfold dMin2 at h
  split at h
  · cases h
    refine ⟨_, call_min2 hc, fun H Z ks vs zd hk os Q q => ?_⟩
    obtain ⟨u, v, n, m, B, B', rfl, rfl, o1, o2⟩ := two_own os
    exact ⟨_, _, by rw [o1.int, o2.int], q _ H Z [] (Gr.refl zd) ow_int⟩
  · cases h
/-- a list of allBools, of allInts -/
def allBools : List D → Option (List Bool)
  | [] => some []
  | .bl b :: r => (allBools r).map (b :: ·)
  | _ => none
def allInts : List D → Option (List Int)
  | [] => some []
  | .int b :: r => (allInts r).map (b :: ·)
  | _ => none
theorem allBools_vals {H : Hp} {Z : Addr → Prop} : ∀ {ds : List D} {bs : List Bool} {vs : List V}, allBools ds = some bs → Reps K H Z ds vs → vs = bs.map V.bl
  | [], bs, vs, e, h => by cases e; unfold Reps at h; exact h
  | d :: ds, bs, vs, e, h => by
    cases d with
    | bl b =>
      obtain ⟨br, e1, e2⟩ := Option.map_eq_some_iff.mp (show (allBools ds).map (b :: ·) = some bs from e)
      unfold Reps at h
      obtain ⟨v, r, rfl, h1, h2⟩ := h
      unfold Rep at h1
      rw [h1, allBools_vals e1 h2, ← e2]
      rfl
    | _ => cases e
theorem allInts_vals {H : Hp} {Z : Addr → Prop} : ∀ {ds : List D} {bs : List Int} {vs : List V}, allInts ds = some bs → Reps K H Z ds vs → vs = bs.map V.int
  | [], bs, vs, e, h => by cases e; unfold Reps at h; exact h
  | d :: ds, bs, vs, e, h => by
    cases d with
    | int b =>
      obtain ⟨br, e1, e2⟩ := Option.map_eq_some_iff.mp (show (allInts ds).map (b :: ·) = some bs from e)
      unfold Reps at h
      obtain ⟨v, r, rfl, h1, h2⟩ := h
      unfold Rep at h1
      rw [h1, allInts_vals e1 h2, ← e2]
      rfl
    | _ => cases e
def dAny : List D → Option D
  | [.lst ds] => (allBools ds).map fun bs => .bl (bs.any id)
  | _ => none
def dAll : List D → Option D
  | [.lst ds] => (allBools ds).map fun bs => .bl (bs.all id)
  | _ => none
def dSum : List D → Option D
  | [.lst ds] => (allInts ds).map fun bs => .int bs.sum
  | _ => none
theorem o_any (hc : X.calm = true) {ds : List D} {d : D} (h : dAny ds = some d) : ∃ r, CallR X (.builtin "any") r ∧ CallAt X.K r ds d k := by
  unfold dAny at h
  split at h
  · obtain ⟨bs, e1, e2⟩ := Option.map_eq_some_iff.mp h
    subst e2
    refine ⟨_, cr_any hc, fun H Z ks vs zd hk os Q q => ?_⟩
    obtain ⟨v, n, B, rfl, rfl, ow⟩ := one_own os
    obtain ⟨a, ws, ev, h1, h2, h3⟩ := ow.lst1 (hk n (by simp))
    exact ⟨a, bs, by rw [ev], .inl (by rw [← allBools_vals e1 h3]; exact h1), q _ H Z [] (Gr.refl zd) ow_bl⟩
  · cases h
theorem o_all (hc : X.calm = true) {ds : List D} {d : D} (h : dAll ds = some d) : ∃ r, CallR X (.builtin "all") r ∧ CallAt X.K r ds d k := by
  unfold dAll at h
  split at h
  · obtain ⟨bs, e1, e2⟩ := Option.map_eq_some_iff.mp h
    subst e2
    refine ⟨_, cr_all hc, fun H Z ks vs zd hk os Q q => ?_⟩
    obtain ⟨v, n, B, rfl, rfl, ow⟩ := one_own os
    obtain ⟨a, ws, ev, h1, h2, h3⟩ := ow.lst1 (hk n (by simp))
    exact ⟨a, bs, by rw [ev], .inl (by rw [← allBools_vals e1 h3]; exact h1), q _ H Z [] (Gr.refl zd) ow_bl⟩
  · cases h
theorem o_sum (hc : X.calm = true) {ds : List D} {d : D} (h : dSum ds = some d) : ∃ r, CallR X (.builtin "sum") r ∧ CallAt X.K r ds d k := by
  unfold dSum at h
  split at h
  · obtain ⟨bs, e1, e2⟩ := Option.map_eq_some_iff.mp h
    subst e2
    refine ⟨_, cr_sum hc, fun H Z ks vs zd hk os Q q => ?_⟩
    obtain ⟨v, n, B, rfl, rfl, ow⟩ := one_own os
    obtain ⟨a, ws, ev, h1, h2, h3⟩ := ow.lst1 (hk n (by simp))
    exact ⟨a, bs, by rw [ev], .inl (by rw [← allInts_vals e1 h3]; exact h1), q _ H Z [] (Gr.refl zd) ow_int⟩
  · cases h
/-- range(n), range(a, b) as a value -/
theorem cr_range1 : CallR X (.type "range") (fun vs H Q => ∃ j, vs = [V.int j] ∧ ∀ p, H p = none → Q (.ref p) (upd H p (.rng 0 j))) := by
  intro pins s σ H vs us Q I r h
  obtain ⟨j, rfl, q⟩ := h
  obtain ⟨u, rfl, ri⟩ := vals1 r
  obtain ⟨t, rfl⟩ := ri
  refine call_range_1 ⟨.ref s.heap.objs.size, upd H s.heap.objs.size (.rng 0 j), I.laid (t' := s.toks + 2) (fun b o e => Heap.get?_push_of_some _ e) (Nat.le_refl _) ?_, rfl, q _ (I.hok.fresh (Nat.le_refl _))⟩
  exact ⟨_, _, _, Heap.get?_push_size _ rfl⟩
def rngOk (i j : Int) : Bool := decide (-(2 ^ 62) ≤ i ∧ i < 2 ^ 62 ∧ -(2 ^ 62) ≤ j ∧ j < 2 ^ 62)
def dRange : List D → Option D
  | [.int j] => if rngOk 0 j = true then some (.rng 0 j) else none
  | [.int i, .int j] => if rngOk i j = true then some (.rng i j) else none
  | _ => none
theorem o_range {ds : List D} {d : D} (h : dRange ds = some d) : ∃ r, CallR X (.type "range") r ∧ CallAt X.K r ds d k := by
  unfold dRange at h
  split at h
  · split at h
    · rename_i j hb
      cases h
      refine ⟨_, cr_range1, fun H Z ks vs zd hk os Q q => ?_⟩
      obtain ⟨v, n, B, rfl, rfl, ow⟩ := one_own os
      refine ⟨j, by rw [ow.int], fun p hp => ?_⟩
      have g : Gr H Z (upd H p (.rng 0 j)) Z [] := Gr.tup zd hp
      refine q (.ref p) _ Z [] g (Own.of_rep ?_ rfl)
      unfold Rep
      exact ⟨p, rfl, upd_same, of_decide_eq_true hb⟩
    · cases h
  · split at h
    · rename_i i j hb
      cases h
      refine ⟨_, cr_range2, fun H Z ks vs zd hk os Q q => ?_⟩
      obtain ⟨u, v, n, m, B, B', rfl, rfl, o1, o2⟩ := two_own os
      refine ⟨i, j, by rw [o1.int, o2.int], fun p hp => ?_⟩
      have g : Gr H Z (upd H p (.rng i j)) Z [] := Gr.tup zd hp
      refine q (.ref p) _ Z [] g (Own.of_rep ?_ rfl)
      unfold Rep
      exact ⟨p, rfl, upd_same, of_decide_eq_true hb⟩
    · cases h
  · cases h
end
end DL
/-! DL7: isinstance, list, tuple; the items that a loop walks -/
namespace DL
open PySem PySem.Spec PyProof.Rows L2

/-! ### isinstance -/
def tyOfD : D → Option String
  | .non => some "NoneType"
  | .bl _ => some "bool"
  | .int _ => some "int"
  | .str _ => some "str"
  | .tup _ => some "tuple"
  | .ktp _ => some "tuple"
  | .lst _ => some "list"
  | .dct _ _ _ => some "dict"
  | _ => none
def isTy (a b : String) : Option Bool := if b = "int" ∨ b = "bool" ∨ b = "str" ∨ b = "list" ∨ b = "tuple" ∨ b = "dict" then some (a == b || (a == "bool" && b == "int")) else none
theorem isTy_kit {a b : String} {r : Bool} (ha : a = "NoneType" ∨ a = "bool" ∨ a = "int" ∨ a = "str" ∨ a = "tuple" ∨ a = "list" ∨ a = "dict") (h : isTy a b = some r) : kitB a b = some r := by
  unfold isTy at h
  split at h
  · rename_i hb
    cases h
    rcases ha with rfl | rfl | rfl | rfl | rfl | rfl | rfl <;> rcases hb with rfl | rfl | rfl | rfl | rfl | rfl <;> decide +kernel
  · cases h
theorem tyOfD_in {d : D} {a : String} (h : tyOfD d = some a) : a = "NoneType" ∨ a = "bool" ∨ a = "int" ∨ a = "str" ∨ a = "tuple" ∨ a = "list" ∨ a = "dict" := by
  cases d <;> cases h <;> simp
section
variable {X : Cx} {K : PySem.W.Frag} {k : Nat}
/-- what the library's isinstance asks of a value that stands for data -/
theorem kit_D {pins : List (Addr × Obj)} {σ : L2.St} {H : Hp} {Z : Addr → Prop} {s : Shared} {d : D} {x : V} {u : Value} {a : String} (I : Inv X pins σ H s) (rx : RelV x u) (h : Rep X.K H Z d x) (e : tyOfD d = some a) :
    ∃ P : Heap → Prop, PySem.W.KitX X.K u (.type a) P ∧ P s.heap ∧ u ≠ .builtin "__main__.__loader__#opaque" := by
  have tyx : TyX X.K H x (.type a) → _ := kit_of I rx
  cases d with
  | non => cases e; unfold Rep at h; subst h; exact tyx (.base .non)
  | bl b => cases e; unfold Rep at h; subst h; exact tyx (.base (.bl b))
  | int b => cases e; unfold Rep at h; subst h; exact tyx (.base (.int b))
  | str b => cases e; unfold Rep at h; obtain ⟨h, _⟩ := h; subst h; exact tyx (.base (.str b))
  | tup b => cases e; unfold Rep at h; obtain ⟨p, vs, rfl, h1, _⟩ := h; exact tyx (.base (.tup h1))
  | ktp b =>
    cases e; unfold Rep at h; obtain ⟨p, vs, rfl, ⟨o, its, n, h1, h2, _⟩, _⟩ := h
    exact tyx (.kTuple h1 h2)
  | lst b =>
    cases e; unfold Rep at h; obtain ⟨p, vs, rfl, _, h1, _⟩ := h
    rcases h1 with h1 | ⟨o, h1⟩
    · exact tyx (.base (.lst h1))
    · exact tyx (.base (.frz h1))
  | dct t ks xs =>
    cases e; unfold Rep at h; obtain ⟨p, rfl, _, _, h1⟩ := h
    cases t with
    | false =>
      obtain ⟨ps, h1, _⟩ := h1
      rcases h1 with h1 | ⟨o, h1⟩
      · exact tyx (.base (.dK h1))
      · exact tyx (.fDict h1)
    | true =>
      obtain ⟨ps, h1, _⟩ := h1
      rcases h1 with h1 | ⟨o, h1⟩
      · exact tyx (.base (.dT h1))
      · cases (show u = Value.ref p from rx)
        obtain ⟨_, _, _, xs, _, o2, es, ep, h3, h4, _⟩ := (show ObjOk X.prog X.w H s.heap p (.frz o (.dT ps)) from I.hok p _ h1)
        exact ⟨_, PySem.W.kitx_dict, ⟨o2, h3, h4.1⟩, fun z => nomatch z⟩
  | _ => cases e
def rIsD (K : PySem.W.Frag) : List V → Hp → VK → Prop := fun xs H Q => ∃ (x : V) (n a : String) (d : D) (Z : Addr → Prop) (b : Bool), xs = [x, .ty n] ∧ Rep K H Z d x ∧ tyOfD d = some a ∧ isTy a n = some b ∧ Q (.bl b) H
theorem call_isD : CallR X (.builtin "isinstance") (rIsD X.K) := by
  intro pins s σ H xs us Q I r h
  obtain ⟨x, n, a, d, Z, b, rfl, hx, e1, e2, q⟩ := h
  obtain ⟨u1, u2, rfl, r1, r2⟩ := vals2 r
  cases (show u2 = Value.type n from r2)
  obtain ⟨P, Z', p, hn⟩ := kit_D I r1 hx e1
  exact PySem.W.kia_one Z' I.kIn p (kit_ty (isTy_kit (tyOfD_in e1) e2)) hn fun tk => ⟨.bl b, H, I.tok tk, rfl, q⟩
/-- any of several types -/
def isTys (a : String) : List D → Option Bool
  | [] => some false
  | .ty n :: r => (isTy a n).bind fun b => (isTys a r).map fun c => b || c
  | _ => none
theorem isTys_kit {a : String} (ha : a = "NoneType" ∨ a = "bool" ∨ a = "int" ∨ a = "str" ∨ a = "tuple" ∨ a = "list" ∨ a = "dict") {H : Hp} {Z : Addr → Prop} : ∀ {ds : List D} {vs : List V} {b : Bool}, isTys a ds = some b → Reps K H Z ds vs →
    ∃ us : List Value, Paired ClsV vs us ∧ PySem.W.kitAny K (.type a) us = some b
  | [], vs, b, e, h => by cases e; unfold Reps at h; subst h; exact ⟨[], .nil, rfl⟩
  | d :: ds, vs, b, e, h => by
    cases d with
    | ty n =>
      unfold Reps at h
      obtain ⟨v, r, rfl, h1, h2⟩ := h
      unfold Rep at h1
      subst h1
      obtain ⟨b1, e1, e⟩ := Option.bind_eq_some_iff.mp (show (isTy a n).bind (fun b => (isTys a ds).map fun c => b || c) = some b from e)
      obtain ⟨c, e2, e⟩ := Option.map_eq_some_iff.mp e
      subst e
      obtain ⟨us, p, q⟩ := isTys_kit ha e2 h2
      refine ⟨.type n :: us, .cons (.ty n) p, kitAny_cons (kit_ty (isTy_kit ha e1)) (fun z => ?_) fun z => ?_⟩
      · rw [z, Bool.false_or]; exact q
      · rw [z, Bool.true_or]
    | _ => cases e
def rIsDs (K : PySem.W.Frag) : List V → Hp → VK → Prop := fun xs H Q => ∃ (x : V) (tp : Addr) (cs : List V) (a : String) (d : D) (Z : Addr → Prop) (us : List Value) (b : Bool), xs = [x, .ref tp] ∧ H tp = some (.tup cs) ∧ Paired ClsV cs us ∧ Rep K H Z d x ∧ tyOfD d = some a ∧
  PySem.W.kitAny K (.type a) us = some b ∧ Q (.bl b) H
theorem call_isDs : CallR X (.builtin "isinstance") (rIsDs X.K) := by
  intro pins s σ H xs us Q I r h
  obtain ⟨x, tp, cs, a, d, Z, ws, b, rfl, hT, kk, hx, e1, e, q⟩ := h
  obtain ⟨u1, u2, rfl, r1, r2⟩ := vals2 r
  cases (show u2 = Value.ref tp from r2)
  obtain ⟨P, Z', p, hn⟩ := kit_D I r1 hx e1
  obtain ⟨_, its, rv, o, h1, h2, n, h3⟩ := (show ObjOk X.prog X.w H s.heap tp (.tup cs) from I.hok tp _ hT)
  have e3 := ClsV.all kk rv
  subst e3
  obtain ⟨oc, od, dt, sl⟩ := o
  simp only at h2 h3
  subst h2 h3
  exact PySem.W.kia_tup Z' I.kIn p h1 e hn fun tk => ⟨.bl b, H, I.tok tk, rfl, q⟩
def dIsi : List D → Option D
  | [d, .ty n] => (tyOfD d).bind fun a => (isTy a n).map .bl
  | [d, .tup ts] => (tyOfD d).bind fun a => (isTys a ts).map .bl
  | _ => none
theorem o_isi {ds : List D} {d : D} (h : dIsi ds = some d) : ∃ r, CallR X (.builtin "isinstance") r ∧ CallAt X.K r ds d k := by
  unfold dIsi at h
  split at h
  · rename_i x n
    obtain ⟨a, e1, h⟩ := Option.bind_eq_some_iff.mp h
    obtain ⟨b, e2, h⟩ := Option.map_eq_some_iff.mp h
    subst h
    refine ⟨_, call_isD, fun H Z ks vs zd hk os Q q => ?_⟩
    obtain ⟨u, v, _, _, B, B', rfl, rfl, o1, o2⟩ := two_own os
    exact ⟨u, n, a, x, _, b, by rw [o2.ty], o1.read, e1, e2, q _ H Z [] (Gr.refl zd) ow_bl⟩
  · rename_i x ts
    obtain ⟨a, e1, h⟩ := Option.bind_eq_some_iff.mp h
    obtain ⟨b, e2, h⟩ := Option.map_eq_some_iff.mp h
    subst h
    refine ⟨_, call_isDs, fun H Z ks vs zd hk os Q q => ?_⟩
    obtain ⟨u, v, _, _, B, B', rfl, rfl, o1, o2⟩ := two_own os
    obtain ⟨tp, cs, ev, h1, h2, h3⟩ := o2.tup1
    obtain ⟨us, p, q2⟩ := isTys_kit (K := X.K) (tyOfD_in e1) e2 h3
    exact ⟨u, tp, cs, a, x, _, us, b, by rw [ev], h1, p, o1.read, e1, q2, q _ H Z [] (Gr.refl zd) ow_bl⟩
  · cases h

/-! ### what is walked: the items of a value -/
/-- the ints of a range -/
def rngD (lo hi : Int) : List D := (List.range (hi - lo).toNat).map fun i => .int (lo + (i : Nat))
/-- the signs of a text -/
def signsD (s : Str) : List D := s.cps.toList.map fun c => .str ⟨#[c]⟩
def itemsD : D → Option (List D)
  | .lst ds => some ds
  | .rng lo hi => if (hi - lo).toNat ≤ 16777216 then some (rngD lo hi) else none
  | .dct _ ks _ => some ks
  | .str s => some (signsD s)
  | x => tupOf x

/-! ### list, tuple of a value -/
def dList : List D → Option D
  | [.str _] => none
  | [x] => (itemsD x).map .lst
  | _ => none
theorem rng_vals {H : Hp} {Z : Addr → Prop} (lo hi : Int) : Reps K H Z (rngD lo hi) (rgV lo hi) := by
  unfold rngD rgV
  generalize (List.range (hi - lo).toNat) = l
  induction l with
  | nil => exact Reps.nil
  | cons i l ih => exact Reps.cons (by unfold Rep; rfl) ih
theorem key_rep {H : Hp} {Z : Addr → Prop} {d : D} {k : Key} (e : keyD d = some k) : Rep K H Z d (kV k) := by
  cases d with
  | int i => cases e; unfold Rep; rfl
  | str s =>
    have e : (if okS s = true then some (Sum.inr s : Key) else none) = some k := e
    split at e
    · rename_i h; cases e; unfold Rep; exact ⟨rfl, h⟩
    · cases e
  | _ => cases e
theorem keys_reps {H : Hp} {Z : Addr → Prop} : ∀ {ys : List D} {ks : List Key}, ys.mapM keyD = some ks → Reps K H Z ys (ks.map kV)
  | [], ks, e => by
    have e : ([] : List Key) = ks := by simpa using e
    subst e
    exact Reps.nil
  | y :: ys, ks, e => by
    rw [List.mapM_cons] at e
    obtain ⟨k, e1, e⟩ := Option.bind_eq_some_iff.mp e
    obtain ⟨kr, e2, e⟩ := Option.bind_eq_some_iff.mp e
    have e : k :: kr = ks := by simpa using e
    subst e
    exact Reps.cons (key_rep e1) (keys_reps e2)
theorem keysK_reps {H : Hp} {Z : Addr → Prop} : ∀ {ks : List D} {ps : List (Key × V)}, ks.map keyD = ps.map (fun p => some p.1) → Reps K H Z ks (ps.map fun p => kV p.1)
  | [], [], _ => Reps.nil
  | [], _ :: _, e => by simp at e
  | _ :: _, [], e => by simp at e
  | d :: ks, p :: ps, e => by
    have e1 : keyD d = some p.1 ∧ ks.map keyD = ps.map (fun p => some p.1) := by simpa using e
    exact Reps.cons (key_rep e1.1) (keysK_reps e1.2)
theorem keysT_rep {H : Hp} {Z : Addr → Prop} {d : D} {k : List Key} {b : Addr} (e : keysD d = some k) (hb : H b = some (.tup (k.map kV))) : Rep K H Z d (.ref b) := by
  cases d with
  | tup ys =>
    have e : (if ys.length ≤ 1000 then ys.mapM keyD else none) = some k := e
    split at e
    · rename_i hl
      unfold Rep
      have r := keys_reps (K := K) (H := H) (Z := Z) e
      refine ⟨b, _, rfl, hb, ?_, r⟩
      rw [r.length]
      exact Nat.le_trans hl (by decide)
    · cases e
  | _ => cases e
theorem keysT_reps {H : Hp} {Z : Addr → Prop} : ∀ {ks : List D} {ps : List (List Key × V)} {bs : List Addr}, ks.map keysD = ps.map (fun p => some p.1) → IsKeys H ps bs → Reps K H Z ks (bs.map V.ref)
  | [], [], bs, _, h => by cases h; exact Reps.nil
  | [], _ :: _, bs, e, h => by simp at e
  | _ :: _, [], bs, e, h => by simp at e
  | d :: ks, p :: ps, bs, e, h => by
    have e1 : keysD d = some p.1 ∧ ks.map keysD = ps.map (fun p => some p.1) := by simpa using e
    cases h with
    | cons h1 h2 => exact Reps.cons (keysT_rep e1.1 h1) (keysT_reps e1.2 h2)
theorem call_listRg (hc : X.calm = true) : CallR X (.type "list") (fun xs H Q => ∃ p lo hi, xs = [V.ref p] ∧ H p = some (.rng lo hi) ∧ RgOk lo hi ∧ ∀ l, H l = none → Q (.ref l) (upd H l (.lst (rgV lo hi)))) := by
  intro pins s σ H xs us Q I r h
  obtain ⟨p, lo, hi, rfl, hp, ok, q⟩ := h
  obtain ⟨u, rfl, rx⟩ := vals1 r
  obtain rfl : u = Value.ref p := rx
  obtain ⟨b1, b2, b3, b4, b5⟩ := ok
  obtain ⟨t1, t2, t3, hr⟩ := (show ObjOk X.prog X.w H s.heap p (.rng lo hi) from I.hok p _ hp)
  refine call_list_range (n := (hi - lo).toNat) (I.ok.hd hc) hr (small_one b1 b2 b3 b4) (rangeSize_nat lo hi) b5 fun h' tk acc c' hk e' hit => ?_
  refine ⟨.ref s.heap.objs.size, upd H s.heap.objs.size (.lst (rgV lo hi)), I.laid hk (Nat.le_refl _) (show ObjOk X.prog X.w _ _ _ (.lst (rgV lo hi)) from ⟨?_, acc.toList, c', vals_rg hit, ?_⟩), rfl, q _ (I.hok.fresh (Nat.le_refl _))⟩
  · rw [rgV_length, sizeLine_eq]; omega
  · rw [Array.toArray_toList]; exact e'
theorem call_tupRg (hc : X.calm = true) : CallR X (.type "tuple") (fun xs H Q => ∃ p lo hi, xs = [V.ref p] ∧ H p = some (.rng lo hi) ∧ RgOk lo hi ∧ ∀ l, H l = none → Q (.ref l) (upd H l (.tup (rgV lo hi)))) := by
  intro pins s σ H xs us Q I r h
  obtain ⟨p, lo, hi, rfl, hp, ok, q⟩ := h
  obtain ⟨u, rfl, rx⟩ := vals1 r
  obtain rfl : u = Value.ref p := rx
  obtain ⟨b1, b2, b3, b4, b5⟩ := ok
  obtain ⟨t1, t2, t3, hr⟩ := (show ObjOk X.prog X.w H s.heap p (.rng lo hi) from I.hok p _ hp)
  refine call_tuple_range (n := (hi - lo).toNat) (I.ok.hd hc) hr (small_one b1 b2 b3 b4) (rangeSize_nat lo hi) b5 fun h' tk acc hk hit => ?_
  have I2 : Inv X pins σ H { s with heap := h', toks := tk } := I.kept hk
  refine ⟨.ref h'.objs.size, upd H h'.objs.size (.tup (rgV lo hi)), I2.laid (t' := tk) (fun c o e => Heap.get?_push_of_some _ e) (Nat.le_refl _) (show ObjOk X.prog X.w _ _ _ (.tup (rgV lo hi)) from ⟨?_, acc.toList, vals_rg hit, ?_⟩), rfl, q _ (I2.hok.fresh (Nat.le_refl _))⟩
  · rw [rgV_length, sizeLine_eq]; omega
  · rw [Array.toArray_toList]; exact IsTup.new _ _
theorem lst_new {H : Hp} {Z : Addr → Prop} {ds : List D} {vs : List V} {p : Addr} (zd : ∀ a, Z a → H a ≠ none) (hp : H p = none) (r : Reps K H Z ds vs) (hl : vs.length ≤ sizeLine) :
    Gr H Z (upd H p (.lst vs)) Z [p] ∧ Own K (upd H p (.lst vs)) Z 1 (.lst ds) (.ref p) [p] := by
  have g : Gr H Z (upd H p (.lst vs)) Z [p] := Gr.own zd hp trivial
  exact ⟨g, p, vs, [], rfl, upd_same, hl, LO.of_reps (g.reps r), rfl⟩
theorem tup_new {H : Hp} {Z : Addr → Prop} {ds : List D} {vs : List V} {p : Addr} (zd : ∀ a, Z a → H a ≠ none) (hp : H p = none) (r : Reps K H Z ds vs) (hl : vs.length ≤ sizeLine) :
    Gr H Z (upd H p (.tup vs)) Z [] ∧ Own K (upd H p (.tup vs)) Z k (.tup ds) (.ref p) [] := by
  have g : Gr H Z (upd H p (.tup vs)) Z [] := Gr.tup zd hp
  refine ⟨g, Own.of_rep ?_ rfl⟩
  unfold Rep
  exact ⟨p, vs, rfl, upd_same, hl, g.reps r⟩
theorem o_list (hc : X.calm = true) {ds : List D} {d : D} (h : dList ds = some d) : ∃ r, CallR X (.type "list") r ∧ CallAt X.K r ds d 1 := by
  match ds, h with
  | [.lst es], h =>
    cases h
    refine ⟨_, call_list_of, fun H Z ks vs zd hk os Q q => ?_⟩
    obtain ⟨v, n, B, rfl, rfl, ow⟩ := one_own os
    obtain ⟨a, ws, ev, h1, h2, h3⟩ := ow.lst1 (hk n (by simp))
    refine ⟨a, ws, by rw [ev], .inl (.inl h1), fun l hl => ?_⟩
    obtain ⟨g, o⟩ := lst_new zd hl h3 h2
    exact q _ _ _ _ g o
  | [.tup es], h =>
    cases h
    refine ⟨_, call_list_of, fun H Z ks vs zd hk os Q q => ?_⟩
    obtain ⟨v, n, B, rfl, rfl, ow⟩ := one_own os
    obtain ⟨a, ws, ev, h1, h2, h3⟩ := ow.tup1
    refine ⟨a, ws, by rw [ev], .inr (SqT.of h1), fun l hl => ?_⟩
    obtain ⟨g, o⟩ := lst_new zd hl h3 h2
    exact q _ _ _ _ g o
  | [.ktp es], h =>
    cases h
    refine ⟨_, call_list_of, fun H Z ks vs zd hk os Q q => ?_⟩
    obtain ⟨v, n, B, rfl, rfl, ow⟩ := one_own os
    obtain ⟨a, ws, ev, h1, h2, h3⟩ := ow.ktp1
    refine ⟨a, ws, by rw [ev], .inr (SqT.k h1), fun l hl => ?_⟩
    obtain ⟨g, o⟩ := lst_new zd hl h3 h2
    exact q _ _ _ _ g o
  | [.rng lo hi], h =>
    have h : (if (hi - lo).toNat ≤ 16777216 then some (rngD lo hi) else none).map D.lst = some d := h
    split at h
    · rename_i hz
      cases h
      refine ⟨_, call_listRg hc, fun H Z ks vs zd hk os Q q => ?_⟩
      obtain ⟨v, n, B, rfl, rfl, ow⟩ := one_own os
      have ow := (ow.to_rep rfl).1
      unfold Rep at ow
      obtain ⟨a, ev, h1, b1, b2, b3, b4⟩ := ow
      refine ⟨a, lo, hi, by rw [ev], h1, ⟨b1, b2, b3, b4, hz⟩, fun l hl => ?_⟩
      obtain ⟨g, o⟩ := lst_new (K := X.K) zd hl (rng_vals lo hi) (by rw [rgV_length, sizeLine_eq]; exact hz)
      exact q _ _ _ _ g o
    · cases h
  | [.dct false kk xs], h =>
    cases h
    refine ⟨_, call_listD hc, fun H Z ks vs zd hk os Q q => ?_⟩
    obtain ⟨v, n, B, rfl, rfl, ow⟩ := one_own os
    have hl2 : kk.length ≤ sizeLine := by
      have := ow.read
      unfold Rep at this
      obtain ⟨_, _, _, h, _⟩ := this
      exact h
    obtain ⟨a, ev, ps, h1, h2, h3⟩ := ow.read.dct
    refine ⟨a, ps, by rw [ev], h1, fun l hl => ?_⟩
    have r := keysK_reps (K := X.K) (H := H) (Z := Z) h2
    obtain ⟨g, o⟩ := lst_new zd hl r (by rw [r.length]; exact hl2)
    exact q _ _ _ _ g o
  | [.dct true kk xs], h =>
    cases h
    refine ⟨_, call_list_dT hc, fun H Z ks vs zd hk os Q q => ?_⟩
    obtain ⟨v, n, B, rfl, rfl, ow⟩ := one_own os
    have hl2 : kk.length ≤ sizeLine := by
      have := ow.read
      unfold Rep at this
      obtain ⟨_, _, _, h, _⟩ := this
      exact h
    obtain ⟨a, ev, ps, h1, h2, h3⟩ := ow.read.dct
    refine ⟨a, ps, by rw [ev], h1, fun l bs hl hb => ?_⟩
    have r := keysT_reps (K := X.K) (H := H) (Z := Z) h2 hb
    obtain ⟨g, o⟩ := lst_new zd hl r (by rw [r.length]; exact hl2)
    exact q _ _ _ _ g o
  | [.str _], h => cases h
  | [.non], h => cases h
  | [.bl _], h => cases h
  | [.int _], h => cases h
  | [.ty _], h => cases h
  | [], h => cases h
  | _ :: _ :: _, h => simp [dList] at h
def dTuple : List D → Option D
  | [.lst ds] => some (.tup ds)
  | [.rng lo hi] => if (hi - lo).toNat ≤ 16777216 then some (.tup (rngD lo hi)) else none
  | [.tup ds] => some (.tup ds)
  | [.ktp ds] => some (.ktp ds)
  | _ => none
theorem o_tuple (hc : X.calm = true) {ds : List D} {d : D} (h : dTuple ds = some d) : ∃ r, CallR X (.type "tuple") r ∧ CallAt X.K r ds d k := by
  unfold dTuple at h
  split at h
  · cases h
    refine ⟨_, call_tuple_of, fun H Z ks vs zd hk os Q q => ?_⟩
    obtain ⟨v, n, B, rfl, rfl, ow⟩ := one_own os
    obtain ⟨a, ws, ev, h1, h2, h3⟩ := ow.lst1 (hk n (by simp))
    refine ⟨a, ws, by rw [ev], .inl ⟨.inl h1, fun l hl => ?_⟩⟩
    obtain ⟨g, o⟩ := tup_new (k := k) zd hl h3 h2
    exact q _ _ _ _ g o
  · split at h
    · rename_i lo hi hz
      cases h
      refine ⟨_, call_tupRg hc, fun H Z ks vs zd hk os Q q => ?_⟩
      obtain ⟨v, n, B, rfl, rfl, ow⟩ := one_own os
      have ow := (ow.to_rep rfl).1
      unfold Rep at ow
      obtain ⟨a, ev, h1, b1, b2, b3, b4⟩ := ow
      refine ⟨a, lo, hi, by rw [ev], h1, ⟨b1, b2, b3, b4, hz⟩, fun l hl => ?_⟩
      obtain ⟨g, o⟩ := tup_new (K := X.K) (k := k) zd hl (rng_vals lo hi) (by rw [rgV_length, sizeLine_eq]; exact hz)
      exact q _ _ _ _ g o
    · cases h
  · cases h
    refine ⟨_, call_tuple_of, fun H Z ks vs zd hk os Q q => ?_⟩
    obtain ⟨v, n, B, rfl, rfl, ow⟩ := one_own os
    obtain ⟨a, ws, ev, h1, h2, h3⟩ := ow.tup1
    refine ⟨a, ws, by rw [ev], .inr ⟨SqT.of h1, ?_⟩⟩
    rw [← ev]
    exact q v H Z [] (Gr.refl zd) (Own.of_rep (ow.to_rep rfl).1 rfl)
  · cases h
    refine ⟨_, call_tuple_of, fun H Z ks vs zd hk os Q q => ?_⟩
    obtain ⟨v, n, B, rfl, rfl, ow⟩ := one_own os
    obtain ⟨a, ws, ev, h1, h2, h3⟩ := ow.ktp1
    refine ⟨a, ws, by rw [ev], .inr ⟨SqT.k h1, ?_⟩⟩
    rw [← ev]
    exact q v H Z [] (Gr.refl zd) (Own.of_rep (ow.to_rep rfl).1 rfl)
  · cases h
end
end DL
/-! DL8: targets, statements, blocks, if, while -/
namespace DL
open PySem PySem.Spec PyProof.Rows L2

/-! ### how a block ends -/
inductive Out where
  | nx (ρ : Env)
  | rt (d : D) (ρ : Env)
  | br (ρ : Env)
  | ct (ρ : Env)
abbrev SM := Env → Option Out
/-- the first P slots stand as they stood -/
def Pin (P : List Nat) (σ σ' : L2.St) : Prop := ∀ i, i ∈ P → σ'[i]? = σ[i]?
theorem Pin.refl {P : List Nat} {σ : L2.St} : Pin P σ σ := fun _ _ => rfl
theorem Pin.trans {P : List Nat} {σ σ1 σ2 : L2.St} (a : Pin P σ σ1) (b : Pin P σ1 σ2) : Pin P σ σ2 := fun i h => (b i h).trans (a i h)
def SEnd (K : PySem.W.Frag) (P : List Nat) (n : Nat) (E : Ends) (σ : L2.St) (H : Hp) (Z : Addr → Prop) (As : Nat → List Addr) : Out → Prop
  | .nx ρ' => ∀ σ' H' Z' As', RS K ρ' σ' H' Z' As' → Chg true H Z As H' Z' As' → Pin P σ σ' → E.nx σ' H'
  | .br ρ' => ∀ σ' H' Z' As', RS K ρ' σ' H' Z' As' → Chg true H Z As H' Z' As' → Pin P σ σ' → E.bk σ' H'
  | .ct ρ' => ∀ σ' H' Z' As', RS K ρ' σ' H' Z' As' → Chg true H Z As H' Z' As' → Pin P σ σ' → E.ct σ' H'
  | .rt d ρ' => ∀ v σ' H' Z' As' B, RS K ρ' σ' H' Z' As' → Own K H' Z' n d v B → Chg true H Z As H' Z' As' → Sep B H As H' Z' As' → Pin P σ σ' → E.rt v H'
def tS (K : PySem.W.Frag) (P : List Nat) (n : Nat) (f : SM) : TS := fun E σ H => ∃ ρ Z As, RS K ρ σ H Z As ∧ ∃ o, f ρ = some o ∧ SEnd K P n E σ H Z As o
abbrev DS (X : Cx) (st : Stmt) (P : List Nat) (n : Nat) (f : SM) : Prop := PS X st (tS X.K P n f)
abbrev DSs (X : Cx) (st : List Stmt) (P : List Nat) (n : Nat) (f : SM) : Prop := PSs X st (tS X.K P n f)
theorem PS.conv {X : Cx} {st : Stmt} {t t' : TS} (h : PS X st t) (c : ∀ E σ H, t' E σ H → t E σ H) : PS X st t' := ⟨fun pins s σ H E I q => h.run pins s σ H E I (c E σ H q)⟩
theorem PSs.conv {X : Cx} {st : List Stmt} {t t' : TS} (h : PSs X st t) (c : ∀ E σ H, t' E σ H → t E σ H) : PSs X st t' := ⟨fun pins s σ H E I q => h.run pins s σ H E I (c E σ H q)⟩

section
variable {K : PySem.W.Frag} {ρ ρ' : Env} {σ σ' : L2.St} {H H' H1 H2 : Hp} {Z Z' Z1 Z2 : Addr → Prop} {As As' As1 As2 : Nat → List Addr} {W : Bool} {B : List Addr} {P : List Nat} {n : Nat} {E : Ends} {o : Out}
theorem Sep.after (c : Chg W H Z As H1 Z1 As1) (sp : Sep B H1 As1 H2 Z2 As2) : Sep B H As H2 Z2 As2 :=
  ⟨sp.nd, sp.nz, sp.dj, sp.mt, fun b hb => by
    rcases sp.af b hb with h | ⟨j, h⟩
    · refine .inl ?_
      cases e : H b with
      | none => rfl
      | some o => exact absurd h (c.dom b (by rw [e]; exact fun z => nomatch z))
    · exact c.af j b h⟩
/-- an end, told from an earlier state -/
theorem SEnd.after (r : RS K ρ σ H Z As) (c : Chg true H Z As H1 Z1 As1) (p : Pin P σ σ') (h : SEnd K P n E σ H Z As o) : SEnd K P n E σ' H1 Z1 As1 o := by
  cases o with
  | nx ρ' => exact fun s2 H2 Z2 As2 r2 c2 p2 => h s2 H2 Z2 As2 r2 (c.trans r c2) (p.trans p2)
  | br ρ' => exact fun s2 H2 Z2 As2 r2 c2 p2 => h s2 H2 Z2 As2 r2 (c.trans r c2) (p.trans p2)
  | ct ρ' => exact fun s2 H2 Z2 As2 r2 c2 p2 => h s2 H2 Z2 As2 r2 (c.trans r c2) (p.trans p2)
  | rt d ρ' => exact fun v s2 H2 Z2 As2 B r2 ow c2 sp p2 => h v s2 H2 Z2 As2 B r2 ow (c.trans r c2) (sp.after c) (p.trans p2)
/-- a name takes a value: what it owned is dropped -/
theorem RS.store (r : RS K ρ σ H Z As) {i k : Nat} {d : D} {v : V} (ow : Own K H Z k d v B) (sp : Sep B H1 As1 H Z As) : RS K (ρ.set i (some (k, d))) (σ.set i (some v)) H Z (fun j => if j = i then B else As j) where
  slot := fun j m d' e => by
    by_cases hj : j = i
    · subst hj
      have hlt : j < ρ.length := by
        have := (List.getElem?_eq_some_iff.mp e).1
        simpa using this
      rw [List.getElem?_set_self hlt] at e
      cases e
      rw [if_pos rfl]
      exact ⟨v, List.getElem?_set_self (by rw [← r.len]; exact hlt), ow⟩
    · rw [List.getElem?_set_ne (Ne.symm hj)] at e
      rw [if_neg hj, List.getElem?_set_ne (Ne.symm hj)]
      exact r.slot j m d' e
  nd := fun j => by
    by_cases hj : j = i
    · simp only [hj, if_true]; exact sp.nd
    · simp only [hj, if_false]; exact r.nd j
  dj := fun j l a h1 h2 => by
    by_cases hj : j = i <;> by_cases hl : l = i
    · rw [hj, hl]
    · simp only [hj, hl, if_true, if_false] at h1 h2; exact absurd h2 (sp.dj a h1 l)
    · simp only [hj, hl, if_true, if_false] at h1 h2; exact absurd h1 (sp.dj a h2 j)
    · simp only [hj, hl, if_false] at h1 h2; exact r.dj j l a h1 h2
  nz := fun j a h => by
    by_cases hj : j = i
    · simp only [hj, if_true] at h; exact sp.nz a h
    · simp only [hj, if_false] at h; exact r.nz j a h
  mt := fun j a h => by
    by_cases hj : j = i
    · simp only [hj, if_true] at h; exact sp.mt a h
    · simp only [hj, if_false] at h; exact r.mt j a h
  zd := r.zd
  len := by simp [r.len]
theorem Chg.store (c : Chg W H1 Z1 As1 H Z As) (sp : Sep B H1 As1 H Z As) (i : Nat) : Chg true H1 Z1 As1 H Z (fun j => if j = i then B else As j) where
  keep := c.up.keep
  dom := c.dom
  zz := c.zz
  zf := c.zf
  af := fun j a h => by
    by_cases hj : j = i
    · simp only [hj, if_true] at h; exact sp.af a h
    · simp only [hj, if_false] at h; exact c.af j a h
/-- a name is forgotten -/
theorem RS.forget (r : RS K ρ σ H Z As) (i : Nat) : RS K (ρ.set i none) σ H Z As where
  slot := fun j m d e => by
    by_cases hj : j = i
    · subst hj
      by_cases hlt : j < ρ.length
      · rw [List.getElem?_set_self hlt] at e; cases e
      · rw [List.getElem?_eq_none (by simpa using hlt)] at e; cases e
    · rw [List.getElem?_set_ne (Ne.symm hj)] at e
      exact r.slot j m d e
  nd := r.nd
  dj := r.dj
  nz := r.nz
  mt := r.mt
  zd := r.zd
  len := by simp [r.len]
/-- what a name owns is given up to be read for ever -/
theorem RS.freeze (r : RS K ρ σ H Z As) {i m : Nat} {d : D} (e : ρ[i]? = some (some (m, d))) :
    RS K (ρ.set i (some (0, d))) σ H (fun a => Z a ∨ a ∈ As i) (fun j => if j = i then [] else As j) where
  slot := fun j m' d' e' => by
    by_cases hj : j = i
    · subst hj
      have hlt : j < ρ.length := (List.getElem?_eq_some_iff.mp e).1
      rw [List.getElem?_set_self hlt] at e'
      cases e'
      obtain ⟨v, h1, h2⟩ := r.slot j _ _ e
      rw [if_pos rfl]
      exact ⟨v, h1, Own.rep (fun _ h => .inl h) m (fun _ h => .inr h) h2, rfl⟩
    · rw [List.getElem?_set_ne (Ne.symm hj)] at e'
      obtain ⟨v, h1, h2⟩ := r.slot j m' d' e'
      rw [if_neg hj]
      exact ⟨v, h1, Own.mono (fun _ h => .inl h) Pre.refl m' (fun _ _ _ h => h) h2⟩
  nd := fun j => by
    by_cases hj : j = i
    · simp only [hj, if_true]; exact List.nodup_nil
    · simp only [hj, if_false]; exact r.nd j
  dj := fun j l a h1 h2 => by
    by_cases hj : j = i
    · simp [hj] at h1
    · by_cases hl : l = i
      · simp [hl] at h2
      · simp only [hj, hl, if_false] at h1 h2; exact r.dj j l a h1 h2
  nz := fun j a h z => by
    by_cases hj : j = i
    · simp [hj] at h
    · simp only [hj, if_false] at h
      rcases z with z | z
      · exact r.nz j a h z
      · exact hj (r.dj j i a h z)
  mt := fun j a h => by
    by_cases hj : j = i
    · simp [hj] at h
    · simp only [hj, if_false] at h; exact r.mt j a h
  zd := fun a h => by
    rcases h with h | h
    · exact r.zd a h
    · exact (r.mt i a h).ne
  len := by simp [r.len]
theorem Chg.freeze {i : Nat} : Chg true H Z As H (fun a => Z a ∨ a ∈ As i) (fun j => if j = i then [] else As j) where
  keep := fun a o h _ => h
  dom := fun a h => h
  zz := fun a h => .inl h
  zf := fun a h => by
    rcases h with h | h
    · exact .inl h
    · exact .inr (.inr ⟨i, h⟩)
  af := fun j a h => by
    by_cases hj : j = i
    · simp [hj] at h
    · simp only [hj, if_false] at h; exact .inr ⟨j, h⟩
end

/-! ### small statements -/
section
variable {X : Cx} {e a b : Expr} {st : Stmt} {rest sts : List Stmt} {pos : Pos} {W Wa Wb o oa ob : Bool} {P : List Nat} {k ka kb n : Nat} {f fa fb : EM} {F G : SM}
def sNil : SM := fun ρ => some (.nx ρ)
def sSeq (F G : SM) : SM := fun ρ => (F ρ).bind fun o => match o with | .nx ρ' => G ρ' | o => some o
theorem dss_nil : DSs X [] P n sNil := PSs.conv pss_nil fun E σ H q => by
  obtain ⟨ρ, Z, As, r, o, ef, q⟩ := q
  cases ef
  exact q σ H Z As r Chg.refl Pin.refl
theorem seq_red {K : PySem.W.Frag} {σ : L2.St} {H : Hp} {E : Ends} (q : tS K P n (sSeq F G) E σ H) : tSeq (tS K P n F) (tS K P n G) E σ H := by
  obtain ⟨ρ, Z, As, r, o, ef, q⟩ := q
  unfold sSeq at ef
  obtain ⟨o1, e1, ef⟩ := Option.bind_eq_some_iff.mp ef
  refine ⟨ρ, Z, As, r, o1, e1, ?_⟩
  cases o1 with
  | nx ρ1 => exact fun σ1 H1 Z1 As1 r1 c1 p1 => ⟨ρ1, Z1, As1, r1, o, ef, q.after r c1 p1⟩
  | br ρ1 => cases ef; exact q
  | ct ρ1 => cases ef; exact q
  | rt d ρ1 => cases ef; exact q
theorem dss_cons (h : DS X st P n F) (g : DSs X rest P n G) : DSs X (st :: rest) P n (sSeq F G) := PSs.conv (pss_cons h g) fun E σ H q => seq_red q
theorem dss_one (h : DS X st P n F) : DSs X [st] P n F := pss_one h
/-- ghosts: a name is frozen, forgotten, ahead of a block -/
def sFrz (i : Nat) (F : SM) : SM := fun ρ => match ρ[i]? with | some (some (_, d)) => F (ρ.set i (some (0, d))) | _ => F ρ
theorem dss_frz (i : Nat) (h : DSs X sts P n F) : DSs X sts P n (sFrz i F) := PSs.conv h fun E σ H q => by
  obtain ⟨ρ, Z, As, r, o, ef, q⟩ := q
  unfold sFrz at ef
  split at ef
  · rename_i m d he
    exact ⟨_, _, _, r.freeze he, o, ef, q.after r Chg.freeze Pin.refl⟩
  · exact ⟨ρ, Z, As, r, o, ef, q⟩
def sFgt (i : Nat) (F : SM) : SM := fun ρ => F (ρ.set i none)
theorem dss_fgt (i : Nat) (h : DSs X sts P n F) : DSs X sts P n (sFgt i F) := PSs.conv h fun E σ H q => by
  obtain ⟨ρ, Z, As, r, o, ef, q⟩ := q
  exact ⟨_, Z, As, r.forget i, o, ef, q⟩
def sPass : SM := fun ρ => some (.nx ρ)
theorem ds_pass : DS X (.Pass pos) P n sPass := PS.conv ps_pass fun E σ H q => by
  obtain ⟨ρ, Z, As, r, o, ef, q⟩ := q
  cases ef
  exact q σ H Z As r Chg.refl Pin.refl
def sBrk : SM := fun ρ => some (.br ρ)
theorem ds_break : DS X (.Break pos) P n sBrk := PS.conv ps_break fun E σ H q => by
  obtain ⟨ρ, Z, As, r, o, ef, q⟩ := q
  cases ef
  exact q σ H Z As r Chg.refl Pin.refl
def sCont : SM := fun ρ => some (.ct ρ)
theorem ds_continue : DS X (.Continue pos) P n sCont := PS.conv ps_continue fun E σ H q => by
  obtain ⟨ρ, Z, As, r, o, ef, q⟩ := q
  cases ef
  exact q σ H Z As r Chg.refl Pin.refl
/-- what the proof never comes to -/
def sNever : SM := fun _ => none
theorem ds_never : DS X st P n sNever := PS.conv ps_never fun E σ H q => by
  obtain ⟨ρ, Z, As, r, o, ef, q⟩ := q
  cases ef
def sExpr (f : EM) : SM := fun ρ => (f ρ).map fun p => .nx p.2
theorem ds_expr (h : DE X e W o k f) (hs : swapsWith e none pos.line X.env = pure false := by rfl) : DS X (.Expr e pos) P n (sExpr f) := PS.conv (ps_expr h hs) fun E σ H q => by
  obtain ⟨ρ, Z, As, r, o, ef, q⟩ := q
  unfold sExpr at ef
  obtain ⟨⟨d, ρ1⟩, e1, ef⟩ := Option.map_eq_some_iff.mp ef
  cases ef
  exact ⟨ρ, Z, As, r, d, _, e1, fun v H' Z' As' B r' ow c sp => q σ H' Z' As' r' c.up Pin.refl⟩
def sRet (f : EM) : SM := fun ρ => (f ρ).map fun p => .rt p.1 p.2
theorem ds_ret (h : DE X e W true n f) : DS X (.Return (some e) pos) P n (sRet f) := PS.conv (ps_ret h) fun E σ H q => by
  obtain ⟨ρ, Z, As, r, o, ef, q⟩ := q
  unfold sRet at ef
  obtain ⟨⟨d, ρ1⟩, e1, ef⟩ := Option.map_eq_some_iff.mp ef
  cases ef
  exact ⟨ρ, Z, As, r, d, _, e1, fun v H' Z' As' B r' ow c sp => q v σ H' Z' As' B r' ow c.up (sp rfl) Pin.refl⟩
def sRetN : SM := fun ρ => some (.rt .non ρ)
theorem ds_retN : DS X (.Return none pos) P n sRetN := PS.conv ps_retN fun E σ H q => by
  obtain ⟨ρ, Z, As, r, o, ef, q⟩ := q
  cases ef
  exact q .non σ H Z As [] r (Own.of_rep (by unfold Rep; rfl) rfl) Chg.refl Sep.nil Pin.refl
def sIf (t : TM) (F G : SM) : SM := fun ρ => (t ρ).bind fun p => if p.1 = true then F p.2 else G p.2
theorem ds_if {c : Expr} {x y : List Stmt} {t : TM} (ht : DT X c W t) (ha : DSs X x P n F) (hb : DSs X y P n G) : DS X (.If c x y pos) P n (sIf t F G) := PS.conv (ps_if ht ha hb) fun E σ H q => by
  obtain ⟨ρ, Z, As, r, o, ef, q⟩ := q
  unfold sIf at ef
  obtain ⟨⟨b1, ρ1⟩, e1, ef⟩ := Option.bind_eq_some_iff.mp ef
  refine ⟨ρ, Z, As, r, b1, ρ1, e1, fun H1 Z1 As1 r1 c1 => ?_⟩
  cases b1 with
  | true => exact ⟨ρ1, Z1, As1, r1, o, ef, q.after r c1.up Pin.refl⟩
  | false => exact ⟨ρ1, Z1, As1, r1, o, ef, q.after r c1.up Pin.refl⟩
/-- name = value -/
def sSet (i k : Nat) (f : EM) : SM := fun ρ => (f ρ).map fun p => .nx (p.2.set i (some (k, p.1)))
theorem set_red {K : PySem.W.Frag} {σ : L2.St} {H : Hp} {E : Ends} {i : Nat} (hp : i ∉ P) (q : tS K P n (sSet i k f) E σ H) : tAsg (tE K W true k f) (gName i) E σ H := by
  obtain ⟨ρ, Z, As, r, o, ef, q⟩ := q
  unfold sSet at ef
  obtain ⟨⟨d, ρ1⟩, e1, ef⟩ := Option.map_eq_some_iff.mp ef
  cases ef
  refine ⟨ρ, Z, As, r, d, _, e1, fun v H' Z' As' B r' ow c sp => ?_⟩
  have sp := sp rfl
  exact q (σ.set i (some v)) H' Z' _ (r'.store ow sp) (c.store sp i) fun j hj => List.getElem?_set_ne fun z => hp (by rw [z]; exact hj)
theorem ds_set {i : Nat} {x : Str} {pos' : Pos} (hN : X.N.Nodup) (h : DE X e W true k f) (hi : X.N[i]? = some x := by rfl) (hx : Loc X.env.scope x := by first | exact .inl rfl | exact .inr rfl) (hp : i ∉ P := by decide) (hs : swapsWith e (some (.Name x pos')) pos.line X.env = pure false := by rfl) (hf : X.fn x = true ∨ X.env.scope.names.lookup x = some .local := by first | exact .inl rfl | exact .inr rfl) :
    DS X (.Assign [.Name x pos'] e pos) P n (sSet i k f) := PS.conv (ps_set hN hi hx h hs hf) fun E σ H q => set_red hp q

/-! ### targets -/
abbrev GM := D → Env → Option Env
/-- a frozen value goes to names; vs: their slots -/
def tG (K : PySem.W.Frag) (vs : List Nat) (g : GM) : TG := fun v σ H Q => ∃ ρ Z As d, RS K ρ σ H Z As ∧ Rep K H Z d v ∧ ∃ ρ', g d ρ = some ρ' ∧
  ∀ σ' As', RS K ρ' σ' H Z As' → (∀ i a, a ∈ As' i → a ∈ As i) → (∀ i, i ∉ vs → σ'[i]? = σ[i]?) → σ'.length = σ.length → Q σ' H
abbrev DG (X : Cx) (tg : Expr) (vs : List Nat) (g : GM) : Prop := PG X tg (tG X.K vs g)
def gNm (i : Nat) : GM := fun d ρ => some (ρ.set i (some (0, d)))
theorem PG.conv {tg : Expr} {t t' : TG} (h : PG X tg t) (c : ∀ v σ H Q, t' v σ H Q → t v σ H Q) : PG X tg t' := ⟨fun pins s σ H v u Q I r q => h.run pins s σ H v u Q I r (c v σ H Q q)⟩
theorem dg_name {i : Nat} {x : Str} (hN : X.N.Nodup) (hi : X.N[i]? = some x := by rfl) (hx : Loc X.env.scope x := by first | exact .inl rfl | exact .inr rfl) (hf : X.fn x = true ∨ X.env.scope.names.lookup x = some .local := by first | exact .inl rfl | exact .inr rfl) : DG X (.Name x pos) [i] (gNm i) :=
  PG.conv (pg_name hN hi hx hf) fun v σ H Q q => by
    obtain ⟨ρ, Z, As, d, r, h, ρ', ef, q⟩ := q
    cases ef
    refine q (σ.set i (some v)) _ (r.store (B := []) (H1 := H) (As1 := As) (k := 0) ⟨h, rfl⟩ Sep.nil) (fun j a ha => ?_) (fun j hj => List.getElem?_set_ne fun z => hj (by simp [z])) (by simp)
    by_cases hj : j = i
    · simp [hj] at ha
    · simpa [hj] using ha
/-- several names -/
abbrev GMs := List D → Env → Option Env
def tGs (K : PySem.W.Frag) (vs : List Nat) (g : GMs) : TGs := fun v σ H Q => ∃ ρ Z As d, RS K ρ σ H Z As ∧ Reps K H Z d v ∧ ∃ ρ', g d ρ = some ρ' ∧
  ∀ σ' As', RS K ρ' σ' H Z As' → (∀ i a, a ∈ As' i → a ∈ As i) → (∀ i, i ∉ vs → σ'[i]? = σ[i]?) → σ'.length = σ.length → Q σ' H
abbrev DGs (X : Cx) (tg : List Expr) (vs : List Nat) (g : GMs) : Prop := PGs X tg (tGs X.K vs g)
theorem PGs.conv {tg : List Expr} {t t' : TGs} (h : PGs X tg t) (c : ∀ v σ H Q, t' v σ H Q → t v σ H Q) : PGs X tg t' := ⟨fun pins s σ H v u Q I r q => h.run pins s σ H v u Q I r (c v σ H Q q)⟩
def gsNil : GMs := fun ds ρ => match ds with | [] => some ρ | _ => none
def gsCons (g : GM) (gs : GMs) : GMs := fun ds ρ => match ds with | d :: r => (g d ρ).bind fun ρ1 => gs r ρ1 | [] => none
theorem dgs_nil : DGs X [] [] gsNil := PGs.conv pgs_nil fun v σ H Q q => by
  obtain ⟨ρ, Z, As, d, r, h, ρ', ef, q⟩ := q
  cases d with
  | nil =>
    cases ef
    unfold Reps at h
    exact ⟨h, q σ As r (fun _ _ h => h) (fun _ _ => rfl) rfl⟩
  | cons d ds => cases ef
theorem dgs_cons {es : List Expr} {vs ws : List Nat} {g : GM} {gs : GMs} (h : DG X e vs g) (hr : DGs X es ws gs) (hs : (assignEach (e :: es) X.env).map (·.2) = assign e X.env :: (assignEach es X.env).map (·.2) := by rfl) : DGs X (e :: es) (vs ++ ws) (gsCons g gs) := PGs.conv (pgs_cons h hr hs) fun v σ H Q q => by
  obtain ⟨ρ, Z, As, d, r, h, ρ', ef, q⟩ := q
  cases d with
  | nil => cases ef
  | cons d ds =>
    obtain ⟨ρ1, e1, ef⟩ := Option.bind_eq_some_iff.mp (show (g d ρ).bind (fun ρ1 => gs ds ρ1) = some ρ' from ef)
    unfold Reps at h
    obtain ⟨u, vr, rfl, h1, h2⟩ := h
    refine ⟨u, vr, rfl, ρ, Z, As, d, r, h1, ρ1, e1, fun σ1 As1 r1 a1 k1 l1 => ?_⟩
    refine ⟨ρ1, Z, As1, ds, r1, h2, ρ', ef, fun σ2 As2 r2 a2 k2 l2 => ?_⟩
    refine q σ2 As2 r2 (fun i a h => a1 i a (a2 i a h)) (fun i hi => ?_) (l2.trans l1)
    rw [k2 i fun z => hi (List.mem_append_right _ z), k1 i fun z => hi (List.mem_append_left _ z)]
/-- (a, b, ..) = a tuple -/
def gTp (n : Nat) (gs : GMs) : GM := fun d ρ => (tupOf d).bind fun ds => if ds.length = n then gs ds ρ else none
theorem dg_tup {es : List Expr} {t m : Nat} {vs : List Nat} {gs : GMs} (hc : X.calm = true) (h : DGs X es vs gs) (hn : (assignEach es X.env).length = m := by rfl) (hst : (assignEach es X.env).findIdx? (·.1) = none := by rfl) : DG X (.Tuple es t pos) vs (gTp m gs) := PG.conv (pg_tup hc h hn hst) fun v σ H Q q => by
  obtain ⟨ρ, Z, As, d, r, h, ρ', ef, q⟩ := q
  unfold gTp at ef
  obtain ⟨ds, e1, ef⟩ := Option.bind_eq_some_iff.mp ef
  split at ef
  · rename_i hl
    obtain ⟨a, ws, e2, h1, h2, h3⟩ := (show Own X.K H Z 0 d v [] from ⟨h, rfl⟩).tupA e1
    exact ⟨a, ws, e2, h1, by rw [h3.length, hl], ρ, Z, As, ds, r, h3, ρ', ef, q⟩
  · cases ef
theorem Chg.less {H H' : Hp} {Z Z' : Addr → Prop} {As As1 As' : Nat → List Addr} (c : Chg W H Z As H' Z' As1) (h : ∀ i a, a ∈ As' i → a ∈ As1 i) : Chg W H Z As H' Z' As' :=
  { keep := c.keep, dom := c.dom, zz := c.zz, zf := c.zf, af := fun i a ha => c.af i a (h i a ha) }
/-- target = value, the value frozen -/
def sAsg (f : EM) (g : GM) : SM := fun ρ => (f ρ).bind fun p => (g p.1 p.2).map .nx
theorem ds_asg {tg : Expr} {vs : List Nat} {g : GM} (h : DE X e W true 0 f) (hg : DG X tg vs g) (hp : ∀ i ∈ vs, i ∉ P := by decide) (hs : swapsWithSole [tg] e pos.line X.env = pure false := by rfl) (hw : swappedStores [tg] e X.env = pure none := by rfl)
    (h1 : (assignEach [tg] X.env).map (·.2) = [assign tg X.env] := by rfl) : DS X (.Assign [tg] e pos) P n (sAsg f g) := PS.conv (ps_asg h hg hs hw h1) fun E σ H q => by
  obtain ⟨ρ, Z, As, r, o, ef, q⟩ := q
  unfold sAsg at ef
  obtain ⟨⟨d, ρ1⟩, e1, ef⟩ := Option.bind_eq_some_iff.mp ef
  obtain ⟨ρ2, e2, ef⟩ := Option.map_eq_some_iff.mp ef
  subst ef
  refine ⟨ρ, Z, As, r, d, ρ1, e1, fun v H' Z' As' B r' ow c sp => ?_⟩
  refine ⟨ρ1, Z', As', d, r', ow.1, ρ2, e2, fun σ' As2 r2 a2 k2 l2 => ?_⟩
  exact q σ' H' Z' As2 r2 (c.less a2).up fun i hi => k2 i fun z => hp i z hi
end
end DL
/-! DL9: several names at once; stores into what a name owns; append, extend, pop -/
namespace DL
open PySem PySem.Spec PyProof.Rows L2

section
variable {K : PySem.W.Frag} {ρ ρ' : Env} {σ σ' : L2.St} {H H' H1 H2 : Hp} {Z Z' Z1 Z2 : Addr → Prop} {As As' As1 As2 : Nat → List Addr} {W : Bool} {B B' : List Addr} {P : List Nat} {n k : Nat} {d : D} {v : V}
/-- what is owned by nobody yet waits while something else is reckoned -/
theorem Sep.wait (r : RS K ρ σ H Z As) (sp : Sep B H1 As1 H Z As) (c : Chg W H Z As H' Z' As') (c0 : Chg true H1 Z1 As1 H Z As) : Sep B H1 As1 H' Z' As' where
  nd := sp.nd
  nz := fun b hb z => by
    rcases c.zf b z with z | z | ⟨i, z⟩
    · exact sp.nz b hb z
    · exact (sp.mt b hb).ne z
    · exact sp.dj b hb i z
  dj := fun b hb i z => by
    rcases c.af i b z with z | ⟨j, z⟩
    · exact (sp.mt b hb).ne z
    · exact sp.dj b hb j z
  mt := fun b hb => by
    have q := sp.mt b hb
    cases e : H b with
    | none => exact absurd e q.ne
    | some o => rw [e] at q; rw [c.keep b o e fun _ i z => sp.dj b hb i z]; exact q
  af := sp.af
theorem Own.waitB (r : RS K ρ σ H Z As) (sp : Sep B H1 As1 H Z As) (c : Chg W H Z As H' Z' As') (h : Own K H Z k d v B) : Own K H' Z' k d v B :=
  Own.mono c.zz (c.pre r) k (fun b hb o e => c.keep b o e fun _ i z => sp.dj b hb i z) h
/-- two that are owned by nobody yet stand apart -/
theorem Sep.apart (sp : Sep B H1 As1 H Z As) (sp' : Sep B' H As H' Z' As') : ∀ b ∈ B, b ∉ B' := fun b hb hb' => by
  rcases sp'.af b hb' with z | ⟨j, z⟩
  · exact (sp.mt b hb).ne z
  · exact sp.dj b hb j z
theorem Sep.stored (sp : Sep B H1 As1 H Z As) {i : Nat} (h : ∀ b ∈ B, b ∉ B') : Sep B H1 As1 H Z (fun j => if j = i then B' else As j) where
  nd := sp.nd
  nz := sp.nz
  dj := fun b hb j z => by
    by_cases hj : j = i
    · simp only [hj, if_true] at z; exact h b hb z
    · simp only [hj, if_false] at z; exact sp.dj b hb j z
  mt := sp.mt
  af := sp.af
end
section
variable {X : Cx} {e a b c : Expr} {st : Stmt} {rest sts : List Stmt} {pos : Pos} {W Wa Wb Wc o oa ob : Bool} {P : List Nat} {k ka kb kc n : Nat} {f fa fb fc : EM} {F G : SM}
/-- a, b = x, y -/
def sPar (i j ka kb : Nat) (fa fb : EM) : SM := fun ρ => (fa ρ).bind fun p => (fb p.2).map fun q => .nx ((q.2.set i (some (ka, p.1))).set j (some (kb, q.1)))
theorem ds_par {i j : Nat} {x y : Str} {px py pt : Pos} {kt k2 pt2} (hN : X.N.Nodup) (hc : X.calm = true) (ha : DE X a Wa true ka fa) (hb : DE X b Wb true kb fb) (hi : X.N[i]? = some x := by rfl) (hj : X.N[j]? = some y := by rfl) (hij : i ≠ j := by decide) (hp : i ∉ P ∧ j ∉ P := by decide)
    (hx : X.env.scope.names.lookup x = some .local := by rfl) (hy : X.env.scope.names.lookup y = some .local := by rfl)
    (hw : swappedStores [.Tuple [.Name x px, .Name y py] kt pt] (.Tuple [a, b] k2 pt2) X.env = pure (some [x, y]) := by rfl)
    (hs : swapsWithSole [.Tuple [.Name x px, .Name y py] kt pt] (.Tuple [a, b] k2 pt2) pos.line X.env = pure false := by rfl)
    (st1 : starEach [a, b] X.env = (false, eval a X.env) :: starEach [b] X.env := by rfl) (st2 : starEach [b] X.env = (false, eval b X.env) :: starEach [] X.env := by rfl) :
    DS X (.Assign [.Tuple [.Name x px, .Name y py] kt pt] (.Tuple [a, b] k2 pt2) pos) P n (sPar i j ka kb fa fb) := PS.conv (ps_par hc hN hi hj hij hx hy (pa_cons ha (pa_cons hb pa_nil st2) st1) hw hs) fun E σ H q => by
  obtain ⟨ρ, Z, As, r, o, ef, q⟩ := q
  unfold sPar at ef
  obtain ⟨⟨x, ρ1⟩, e1, ef⟩ := Option.bind_eq_some_iff.mp ef
  obtain ⟨⟨y, ρ2⟩, e2, ef⟩ := Option.map_eq_some_iff.mp ef
  cases ef
  refine ⟨ρ, Z, As, r, x, ρ1, e1, fun u H1 Z1 As1 B1 r1 o1 c1 s1 => ?_⟩
  refine ⟨ρ1, Z1, As1, r1, y, ρ2, e2, fun v H2 Z2 As2 B2 r2 o2 c2 s2 => ?_⟩
  have s1 := s1 rfl
  have s2 := s2 rfl
  refine ⟨u, v, rfl, ?_⟩
  have s1' := s1.wait r1 c2 c1.up
  have o1' := o1.waitB r1 s1 c2
  have c12 := c1.trans r c2
  have ap := s1.apart s2
  have r3 := r2.store (i := i) o1' s1'
  have c3 := c12.store s1' i
  have s2' : Sep B2 H As H2 Z2 (fun l => if l = i then B1 else As2 l) := (s2.after c1).stored fun b hb z => ap b z hb
  have r4 := r3.store (i := j) o2 s2'
  have c4 := c3.store s2' j
  refine q _ H2 Z2 _ r4 c4 fun l hl => ?_
  rw [List.getElem?_set_ne fun z => hp.2 (by rw [z]; exact hl), List.getElem?_set_ne fun z => hp.1 (by rw [z]; exact hl)]
def sPar3 (i j l ka kb kc : Nat) (fa fb fc : EM) : SM := fun ρ => (fa ρ).bind fun p => (fb p.2).bind fun q => (fc q.2).map fun s => .nx (((s.2.set i (some (ka, p.1))).set j (some (kb, q.1))).set l (some (kc, s.1)))
theorem ds_par3 {i j l : Nat} {x y z : Str} {px py pz pt : Pos} {kt k2 pt2} (hN : X.N.Nodup) (hc : X.calm = true) (ha : DE X a Wa true ka fa) (hb : DE X b Wb true kb fb) (hcc : DE X c Wc true kc fc) (hi : X.N[i]? = some x := by rfl) (hj : X.N[j]? = some y := by rfl) (hl : X.N[l]? = some z := by rfl)
    (hij : i ≠ j := by decide) (hil : i ≠ l := by decide) (hjl : j ≠ l := by decide) (hp : i ∉ P ∧ j ∉ P ∧ l ∉ P := by decide)
    (hx : X.env.scope.names.lookup x = some .local := by rfl) (hy : X.env.scope.names.lookup y = some .local := by rfl) (hz : X.env.scope.names.lookup z = some .local := by rfl)
    (hw : swappedStores [.Tuple [.Name x px, .Name y py, .Name z pz] kt pt] (.Tuple [a, b, c] k2 pt2) X.env = pure (some [x, y, z]) := by rfl)
    (hs : swapsWithSole [.Tuple [.Name x px, .Name y py, .Name z pz] kt pt] (.Tuple [a, b, c] k2 pt2) pos.line X.env = pure false := by rfl)
    (st1 : starEach [a, b, c] X.env = (false, eval a X.env) :: starEach [b, c] X.env := by rfl) (st2 : starEach [b, c] X.env = (false, eval b X.env) :: starEach [c] X.env := by rfl) (st3 : starEach [c] X.env = (false, eval c X.env) :: starEach [] X.env := by rfl) :
    DS X (.Assign [.Tuple [.Name x px, .Name y py, .Name z pz] kt pt] (.Tuple [a, b, c] k2 pt2) pos) P n (sPar3 i j l ka kb kc fa fb fc) := PS.conv (ps_par3 hc hN hi hj hl hij hil hjl hx hy hz (pa_cons ha (pa_cons hb (pa_cons hcc pa_nil st3) st2) st1) hw hs) fun E σ H q => by
  obtain ⟨ρ, Z, As, r, o, ef, q⟩ := q
  unfold sPar3 at ef
  obtain ⟨⟨x, ρ1⟩, e1, ef⟩ := Option.bind_eq_some_iff.mp ef
  obtain ⟨⟨y, ρ2⟩, e2, ef⟩ := Option.bind_eq_some_iff.mp ef
  obtain ⟨⟨z, ρ3⟩, e3, ef⟩ := Option.map_eq_some_iff.mp ef
  cases ef
  refine ⟨ρ, Z, As, r, x, ρ1, e1, fun u H1 Z1 As1 B1 r1 o1 c1 s1 => ?_⟩
  refine ⟨ρ1, Z1, As1, r1, y, ρ2, e2, fun v H2 Z2 As2 B2 r2 o2 c2 s2 => ?_⟩
  refine ⟨ρ2, Z2, As2, r2, z, ρ3, e3, fun w H3 Z3 As3 B3 r3 o3 c3 s3 => ?_⟩
  have s1 := s1 rfl
  have s2 := s2 rfl
  have s3 := s3 rfl
  refine ⟨u, v, w, rfl, ?_⟩
  have s1' := s1.wait r1 c2 c1.up
  have o1' := o1.waitB r1 s1 c2
  have c12 := c1.trans r c2
  have ap12 := s1.apart s2
  have s1'' := s1'.wait r2 c3 c12.up
  have o1'' := o1'.waitB r2 s1' c3
  have s2a := s2.after c1
  have s2'' := s2a.wait r2 c3 c12.up
  have o2'' := o2.waitB r2 s2 c3
  have c123 := c12.trans r c3
  have ap13 := s1'.apart s3
  have ap23 := s2.apart s3
  have s3'' := s3.after c12
  have r4 := r3.store (i := i) o1'' s1''
  have c4 := c123.store s1'' i
  have s2d : Sep B2 H As H3 Z3 (fun m => if m = i then B1 else As3 m) := s2''.stored fun b hb q => ap12 b q hb
  have r5 := r4.store (i := j) o2'' s2d
  have c5 := c4.store s2d j
  have s3d : Sep B3 H As H3 Z3 (fun m => if m = j then B2 else if m = i then B1 else As3 m) := (s3''.stored (i := i) fun b hb q => ap13 b q hb).stored fun b hb q => ap23 b q hb
  have r6 := r5.store (i := l) o3 s3d
  have c6 := c5.store s3d l
  refine q _ H3 Z3 _ r6 c6 fun m hm => ?_
  rw [List.getElem?_set_ne fun z => hp.2.2 (by rw [z]; exact hm), List.getElem?_set_ne fun z => hp.2.1 (by rw [z]; exact hm), List.getElem?_set_ne fun z => hp.1 (by rw [z]; exact hm)]
end

/-! ### what a name owns is written -/
section
variable {K : PySem.W.Frag} {ρ ρ' : Env} {σ σ' : L2.St} {H H' H1 H2 : Hp} {Z Z' Z1 Z2 : Addr → Prop} {As As' As1 As2 : Nat → List Addr} {W : Bool} {B B' : List Addr} {P : List Nat} {n k : Nat} {d : D} {v : V}
theorem Pre.write {l : Addr} {o : HO} (hz : ¬ Z l) (hm : MutO (H l)) : Pre Z H (upd H l o) where
  fz := fun a u _ z h => by
    have ne : a ≠ l := fun e => by subst e; exact hz z
    rcases h with h | ⟨o', h⟩
    · exact .inl (by rw [upd_ne ne]; exact h)
    · exact .inr ⟨o', by rw [upd_ne ne]; exact h⟩
  tp := fun a vs h => by
    have ne : a ≠ l := fun e => by subst e; rw [h] at hm; exact hm
    rw [upd_ne ne]; exact h
  rg := fun a lo hi h => by
    have ne : a ≠ l := fun e => by subst e; rw [h] at hm; exact hm
    rw [upd_ne ne]; exact h
theorem RS.write (r : RS K ρ σ H Z As) {s m : Nat} {l : Addr} {o : HO} {d' : D} (hl : l ∈ As s) (hv : σ[s]? = some (some v)) (mo : MutO (some o)) (ow : Own K (upd H l o) Z m d' v (As s)) : RS K (ρ.set s (some (m, d'))) σ (upd H l o) Z As where
  slot := fun j m' d2 e => by
    by_cases hj : j = s
    · subst hj
      have hlt : j < ρ.length := by
        have := (List.getElem?_eq_some_iff.mp e).1
        simpa using this
      rw [List.getElem?_set_self hlt] at e
      cases e
      exact ⟨v, hv, ow⟩
    · rw [List.getElem?_set_ne (Ne.symm hj)] at e
      obtain ⟨u, h1, h2⟩ := r.slot j m' d2 e
      refine ⟨u, h1, Own.mono (fun _ h => h) (Pre.write (r.nz s l hl) (r.mt s l hl)) m' (fun a ha o' e' => ?_) h2⟩
      have ne : a ≠ l := fun z => by subst z; exact hj (r.dj j s a ha hl)
      rw [upd_ne ne]
      exact e'
  nd := r.nd
  dj := r.dj
  nz := r.nz
  mt := fun j a h => by
    by_cases ha : a = l
    · rw [ha, upd_same]; exact mo
    · rw [upd_ne ha]; exact r.mt j a h
  zd := fun a h => by
    by_cases ha : a = l
    · rw [ha, upd_same]; exact fun z => nomatch z
    · rw [upd_ne ha]; exact r.zd a h
  len := by simp [r.len]
theorem Chg.write {s : Nat} {l : Addr} {o : HO} (hl : l ∈ As s) : Chg true H Z As (upd H l o) Z As where
  keep := fun a u h hw => by
    have ne : a ≠ l := fun z => by subst z; exact hw rfl s hl
    rw [upd_ne ne]
    exact h
  dom := fun a h => by
    by_cases ha : a = l
    · rw [ha, upd_same]; exact fun z => nomatch z
    · rw [upd_ne ha]; exact h
  zz := fun a h => h
  zf := fun a h => .inl h
  af := fun i a h => .inr ⟨i, h⟩
/-- the list that a name owns at the first depth -/
theorem Own.lstAt {ds : List D} (h : Own K H Z 1 (.lst ds) v B) : ∃ l vs, v = .ref l ∧ H l = some (.lst vs) ∧ vs.length ≤ sizeLine ∧ Reps K H Z ds vs ∧ B = [l] := by
  obtain ⟨a, vs, Bs, e, h1, h2, h3, h4⟩ := h
  obtain ⟨q1, q2⟩ := LO.to_reps h3
  exact ⟨a, vs, e, h1, h2, q1, by rw [h4, q2]⟩
theorem own_lst1 {l : Addr} {ds : List D} {vs : List V} (h : Reps K H Z ds vs) (hl : vs.length ≤ sizeLine) (hz : ¬ Z l) (hm : MutO (H l)) : Own K (upd H l (.lst vs)) Z 1 (.lst ds) (.ref l) [l] :=
  ⟨l, vs, [], rfl, upd_same, hl, LO.of_reps (Reps.mono (fun _ h => h) (Pre.write hz hm) ds vs h), rfl⟩
end
section
variable {X : Cx} {e a b c i : Expr} {st : Stmt} {pos apos cpos npos pos' : Pos} {W Wa Wb Wi o oa ob oi : Bool} {P : List Nat} {k ka kb ki n : Nat} {f fa fb fi : EM} {F G : SM} {x : Str}
/-- x.m(..), x the name at s that owns a list -/
def getL (s : Nat) (ρ : Env) : Option (List D) := match ρ[s]? with | some (some (1, .lst ds)) => some ds | _ => none
theorem getL_some {s : Nat} {ρ : Env} {ds : List D} (h : getL s ρ = some ds) : ρ[s]? = some (some (1, .lst ds)) := by
  unfold getL at h
  split at h
  · rename_i e; cases h; exact e
  · cases h
/-- a list's method that changes it: g tells the new items and the answer -/
def MtAt (K : PySem.W.Frag) (r : V → List V → Hp → VK → Prop) (ds as ds' : List D) (d : D) : Prop := ∀ (H : Hp) (Z : Addr → Prop) (l : Addr) (vs us : List V), H l = some (.lst vs) → vs.length ≤ sizeLine → Reps K H Z ds vs → Reps K H Z as us →
  ∀ Q : VK, (∀ vs' w, Reps K H Z ds' vs' → vs'.length ≤ sizeLine → Rep K H Z d w → Q w (upd H l (.lst vs'))) → r (.ref l) us H Q
def eMeth (s : Nat) (g : List D → List D → Option (List D × D)) (f : AM) : EM := fun ρ => (getL s ρ).bind fun _ => (f ρ).bind fun p => (getL s p.2).bind fun ds => (g ds p.1).map fun q => (q.2, p.2.set s (some (1, .lst q.1)))
theorem meth_red {s : Nat} {r : V → List V → Hp → VK → Prop} {ks : List Nat} {fs : AM} (h0 : ks.all (· == 0) = true) {σ : L2.St} {H : Hp} {Q : VK} {ρ ρ1 : Env} {Z : Addr → Prop} {As : Nat → List Addr} {ds0 ds as ds' : List D} {d : D}
    (rs : RS X.K ρ σ H Z As) (e0 : getL s ρ = some ds0) (e1 : fs ρ = some (as, ρ1)) (e2 : getL s ρ1 = some ds) (hr : MtAt X.K r ds as ds' d)
    (q : ∀ v H' Z' As' B, RS X.K (ρ1.set s (some (1, .lst ds'))) σ H' Z' As' → Own X.K H' Z' 0 d v B → Chg true H Z As H' Z' As' → (true = true → Sep B H As H' Z' As') → Q v H') :
    ∃ v, σ[s]? = some (some v) ∧ tyV X.K "list" v H ∧ (tA X.K W ks fs σ H fun us H2 => r v us H2 Q) := by
  obtain ⟨v, hv0, ow0⟩ := rs.slot s _ _ (getL_some e0)
  obtain ⟨l0, vs0, el0, hl0, _⟩ := ow0.lstAt
  refine ⟨v, hv0, by rw [el0]; exact .inl ⟨rfl, _, SqL.of hl0⟩, ?_⟩
  refine ⟨ρ, Z, As, rs, as, ρ1, e1, fun us H1 Z1 As1 r1 o1 c1 => ?_⟩
  obtain ⟨v', hv1, ow1⟩ := r1.slot s _ _ (getL_some e2)
  rw [hv0] at hv1
  cases hv1
  obtain ⟨l, vs, el, hl, hz, hrs, hB⟩ := ow1.lstAt
  have hmem : l ∈ As1 s := by rw [hB]; simp
  rw [el]
  refine hr H1 Z1 l vs us hl hz hrs (o1.reps h0) Q fun vs' w hr' hz' hw => ?_
  have ow : Own X.K (upd H1 l (.lst vs')) Z1 1 (.lst ds') v (As1 s) := by
    rw [el, hB]
    exact own_lst1 hr' hz' (r1.nz s l hmem) (r1.mt s l hmem)
  have r2 := RS.write (o := .lst vs') r1 hmem hv0 trivial ow
  have c2 := c1.trans rs (Chg.write (H := H1) (Z := Z1) (o := .lst vs') hmem)
  have c2 : Chg true H Z As (upd H1 l (.lst vs')) Z1 As1 := by simpa using c2
  exact q w _ Z1 As1 [] r2 ⟨Rep.mono (fun _ h => h) (Pre.write (r1.nz s l hmem) (r1.mt s l hmem)) d w hw, rfl⟩ c2 fun _ => Sep.nil
theorem de_meth {es : List Expr} {ks : List Nat} {fs : AM} {name : Str} {id : String} {g : List D → List D → Option (List D × D)} (s : Nat) (slot : Slot "list" name id) (hty : typeOf (.builtin id) = pure (.type "method_descriptor"))
    (hg : ∀ ds as ds' d, g ds as = some (ds', d) → ∃ r, MtR X id r ∧ MtAt X.K r ds as ds' d) (h : DA X (e :: es) W ks fs) (hN : X.N[s]? = some x := by rfl) (hv : Vis X.env.scope x := by first | exact Or.inl rfl | exact Or.inr (Or.inl rfl) | exact Or.inr (Or.inr rfl)) (h0 : ks.all (· == 0) = true := by rfl)
    (hbase : attributeBase (.Name x npos) name X.env (eval (.Name x npos) X.env) = eval (.Name x npos) X.env := by rfl)
    (hfew : ((backTo cpos (starEach (e :: es) X.env)).all (fun x => !x.1) && (backToKw cpos (keywordEach [] X.env)).all (fun x => x.1.isSome)
      && decide ((e :: es).length + ([] : List Keyword).length + (if ([] : List Keyword).isEmpty then 0 else 1) < 30)) = true := by rfl)
    (hline : (apos.endLine == cpos.line) = true := by rfl) (hs : starEach (e :: es) X.env = (false, eval e X.env) :: starEach es X.env := by rfl) (hplain : (backTo cpos (starEach es X.env)).any (·.1) = false := by rfl)
    (hd : (x == ("__debug__" : Str)) = false := by decide) (hcd : (x == ("__classdict__" : Str)) = false := by decide) :
    DE X (.Call (.Attribute (.Name x npos) name apos) (e :: es) [] cpos) true true 0 (eMeth s g fs) := by
  refine ⟨fun pins st σ H Q I q => ?_⟩
  obtain ⟨ρ, Z, As, r, d, ρ', ef, q⟩ := q
  unfold eMeth at ef
  obtain ⟨ds0, e0, ef⟩ := Option.bind_eq_some_iff.mp ef
  obtain ⟨⟨as, ρ1⟩, e1, ef⟩ := Option.bind_eq_some_iff.mp ef
  obtain ⟨ds, e2, ef⟩ := Option.bind_eq_some_iff.mp ef
  obtain ⟨⟨ds', d'⟩, e3, ef⟩ := Option.map_eq_some_iff.mp ef
  cases ef
  obtain ⟨rr, hm, hr⟩ := hg _ _ _ _ e3
  refine (pe_bm PySem.F.plainAttrs_list slot hty hm (pe_var hN hv hd hcd) h hbase hfew hline hs hplain).run pins st σ H Q I ?_
  exact meth_red h0 r e0 e1 e2 hr q
theorem de_meth0 {name : Str} {id : String} {g : List D → List D → Option (List D × D)} (s : Nat) (slot : Slot "list" name id) (hty : typeOf (.builtin id) = pure (.type "method_descriptor"))
    (hg : ∀ ds as ds' d, g ds as = some (ds', d) → ∃ r, MtR X id r ∧ MtAt X.K r ds as ds' d) (hN : X.N[s]? = some x := by rfl) (hv : Vis X.env.scope x := by first | exact Or.inl rfl | exact Or.inr (Or.inl rfl) | exact Or.inr (Or.inr rfl))
    (hbase : attributeBase (.Name x npos) name X.env (eval (.Name x npos) X.env) = eval (.Name x npos) X.env := by rfl) (hline : (apos.endLine == cpos.line) = true := by rfl)
    (hd : (x == ("__debug__" : Str)) = false := by decide) (hcd : (x == ("__classdict__" : Str)) = false := by decide) :
    DE X (.Call (.Attribute (.Name x npos) name apos) [] [] cpos) true true 0 (eMeth s g aNil) := by
  refine ⟨fun pins st σ H Q I q => ?_⟩
  obtain ⟨ρ, Z, As, r, d, ρ', ef, q⟩ := q
  unfold eMeth at ef
  obtain ⟨ds0, e0, ef⟩ := Option.bind_eq_some_iff.mp ef
  obtain ⟨⟨as, ρ1⟩, e1, ef⟩ := Option.bind_eq_some_iff.mp ef
  cases e1
  obtain ⟨ds, e2, ef⟩ := Option.bind_eq_some_iff.mp ef
  obtain ⟨⟨ds', d'⟩, e3, ef⟩ := Option.map_eq_some_iff.mp ef
  cases ef
  obtain ⟨rr, hm, hr⟩ := hg _ _ _ _ e3
  refine (pe_bm0 PySem.F.plainAttrs_list slot hty hm (pe_var hN hv hd hcd) hbase hline).run pins st σ H Q I ?_
  obtain ⟨v, h1, h2, ρ2, Z2, As2, r2, as2, ρ3, e4, q4⟩ := meth_red (W := false) (ks := []) (fs := aNil) rfl r e0 rfl e2 hr q
  cases e4
  exact ⟨v, h1, h2, q4 [] H Z2 As2 r2 ⟨rfl, rfl⟩ Chg.refl⟩
def gAppend (ds as : List D) : Option (List D × D) := match as with
  | [d] => if ds.length < sizeLine then some (ds ++ [d], .non) else none
  | _ => none
theorem rep_non {K : PySem.W.Frag} {H : Hp} {Z : Addr → Prop} : Rep K H Z .non .non := by unfold Rep; rfl
theorem reps_one {K : PySem.W.Frag} {H : Hp} {Z : Addr → Prop} {d : D} {us : List V} (h : Reps K H Z [d] us) : ∃ u, us = [u] ∧ Rep K H Z d u := by
  unfold Reps at h
  obtain ⟨u, r, rfl, h1, h2⟩ := h
  unfold Reps at h2
  exact ⟨u, by rw [h2], h1⟩
theorem reps_two {K : PySem.W.Frag} {H : Hp} {Z : Addr → Prop} {d d2 : D} {us : List V} (h : Reps K H Z [d, d2] us) : ∃ u w, us = [u, w] ∧ Rep K H Z d u ∧ Rep K H Z d2 w := by
  unfold Reps at h
  obtain ⟨u, r, rfl, h1, h2⟩ := h
  obtain ⟨w, rfl, h3⟩ := reps_one h2
  exact ⟨u, w, rfl, h1, h3⟩
theorem m_append (ds as ds' : List D) (d : D) (h : gAppend ds as = some (ds', d)) : ∃ r, MtR X "list.append" r ∧ MtAt X.K r ds as ds' d := by
  unfold gAppend at h
  split at h
  · split at h
    · rename_i y hl
      cases h
      refine ⟨_, mt_append, fun H Z l vs us hl' hz hr ha Q q => ?_⟩
      obtain ⟨u, rfl, hu⟩ := reps_one ha
      have := hr.length
      exact ⟨l, vs, u, rfl, rfl, hl', by omega, q _ _ (hr.append (Reps.one hu)) (by rw [List.length_append, List.length_singleton]; omega) rep_non⟩
    · cases h
  · cases h
def gPop (ds as : List D) : Option (List D × D) := match as with
  | [] => (ds[ds.length - 1]?).map fun d => (ds.dropLast, d)
  | [.int i] => if -(2 ^ 63) ≤ i ∧ i < 2 ^ 63 then (seqIndex? i ds.length).bind fun k => (ds[k]?).map fun d => (ds.eraseIdx k, d) else none
  | _ => none
theorem Reps.dropLast {K : PySem.W.Frag} {H : Hp} {Z : Addr → Prop} {ds : List D} {vs : List V} (h : Reps K H Z ds vs) : Reps K H Z ds.dropLast vs.dropLast := by
  rw [List.dropLast_eq_take, List.dropLast_eq_take, h.length]
  exact h.take _
theorem Reps.eraseIdx {K : PySem.W.Frag} {H : Hp} {Z : Addr → Prop} : ∀ {ds : List D} {vs : List V} (i : Nat), Reps K H Z ds vs → Reps K H Z (ds.eraseIdx i) (vs.eraseIdx i)
  | [], vs, i, h => by unfold Reps at h; rw [h]; simpa using Reps.nil
  | d :: ds, vs, 0, h => by
    unfold Reps at h
    obtain ⟨v, r, rfl, h1, h2⟩ := h
    exact h2
  | d :: ds, vs, i + 1, h => by
    unfold Reps at h
    obtain ⟨v, r, rfl, h1, h2⟩ := h
    exact Reps.cons h1 (h2.eraseIdx i)
theorem m_pop0 (ds as ds' : List D) (d : D) (h : gPop ds as = some (ds', d)) (ha : as = []) : ∃ r, MtR X "list.pop" r ∧ MtAt X.K r ds as ds' d := by
  subst ha
  obtain ⟨y, e1, e2⟩ := Option.map_eq_some_iff.mp (show (ds[ds.length - 1]?).map (fun d => (ds.dropLast, d)) = some (ds', d) from h)
  cases e2
  refine ⟨_, mt_pop, fun H Z l vs us hl' hz hr ha Q q => ?_⟩
  unfold Reps at ha
  obtain ⟨v, g1, g2⟩ := hr.get e1
  have hl := hr.length
  refine ⟨l, vs, v, rfl, ha, hl', by rw [hl]; exact g1, q _ _ hr.dropLast ?_ g2⟩
  rw [List.length_dropLast]; omega
theorem m_pop (ds as ds' : List D) (d : D) (h : gPop ds as = some (ds', d)) : ∃ r, MtR X "list.pop" r ∧ MtAt X.K r ds as ds' d := by
  match as, h with
  | [], h => exact m_pop0 ds [] ds' d h rfl
  | [.int i], h =>
    have h : (if -(2 ^ 63) ≤ i ∧ i < 2 ^ 63 then (seqIndex? i ds.length).bind fun k => (ds[k]?).map fun d => (ds.eraseIdx k, d) else none) = some (ds', d) := h
    split at h
    · rename_i hb
      obtain ⟨k, e1, h⟩ := Option.bind_eq_some_iff.mp h
      obtain ⟨y, e2, h⟩ := Option.map_eq_some_iff.mp h
      cases h
      refine ⟨_, mt_popAt, fun H Z l vs us hl' hz hr ha Q q => ?_⟩
      obtain ⟨u, rfl, hu⟩ := reps_one ha
      unfold Rep at hu
      subst hu
      obtain ⟨v, g1, g2⟩ := hr.get e2
      have hl := hr.length
      refine ⟨l, vs, i, k, v, rfl, rfl, hl', hb.1, hb.2, by rw [hl]; exact e1, g1, q _ _ (hr.eraseIdx k) ?_ g2⟩
      have := len_erase vs k
      omega
    · cases h
  | .non :: _, h => cases h
  | .bl _ :: _, h => cases h
  | .str _ :: _, h => cases h
  | .tup _ :: _, h => cases h
  | .ktp _ :: _, h => cases h
  | .lst _ :: _, h => cases h
  | .dct _ _ _ :: _, h => cases h
  | .rng _ _ :: _, h => cases h
  | .ty _ :: _, h => cases h
  | .int _ :: _ :: _, h => cases h
/-- extend by a list -/
def rExtR : V → List V → Hp → VK → Prop := fun x vs H Q => ∃ l b xs zs, x = .ref l ∧ vs = [.ref b] ∧ H l = some (.lst xs) ∧ Rd H b (.lst zs) ∧ xs.length + zs.length ≤ sizeLine ∧ Q .non (upd H l (.lst (xs ++ zs)))
theorem mt_extR : MtM X "list.extend" rExtR := by
  intro pins s σ H x vs v us Q I rx rv h
  obtain ⟨l, b, xs, zs, rfl, rfl, hH, hB, hz, q⟩ := h
  cases rx
  obtain ⟨u, rfl, ru⟩ := rv.one
  cases ru
  obtain ⟨z, its, n, r, hl, e⟩ := I.lstM hH
  obtain ⟨z2, its2, n2, r2, hl2, e2⟩ := lstR I hB
  have hsz : its.toArray.size + its2.toArray.size ≤ sizeLine := by rw [List.size_toArray, List.size_toArray]; omega
  have hlong : ¬ (!its.toArray.isEmpty && Builtin.List.listTooLong (its.toArray.size + its2.toArray.size)) = true := by
    rw [notLongL hsz, Bool.and_false]
    exact Bool.false_ne_true
  refine call_meets PySem.F.slot_list_extend ⟨_, e, rfl⟩ PySem.F.entry_list_extend (PySem.F.args_list_extend_2 _ _)
    (AutoSeq1.list_extend_list_list_0 l its.toArray n b its2.toArray n2 hlong (by rw [List.size_toArray]; omega) (by omega)) ⟨e, e2, ?_⟩
  refine ⟨.non, _, I.lset (its' := its ++ its2) hH e (by simp) (r.append r2) ?_, rfl, q⟩
  rw [List.length_append]
  omega
def gExtend (ds as : List D) : Option (List D × D) := match as with
  | [.lst es] => if ds.length + es.length ≤ sizeLine then some (ds ++ es, .non) else none
  | _ => none
theorem m_extend (ds as ds' : List D) (d : D) (h : gExtend ds as = some (ds', d)) : ∃ r, MtR X "list.extend" r ∧ MtAt X.K r ds as ds' d := by
  unfold gExtend at h
  split at h
  · split at h
    · rename_i es hl
      cases h
      refine ⟨_, mt_extR, fun H Z l vs us hl' hz hr ha Q q => ?_⟩
      obtain ⟨u, rfl, hu⟩ := reps_one ha
      unfold Rep at hu
      obtain ⟨b, ws, rfl, _, h1, h2, h3⟩ := hu
      have g1 := hr.length
      have g2 := h3.length
      exact ⟨l, b, vs, ws, rfl, rfl, hl', h1, by omega, q _ _ (hr.append h3) (by rw [List.length_append]; omega) rep_non⟩
    · cases h
  · cases h
def gInsert (ds as : List D) : Option (List D × D) := match as with
  | [.int i, d] => if ds.length < sizeLine ∧ 0 ≤ i ∧ i < 2 ^ 63 then some (ds.take i.toNat ++ [d] ++ ds.drop i.toNat, .non) else none
  | _ => none
theorem m_insert (ds as ds' : List D) (d : D) (h : gInsert ds as = some (ds', d)) : ∃ r, MtR X "list.insert" r ∧ MtAt X.K r ds as ds' d := by
  unfold gInsert at h
  split at h
  · split at h
    · rename_i i y hl
      cases h
      refine ⟨_, mt_insert, fun H Z l vs us hl' hz hr ha Q q => ?_⟩
      obtain ⟨u, w, rfl, hu, hw⟩ := reps_two ha
      unfold Rep at hu
      subst hu
      have g1 := hr.length
      refine ⟨l, vs, i, w, rfl, rfl, hl', by omega, hl.2.1, hl.2.2, q _ _ (((hr.take _).append (Reps.one hw)).append (hr.drop _)) ?_ rep_non⟩
      rw [List.length_append, List.length_append, List.length_take, List.length_drop, List.length_singleton]
      omega
    · cases h
  · cases h

/-! ### x[i] = e -/
def sSetIx (s : Nat) (f fi : EM) : SM := fun ρ => (f ρ).bind fun p => (getL s p.2).bind fun _ => (fi p.2).bind fun q => (getL s q.2).bind fun ds => match q.1 with
  | .int j => (ixN ds.length j).map fun m => .nx (q.2.set s (some (1, .lst (ds.set m p.1))))
  | _ => none
theorem ixN_lt {n m : Nat} {j : Int} (h : ixN n j = some m) : m < n := by
  unfold ixN at h
  split at h
  · split at h
    · cases h; omega
    · cases h
  · split at h
    · cases h; omega
    · cases h
theorem ds_setix (s : Nat) (h : DE X e W true 0 f) (hi : DE X i false oi ki fi) (hN : X.N[s]? = some x := by rfl) (hv : Vis X.env.scope x := by first | exact Or.inl rfl | exact Or.inr (Or.inl rfl) | exact Or.inr (Or.inr rfl))
    (hs : swapsWithSole [.Subscript (.Name x npos) i pos'] e pos.line X.env = pure false := by rfl) (hw : swappedStores [.Subscript (.Name x npos) i pos'] e X.env = pure none := by rfl)
    (h1 : (assignEach [.Subscript (.Name x npos) i pos'] X.env).map (·.2) = [assign (.Subscript (.Name x npos) i pos') X.env] := by rfl)
    (ha : ∀ v, assign (.Subscript (.Name x npos) i pos') X.env v = (do
      let ov ← holding [v] (eval (.Name x npos) X.env)
      let iv ← holding [v, ov] (eval i X.env)
      standAt pos'
      holding [v, ov, iv] (setItem ov iv v)
      release [v, ov, iv] []) := by intro _; rfl)
    (hd : (x == ("__debug__" : Str)) = false := by decide) (hcd : (x == ("__classdict__" : Str)) = false := by decide) :
    DS X (.Assign [.Subscript (.Name x npos) i pos'] e pos) P n (sSetIx s f fi) := PS.conv (ps_asg h (pg_sub (pe_var hN hv hd hcd) hi set_list ha) hs hw h1) fun E σ H q => by
  obtain ⟨ρ, Z, As, r, o, ef, q⟩ := q
  unfold sSetIx at ef
  obtain ⟨⟨y, ρ1⟩, e1, ef⟩ := Option.bind_eq_some_iff.mp ef
  obtain ⟨ds0, e0, ef⟩ := Option.bind_eq_some_iff.mp ef
  obtain ⟨⟨w, ρ2⟩, e2, ef⟩ := Option.bind_eq_some_iff.mp ef
  obtain ⟨ds, e3, ef⟩ := Option.bind_eq_some_iff.mp ef
  cases w with
  | int j =>
    obtain ⟨m, e4, ef⟩ := Option.map_eq_some_iff.mp (show (ixN ds.length j).map (fun m => Out.nx (ρ2.set s (some (1, .lst (ds.set m y))))) = some o from ef)
    subst ef
    refine ⟨ρ, Z, As, r, y, ρ1, e1, fun u H1 Z1 As1 B1 r1 o1 c1 _ => ?_⟩
    obtain ⟨v, hv0, ow0⟩ := r1.slot s _ _ (getL_some e0)
    refine ⟨v, hv0, ρ1, Z1, As1, r1, _, ρ2, e2, fun t H2 Z2 As2 B2 r2 o2 c2 _ => ?_⟩
    obtain ⟨v', hv1, ow1⟩ := r2.slot s _ _ (getL_some e3)
    rw [hv0] at hv1
    cases hv1
    obtain ⟨l, vs, el, hl, hz, hrs, hB⟩ := ow1.lstAt
    have hmem : l ∈ As2 s := by rw [hB]; simp
    have hlen := hrs.length
    refine ⟨l, vs, j, m, el, o2.int, hl, by rw [hlen]; exact e4, ?_⟩
    have hr' : Reps X.K H2 Z2 (ds.set m y) (vs.set m u) := hrs.set m (o1.wait r1 c2 (.inl rfl)).1
    have ow : Own X.K (upd H2 l (.lst (vs.set m u))) Z2 1 (.lst (ds.set m y)) v (As2 s) := by
      rw [el, hB]
      exact own_lst1 hr' (by rw [List.length_set]; exact hz) (r2.nz s l hmem) (r2.mt s l hmem)
    have r3 := RS.write (o := .lst (vs.set m u)) r2 hmem hv0 trivial ow
    have c3 := (c1.trans r c2).trans r (Chg.write (H := H2) (Z := Z2) (o := .lst (vs.set m u)) hmem)
    have c3 : Chg true H Z As (upd H2 l (.lst (vs.set m u))) Z2 As2 := by simpa using c3
    exact q σ _ Z2 As2 r3 c3 Pin.refl
  | _ => cases ef
end
end DL
/-! DL10: while, what is walked, for -/
namespace DL
open PySem PySem.Spec PyProof.Rows L2

/-! ### while -/
/-- n: how many turns at most -/
def whileM (t : TM) (F : SM) : Nat → SM
  | 0 => fun _ => none
  | n + 1 => fun ρ => (t ρ).bind fun p => if p.1 = true then (F p.2).bind fun o => match o with
      | .nx ρ' => whileM t F n ρ'
      | .ct ρ' => whileM t F n ρ'
      | .br ρ' => some (.nx ρ')
      | .rt d ρ' => some (.rt d ρ')
    else some (.nx p.2)
section
variable {X : Cx} {e a b : Expr} {st : Stmt} {body rest sts : List Stmt} {pos : Pos} {W Wa Wb o oa ob : Bool} {k ka kb n : Nat} {P : List Nat} {f fa fb : EM} {F G : SM}
theorem ds_while {c : Expr} {t : TM} (N : Nat) (hp : PassesOwn (model X.prog X.w) X.A X.env X.xe) (ht : DT X c W t) (hb : DSs X body P n F) : DS X (.While c body [] pos) P n (whileM t F N) := PS.conv (ps_while hp ht hb) fun E σ H q => by
  obtain ⟨ρ, Z, As, r, o, ef, q⟩ := q
  refine ⟨fun m σ' H' => ∃ ρ' Z' As', RS X.K ρ' σ' H' Z' As' ∧ Chg true H Z As H' Z' As' ∧ Pin P σ σ' ∧ whileM t F m ρ' = some o, ⟨N, ρ, Z, As, r, Chg.refl, Pin.refl, ef⟩, ?_⟩
  rintro m σ1 H1 ⟨ρ1, Z1, As1, r1, c1, p1, e1⟩
  cases m with
  | zero => cases e1
  | succ m =>
    unfold whileM at e1
    obtain ⟨⟨b, ρ2⟩, e2, e1⟩ := Option.bind_eq_some_iff.mp e1
    refine ⟨ρ1, Z1, As1, r1, b, ρ2, e2, fun H2 Z2 As2 r2 c2 => ?_⟩
    have c12 : Chg true H Z As H2 Z2 As2 := by simpa using c1.trans r c2
    cases b with
    | false =>
      cases e1
      show if false = true then _ else _
      rw [if_neg (by decide)]
      exact q σ1 H2 Z2 As2 r2 c12 p1
    | true =>
      show if true = true then _ else _
      rw [if_pos rfl]
      rw [if_pos rfl] at e1
      obtain ⟨o1, e3, e1⟩ := Option.bind_eq_some_iff.mp e1
      refine ⟨fun σ' H' => ∃ ρ' Z' As', RS X.K ρ' σ' H' Z' As' ∧ Chg true H Z As H' Z' As' ∧ Pin P σ σ' ∧ whileM t F m ρ' = some o, fun σ' H' w => ⟨m, Nat.lt_succ_self m, w⟩, ?_⟩
      refine ⟨ρ2, Z2, As2, r2, o1, e3, ?_⟩
      cases o1 with
      | nx ρ3 => exact fun σ3 H3 Z3 As3 r3 c3 p3 => ⟨ρ3, Z3, As3, r3, c12.trans r c3, p1.trans p3, e1⟩
      | ct ρ3 => exact fun σ3 H3 Z3 As3 r3 c3 p3 => ⟨ρ3, Z3, As3, r3, c12.trans r c3, p1.trans p3, e1⟩
      | br ρ3 => cases e1; exact fun σ3 H3 Z3 As3 r3 c3 p3 => q σ3 H3 Z3 As3 r3 (c12.trans r c3) (p1.trans p3)
      | rt d ρ3 => cases e1; exact fun v σ3 H3 Z3 As3 B r3 ow c3 sp p3 => q v σ3 H3 Z3 As3 B r3 ow (c12.trans r c3) (sp.after c12) (p1.trans p3)
end

/-! ### what is walked -/
abbrev IM := Env → Option (List D × Env)
/-- the iterator gives ds, in order; what it stands on is frozen -/
def Feeds (K : PySem.W.Frag) (J : It) (ds : List D) (H0 : Hp) (Z0 : Addr → Prop) : Prop := ∀ H Z, (∀ a, Z0 a → Z a) → Pre Z0 H0 H → (∀ a, Z a → H a ≠ none) →
  (∀ i, i < ds.length → J.go i H) ∧ (∀ i x H' d, J.yld i H x H' → ds[i]? = some d → ∃ Z', Gr H Z H' Z' [] ∧ Rep K H' Z' d x) ∧ (∀ i, ds.length ≤ i → J.stop i H)
def tI (K : PySem.W.Frag) (W : Bool) (f : IM) : TI := fun σ H R => ∃ ρ Z As, RS K ρ σ H Z As ∧ ∃ ds ρ', f ρ = some (ds, ρ') ∧
  ∀ J H' Z' As', RS K ρ' σ H' Z' As' → Chg W H Z As H' Z' As' → Feeds K J ds H' Z' → R J H'
abbrev DI (X : Cx) (tg iter : Expr) (W : Bool) (f : IM) : Prop := PI X tg iter (tI X.K W f)
theorem PI.conv {X : Cx} {tg e : Expr} {t t' : TI} (h : PI X tg e t) (c : ∀ σ H R, t' σ H R → t σ H R) : PI X tg e t' := ⟨fun pins s σ H R I q => h.run pins s σ H R I (c σ H R q)⟩
section
variable {K : PySem.W.Frag} {H H' : Hp} {Z Z' : Addr → Prop} {ds : List D} {vs : List V} {a : Addr}
theorem feeds_lst (z : Z a) (h : Rd H a (.lst vs)) (hr : Reps K H Z ds vs) : Feeds K (Itl K a) ds H Z := fun H1 Z1 hz p zd => by
  have h1 : SqL K H1 a vs := .inl (p.fz _ _ rfl z h)
  have hr1 := Reps.mono hz p ds vs hr
  have hl := hr.length
  refine ⟨fun i hi => ⟨vs, vs[i]'(by omega), h1, by simp⟩, fun i x H' d y e => ?_, fun i hi => ⟨vs, h1, by omega⟩⟩
  obtain ⟨rfl, y⟩ := y
  obtain ⟨v, g1, g2⟩ := hr1.get e
  have := y vs h1
  rw [g1] at this
  cases this
  exact ⟨Z1, Gr.refl zd, g2⟩
theorem feeds_tup (h : ∀ H1, Pre Z H H1 → SqT K H1 a vs) (hr : Reps K H Z ds vs) : Feeds K (Itt K a) ds H Z := fun H1 Z1 hz p zd => by
  have h1 := h H1 p
  have hr1 := Reps.mono hz p ds vs hr
  have hl := hr.length
  refine ⟨fun i hi => ⟨vs, vs[i]'(by omega), h1, by simp⟩, fun i x H' d y e => ?_, fun i hi => ⟨vs, h1, by omega⟩⟩
  obtain ⟨rfl, y⟩ := y
  obtain ⟨v, g1, g2⟩ := hr1.get e
  have := y vs h1
  rw [g1] at this
  cases this
  exact ⟨Z1, Gr.refl zd, g2⟩
def rngL (lo : Int) (n : Nat) : List D := (List.range n).map fun i => .int (lo + (i : Nat))
theorem feeds_rng (lo : Int) (n : Nat) : Feeds K (Itr lo n) (rngL lo n) H Z := fun H1 Z1 hz p zd => by
  have hl : (rngL lo n).length = n := by simp [rngL]
  rw [hl]
  refine ⟨fun i hi => hi, fun i x H' d y e => ?_, fun i hi => hi⟩
  obtain ⟨rfl, y⟩ := y
  have e' : d = .int (lo + (i : Nat)) := by
    unfold rngL at e
    rw [List.getElem?_map] at e
    obtain ⟨j, e1, e2⟩ := Option.map_eq_some_iff.mp e
    rw [← e2]
    have : j = i := by
      obtain ⟨h1, h2⟩ := List.getElem?_eq_some_iff.mp e1
      simpa using h2.symm
    rw [this]
  subst e'
  exact ⟨Z1, Gr.refl zd, by unfold Rep; exact y⟩
end
section
variable {X : Cx} {tg e a b : Expr} {pos p : Pos} {W Wa Wb o oa ob : Bool} {k ka kb n : Nat} {ks : List Nat} {f fa fb : EM} {fs : AM}
/-- the items of a list, of a tuple -/
def iLst (f : EM) : IM := fun ρ => (f ρ).bind fun p => match p.1 with | .lst ds => some (ds, p.2) | _ => none
def iTp (f : EM) : IM := fun ρ => (f ρ).bind fun p => match p.1 with | .tup ds => some (ds, p.2) | .ktp ds => some (ds, p.2) | _ => none
theorem di_lst (h : DE X e W true 0 f) : DI X tg e W (iLst f) := PI.conv (pi_list h) fun σ H R q => by
  obtain ⟨ρ, Z, As, r, ds, ρ', ef, q⟩ := q
  unfold iLst at ef
  obtain ⟨⟨d, ρ1⟩, e1, ef⟩ := Option.bind_eq_some_iff.mp ef
  refine ⟨ρ, Z, As, r, d, ρ1, e1, fun v H' Z' As' B r' ow c sp => ?_⟩
  cases d with
  | lst es =>
    cases ef
    obtain ⟨ow, _⟩ := ow
    unfold Rep at ow
    obtain ⟨a, vs, rfl, z, h1, h2, h3⟩ := ow
    exact ⟨a, rfl, ⟨vs, .inl h1⟩, q _ H' Z' As' r' c (feeds_lst z h1 h3)⟩
  | _ => cases ef
theorem di_tup (h : DE X e W true 0 f) : DI X tg e W (iTp f) := PI.conv (pi_tup h) fun σ H R q => by
  obtain ⟨ρ, Z, As, r, ds, ρ', ef, q⟩ := q
  unfold iTp at ef
  obtain ⟨⟨d, ρ1⟩, e1, ef⟩ := Option.bind_eq_some_iff.mp ef
  refine ⟨ρ, Z, As, r, d, ρ1, e1, fun v H' Z' As' B r' ow c sp => ?_⟩
  cases d with
  | tup es =>
    cases ef
    obtain ⟨ow, _⟩ := ow
    unfold Rep at ow
    obtain ⟨a, vs, rfl, h1, h2, h3⟩ := ow
    exact ⟨a, rfl, ⟨vs, SqT.of h1⟩, q _ H' Z' As' r' c (feeds_tup (fun H1 p => SqT.of (p.tp _ _ h1)) h3)⟩
  | ktp es =>
    cases ef
    obtain ⟨ow, _⟩ := ow
    unfold Rep at ow
    obtain ⟨a, vs, rfl, h1, h2, h3⟩ := ow
    exact ⟨a, rfl, ⟨vs, SqT.k h1⟩, q _ H' Z' As' r' c (feeds_tup (fun H1 p => SqT.k h1) h3)⟩
  | _ => cases ef
/-- range(j), range(i, j) -/
def iRg1 (fs : AM) : IM := fun ρ => (fs ρ).bind fun p => match p.1 with | [.int j] => if -(2 ^ 62) ≤ j ∧ j < 2 ^ 62 then some (rngL 0 j.toNat, p.2) else none | _ => none
def iRg2 (fs : AM) : IM := fun ρ => (fs ρ).bind fun p => match p.1 with | [.int i, .int j] => if -(2 ^ 62) ≤ i ∧ i < 2 ^ 62 ∧ -(2 ^ 62) ≤ j ∧ j < 2 ^ 62 then some (rngL i (j - i).toNat, p.2) else none | _ => none
theorem di_range1 (hg : Gl X "range") (hm : X.mg "range" = none) (h : DA X [a] W ks fs) (h0 : ks.all (· == 0) = true := by rfl) (hs : starEach [a] X.env = [(false, eval a X.env)] := by rfl) : DI X tg (.Call (.Name "range" p) [a] [] pos) W (iRg1 fs) := PI.conv (pi_range1 hg hm h hs) fun σ H R q => by
  obtain ⟨ρ, Z, As, r, ds, ρ', ef, q⟩ := q
  unfold iRg1 at ef
  obtain ⟨⟨as, ρ1⟩, e1, ef⟩ := Option.bind_eq_some_iff.mp ef
  refine ⟨ρ, Z, As, r, as, ρ1, e1, fun vs H' Z' As' r' ow c => ?_⟩
  simp only at ef
  split at ef
  · split at ef
    · rename_i j hb
      cases ef
      obtain ⟨u, rfl, hu⟩ := reps_one (ow.reps h0)
      unfold Rep at hu
      subst hu
      exact ⟨_, rfl, hb.1, hb.2, q _ H' Z' As' r' c (feeds_rng 0 _)⟩
    · cases ef
  · cases ef
theorem di_range2 (hg : Gl X "range") (hm : X.mg "range" = none) (h : DA X [a, b] W ks fs) (h0 : ks.all (· == 0) = true := by rfl) (hs : starEach [a, b] X.env = [(false, eval a X.env), (false, eval b X.env)] := by rfl) (hs2 : starEach [b] X.env = [(false, eval b X.env)] := by rfl) :
    DI X tg (.Call (.Name "range" p) [a, b] [] pos) W (iRg2 fs) := PI.conv (pi_range2 hg hm h hs hs2) fun σ H R q => by
  obtain ⟨ρ, Z, As, r, ds, ρ', ef, q⟩ := q
  unfold iRg2 at ef
  obtain ⟨⟨as, ρ1⟩, e1, ef⟩ := Option.bind_eq_some_iff.mp ef
  refine ⟨ρ, Z, As, r, as, ρ1, e1, fun vs H' Z' As' r' ow c => ?_⟩
  simp only at ef
  split at ef
  · split at ef
    · rename_i i j hb
      cases ef
      obtain ⟨u, w, rfl, hu, hw⟩ := reps_two (ow.reps h0)
      unfold Rep at hu hw
      subst hu hw
      exact ⟨_, _, rfl, hb, q _ H' Z' As' r' c (feeds_rng i _)⟩
    · cases ef
  · cases ef
end

/-! ### for -/
def forM (g : GM) (F : SM) : List D → SM
  | [] => fun ρ => some (.nx ρ)
  | d :: ds => fun ρ => (g d ρ).bind fun ρ1 => (F ρ1).bind fun o => match o with
      | .nx ρ' => forM g F ds ρ'
      | .ct ρ' => forM g F ds ρ'
      | .br ρ' => some (.nx ρ')
      | .rt d ρ' => some (.rt d ρ')
def sFor (f : IM) (g : GM) (F : SM) : SM := fun ρ => (f ρ).bind fun p => forM g F p.1 p.2
section
variable {X : Cx} {tg iter : Expr} {body : List Stmt} {pos : Pos} {W : Bool} {n : Nat} {P vs : List Nat} {f : IM} {g : GM} {F : SM}
theorem ds_for (hp : PassesOwn (model X.prog X.w) X.A X.env X.xe) (hc : X.calm = true) (hi : DI X tg iter W f) (hg : DG X tg vs g) (hb : DSs X body P n F) (hv : ∀ i ∈ vs, i ∉ P := by decide) (hs : ∀ x, foldedSetIterable iter X.env x = pure x := by intro _; rfl) :
    DS X (.For tg iter body [] pos) P n (sFor f g F) := PS.conv (ps_for hp hc hi hg hb hs) fun E σ H q => by
  obtain ⟨ρ, Z, As, r, o, ef, q⟩ := q
  unfold sFor at ef
  obtain ⟨⟨ds, ρ1⟩, e1, ef⟩ := Option.bind_eq_some_iff.mp ef
  refine ⟨ρ, Z, As, r, ds, ρ1, e1, fun J H1 Z1 As1 r1 c1 fe => ?_⟩
  have c1 : Chg true H Z As H1 Z1 As1 := c1.up
  refine ⟨fun i m σ' H' => m = ds.length - i ∧ i ≤ ds.length ∧ ∃ ρ' Z' As', RS X.K ρ' σ' H' Z' As' ∧ Chg true H1 Z1 As1 H' Z' As' ∧ Pin P σ σ' ∧ forM g F (ds.drop i) ρ' = some o, ⟨ds.length, by simp, Nat.zero_le _, ρ1, Z1, As1, r1, Chg.refl, Pin.refl, ef⟩, ?_⟩
  rintro i m σ2 H2 ⟨rfl, hi, ρ2, Z2, As2, r2, c2, p2, e2⟩
  obtain ⟨f1, f2, f3⟩ := fe H2 Z2 c2.zz (c2.pre r1) r2.zd
  have c12 : Chg true H Z As H2 Z2 As2 := c1.trans r c2
  by_cases hlt : i < ds.length
  · refine .inr ⟨f1 i hlt, fun σ' H' => i + 1 ≤ ds.length ∧ ∃ ρ' Z' As', RS X.K ρ' σ' H' Z' As' ∧ Chg true H1 Z1 As1 H' Z' As' ∧ Pin P σ σ' ∧ forM g F (ds.drop (i + 1)) ρ' = some o, fun σ' H' w => ⟨ds.length - (i + 1), by omega, rfl, w⟩, fun x H3 y => ?_⟩
    have ed : ds.drop i = ds[i] :: ds.drop (i + 1) := List.drop_eq_getElem_cons hlt
    rw [ed] at e2
    obtain ⟨ρ3, e3, e2⟩ := Option.bind_eq_some_iff.mp (show (g ds[i] ρ2).bind (fun ρ1 => (F ρ1).bind fun o => match o with
      | .nx ρ' => forM g F (ds.drop (i + 1)) ρ'
      | .ct ρ' => forM g F (ds.drop (i + 1)) ρ'
      | .br ρ' => some (.nx ρ')
      | .rt d ρ' => some (.rt d ρ')) = some o from e2)
    obtain ⟨o1, e4, e2⟩ := Option.bind_eq_some_iff.mp e2
    obtain ⟨Z3, gr, hx⟩ := f2 i x H3 ds[i] y (by simp)
    refine ⟨ρ2, Z3, As2, ds[i], r2.gr gr, hx, ρ3, e3, fun σ4 As4 r4 a4 k4 l4 => ?_⟩
    have p4 : Pin P σ2 σ4 := fun j hj => k4 j fun z => hv j z hj
    have c3 : Chg true H2 Z2 As2 H3 Z3 As4 := (Chg.gr (W := true) gr).less a4
    have c13 : Chg true H1 Z1 As1 H3 Z3 As4 := c2.trans r1 c3
    have c03 : Chg true H Z As H3 Z3 As4 := c12.trans r c3
    refine ⟨ρ3, Z3, As4, r4, o1, e4, ?_⟩
    cases o1 with
    | nx ρ5 => exact fun σ5 H5 Z5 As5 r5 c5 p5 => ⟨hlt, ρ5, Z5, As5, r5, c13.trans r1 c5, (p2.trans p4).trans p5, e2⟩
    | ct ρ5 => exact fun σ5 H5 Z5 As5 r5 c5 p5 => ⟨hlt, ρ5, Z5, As5, r5, c13.trans r1 c5, (p2.trans p4).trans p5, e2⟩
    | br ρ5 => cases e2; exact fun σ5 H5 Z5 As5 r5 c5 p5 => q σ5 H5 Z5 As5 r5 (c03.trans r c5) ((p2.trans p4).trans p5)
    | rt d ρ5 => cases e2; exact fun v σ5 H5 Z5 As5 B r5 ow c5 sp p5 => q v σ5 H5 Z5 As5 B r5 ow (c03.trans r c5) (sp.after c03) ((p2.trans p4).trans p5)
  · have ei : i = ds.length := by omega
    subst ei
    rw [List.drop_length] at e2
    cases e2
    exact .inl ⟨f3 _ (Nat.le_refl _), q σ2 H2 Z2 As2 r2 c12 p2⟩
end
end DL
namespace DL
open PySem PySem.Spec PyProof.Rows L2
theorem compTurn_mid {elt : Expr} {gens : List Comprehension} {scope : Scope} {pos : Pos} {j : Nat} {it acc : Value} {env : PySem.Env} {t i t1 i1 : Expr} {ifs ifs1 : List Expr} (hgz : gens[j]? = some ⟨t, i, ifs, 0⟩) (hg1 : gens[j + 1]? = some ⟨t1, i1, ifs1, 0⟩) :
    compTurn (.ListComp elt gens scope pos) j it acc env = (do
      standAt i.pos
      match ← pyNext it with
      | none => pure (.done .next)
      | some v =>
        letOwnedTupleGo t it v
        assign t env v
        let mut okz := true
        for c in ifs do
          if okz then okz ← isTrue c env (eval c env)
        if okz then
          let x ← eval i1 env
          standAt i1.pos
          let x ← foldedSetIterable i1 env x
          let _ ← runOwn (.compStart (.ListComp elt gens scope pos) (j + 1) (← holding [x] (pyIter x)) acc env) env
        again (.compLoop (.ListComp elt gens scope pos) j it acc env)) := by
  unfold compTurn
  simp only [hgz, hg1]
  rfl
theorem compTurn_last {elt : Expr} {gens : List Comprehension} {scope : Scope} {pos : Pos} {j : Nat} {it acc : Value} {env : PySem.Env} {t i : Expr} {ifs : List Expr} (hgz : gens[j]? = some ⟨t, i, ifs, 0⟩) (hg1 : gens[j + 1]? = none) :
    compTurn (.ListComp elt gens scope pos) j it acc env = (do
      standAt i.pos
      match ← pyNext it with
      | none => pure (.done .next)
      | some v =>
        letOwnedTupleGo t it v
        assign t env v
        let mut okz := true
        for c in ifs do
          if okz then okz ← isTrue c env (eval c env)
        if okz then
          (do let _ ← call (.builtin "list.append") [acc, ← eval elt env])
        again (.compLoop (.ListComp elt gens scope pos) j it acc env)) := by
  unfold compTurn
  simp only [hgz, hg1]
  rfl
section
variable {prog : Program} {w : World} {A : Around} {R : Result → Shared → Prop} {s : Shared} {elt t i : Expr} {gens : List Comprehension} {ifs : List Expr} {scope : Scope} {pos : Pos} {it acc : Value} {env : PySem.Env} {j : Nat}
/-- what follows the tests of the clause ahead of j -/
def StepOk (prog : Program) (w : World) (A : Around) (elt : Expr) (gens : List Comprehension) (scope : Scope) (pos : Pos) (acc : Value) (env : PySem.Env) (j : Nat) (E : Value → Shared → Prop) (Post : Shared → Prop) (s : Shared) : Prop := match gens[j]? with
  | some g' => g'.is_async = 0 ∧ (∀ x, foldedSetIterable g'.iter env x = pure x) ∧ wpAny (model prog w) A (eval g'.iter env) (fun x s4z => wpAny (model prog w) A (pyIter x) (fun it1 s5z => codeAny (model prog w) A (.compStart (.ListComp elt gens scope pos) j it1 acc env) (fun r s' => match r with
      | .ok _ => Post s'
      | .error _ => False) s5z) E s4z) E s
  | none => wpAny (model prog w) A (eval elt env) (fun x s4z => wpAny (model prog w) A (call (.builtin "list.append") [acc, x]) (fun _ s5z => Post s5z) E s4z) E s
theorem compLoopN (hgz : gens[j]? = some ⟨t, i, ifs, 0⟩) (hzz : ∀ g ∈ gens, g.is_async = 0) (I : Nat → Shared → Prop)
    (turnz : ∀ n s, I n s → wpAny (model prog w) A (pyNext it) (fun r s₁ => match r with
      | none => R (.ok .next) s₁
      | some v => wpAny (model prog w) A (letOwnedTupleGo t it v) (fun _ s₁' => wpAny (model prog w) A (assign t env v) (fun _ s₂ =>
          wpAny (model prog w) A (forIn ifs true fun c r => if r = true then do let okz ← isTrue c env (eval c env); pure (ForInStep.yield okz) else pure (ForInStep.yield r)) (fun okz s₃ =>
            if okz = true then StepOk prog w A elt gens scope pos acc env (j + 1) (notedBy (model prog w) A env fun e s' => R (.error e) s') (fun s' => ∃ m, m < n ∧ I m s') s₃
            else ∃ m, m < n ∧ I m s₃) (notedBy (model prog w) A env fun e s' => R (.error e) s') s₂) (notedBy (model prog w) A env fun e s' => R (.error e) s') s₁') (notedBy (model prog w) A env fun e s' => R (.error e) s') s₁) (notedBy (model prog w) A env fun e s' => R (.error e) s') s)
    (n : Nat) (h : I n s) :
    codeAny (model prog w) A (.compLoop (.ListComp elt gens scope pos) j it acc env) R s := by
  refine codeAny_loop rfl I (fun n s hI => ?_) n h
  show wpAny _ A ((compTurn (.ListComp elt gens scope pos) j it acc env).onRaise (fun x => do noteFrame x env; theTreesLotGoes x)) _ _ s
  refine wpAny_noted ?_
  cases hg1 : gens[j + 1]? with
  | none =>
    rw [compTurn_last hgz hg1]
    refine wpAny_bind (wpAny_standAt (wpAny_bind (wpAny_mono (turnz n s hI) (fun r s₁ h₁ => ?_) fun _ _ h' => h')))
    cases r with
    | none => exact wpAny_pure h₁
    | some v =>
      refine wpAny_bind (wpAny_mono h₁ (fun _ s₁' h₁' => ?_) fun _ _ h' => h')
      refine wpAny_bind (wpAny_mono h₁' (fun _ s₂ h₂ => wpAny_bind (wpAny_mono h₂ (fun okz s₃ h₃ => ?_) fun _ _ h' => h')) fun _ _ h' => h')
      cases okz with
      | false => exact wpAny_pure ⟨rfl, h₃⟩
      | true =>
        simp only [StepOk, hg1, if_true] at h₃
        exact wpAny_bind (wpAny_bind (wpAny_mono h₃ (fun x s₄ h₄ => wpAny_bind (wpAny_mono h₄ (fun _ s₅ h₅ => wpAny_pure (wpAny_pure ⟨rfl, h₅⟩)) fun _ _ h' => h')) fun _ _ h' => h'))
  | some g' =>
    obtain ⟨t1, i1, ifs1, as1⟩ := g'
    by_cases ha : as1 = 0
    · subst ha
      rw [compTurn_mid hgz hg1]
      refine wpAny_bind (wpAny_standAt (wpAny_bind (wpAny_mono (turnz n s hI) (fun r s₁ h₁ => ?_) fun _ _ h' => h')))
      cases r with
      | none => exact wpAny_pure h₁
      | some v =>
        refine wpAny_bind (wpAny_mono h₁ (fun _ s₁' h₁' => ?_) fun _ _ h' => h')
        refine wpAny_bind (wpAny_mono h₁' (fun _ s₂ h₂ => wpAny_bind (wpAny_mono h₂ (fun okz s₃ h₃ => ?_) fun _ _ h' => h')) fun _ _ h' => h')
        cases okz with
        | false => exact wpAny_pure ⟨rfl, h₃⟩
        | true =>
          simp only [StepOk, hg1, if_true] at h₃
          obtain ⟨_, hsz, h₃⟩ := h₃
          refine wpAny_bind (wpAny_mono h₃ (fun x s₄ h₄ => ?_) fun _ _ h' => h')
          refine wpAny_bind (wpAny_standAt (wpAny_bind (wpAny_of_eq (hsz x) (wpAny_bind (wpAny_holding (wpAny_mono h₄ (fun it1 s₅ h₅ => ?_) fun _ _ h' => h'))))))
          refine wpAny_bind (wpAny_runOwn ?_)
          rw [Around.mark_none]
          refine codeAny_mono h₅ fun r s' hr => ?_
          cases r with
          | ok f =>
            first
              | exact wpAny_pure ⟨rfl, hr⟩
              | exact wpAny_bind (wpAny_pure (wpAny_pure ⟨rfl, hr⟩))
          | error e => exact hr.elim
    · exact absurd (hzz _ (List.mem_of_getElem? hg1)) ha
/-- a later clause's start -/
theorem compStartN (hgz : gens[j]? = some ⟨t, i, ifs, 0⟩) (h0 : codeAny (model prog w) A (.compLoop (.ListComp elt gens scope pos) j it acc env) R s)
    (h : wpAny (model prog w) A (pyIter it) (fun it' s' => codeAny (model prog w) A (.compLoop (.ListComp elt gens scope pos) j it' acc env) R s')
      (notedBy (model prog w) A env fun x s' => R (.error x) s') s) :
    codeAny (model prog w) A (.compStart (.ListComp elt gens scope pos) j it acc env) R s := by
  refine codeAny_of_tree ?_
  show wpAny _ _ ((compStart (.ListComp elt gens scope pos) j it acc env).onRaise (fun x => do noteFrame x env; standAt theWindowsPlace)) _ _ s
  refine wpAny_notedAt ?_
  unfold compStart
  have e1 : (clausesOf (.ListComp elt gens scope pos))[j]? = some ⟨t, i, ifs, 0⟩ := hgz
  rw [e1]
  show wpAny _ _ (ask >>= _) _ _ s
  refine wpAny_bind (wpAny_askSetting (wpAny_ite ?_))
  split
  · first
      | exact wpAny_bind (wpAny_pure (wpAny_pure (And.intro rfl h0)))
      | exact wpAny_pure (And.intro rfl h0)
  · first
      | exact wpAny_bind (wpAny_rule (wpAny_bind (wpAny_standAt (wpAny_bind (wpAny_mono h (fun it' s' h' => wpAny_pure (And.intro rfl h')) fun _ _ x => x)))))
      | (refine wpAny_bind (wpAny_rule ?_); show wpAny _ _ (standAt i.pos >>= _) _ _ s; exact wpAny_bind (wpAny_standAt (wpAny_bind (wpAny_mono h (fun it' s' h' => wpAny_pure (And.intro rfl h')) fun _ _ x => x))))
end

/-! ### the block: a tail of clauses -/
abbrev TC := L2.St → Hp → (Hp → Prop) → Prop
structure PC (Y : Cx) (elt : Expr) (gens : List Comprehension) (scope : Scope) (pos : Pos) (D : Addr) (j : Nat) (vs : List Nat) (t : TC) : Prop where
  run : ∀ (pins : List (Addr × Obj)) (s : Shared) (σ : L2.St) (H : Hp) (Nx : Hp → Prop), Inv Y pins σ H s → t σ H Nx →
    StepOk Y.prog Y.w Y.A elt gens scope pos (.ref D) Y.env j Y.xe (fun s' => ∃ H', Inv Y pins (wipe σ vs) H' s' ∧ Nx H') s
theorem wipe_get {σ : L2.St} : ∀ {vs : List Nat} {i : Nat}, (wipe σ vs)[i]? = if i ∈ vs ∧ i < σ.length then some none else σ[i]?
  | [], i => by simp [wipe]
  | v :: vs, i => by
    unfold wipe
    by_cases h : v = i
    · subst h
      by_cases hlz : v < σ.length
      · rw [List.getElem?_set_self (by rw [wipe_length]; exact hlz), if_pos ⟨List.mem_cons_self, hlz⟩]
      · rw [if_neg fun z => hlz z.2, List.getElem?_eq_none (by rw [List.length_set, wipe_length]; omega), List.getElem?_eq_none (by omega)]
    · rw [List.getElem?_set_ne h, wipe_get]
      have e : (i ∈ v :: vs) ↔ i ∈ vs := by
        rw [List.mem_cons]
        exact ⟨fun z => z.resolve_left (fun e => h e.symm), .inr⟩
      simp only [e]
theorem wipe_nil {σ : L2.St} : wipe σ [] = σ := rfl
/-- two that agree but at vs -/
theorem wipe_eq {σ σ' : L2.St} {vs : List Nat} (hlz : σ'.length = σ.length) (h : ∀ i, i ∉ vs → σ'[i]? = σ[i]?) : wipe σ' vs = wipe σ vs := by
  refine List.ext_getElem? fun i => ?_
  rw [wipe_get, wipe_get, hlz]
  by_cases hiz : i ∈ vs
  · by_cases hb : i < σ.length
    · rw [if_pos ⟨hiz, hb⟩, if_pos ⟨hiz, hb⟩]
    · rw [if_neg fun z => hb z.2, if_neg fun z => hb z.2, List.getElem?_eq_none (by omega), List.getElem?_eq_none (by omega)]
  · rw [if_neg fun z => hiz z.1, if_neg fun z => hiz z.1, h i hiz]
theorem wipe_sub {σ : L2.St} {vs ws : List Nat} (h : ∀ i ∈ vs, i ∈ ws) : wipe (wipe σ vs) ws = wipe σ ws := wipe_eq (wipe_length _ _) fun i hiz => wipe_out fun z => hiz (h i z)
section
variable {Y : Cx} {elt t i : Expr} {gens : List Comprehension} {ifs : List Expr} {scope : Scope} {pos : Pos} {D : Addr} {j : Nat} {vs vs1 : List Nat}
def tcLast (D : Addr) (te : TE) : TC := fun σ H Nx => te σ H fun y H1z => ∃ acc, H1z D = some (.lst acc) ∧ acc.length < sizeLine ∧ Nx (upd H1z D (.lst (acc ++ [y])))
theorem pc_last {te : TE} (hgz : gens[j]? = none) (hez : PE Y elt te) : PC Y elt gens scope pos D j [] (tcLast D te) := ⟨fun pins s σ H Nx I h => by
  simp only [StepOk, hgz]
  refine thn (hez.run pins s σ H _ I h) fun z s1z ⟨y, H1z, I1z, r1, acc, hDz, hzz, nxz⟩ => ?_
  exact app_ok I1z hDz hzz r1 fun s2z I2z => ⟨_, I2z, nxz⟩⟩
/-- one clause: W by the turnz and a measure -/
def tcFor (wi : TI) (g : TG) (tt : TT) (tc : TC) (vs : List Nat) : TC := fun σ H Nx => wi σ H fun Jz H1z => ∃ W : Nat → Nat → Hp → Prop, (∃ m, W 0 m H1z) ∧ ∀ i m H, W i m H →
  (Jz.stop i H ∧ Nx H) ∨ (Jz.go i H ∧ ∃ N : Hp → Prop, (∀ H', N H' → ∃ mz', mz' < m ∧ W (i + 1) mz' H') ∧ ∀ x H', Jz.yld i H x H' → g x (wipe σ vs) H' fun σ2 H2z => wipe σ2 vs = wipe σ vs ∧ tt σ2 H2z fun bz H3z =>
    if bz = true then tc σ2 H3z N else N H3z)
theorem pc_loop {g : TG} {tt : TT} {tc : TC} {Jz : It} {fpz : List Addr} {it : Addr} {tnz : Nat → Heap → Prop} {pins : List (Addr × Obj)} {σ : L2.St} {s : Shared} {H : Hp} {R : Result → Shared → Prop} (hcz : Y.calm = true) (hxz : Y.xe = fun _ _ => False) (hzz : ∀ g ∈ gens, g.is_async = 0) (hgz : gens[j]? = some ⟨t, i, ifs, 0⟩)
    (pgz : PG Y t g) (ptz : PTs Y ifs tt) (pcz : PC Y elt gens scope pos D (j + 1) vs1 tc) (hv : ∀ i ∈ vs1, i ∈ vs)
    (Tz : Turn Y.prog Y.w Y.K t Jz fpz it tnz) (st : tnz 0 s.heap) (hf : ∀ bz ∈ fpz, FpOk Y pins H bz) (I : Inv Y pins (wipe σ vs) H s) {Nx : Hp → Prop}
    (hR : ∀ s' H', Inv Y pins (wipe σ vs) H' s' → Nx H' → R (.ok .next) s')
    (h : ∃ W : Nat → Nat → Hp → Prop, (∃ m, W 0 m H) ∧ ∀ i m H, W i m H →
      (Jz.stop i H ∧ Nx H) ∨ (Jz.go i H ∧ ∃ N : Hp → Prop, (∀ H', N H' → ∃ mz', mz' < m ∧ W (i + 1) mz' H') ∧ ∀ x H', Jz.yld i H x H' → g x (wipe σ vs) H' fun σ2 H2z => wipe σ2 vs = wipe σ vs ∧ tt σ2 H2z fun bz H3z =>
        if bz = true then tc σ2 H3z N else N H3z)) :
    codeAny (model Y.prog Y.w) Y.A (.compLoop (.ListComp elt gens scope pos) j (.ref it) (.ref D) Y.env) R s := by
  obtain ⟨W, ⟨m0z, w0z⟩, turnz⟩ := h
  have statz : ∀ {H' : Hp}, (∀ bz ∈ fpz, H' bz = none) → ∀ bz ∈ fpz, FpOk Y pins H' bz := fun hn bz hb => ⟨hn bz hb, (hf bz hb).2⟩
  refine compLoopN hgz hzz (fun n s' => ∃ i H', Inv Y pins (wipe σ vs) H' s' ∧ tnz i s'.heap ∧ (∀ bz ∈ fpz, H' bz = none) ∧ W i n H') ?_ m0z ⟨0, H, I, st, fun bz hb => (hf bz hb).1, w0z⟩
  rintro n s5z ⟨i, H5z, I5z, st5z, n5z, w5z⟩
  rcases turnz i n H5z w5z with ⟨stopz, qq⟩ | ⟨goz, Nx, hNx, stepz⟩
  · refine thnF (Tz.done Y rfl rfl rfl hcz i _ s5z _ H5z (fun _ _ => False) I5z (statz n5z) st5z stopz) fun r s6z ⟨hr, I6z⟩ => ?_
    subst hr
    exact hR s6z H5z I6z qq
  · refine thnF (Tz.item Y rfl rfl rfl hcz i _ s5z _ H5z (fun _ _ => False) I5z (statz n5z) st5z goz) fun r s6z ⟨u, hr, h6⟩ => ?_
    subst hr
    refine thnF h6 fun _ s7z ⟨x, H7z, I7z, r7z, y7z, st7z, n7z⟩ => ?_
    have I7' := I7z.pinned (statz n7z) (Tz.obj _ _ st7z)
    have pgr := pgz.run _ s7z _ H7z x u _ I7' r7z (stepz x H7z y7z)
    rw [hxz] at pgr
    refine thnF pgr fun _ s8z ⟨σ8, H8z, I8z, hw8, q8z⟩ => ?_
    have ptr := ptz.run _ s8z σ8 H8z _ I8z q8z
    rw [hxz] at ptr
    refine thnF ptr fun bz s9z ⟨H9z, I9z, q9z⟩ => ?_
    have hl8 : (wipe σ vs).length = σ8.length := by rw [← hw8, wipe_length]
    have finz : ∀ {σ9 : L2.St} {s' : Shared} {H' : Hp}, Inv Y (pins ++ pinsAt fpz s7z.heap) σ9 H' s' → (wipe σ vs).length = σ9.length → (∀ (j : Nat) v, (wipe σ vs)[j]? = some (some v) → σ9[j]? = some (some v)) → Nx H' →
        ∃ m, m < n ∧ ∃ i H', Inv Y pins (wipe σ vs) H' s' ∧ tnz i s'.heap ∧ (∀ bz ∈ fpz, H' bz = none) ∧ W i m H' := fun {σ9 s' H'} I' hlz hkz nxz => by
      obtain ⟨mz', hmz, wz'⟩ := hNx H' nxz
      have pinz' : ∀ bz ∈ fpz, ∀ o, s7z.heap.get? bz = some o → s'.heap.get? bz = some o ∧ H' bz = none := fun bz hb o e =>
        let z := I'.pin (bz, o) (List.mem_append_right _ (List.mem_append_right _ (mem_pinsAt hb e)))
        ⟨z.1, z.2.1⟩
      refine ⟨mz', hmz, i + 1, H', I'.unpinned.weak hlz hkz, Tz.keep _ _ _ st7z fun bz hb o e => (pinz' bz hb o e).1, fun bz hb => ?_, wz'⟩
      obtain ⟨o, e, _⟩ := Tz.obj _ _ st7z bz hb
      exact (pinz' bz hb o e).2
    cases bz with
    | false =>
      simp only [Bool.false_eq_true, if_false] at q9z ⊢
      exact finz I9z hl8 (fun j v e => by rw [← hw8] at e; exact (wipe_some e).1) q9z
    | true =>
      simp only [if_true] at q9z ⊢
      have pcr := pcz.run _ s9z σ8 H9z _ I9z q9z
      rw [hxz] at pcr
      have hk9 : ∀ (j : Nat) v, (wipe σ vs)[j]? = some (some v) → (wipe σ8 vs1)[j]? = some (some v) := fun j v e => by
        rw [← hw8] at e
        obtain ⟨e1, e2⟩ := wipe_some e
        rw [wipe_out fun z => e2 (hv j z)]
        exact e1
      have fin' : ∀ s', (∃ H', Inv Y (pins ++ pinsAt fpz s7z.heap) (wipe σ8 vs1) H' s' ∧ Nx H') → ∃ m, m < n ∧ ∃ i H', Inv Y pins (wipe σ vs) H' s' ∧ tnz i s'.heap ∧ (∀ bz ∈ fpz, H' bz = none) ∧ W i m H' := fun s' ⟨H', I', nxz⟩ => finz I' (hl8.trans (wipe_length σ8 vs1).symm) hk9 nxz
      unfold StepOk at pcr ⊢
      cases hg1 : gens[j + 1]? with
      | none =>
        simp only [hg1] at pcr ⊢
        exact thnF pcr fun x s10z h10 => thnF h10 fun _ s11z h11 => fin' s11z h11
      | some g' =>
        simp only [hg1] at pcr ⊢
        refine ⟨pcr.1, pcr.2.1, thnF pcr.2.2 fun x s10z h10 => thnF h10 fun it1 s11z h11 => codeAny_mono h11 fun r s12z h12 => ?_⟩
        cases r with
        | ok _ => exact fin' s12z h12
        | error _ => exact h12
theorem pc_for {wi : TI} {g : TG} {tt : TT} {tc : TC} (hcz : Y.calm = true) (hxz : Y.xe = fun _ _ => False) (hzz : ∀ g ∈ gens, g.is_async = 0) (hgz : gens[j]? = some ⟨t, i, ifs, 0⟩) (hiz : PI Y t i wi) (pgz : PG Y t g) (ptz : PTs Y ifs tt) (pcz : PC Y elt gens scope pos D (j + 1) vs1 tc) (hv : ∀ i ∈ vs1, i ∈ vs)
    (hsz : ∀ x, foldedSetIterable i Y.env x = pure x := by intro _; rfl) : PC Y elt gens scope pos D j vs (tcFor wi g tt tc vs) := ⟨fun pins s σ H Nx I h => by
  unfold StepOk
  rw [hgz]
  refine ⟨rfl, hsz, ?_⟩
  refine thn (hiz.run pins s σ H _ I h) fun xvz s1z hxv => thn hxv fun itvz s2z h2z => ?_
  obtain ⟨it, fpz, tnz, Jz, H2z, e, I2z, Tz, st2z, f2z, qz⟩ := h2z
  subst e
  have loopz : codeAny (model Y.prog Y.w) Y.A (.compLoop (.ListComp elt gens scope pos) j (.ref it) (.ref D) Y.env) (fun r s' => match r with
      | .ok _ => ∃ H', Inv Y pins (wipe σ vs) H' s' ∧ Nx H'
      | .error _ => False) s2z :=
    pc_loop hcz hxz hzz hgz pgz ptz pcz hv Tz st2z f2z (I2z.weak (wipe_length _ _) fun j v e => (wipe_some e).1) (fun s' H' I' nxz => ⟨H', I', nxz⟩) qz
  exact compStartN hgz loopz (Tz.self Y.A 0 _ _ _ st2z loopz)⟩
end
/-! ### the whole comprehension -/
section
variable {X : Cx}
/-- [elt for tg in iter if .. ..] -/
def tLcN (wi : TI) (g : TG) (tt : TT) (tc : Addr → TC) (vs : List Nat) : TE := fun σ H Q => wi σ H fun Jz H1z => ∀ D, H1z D = none → ∃ W : Nat → Nat → Hp → Prop, (∃ m, W 0 m (upd H1z D (.lst []))) ∧ ∀ i m H, W i m H →
  (Jz.stop i H ∧ Q (.ref D) H) ∨ (Jz.go i H ∧ ∃ N : Hp → Prop, (∀ H', N H' → ∃ mz', mz' < m ∧ W (i + 1) mz' H') ∧ ∀ x H', Jz.yld i H x H' → g x (wipe σ vs) H' fun σ2 H2z => wipe σ2 vs = wipe σ vs ∧ tt σ2 H2z fun bz H3z =>
    if bz = true then tc D σ2 H3z N else N H3z)
theorem lcN_core {pins : List (Addr × Obj)} {s : Shared} {σ : L2.St} {H : Hp} {Q : VK} {elt tg iter : Expr} {ifs : List Expr} {rest : List Comprehension} {scope : Scope} {own : List (Str × Nat)} {vs1 : List Nat} {pos pos' : Pos} {wi : TI} {g : TG} {tt : TT} {tc : Addr → TC} {use : Option (Value → Sem Unit)} {Qf : Value → Shared → Prop}
    (hcz : X.calm = true) (hNz : X.N.Nodup) (I : Inv X pins σ H s) (hiz : PI X tg iter wi) (okz : BlkOk X.N X.env.scope scope own) (hv : ∀ i ∈ vs1, i ∈ own.map (·.2)) (hzz : ∀ g ∈ rest, g.is_async = 0)
    (hgz : ∀ (s : Shared) (H : Hp) (C : Addr) (cl : List (Str × Addr)) (fpz : List Addr), PG (X.blk s H scope (compEnvC scope cl C X.env) fpz) tg g) (htz : ∀ (s : Shared) (H : Hp) (C : Addr) (cl : List (Str × Addr)) (fpz : List Addr), PTs (X.blk s H scope (compEnvC scope cl C X.env) fpz) ifs tt)
    (hpc : ∀ (s : Shared) (H : Hp) (C : Addr) (cl : List (Str × Addr)) (fpz : List Addr) (D : Addr), PC (X.blk s H scope (compEnvC scope cl C X.env) fpz) elt (⟨tg, iter, ifs, 0⟩ :: rest) scope pos D 1 vs1 (tc D)) (hsz : ∀ x, foldedSetIterable iter X.env x = pure x)
    (h : tLcN wi g tt tc (own.map (·.2)) σ H Q)
    (hRRz : ∀ D C s' m H', Inv X pins σ H' s' → Q (.ref D) H' → s'.heap.Ns C m → FpOk X pins H' C → compPost (model X.prog X.w) X.A X.xe use Qf (.ref D) C (.ok .next) s') :
    wpAny (model X.prog X.w) X.A (comprehension (.ListComp elt (⟨tg, iter, ifs, 0⟩ :: rest) scope pos) scope X.env pos' (newList []) false (eval iter X.env) use) Qf X.xe s := by
  have hfreez : ∀ y ∈ scope.names, y.2 = .free → ∃ c, X.env.cells.lookup y.1 = some c := fun y hy e => by
    rcases okz.free y hy e with k | k
    · exact I.ok.has _ (.inl k)
    · exact I.ok.has _ (.inr k)
  refine wpAny_comprehension_free (use := use) rfl hsz (closure_ok hfreez) okz.kind (fun y hy e => by rw [okz.uniq y hy, e])
    (thn (hiz.run pins s σ H _ I h) fun xvz s1z hxz => thn hxz fun itvz s2z h2z => ?_)
  obtain ⟨it, fpz, tnz, Jz, H2z, e, I2z, Tz, st2z, f2z, qz⟩ := h2z
  subst e
  refine wpAny_newObj_type (newEnv_comp ?_) (by show 0 ≤ sizeLine; decide)
  generalize hDz : s2z.heap.objs.size = D
  have hDnz : H2z D = none := I2z.hok.fresh (Nat.le_of_eq hDz)
  have qz := qz D hDnz
  -- the new list
  generalize hs3z : ({ s2z with heap := s2z.heap.push { cls := .type "list", data := .seq ([] : List Value).toArray } } : Shared) = s3z
  have I3z : Inv X pins σ (upd H2z D (.lst [])) s3z := by
    rw [← hs3z]
    refine I2z.laid (t' := s2z.toks) (fun bz o e => Heap.get?_push_of_some _ e) (Nat.le_of_eq hDz) ⟨Nat.zero_le _, [], 0, .nil, ?_⟩
    rw [← hDz]
    exact Heap.get?_push_size _ rfl
  have h3z : s3z.heap = s2z.heap.push { cls := .type "list", data := .seq ([] : List Value).toArray } := by rw [← hs3z]
  have szz : ∀ bz ∈ fpz, bz < s2z.heap.objs.size := fun bz hb => by
    obtain ⟨o, e, _⟩ := Tz.obj _ _ st2z bz hb
    exact Heap.lt_size e
  have f3z : ∀ bz ∈ fpz, FpOk X pins (upd H2z D (.lst [])) bz ∧ bz < s3z.heap.objs.size := fun bz hb => by
    have hltz := szz bz hb
    refine ⟨⟨?_, (f2z bz hb).2⟩, by rw [h3z, Heap.size_push]; exact Nat.lt_succ_of_lt hltz⟩
    rw [upd_ne (by rw [← hDz]; exact Nat.ne_of_lt hltz)]
    exact (f2z bz hb).1
  have st3z : tnz 0 s3z.heap := Tz.keep _ _ _ st2z fun bz _ o e => by rw [h3z]; exact Heap.get?_push_of_some _ e
  have I4z := block_start I3z okz hNz f3z
  have pgz := hgz s3z (upd H2z D (.lst [])) s3z.heap.objs.size (cellsFrom (s3z.heap.objs.size + 1) scope.names (cloFrom X.env.cells scope.names [])) fpz
  have ptz := htz s3z (upd H2z D (.lst [])) s3z.heap.objs.size (cellsFrom (s3z.heap.objs.size + 1) scope.names (cloFrom X.env.cells scope.names [])) fpz
  have pcz := hpc s3z (upd H2z D (.lst [])) s3z.heap.objs.size (cellsFrom (s3z.heap.objs.size + 1) scope.names (cloFrom X.env.cells scope.names [])) fpz D
  show codeAny _ _ (.compStart (.ListComp elt (⟨tg, iter, ifs, 0⟩ :: rest) scope pos) 0 (.ref it) (.ref D) (compEnvC scope (cellsFrom (s3z.heap.objs.size + 1) scope.names (cloFrom X.env.cells scope.names [])) s3z.heap.objs.size X.env)) (compPost (model X.prog X.w) X.A X.xe use Qf (.ref D) s3z.heap.objs.size) { s3z with heap := pushCells (s3z.heap.push { cls := .type "dict", data := .dict #[] }) scope.names }
  have nfpz : ∀ bz ∈ fpz, (upd H2z D (.lst [])) bz = none := fun bz hb => (f3z bz hb).1.1
  generalize hcez : compEnvC scope (cellsFrom (s3z.heap.objs.size + 1) scope.names (cloFrom X.env.cells scope.names [])) s3z.heap.objs.size X.env = cez at I4z pgz ptz pcz ⊢
  have cLz : cez.locals = s3z.heap.objs.size := by subst hcez; rfl
  generalize hH3z : upd H2z D (.lst []) = H3z at I3z I4z pgz ptz pcz qz nfpz f3z
  generalize hs4z : ({ s3z with heap := pushCells (s3z.heap.push { cls := .type "dict", data := .dict #[] }) scope.names } : Shared) = s4z at I4z ⊢
  have st4z : tnz 0 s4z.heap := Tz.keep _ _ _ st3z fun bz _ o e => by rw [← hs4z]; exact pushCells_keeps _ _ _ _ (Heap.get?_push_of_some _ e)
  have statz : ∀ {σ' : L2.St} {H' : Hp} {s' : Shared}, Inv (X.blk s3z H3z scope cez fpz) [] σ' H' s' → (∀ bz ∈ fpz, H' bz = none) → ∀ bz ∈ fpz, FpOk (X.blk s3z H3z scope cez fpz) [] H' bz := fun {σ' H' s'} I' hn bz hb =>
    ⟨hn bz hb, (I'.ok.exf bz hb).1, I'.ok.exfs bz hb, .inl hb, fun x c e => (I'.ok.exf bz hb).2 x c e, fun p hp => absurd (show p ∈ ([] : List (Addr × Obj)) ++ [] from hp) (by simp)⟩
  have loopz : codeAny (model X.prog X.w) X.A (.compLoop (.ListComp elt (⟨tg, iter, ifs, 0⟩ :: rest) scope pos) 0 (.ref it) (.ref D) cez) (compPost (model X.prog X.w) X.A X.xe use Qf (.ref D) s3z.heap.objs.size) s4z :=
    pc_loop (Y := X.blk s3z H3z scope cez fpz) hcz rfl (fun g hgz => (List.mem_cons.mp hgz).elim (fun e => by rw [e]) (hzz g)) rfl pgz ptz pcz hv Tz st4z (statz I4z nfpz) I4z
      (fun s6z H5z I6z qq => by
        have I7z : Inv X pins σ H5z s6z := I3z.call' (ch := fpz) I6z.os I6z.base I6z.hok I6z.bare fun bz hb => ⟨(f3z bz hb).1.2.2.2.1, (f3z bz hb).1.2.1, (f3z bz hb).1.2.2.2.2.1, (f3z bz hb).1.2.2.2.2.2⟩
        have nC : H5z s3z.heap.objs.size = none := by
          have z : H5z cez.locals = none := I6z.free
          rw [cLz] at z
          exact z
        obtain ⟨m, hn, _⟩ := I6z.loc
        have hn : s6z.heap.Ns cez.locals m := hn
        rw [cLz] at hn
        exact hRRz D s3z.heap.objs.size s6z m H5z I7z qq hn (I3z.fpOk (Nat.le_refl _) nC)) qz
  exact codeAny_compStart_list loopz (Tz.self X.A 0 _ _ _ st4z loopz)
/-- as a value -/
theorem pe_lcN {elt tg iter : Expr} {ifs : List Expr} {rest : List Comprehension} {scope : Scope} {own : List (Str × Nat)} {vs1 : List Nat} {pos : Pos} {wi : TI} {g : TG} {tt : TT} {tc : Addr → TC} (hcz : X.calm = true) (hNz : X.N.Nodup) (hiz : PI X tg iter wi) (okz : BlkOk X.N X.env.scope scope own) (hv : ∀ i ∈ vs1, i ∈ own.map (·.2)) (hzz : ∀ g ∈ rest, g.is_async = 0)
    (hgz : ∀ (s : Shared) (H : Hp) (C : Addr) (cl : List (Str × Addr)) (fpz : List Addr), PG (X.blk s H scope (compEnvC scope cl C X.env) fpz) tg g) (htz : ∀ (s : Shared) (H : Hp) (C : Addr) (cl : List (Str × Addr)) (fpz : List Addr), PTs (X.blk s H scope (compEnvC scope cl C X.env) fpz) ifs tt)
    (hpc : ∀ (s : Shared) (H : Hp) (C : Addr) (cl : List (Str × Addr)) (fpz : List Addr) (D : Addr), PC (X.blk s H scope (compEnvC scope cl C X.env) fpz) elt (⟨tg, iter, ifs, 0⟩ :: rest) scope pos D 1 vs1 (tc D)) (hsz : ∀ x, foldedSetIterable iter X.env x = pure x) :
    PE X (.ListComp elt (⟨tg, iter, ifs, 0⟩ :: rest) scope pos) (tLcN wi g tt tc (own.map (·.2))) := by
  refine ⟨fun pins s σ H Q I h => ?_⟩
  rw [eval_ListComp]
  refine lcN_core hcz hNz I hiz okz hv hzz hgz htz hpc hsz h fun D C s' m H' I' qz hn f => ⟨m, hn, fun h'' sb => ?_⟩
  obtain ⟨f0z, f1z, f2z, f3z, f4z, f5z⟩ := f
  exact ⟨.ref D, H', I'.turned (t' := s'.toks) (fun bz o hb e => (sb.2 bz hb).trans e) f0z f1z f3z f4z f5z, rfl, qz⟩
/-- name = [..] on one line, the name a local -/
theorem ps_setLcN {i : Nat} {y : Str} {py : Pos} {elt tg iter : Expr} {ifs : List Expr} {rest : List Comprehension} {scope : Scope} {own : List (Str × Nat)} {vs1 : List Nat} {pos spos : Pos} {wi : TI} {g : TG} {tt : TT} {tc : Addr → TC} (hcz : X.calm = true) (hNz : X.N.Nodup) (hy : X.N[i]? = some y) (hyl : X.env.scope.names.lookup y = some .local)
    (hsw : swapsWith (.ListComp elt (⟨tg, iter, ifs, 0⟩ :: rest) scope pos) (some (.Name y py)) spos.line X.env = pure true) (hiz : PI X tg iter wi) (okz : BlkOk X.N X.env.scope scope own) (hv : ∀ i ∈ vs1, i ∈ own.map (·.2)) (hzz : ∀ g ∈ rest, g.is_async = 0)
    (hgz : ∀ (s : Shared) (H : Hp) (C : Addr) (cl : List (Str × Addr)) (fpz : List Addr), PG (X.blk s H scope (compEnvC scope cl C X.env) fpz) tg g) (htz : ∀ (s : Shared) (H : Hp) (C : Addr) (cl : List (Str × Addr)) (fpz : List Addr), PTs (X.blk s H scope (compEnvC scope cl C X.env) fpz) ifs tt)
    (hpc : ∀ (s : Shared) (H : Hp) (C : Addr) (cl : List (Str × Addr)) (fpz : List Addr) (D : Addr), PC (X.blk s H scope (compEnvC scope cl C X.env) fpz) elt (⟨tg, iter, ifs, 0⟩ :: rest) scope pos D 1 vs1 (tc D)) (hsz : ∀ x, foldedSetIterable iter X.env x = pure x) :
    PS X (.Assign [.Name y py] (.ListComp elt (⟨tg, iter, ifs, 0⟩ :: rest) scope pos) spos) (tAsg (tLcN wi g tt tc (own.map (·.2))) (gName i)) := by
  refine ⟨fun pins s σ H D I h => ?_⟩
  rw [exec_Assign_Name_used _ _ _ _ hsw]
  refine wpAny_bind (wpAny_standAt (wpAny_bind ?_))
  show wpAny _ X.A (do let _ ← comprehension (.ListComp elt (⟨tg, iter, ifs, 0⟩ :: rest) scope pos) scope X.env (firstIterPos (⟨tg, iter, ifs, 0⟩ :: rest) pos) (newList []) false (eval iter X.env) (some (assign (.Name y py) X.env))) _ _ s
  have h : tLcN wi g tt tc (own.map (·.2)) σ H (fun x H1z => gName i x σ H1z D.nx) := h
  refine wpAny_bind (thn (lcN_core (Qf := fun _ s' => SP X pins D .next s') hcz hNz I hiz okz hv hzz hgz htz hpc hsz h fun L C s' m H' I' qz hn f => ?_) fun _ s' hq => wpAny_pure (wpAny_pure hq))
  show wpAny _ _ (assign (.Name y py) X.env (.ref L)) _ _ _
  refine wpAny_assign_Name (store_ok2 (v := V.ref L) I' hNz hy (.inl hyl) rfl (fun s2z I2z ⟨a, sb, ha⟩ => ?_) (.inr hyl))
  obtain ⟨f0z, f1z, f2z, f3z, f4z, f5z⟩ := f
  have haC : C ≠ a := by
    rcases ha with z | z
    · rw [z]; exact f1z
    · exact fun e => f4z y a z e.symm
  refine ⟨m, hn.sameBut sb haC, fun h3z sb3 => ?_⟩
  exact ⟨_, H', I2z.turned (t' := s2z.toks) (fun bz o hb e => (sb3.2 bz hb).trans e) f0z f1z f3z f4z f5z, qz⟩
end
end DL
/-! DL12: list comprehensions over data -/
namespace DL
open PySem PySem.Spec PyProof.Rows L2

def wipeE (ρ : Env) : List Nat → Env
  | [] => ρ
  | v :: vs => (wipeE ρ vs).set v none
section
variable {K : PySem.W.Frag} {ρ ρ' ρ0 : Env} {σ σ' σ0 : L2.St} {H H' H0 H1 H2 : Hp} {Z Z' Z0 Z1 Z2 : Addr → Prop} {As As' As0 As1 As2 : Nat → List Addr} {W W' : Bool} {B B' B1 : List Addr} {k : Nat} {d : D} {v : V} {p : Addr} {acc : List D}
theorem wipeE_length (ρ : Env) : ∀ vs : List Nat, (wipeE ρ vs).length = ρ.length
  | [] => rfl
  | v :: vs => by unfold wipeE; rw [List.length_set]; exact wipeE_length ρ vs
theorem wipeE_get {ρ : Env} : ∀ {vs : List Nat} {i : Nat}, (wipeE ρ vs)[i]? = if i ∈ vs ∧ i < ρ.length then some none else ρ[i]?
  | [], i => by simp [wipeE]
  | v :: vs, i => by
    unfold wipeE
    by_cases h : v = i
    · subst h
      by_cases hl : v < ρ.length
      · rw [List.getElem?_set_self (by rw [wipeE_length]; exact hl), if_pos ⟨List.mem_cons_self, hl⟩]
      · rw [if_neg fun z => hl z.2, List.getElem?_eq_none (by rw [List.length_set, wipeE_length]; omega), List.getElem?_eq_none (by omega)]
    · rw [List.getElem?_set_ne h, wipeE_get]
      have e : (i ∈ v :: vs) ↔ i ∈ vs := by
        rw [List.mem_cons]
        exact ⟨fun z => z.resolve_left (fun e => h e.symm), .inr⟩
      simp only [e]
theorem RS.wipe (r : RS K ρ σ H Z As) : ∀ vs : List Nat, RS K (wipeE ρ vs) (wipe σ vs) H Z As
  | [] => r
  | v :: vs => by
    have q := RS.wipe r vs
    unfold wipeE L2.wipe
    exact { slot := fun j m d' e => by
              by_cases hj : j = v
              · subst hj
                by_cases hlt : j < (wipeE ρ vs).length
                · rw [List.getElem?_set_self hlt] at e; cases e
                · rw [List.getElem?_eq_none (by simpa using hlt)] at e; cases e
              · rw [List.getElem?_set_ne (Ne.symm hj)] at e ⊢
                exact q.slot j m d' e
            nd := q.nd, dj := q.dj, nz := q.nz, mt := q.mt, zd := q.zd, len := by rw [List.length_set, List.length_set]; exact q.len }
/-- slots may hold more than is told -/
theorem RS.more (r : RS K ρ σ H Z As) (hl : σ'.length = σ.length) (h : ∀ (i : Nat) (x : V), σ[i]? = some (some x) → σ'[i]? = some (some x)) : RS K ρ σ' H Z As :=
  { slot := (fun i m d e => let ⟨v, h1, h2⟩ := r.slot i m d e; ⟨v, h i v h1, h2⟩), nd := r.nd, dj := r.dj, nz := r.nz, mt := r.mt, zd := r.zd, len := r.len.trans hl.symm }
/-- a place that belongs to no slot is written -/
theorem RS.aside (r : RS K ρ σ H Z As) {o : HO} (hz : ¬ Z p) (ha : ∀ i, p ∉ As i) (hm : MutO (H p) ∨ H p = none) : RS K ρ σ (upd H p o) Z As where
  slot := fun i m d e => by
    obtain ⟨v, h1, h2⟩ := r.slot i m d e
    refine ⟨v, h1, Own.mono (fun _ h => h) ?_ m (fun a hb o e => ?_) h2⟩
    · rcases hm with hm | hm
      · exact Pre.write hz hm
      · exact Pre.of_same fun a o e => by rw [upd_ne (ne_of_none e hm)]; exact e
    · rw [upd_ne fun z => ha i (by rw [← z]; exact hb)]; exact e
  nd := r.nd
  dj := r.dj
  nz := r.nz
  mt := fun i a h => by rw [upd_ne fun z => ha i (by rw [← z]; exact h)]; exact r.mt i a h
  zd := fun a h => by
    by_cases e : a = p
    · rw [e, upd_same]; exact fun z => nomatch z
    · rw [upd_ne e]; exact r.zd a h
  len := r.len
theorem Chg.aside (c : Chg W H0 Z0 As0 H Z As) {o : HO} (hf : H0 p = none) : Chg W H0 Z0 As0 (upd H p o) Z As where
  keep := fun a u e hw => by
    rw [upd_ne fun z => by rw [z, hf] at e; cases e]
    exact c.keep a u e hw
  dom := fun a h => by
    rw [upd_ne fun z => h (by rw [z]; exact hf)]
    exact c.dom a h
  zz := c.zz
  zf := c.zf
  af := c.af

/-- a list is being built at p, from a state on -/
structure CI (K : PySem.W.Frag) (W : Bool) (k : Nat) (p : Addr) (H0 : Hp) (Z0 : Addr → Prop) (As0 : Nat → List Addr) (ρ : Env) (σ : L2.St) (H : Hp) (Z : Addr → Prop) (As : Nat → List Addr) (acc : List D) (B : List Addr) : Prop where
  r : RS K ρ σ H Z As
  c : Chg W H0 Z0 As0 H Z As
  s : Sep B H0 As0 H Z As
  o : Own K H Z (k + 1) (.lst acc) (.ref p) B
  f : H0 p = none
theorem LO.append {P : D → V → List Addr → Prop} : ∀ {ds : List D} {vs : List V} {B : List Addr} {es : List D} {us : List V} {B' : List Addr}, LO P ds vs B → LO P es us B' → LO P (ds ++ es) (vs ++ us) (B ++ B')
  | [], vs, B, es, us, B', h, g => by rw [h.1, h.2]; exact g
  | d :: ds, vs, B, es, us, B', h, g => by
    obtain ⟨v, r, B1, B2, e, h1, h2, eb⟩ := h
    exact ⟨v, r ++ us, B1, B2 ++ B', by rw [e]; rfl, h1, LO.append h2 g, by rw [eb, List.append_assoc]⟩
/-- one item comes to it -/
theorem CI.push (r0 : RS K ρ0 σ0 H0 Z0 As0) (i : CI K W k p H0 Z0 As0 ρ σ H Z As acc B) (r1 : RS K ρ' σ H1 Z1 As1) (o1 : Own K H1 Z1 k d v B1) (c1 : Chg W H Z As H1 Z1 As1) (s1 : Sep B1 H As H1 Z1 As1) (hl : acc.length < sizeLine) :
    ∃ vs, H1 p = some (.lst vs) ∧ vs.length < sizeLine ∧ CI K W k p H0 Z0 As0 ρ' σ (upd H1 p (.lst (vs ++ [v]))) Z1 As1 (acc ++ [d]) (B ++ B1) ∧ Pre Z H (upd H1 p (.lst (vs ++ [v]))) := by
  have sB : Sep B H0 As0 H1 Z1 As1 := i.s.wait i.r c1 i.c.up
  have ap := i.s.apart s1
  have oB := i.o.waitB i.r i.s c1
  have c01 : Chg W H0 Z0 As0 H1 Z1 As1 := by simpa using i.c.trans r0 c1
  obtain ⟨a, vs, Bs, e, h1, h2, h3, h4⟩ := oB
  cases e
  have hp : p ∈ B := by rw [h4]; exact List.mem_cons_self
  have hpz := sB.nz p hp
  have hpa := sB.dj p hp
  have hpm := sB.mt p hp
  have hlen := h3.length
  have hv : vs.length < sizeLine := by omega
  have pw : Pre Z1 H1 (upd H1 p (.lst (vs ++ [v]))) := Pre.write hpz hpm
  have hpB1 : p ∉ B1 := ap p hp
  have hpBs : p ∉ Bs := by
    have := sB.nd
    rw [h4, List.nodup_cons] at this
    exact this.1
  refine ⟨vs, h1, hv, ⟨r1.aside hpz hpa (.inl hpm), c01.aside i.f, ⟨?_, ?_, ?_, ?_, ?_⟩, ?_, i.f⟩, ?_⟩
  · rw [List.nodup_append]
    exact ⟨sB.nd, s1.nd, fun a ha b hb z => ap a ha (by rw [z]; exact hb)⟩
  · intro b hb
    rcases List.mem_append.mp hb with h | h
    · exact sB.nz b h
    · exact s1.nz b h
  · intro b hb
    rcases List.mem_append.mp hb with h | h
    · exact sB.dj b h
    · exact s1.dj b h
  · intro b hb
    by_cases hbp : b = p
    · rw [hbp, upd_same]; trivial
    · rw [upd_ne hbp]
      rcases List.mem_append.mp hb with h | h
      · exact sB.mt b h
      · exact s1.mt b h
  · intro b hb
    rcases List.mem_append.mp hb with h | h
    · exact sB.af b h
    · exact (s1.after i.c).af b h
  · refine ⟨p, vs ++ [v], Bs ++ B1, rfl, upd_same, by rw [List.length_append, List.length_singleton]; omega, ?_, by rw [h4]; rfl⟩
    refine LO.append (h3.mono fun d' v' b hb q => Own.mono (fun _ h => h) pw k (fun a ha o e => ?_) q) ⟨v, [], B1, [], rfl, Own.mono (fun _ h => h) pw k (fun a ha o e => ?_) o1, ⟨rfl, rfl⟩, by simp⟩
    · rw [upd_ne fun z => hpBs (by rw [← z]; exact hb a ha)]; exact e
    · rw [upd_ne fun z => hpB1 (by rw [← z]; exact ha)]; exact e
  · have q := c1.pre i.r
    exact ⟨fun a u hu z h => pw.fz a u hu (c1.zz a z) (q.fz a u hu z h), fun a u h => pw.tp a u (q.tp a u h), fun a lo hi h => pw.rg a lo hi (q.rg a lo hi h)⟩
theorem Pre.trans (hz : ∀ a, Z a → Z1 a) (p : Pre Z H H1) (q : Pre Z1 H1 H2) : Pre Z H H2 :=
  ⟨fun a u hu z h => q.fz a u hu (hz a z) (p.fz a u hu z h), fun a u h => q.tp a u (p.tp a u h), fun a lo hi h => q.rg a lo hi (p.rg a lo hi h)⟩
/-- .. and the rest goes on -/
theorem CI.step (r0 : RS K ρ0 σ0 H0 Z0 As0) (i : CI K W k p H0 Z0 As0 ρ σ H Z As acc B) (r1 : RS K ρ' σ' H1 Z1 As1) (c1 : Chg W H Z As H1 Z1 As1) : CI K W k p H0 Z0 As0 ρ' σ' H1 Z1 As1 acc B :=
  ⟨r1, by simpa using i.c.trans r0 c1, i.s.wait i.r c1 i.c.up, i.o.waitB i.r i.s c1, i.f⟩
end
/-! ### the clauses -/
abbrev LM := Env → Option (List D × Env)
def tC (K : PySem.W.Frag) (W : Bool) (k : Nat) (vs : List Nat) (p : Addr) (f : LM) : TC := fun σ H Nx => ∃ ρ0 σ0 H0 Z0 As0, RS K ρ0 σ0 H0 Z0 As0 ∧ ∃ ρ Z As acc B, CI K W k p H0 Z0 As0 ρ σ H Z As acc B ∧ ∃ ds ρ', f ρ = some (ds, ρ') ∧ acc.length + ds.length ≤ sizeLine ∧
  ∀ H' Z' As' B', CI K W k p H0 Z0 As0 ρ' (wipe σ vs) H' Z' As' (acc ++ ds) B' → (∀ a, Z a → Z' a) → Pre Z H H' → Nx H'
theorem PC.conv {Y : Cx} {elt : Expr} {gens : List Comprehension} {scope : Scope} {pos : Pos} {p : Addr} {j : Nat} {vs : List Nat} {t t' : TC} (h : PC Y elt gens scope pos p j vs t) (c : ∀ σ H Q, t' σ H Q → t σ H Q) : PC Y elt gens scope pos p j vs t' := ⟨fun pins s σ H Nx I q => h.run pins s σ H Nx I (c σ H Nx q)⟩
abbrev DC (Y : Cx) (elt : Expr) (gens : List Comprehension) (scope : Scope) (pos : Pos) (W : Bool) (k : Nat) (j : Nat) (vs : List Nat) (f : LM) : Prop := ∀ p, PC Y elt gens scope pos p j vs (tC Y.K W k vs p f)
abbrev DTs (Y : Cx) (ifs : List Expr) (W : Bool) (f : TM) : Prop := PTs Y ifs (tT Y.K W f)
theorem PTs.conv {Y : Cx} {ifs : List Expr} {t t' : TT} (h : PTs Y ifs t) (c : ∀ σ H Q, t' σ H Q → t σ H Q) : PTs Y ifs t' := ⟨fun pins s σ H Q I q => h.run pins s σ H Q I (c σ H Q q)⟩
def tYesM : TM := fun ρ => some (true, ρ)
section
variable {Y : Cx} {elt t i c : Expr} {gens : List Comprehension} {ifs : List Expr} {scope : Scope} {pos : Pos} {j k : Nat} {W : Bool} {vs vs1 tvs : List Nat} {fe : EM} {ft : TM} {fi : IM} {g : GM} {fl : LM}
theorem dts_nil : DTs Y [] W tYesM := PTs.conv pts_nil fun σ H Q q => by
  obtain ⟨ρ, Z, As, r, b, ρ', ef, q⟩ := q
  cases ef
  exact q H Z As r Chg.refl
theorem dts_one (h : DT Y c W ft) : DTs Y [c] W ft := pts_one h
def lOne (f : EM) : LM := fun ρ => (f ρ).map fun p => ([p.1], p.2)
theorem dc_last (he : DE Y elt W true k fe) (hg : gens[j]? = none := by rfl) : DC Y elt gens scope pos W k j [] (lOne fe) := fun p => PC.conv (pc_last hg he) fun σ H Nx q => by
  obtain ⟨ρ0, σ0, H0, Z0, As0, r0, ρ, Z, As, acc, B, ci, ds, ρ', ef, hl, q⟩ := q
  unfold lOne at ef
  obtain ⟨⟨d, ρ1⟩, e1, ef⟩ := Option.map_eq_some_iff.mp ef
  cases ef
  refine ⟨ρ, Z, As, ci.r, d, ρ1, e1, fun v H1 Z1 As1 B1 r1 o1 c1 s1 => ?_⟩
  obtain ⟨vs, h1, h2, ci', p'⟩ := ci.push r0 r1 o1 c1 (s1 rfl) (by have : acc.length + 1 ≤ sizeLine := hl; omega)
  exact ⟨vs, h1, h2, q _ Z1 As1 _ ci' c1.zz p'⟩
def lLoop (g : GM) (t : TM) (tail : LM) (vs : List Nat) : List D → LM
  | [] => fun ρ => some ([], ρ)
  | d :: ds => fun ρ => (g d ρ).bind fun ρ1 => (t ρ1).bind fun p => (if p.1 = true then tail p.2 else some ([], p.2)).bind fun q => (lLoop g t tail vs ds (wipeE q.2 vs)).map fun r => (q.1 ++ r.1, r.2)
def lFor (fi : IM) (g : GM) (t : TM) (tail : LM) (vs : List Nat) : LM := fun ρ => (fi ρ).bind fun p => lLoop g t tail vs p.1 (wipeE p.2 vs)
theorem loop_red {K : PySem.W.Frag} {p : Addr} {J : It} {σ : L2.St} {ρ0 : Env} {σ0 : L2.St} {H0 : Hp} {Z0 : Addr → Prop} {As0 : Nat → List Addr} {ρ1 ρ' : Env} {H1 : Hp} {Z1 : Addr → Prop} {As1 : Nat → List Addr} {acc ds es : List D} {B : List Addr} {Nx : Hp → Prop} (r0 : RS K ρ0 σ0 H0 Z0 As0) (ci : CI K W k p H0 Z0 As0 ρ1 (wipe σ vs) H1 Z1 As1 acc B)
    (htv : ∀ i ∈ tvs, i ∈ vs) (hv : ∀ i ∈ vs1, i ∈ vs) (fe : Feeds K J es H1 Z1) (ef : lLoop g ft fl vs es ρ1 = some (ds, ρ')) (hl : acc.length + ds.length ≤ sizeLine)
    (q : ∀ H' Z' As' B', CI K W k p H0 Z0 As0 ρ' (wipe σ vs) H' Z' As' (acc ++ ds) B' → (∀ a, Z1 a → Z' a) → Pre Z1 H1 H' → Nx H') :
    ∃ Wi : Nat → Nat → Hp → Prop, (∃ m, Wi 0 m H1) ∧ ∀ i m H, Wi i m H →
      (J.stop i H ∧ Nx H) ∨ (J.go i H ∧ ∃ N : Hp → Prop, (∀ H', N H' → ∃ m', m' < m ∧ Wi (i + 1) m' H') ∧ ∀ x H', J.yld i H x H' → tG K tvs g x (wipe σ vs) H' fun σ2 H2 => wipe σ2 vs = wipe σ vs ∧ tT K W ft σ2 H2 fun b H3 =>
        if b = true then tC K W k vs1 p fl σ2 H3 N else N H3) := by
  refine ⟨fun i m H => m = es.length - i ∧ i ≤ es.length ∧ ∃ ρ2 Z2 As2 acc2 B2 rest, CI K W k p H0 Z0 As0 ρ2 (wipe σ vs) H Z2 As2 acc2 B2 ∧ (∀ a, Z1 a → Z2 a) ∧ Pre Z1 H1 H ∧ lLoop g ft fl vs (es.drop i) ρ2 = some (rest, ρ') ∧ acc2 ++ rest = acc ++ ds,
    ⟨es.length, by simp, Nat.zero_le _, ρ1, Z1, As1, acc, B, ds, ci, fun _ h => h, Pre.refl, ef, rfl⟩, ?_⟩
  rintro i m H2 ⟨rfl, hi, ρ2, Z2, As2, acc2, B2, rest, ci2, z2, p2, e2, ea⟩
  obtain ⟨f1, f2, f3⟩ := fe H2 Z2 z2 p2 ci2.r.zd
  by_cases hlt : i < es.length
  · refine .inr ⟨f1 i hlt, fun H => i + 1 ≤ es.length ∧ ∃ ρ2 Z2 As2 acc2 B2 rest, CI K W k p H0 Z0 As0 ρ2 (wipe σ vs) H Z2 As2 acc2 B2 ∧ (∀ a, Z1 a → Z2 a) ∧ Pre Z1 H1 H ∧ lLoop g ft fl vs (es.drop (i + 1)) ρ2 = some (rest, ρ') ∧ acc2 ++ rest = acc ++ ds,
      fun H' w => ⟨es.length - (i + 1), by omega, rfl, w⟩, fun x H3 y => ?_⟩
    have ed : es.drop i = es[i] :: es.drop (i + 1) := List.drop_eq_getElem_cons hlt
    rw [ed] at e2
    unfold lLoop at e2
    obtain ⟨ρ3, e3, e2⟩ := Option.bind_eq_some_iff.mp e2
    obtain ⟨⟨b, ρ4⟩, e4, e2⟩ := Option.bind_eq_some_iff.mp e2
    obtain ⟨⟨d1, ρ5⟩, e5, e2⟩ := Option.bind_eq_some_iff.mp e2
    obtain ⟨⟨d2, ρ6⟩, e6, e2⟩ := Option.map_eq_some_iff.mp e2
    cases e2
    obtain ⟨Z3, gr, hx⟩ := f2 i x H3 es[i] y (by simp)
    refine ⟨ρ2, Z3, As2, es[i], ci2.r.gr gr, hx, ρ3, e3, fun σ4 As4 r4 a4 k4 l4 => ?_⟩
    have w4 : wipe σ4 vs = wipe σ vs := (wipe_eq l4 fun j hj => k4 j fun z => hj (htv j z)).trans (wipe_sub fun _ h => h)
    refine ⟨w4, ?_⟩
    have c3 : Chg W H2 Z2 As2 H3 Z3 As4 := (Chg.gr (W := W) gr).less a4
    have ci3 := ci2.step r0 r4 c3
    have p3 : Pre Z1 H1 H3 := p2.trans z2 (Pre.of_same gr.same)
    have z3 : ∀ a, Z1 a → Z3 a := fun a h => gr.zz a (z2 a h)
    refine ⟨ρ3, Z3, As4, r4, b, ρ4, e4, fun H5 Z5 As5 r5 c5 => ?_⟩
    have ci5 := ci3.step r0 r5 c5
    have p5 : Pre Z1 H1 H5 := p3.trans z3 (c5.pre r4)
    have z5 : ∀ a, Z1 a → Z5 a := fun a h => c5.zz a (z3 a h)
    have hlen : acc2.length + (d1 ++ d2).length ≤ sizeLine := by
      have := congrArg List.length ea
      simp only [List.length_append] at this ⊢
      omega
    rw [List.length_append] at hlen
    cases b with
    | false =>
      simp only [Bool.false_eq_true, if_false] at e5 ⊢
      cases e5
      have r6 := ci5.r.wipe vs
      rw [w4] at r6
      exact ⟨hlt, _, Z5, As5, acc2, B2, d2, ⟨r6, ci5.c, ci5.s, ci5.o, ci5.f⟩, z5, p5, e6, ea⟩
    | true =>
      simp only [if_true] at e5 ⊢
      refine ⟨ρ0, σ0, H0, Z0, As0, r0, ρ4, Z5, As5, acc2, B2, ci5, d1, ρ5, e5, by omega, fun H7 Z7 As7 B7 ci7 z7 p7 => ?_⟩
      have r8 := ci7.r.wipe vs
      rw [wipe_sub hv, w4] at r8
      exact ⟨hlt, _, Z7, As7, acc2 ++ d1, B7, d2, ⟨r8, ci7.c, ci7.s, ci7.o, ci7.f⟩, fun a h => z7 a (z5 a h), p5.trans z5 p7, e6, by rw [List.append_assoc]; exact ea⟩
  · have ei : i = es.length := by omega
    subst ei
    rw [List.drop_length] at e2
    cases e2
    rw [List.append_nil] at ea
    subst ea
    exact .inl ⟨f3 _ (Nat.le_refl _), q H2 Z2 As2 B2 ci2 z2 p2⟩
theorem dc_for (hc : Y.calm = true) (hi : DI Y t i W fi) (pg : DG Y t tvs g) (pt : DTs Y ifs W ft) (pc : DC Y elt gens scope pos W k (j + 1) vs1 fl) (hx : Y.xe = fun _ _ => False := by rfl) (hz : ∀ g ∈ gens, g.is_async = 0 := by decide) (hg : gens[j]? = some ⟨t, i, ifs, 0⟩ := by rfl)
    (htv : ∀ i ∈ tvs, i ∈ vs := by decide) (hv : ∀ i ∈ vs1, i ∈ vs := by decide) (hs : ∀ x, foldedSetIterable i Y.env x = pure x := by intro _; rfl) : DC Y elt gens scope pos W k j vs (lFor fi g ft fl vs) := fun p => PC.conv (pc_for hc hx hz hg hi pg pt (pc p) hv hs) fun σ H Nx q => by
  obtain ⟨ρ0, σ0, H0, Z0, As0, r0, ρ, Z, As, acc, B, ci, ds, ρ', ef, hl, q⟩ := q
  unfold lFor at ef
  obtain ⟨⟨es, ρ1⟩, e1, ef⟩ := Option.bind_eq_some_iff.mp ef
  refine ⟨ρ, Z, As, ci.r, es, ρ1, e1, fun J H1 Z1 As1 r1 c1 fe => ?_⟩
  have ci1 := ci.step r0 r1 c1
  have cw : CI Y.K W k p H0 Z0 As0 (wipeE ρ1 vs) (wipe σ vs) H1 Z1 As1 acc B := ⟨ci1.r.wipe vs, ci1.c, ci1.s, ci1.o, ci1.f⟩
  exact loop_red r0 cw htv hv fe ef hl fun H' Z' As' B' ci' z' p' => q H' Z' As' B' ci' (fun a h => z' a (c1.zz a h)) ((c1.pre ci.r).trans c1.zz p')
end
/-! ### the whole -/
/-- slots of the block's names: nothing owned, and they come back -/
def backE (ρ ρ' : Env) (vs : List Nat) : Option Env := match vs with
  | [] => some ρ'
  | v :: vs => (backE ρ ρ' vs).bind fun r => match ρ[v]? with
    | some (some (0, d)) => some (r.set v (some (0, d)))
    | some (some _) => none
    | _ => some (r.set v none)
def eComp (fi : IM) (g : GM) (t : TM) (fl : LM) (vs : List Nat) : EM := fun ρ => (fi ρ).bind fun p => (lLoop g t fl vs p.1 (wipeE p.2 vs)).bind fun r => (backE p.2 r.2 vs).bind fun ρ' => if r.1.length ≤ sizeLine then some (.lst r.1, ρ') else none
section
variable {K : PySem.W.Frag} {ρ ρ' ρ0 ρ1 ρ2 : Env} {σ σ' σ0 : L2.St} {H H' H0 H1 H2 : Hp} {Z Z' Z0 Z1 Z2 : Addr → Prop} {As As' As0 As1 As2 : Nat → List Addr} {W W' : Bool}
theorem RS.back (r1 : RS K ρ1 σ H1 Z1 As1) (hz : ∀ a, Z1 a → Z2 a) (p : Pre Z1 H1 H2) : ∀ (vs : List Nat) {ρ' : Env}, RS K ρ2 σ H2 Z2 As2 → backE ρ1 ρ2 vs = some ρ' → ∃ As', RS K ρ' σ H2 Z2 As' ∧ ∀ i a, a ∈ As' i → a ∈ As2 i
  | [], ρ', r, e => by cases e; exact ⟨As2, r, fun _ _ h => h⟩
  | v :: vs, ρ', r, e => by
    unfold backE at e
    obtain ⟨ρ3, e1, e⟩ := Option.bind_eq_some_iff.mp e
    obtain ⟨As3, r3, a3⟩ := RS.back r1 hz p vs r e1
    split at e
    · rename_i d he
      cases e
      obtain ⟨u, h1, h2⟩ := r1.slot v 0 d he
      have q := r3.store (i := v) (k := 0) (B := []) (H1 := H2) (As1 := As3) ⟨Rep.mono hz p d u h2.1, rfl⟩ Sep.nil
      refine ⟨_, q.more (by simp) fun j x e => ?_, fun j a h => ?_⟩
      · by_cases hj : j = v
        · subst hj
          rw [List.getElem?_set_self (List.getElem?_eq_some_iff.mp h1).1] at e
          cases e
          exact h1
        · rw [List.getElem?_set_ne (Ne.symm hj)] at e; exact e
      · by_cases hj : j = v
        · simp only [hj, if_true] at h; cases h
        · simp only [hj, if_false] at h; exact a3 j a h
    · cases e
    · cases e
      exact ⟨As3, r3.forget v, a3⟩
theorem Feeds.mono {J : It} {es : List D} (fe : Feeds K J es H1 Z1) (p : Pre Z1 H1 H2) : Feeds K J es H2 Z1 := fun H Z hz q zd => fe H Z hz (p.trans (fun _ h => h) q) zd
end
section
variable {X : Cx} {elt tg iter : Expr} {rest : List Comprehension} {ifs : List Expr} {scope : Scope} {own : List (Str × Nat)} {pos py spos : Pos} {k n : Nat} {W : Bool} {P vs1 tvs : List Nat} {ft : TM} {fi : IM} {g : GM} {fl : LM}
theorem comp_red {K : PySem.W.Frag} {vs : List Nat} {σ : L2.St} {H : Hp} {Q : VK} (htv : ∀ i ∈ tvs, i ∈ vs) (hv : ∀ i ∈ vs1, i ∈ vs) (q : tE K W true (k + 1) (eComp fi g ft fl vs) σ H Q) : tLcN (tI K W fi) (tG K tvs g) (tT K W ft) (fun p => tC K W k vs1 p fl) vs σ H Q := by
  obtain ⟨ρ, Z, As, r, d, ρ', ef, q⟩ := q
  unfold eComp at ef
  obtain ⟨⟨es, ρ1⟩, e1, ef⟩ := Option.bind_eq_some_iff.mp ef
  obtain ⟨⟨ds, ρ2⟩, e2, ef⟩ := Option.bind_eq_some_iff.mp ef
  obtain ⟨ρ3, e3, ef⟩ := Option.bind_eq_some_iff.mp ef
  split at ef
  · rename_i hl
    cases ef
    refine ⟨ρ, Z, As, r, es, ρ1, e1, fun J H1 Z1 As1 r1 c1 fe p hp => ?_⟩
    have hpz : ¬ Z1 p := fun z => r1.zd p z hp
    have hpa : ∀ i, p ∉ As1 i := fun i z => (r1.mt i p z).ne hp
    have hp0 : H p = none := by
      cases e : H p with
      | none => rfl
      | some o => exact absurd hp (c1.dom p (by rw [e]; exact fun z => nomatch z))
    have pn : Pre Z1 H1 (upd H1 p (.lst [])) := Pre.of_same fun a o e => by rw [upd_ne (ne_of_none e hp)]; exact e
    have ci : CI K W k p H Z As (wipeE ρ1 vs) (wipe σ vs) (upd H1 p (.lst [])) Z1 As1 [] [p] := by
      refine ⟨(r1.aside hpz hpa (.inr hp)).wipe vs, c1.aside hp0, ⟨by simp, fun b hb => ?_, fun b hb => ?_, fun b hb => ?_, fun b hb => ?_⟩, ⟨p, [], [], rfl, upd_same, Nat.zero_le _, ⟨rfl, rfl⟩, rfl⟩, hp0⟩
      all_goals (have e : b = p := by simpa using hb)
      all_goals subst e
      · exact hpz
      · exact hpa
      · rw [upd_same]; trivial
      · exact .inl hp0
    refine loop_red r ci htv hv (fe.mono pn) e2 (by simpa using hl) fun H' Z' As' B' ci' z' p' => ?_
    have r4 : RS K ρ2 σ H' Z' As' := ci'.r.more (wipe_length σ vs).symm fun j x e => (wipe_some e).1
    obtain ⟨As5, r5, a5⟩ := RS.back r1 z' (pn.trans (fun _ h => h) p') vs r4 e3
    exact q (.ref p) H' Z' As5 B' r5 ci'.o (ci'.c.less a5) fun _ => ⟨ci'.s.nd, ci'.s.nz, fun b hb i z => ci'.s.dj b hb i (a5 i b z), ci'.s.mt, ci'.s.af⟩
  · cases ef
theorem de_comp (own : List (Str × Nat)) (hc : X.calm = true) (hN : X.N.Nodup) (hi : DI X tg iter W fi)
    (hg : ∀ (s : Shared) (H : Hp) (C : Addr) (cl : List (Str × Addr)) (fp : List Addr), DG (X.blk s H scope (compEnvC scope cl C X.env) fp) tg tvs g) (ht : ∀ (s : Shared) (H : Hp) (C : Addr) (cl : List (Str × Addr)) (fp : List Addr), DTs (X.blk s H scope (compEnvC scope cl C X.env) fp) ifs W ft)
    (hpc : ∀ (s : Shared) (H : Hp) (C : Addr) (cl : List (Str × Addr)) (fp : List Addr), DC (X.blk s H scope (compEnvC scope cl C X.env) fp) elt (⟨tg, iter, ifs, 0⟩ :: rest) scope pos W k 1 vs1 fl)
    (ok : blkC X.N X.env.scope scope own = true := by rfl) (htv : ∀ i ∈ tvs, i ∈ own.map (·.2) := by decide) (hv : ∀ i ∈ vs1, i ∈ own.map (·.2) := by decide) (hz : ∀ g ∈ rest, g.is_async = 0 := by decide) (hs : ∀ x, foldedSetIterable iter X.env x = pure x := by intro _; rfl) :
    DE X (.ListComp elt (⟨tg, iter, ifs, 0⟩ :: rest) scope pos) W true (k + 1) (eComp fi g ft fl (own.map (·.2))) :=
  PE.conv (pe_lcN hc hN hi (blkOk_by ok) hv hz hg ht (fun s H C cl fp p => hpc s H C cl fp p) hs) fun σ H Q q => comp_red htv hv q
/-- name = [..] on one line -/
theorem ds_setLc (own : List (Str × Nat)) {i : Nat} {y : Str} (hc : X.calm = true) (hN : X.N.Nodup) (hi : DI X tg iter W fi)
    (hg : ∀ (s : Shared) (H : Hp) (C : Addr) (cl : List (Str × Addr)) (fp : List Addr), DG (X.blk s H scope (compEnvC scope cl C X.env) fp) tg tvs g) (ht : ∀ (s : Shared) (H : Hp) (C : Addr) (cl : List (Str × Addr)) (fp : List Addr), DTs (X.blk s H scope (compEnvC scope cl C X.env) fp) ifs W ft)
    (hpc : ∀ (s : Shared) (H : Hp) (C : Addr) (cl : List (Str × Addr)) (fp : List Addr), DC (X.blk s H scope (compEnvC scope cl C X.env) fp) elt (⟨tg, iter, ifs, 0⟩ :: rest) scope pos W k 1 vs1 fl)
    (hy : X.N[i]? = some y := by rfl) (hyl : X.env.scope.names.lookup y = some .local := by rfl) (hp : i ∉ P := by decide) (hsw : swapsWith (.ListComp elt (⟨tg, iter, ifs, 0⟩ :: rest) scope pos) (some (.Name y py)) spos.line X.env = pure true := by exact sw_true rfl rfl rfl rfl)
    (ok : blkC X.N X.env.scope scope own = true := by rfl) (htv : ∀ i ∈ tvs, i ∈ own.map (·.2) := by decide) (hv : ∀ i ∈ vs1, i ∈ own.map (·.2) := by decide) (hz : ∀ g ∈ rest, g.is_async = 0 := by decide) (hs : ∀ x, foldedSetIterable iter X.env x = pure x := by intro _; rfl) :
    DS X (.Assign [.Name y py] (.ListComp elt (⟨tg, iter, ifs, 0⟩ :: rest) scope pos) spos) P n (sSet i (k + 1) (eComp fi g ft fl (own.map (·.2)))) :=
  PS.conv (ps_setLcN hc hN hy hyl hsw hi (blkOk_by ok) hv hz hg ht (fun s H C cl fp p => hpc s H C cl fp p) hs) fun E σ H q => by
    have q := set_red (W := W) hp q
    exact comp_red htv hv q
/-- .. frozen at once -/
theorem ds_setLc0 (own : List (Str × Nat)) {i : Nat} {y : Str} (hc : X.calm = true) (hN : X.N.Nodup) (hi : DI X tg iter W fi)
    (hg : ∀ (s : Shared) (H : Hp) (C : Addr) (cl : List (Str × Addr)) (fp : List Addr), DG (X.blk s H scope (compEnvC scope cl C X.env) fp) tg tvs g) (ht : ∀ (s : Shared) (H : Hp) (C : Addr) (cl : List (Str × Addr)) (fp : List Addr), DTs (X.blk s H scope (compEnvC scope cl C X.env) fp) ifs W ft)
    (hpc : ∀ (s : Shared) (H : Hp) (C : Addr) (cl : List (Str × Addr)) (fp : List Addr), DC (X.blk s H scope (compEnvC scope cl C X.env) fp) elt (⟨tg, iter, ifs, 0⟩ :: rest) scope pos W k 1 vs1 fl)
    (hy : X.N[i]? = some y := by rfl) (hyl : X.env.scope.names.lookup y = some .local := by rfl) (hp : i ∉ P := by decide) (hsw : swapsWith (.ListComp elt (⟨tg, iter, ifs, 0⟩ :: rest) scope pos) (some (.Name y py)) spos.line X.env = pure true := by exact sw_true rfl rfl rfl rfl)
    (ok : blkC X.N X.env.scope scope own = true := by rfl) (htv : ∀ i ∈ tvs, i ∈ own.map (·.2) := by decide) (hv : ∀ i ∈ vs1, i ∈ own.map (·.2) := by decide) (hz : ∀ g ∈ rest, g.is_async = 0 := by decide) (hs : ∀ x, foldedSetIterable iter X.env x = pure x := by intro _; rfl) :
    DS X (.Assign [.Name y py] (.ListComp elt (⟨tg, iter, ifs, 0⟩ :: rest) scope pos) spos) P n (sSet i 0 (eComp fi g ft fl (own.map (·.2)))) :=
  PS.conv (ps_setLcN hc hN hy hyl hsw hi (blkOk_by ok) hv hz hg ht (fun s H C cl fp p => hpc s H C cl fp p) hs) fun E σ H q => by
    have q := set_red (W := W) hp q
    refine comp_red (k := k) (ft := ft) (g := g) (fl := fl) (fi := fi) (tvs := tvs) (vs1 := vs1) (W := W) htv hv ?_
    obtain ⟨ρ, Z, As, r, d, ρ', ef, q⟩ := q
    refine ⟨ρ, Z, As, r, d, ρ', ef, fun v H' Z' As' B r' ow c sp => ?_⟩
    have sp := sp rfl
    exact q v H' _ As' [] (r'.release sp) ⟨Own.rep (fun _ h => .inl h) (k + 1) (fun _ h => .inr h) ow, rfl⟩ (c.release sp) fun _ => Sep.nil
end
end DL
/-! DL13: defs and their calls over data -/
namespace DL
open PySem PySem.Spec PyProof.Rows L2

/-! ### what a def promises: G from the parameters' data to the answer and what owned parameters then hold -/
abbrev GMap := List D → Option (D × Env)
def envOf (ms : List Nat) (ds : List D) : Env := (ms.zip ds).map some
def spG (K : PySem.W.Frag) (ms : List Nat) (kr : Nat) (G : GMap) : Sp := fun vs H Q _ => ∃ Z As ds, ds.length = ms.length ∧ RS K (envOf ms ds) (vs.map some) H Z As ∧ ∃ d ρ', G ds = some (d, ρ') ∧
  ∀ v H' Z' As' B, RS K ρ' (vs.map some) H' Z' As' → Own K H' Z' kr d v B → Chg true H Z As H' Z' As' → Sep B H As H' Z' As' → Q v H'
theorem envOf_length {ms : List Nat} {ds : List D} (h : ds.length = ms.length) : (envOf ms ds).length = ms.length := by
  unfold envOf; rw [List.length_map, List.length_zip]; omega
theorem spG_len {K : PySem.W.Frag} {ms : List Nat} {kr : Nat} {G : GMap} {vs : List V} {H : Hp} {Q : VK} {E : XK} (h : spG K ms kr G vs H Q E) : vs.length = ms.length := by
  obtain ⟨Z, As, ds, hl, r, _⟩ := h
  have := r.len
  rw [envOf_length hl, List.length_map] at this
  exact this.symm
/-- no promise -/
theorem spG_none {K : PySem.W.Frag} {ms : List Nat} {kr : Nat} {vs : List V} {H : Hp} {Q : VK} {E : XK} (h : spG K ms kr (fun _ => none) vs H Q E) : False := by
  obtain ⟨Z, As, ds, hl, r, d, ρ', e, _⟩ := h
  cases e

/-! ### a body keeps it -/
def outE : List Nat → Env → Env
  | [], _ => []
  | 0 :: ms, ρ => none :: outE ms ρ.tail
  | (_ + 1) :: ms, ρ => ρ.head?.join :: outE ms ρ.tail
theorem outE_length : ∀ {ms : List Nat} {ρ : Env}, (outE ms ρ).length = ms.length
  | [], _ => rfl
  | 0 :: ms, ρ => by unfold outE; rw [List.length_cons, List.length_cons, outE_length]
  | (_ + 1) :: ms, ρ => by unfold outE; rw [List.length_cons, List.length_cons, outE_length]
theorem outE_get : ∀ {ms : List Nat} {ρ : Env} {i : Nat} {x : Nat × D}, (outE ms ρ)[i]? = some (some x) → ρ[i]? = some (some x) ∧ ∃ m, ms[i]? = some (m + 1)
  | [], ρ, i, x, h => by simp [outE] at h
  | 0 :: ms, ρ, 0, x, h => by unfold outE at h; simp at h
  | 0 :: ms, ρ, i + 1, x, h => by
    unfold outE at h
    rw [List.getElem?_cons_succ] at h
    obtain ⟨h1, h2⟩ := outE_get h
    rw [List.getElem?_tail] at h1
    exact ⟨h1, by rw [List.getElem?_cons_succ]; exact h2⟩
  | (m + 1) :: ms, ρ, 0, x, h => by
    unfold outE at h
    rw [List.getElem?_cons_zero] at h
    refine ⟨?_, m, rfl⟩
    cases ρ with
    | nil => simp at h
    | cons a ρ => simpa using h
  | (m + 1) :: ms, ρ, i + 1, x, h => by
    unfold outE at h
    rw [List.getElem?_cons_succ] at h
    obtain ⟨h1, h2⟩ := outE_get h
    rw [List.getElem?_tail] at h1
    exact ⟨h1, by rw [List.getElem?_cons_succ]; exact h2⟩
/-- n: how many slots the body has -/
def defG (n : Nat) (ms : List Nat) (F : SM) : GMap := fun ds => (F (envOf ms ds ++ List.replicate (n - ms.length) none)).bind fun o => match o with
  | .rt d ρ' => some (d, outE ms ρ')
  | .nx ρ' => some (.non, outE ms ρ')
  | _ => none
section
variable {K : PySem.W.Frag} {ρ ρ' : Env} {σ σ' : L2.St} {H H' H1 : Hp} {Z Z' Z1 : Addr → Prop} {As As' As1 : Nat → List Addr} {W : Bool} {B : List Addr} {k n : Nat} {d : D} {v : V}
theorem RS.ext (r : RS K ρ σ H Z As) (n : Nat) : RS K (ρ ++ List.replicate n none) (σ ++ List.replicate n none) H Z As where
  slot := fun i m d e => by
    by_cases hi : i < ρ.length
    · rw [List.getElem?_append_left hi] at e
      rw [List.getElem?_append_left (by rw [← r.len]; exact hi)]
      exact r.slot i m d e
    · rw [List.getElem?_append_right (by omega), List.getElem?_replicate] at e
      split at e <;> cases e
  nd := r.nd
  dj := r.dj
  nz := r.nz
  mt := r.mt
  zd := r.zd
  len := by rw [List.length_append, List.length_append, r.len]; simp
theorem Sep.less (sp : Sep B H1 As1 H Z As) (h : ∀ i a, a ∈ As' i → a ∈ As i) : Sep B H1 As1 H Z As' := ⟨sp.nd, sp.nz, fun b hb i z => sp.dj b hb i (h i b z), sp.mt, sp.af⟩
theorem RS.out {ms : List Nat} {vs : List V} {N : List Str} {P : List Nat} (r : RS K ρ' σ' H Z As) (hp : Pin P (L2.start N vs) σ') (hP : ∀ (i m : Nat), ms[i]? = some (m + 1) → i ∈ P) (hl : vs.length = ms.length) :
    ∃ As', RS K (outE ms ρ') (vs.map some) H Z As' ∧ ∀ i a, a ∈ As' i → a ∈ As i := by
  refine ⟨fun i => if ((outE ms ρ')[i]?).join.isSome = true then As i else [], ⟨fun i m d e => ?_, fun i => ?_, fun i j a h1 h2 => ?_, fun i a h => ?_, fun i a h => ?_, r.zd, by rw [outE_length, List.length_map, hl]⟩, fun i a h => ?_⟩
  · obtain ⟨e1, m', e2⟩ := outE_get e
    obtain ⟨v, h1, h2⟩ := r.slot i m d e1
    rw [hp i (hP i m' e2)] at h1
    have hi : i < vs.length := by
      rw [hl]
      exact (List.getElem?_eq_some_iff.mp e2).1
    unfold L2.start at h1
    rw [List.getElem?_append_left (by rw [List.length_map]; exact hi)] at h1
    simp only [e, Option.join, Option.isSome, Option.bind, id, if_true]
    exact ⟨v, h1, h2⟩
  · show (if _ then As i else ([] : List Addr)).Nodup
    split
    · exact r.nd i
    · exact List.nodup_nil
  · split at h1
    · split at h2
      · exact r.dj i j a h1 h2
      · cases h2
    · cases h1
  · split at h
    · exact r.nz i a h
    · cases h
  · split at h
    · exact r.mt i a h
    · cases h
  · dsimp only at h
    split at h
    · exact h
    · cases h
end
section
variable {P : Program} {w : World} {K : PySem.W.Frag} {mg : Str → Option Value} {base : Heap} {x : Str} {st : Stmt} {f : Addr} {fd : FuncData}
abbrev FnP (K : PySem.W.Frag) (x : Str) (st : Stmt) (f : Addr) (fd : FuncData) : Prop := FunD K x x (defArgs st) (defBody st) (defScope st) [] [] f fd
/-- THE RULE for a def -/
theorem dfn_ok {N ps : List Str} {k kr : Nat} {ms ws : List Nat} {F : SM} (Fn : FnP K x st f fd) (S : FnScope N ps (defScope st)) (hms : ms.length = ps.length) (hP : ∀ (i m : Nat), ms[i]? = some (m + 1) → i ∈ ws)
    (hbody : ∀ (cdv : Value) (A : Around) (outer : List PySem.Env) (s : Shared) (H : Hp) (E : XK), Room k (A.deeper (envOfC x (defScope st) s.heap.objs.size f cdv)) → DSs (cxOf CX0 P w K mg base N x (defScope st) f cdv A outer s H E).nox (defBody st) ws kr F) :
    FnOk P w K mg base CX0 (k + 1) f fd ps (spG K ms kr (defG N.length ms F)) := by
  refine Fn.ok S (fun vs H Q E h => (spG_len h).trans hms) fun cdv A outer s H vs Q E hr h => ⟨_, (hbody cdv A outer s H E hr).nox, ?_⟩
  have hvl := spG_len h
  obtain ⟨Z, As, ds, hl, r, d, ρo, hG, q⟩ := h
  unfold defG at hG
  obtain ⟨o, e1, e2⟩ := Option.bind_eq_some_iff.mp hG
  have r1 := r.ext (N.length - ms.length)
  have es : L2.start N vs = vs.map some ++ List.replicate (N.length - ms.length) none := by unfold L2.start; rw [hvl]
  rw [← es] at r1
  refine ⟨_, Z, As, r1, o, e1, ?_⟩
  cases o with
  | nx ρ' =>
    cases e2
    intro σ' H' Z' As' r' c p
    obtain ⟨As2, r2, a2⟩ := r'.out p hP hvl
    exact q .non H' Z' As2 [] r2 (Own.of_rep (by unfold Rep; rfl) rfl) (c.less a2) Sep.nil
  | rt d' ρ' =>
    cases e2
    intro v σ' H' Z' As' B r' ow c sp p
    obtain ⟨As2, r2, a2⟩ := r'.out p hP hvl
    exact q v H' Z' As2 B r2 ow (c.less a2) (sp.less a2)
  | br ρ' => cases e2
  | ct ρ' => cases e2
end

/-! ### the arguments of a call: frozen ones, and names that own -/
structure ArgV (K : PySem.W.Frag) (H : Hp) (Z : Addr → Prop) (σ : L2.St) (os : List (Option Nat)) (ds : List D) (vs : List V) : Prop where
  ld : ds.length = os.length
  lv : vs.length = os.length
  fz : ∀ (i : Nat) d v, os[i]? = some none → ds[i]? = some d → vs[i]? = some v → Rep K H Z d v
  ow : ∀ (i s : Nat) v, os[i]? = some (some s) → vs[i]? = some v → σ[s]? = some (some v)
def tAC (K : PySem.W.Frag) (W : Bool) (os : List (Option Nat)) (f : AM) : TA := fun σ H Q => ∃ ρ Z As, RS K ρ σ H Z As ∧ ∃ ds ρ', f ρ = some (ds, ρ') ∧
  ∀ vs H' Z' As', RS K ρ' σ H' Z' As' → ArgV K H' Z' σ os ds vs → Chg W H Z As H' Z' As' → Q vs H'
abbrev DAC (X : Cx) (es : List Expr) (W : Bool) (os : List (Option Nat)) (f : AM) : Prop := PA X es (tAC X.K W os f)
abbrev DAK (X : Cx) (kws : List Keyword) (W : Bool) (os : List (Option Nat)) (f : AM) : Prop := PK X kws (tAC X.K W os f)
theorem PK.conv {X : Cx} {es : List Keyword} {t t' : TA} (h : PK X es t) (c : ∀ σ H Q, t' σ H Q → t σ H Q) : PK X es t' := ⟨fun pos pins s σ H Q I q => h.run pos pins s σ H Q I (c σ H Q q)⟩
section
variable {K : PySem.W.Frag} {ρ ρ' ρ1 : Env} {σ σ' : L2.St} {H H' H1 : Hp} {Z Z' Z1 : Addr → Prop} {As As' As1 : Nat → List Addr} {W Wa Wb : Bool} {B : List Addr} {k n : Nat} {d : D} {v : V} {os : List (Option Nat)} {ds : List D} {vs : List V} {f : EM} {fs : AM}
theorem ArgV.nil : ArgV K H Z σ [] [] [] := ⟨rfl, rfl, fun i d v h => by simp at h, fun i s v h => by simp at h⟩
theorem ArgV.cons0 (h : Rep K H Z d v) (a : ArgV K H Z σ os ds vs) : ArgV K H Z σ (none :: os) (d :: ds) (v :: vs) where
  ld := by rw [List.length_cons, List.length_cons, a.ld]
  lv := by rw [List.length_cons, List.length_cons, a.lv]
  fz := fun i d' v' h1 h2 h3 => by
    cases i with
    | zero => simp at h2 h3; subst h2 h3; exact h
    | succ i => rw [List.getElem?_cons_succ] at h1 h2 h3; exact a.fz i d' v' h1 h2 h3
  ow := fun i s v' h1 h2 => by
    cases i with
    | zero => simp at h1
    | succ i => rw [List.getElem?_cons_succ] at h1 h2; exact a.ow i s v' h1 h2
theorem ArgV.consO {s : Nat} (h : σ[s]? = some (some v)) (a : ArgV K H Z σ os ds vs) : ArgV K H Z σ (some s :: os) (d :: ds) (v :: vs) where
  ld := by rw [List.length_cons, List.length_cons, a.ld]
  lv := by rw [List.length_cons, List.length_cons, a.lv]
  fz := fun i d' v' h1 h2 h3 => by
    cases i with
    | zero => simp at h1
    | succ i => rw [List.getElem?_cons_succ] at h1 h2 h3; exact a.fz i d' v' h1 h2 h3
  ow := fun i s' v' h1 h2 => by
    cases i with
    | zero => simp at h1 h2; subst h1 h2; exact h
    | succ i => rw [List.getElem?_cons_succ] at h1 h2; exact a.ow i s' v' h1 h2
def acNil : AM := fun ρ => some ([], ρ)
def acCons (f : EM) (fs : AM) : AM := fun ρ => (f ρ).bind fun p => (fs p.2).map fun q => (p.1 :: q.1, q.2)
def acOwn (s : Nat) (fs : AM) : AM := fun ρ => match ρ[s]? with | some (some _) => (fs ρ).map fun q => (.non :: q.1, q.2) | _ => none
theorem ac_nil (q : tAC K false [] acNil σ H Q) : tNil σ H Q := by
  obtain ⟨ρ, Z, As, r, ds, ρ', ef, q⟩ := q
  cases ef
  exact q [] H Z As r ArgV.nil Chg.refl
theorem ac_cons {Q : List V → Hp → Prop} (q : tAC K (Wa || Wb) (none :: os) (acCons f fs) σ H Q) : tCons (tE K Wa true 0 f) (tAC K Wb os fs) σ H Q := by
  obtain ⟨ρ, Z, As, r, ds, ρ', ef, q⟩ := q
  unfold acCons at ef
  obtain ⟨⟨d, ρ1⟩, e1, ef⟩ := Option.bind_eq_some_iff.mp ef
  obtain ⟨⟨dr, ρ2⟩, e2, ef⟩ := Option.map_eq_some_iff.mp ef
  cases ef
  refine ⟨ρ, Z, As, r, d, ρ1, e1, fun v H1 Z1 As1 B r1 o1 c1 _ => ?_⟩
  refine ⟨ρ1, Z1, As1, r1, dr, _, e2, fun vs H2 Z2 As2 r2 a2 c2 => ?_⟩
  exact q (v :: vs) H2 Z2 As2 r2 (.cons0 (Rep.mono c2.zz (c2.pre r1) d v o1.1) a2) (c1.trans r c2)
theorem ac_own {s : Nat} {Q : List V → Hp → Prop} (q : tAC K W (some s :: os) (acOwn s fs) σ H Q) : tCons (tVar s) (tAC K W os fs) σ H Q := by
  obtain ⟨ρ, Z, As, r, ds, ρ', ef, q⟩ := q
  unfold acOwn at ef
  split at ef
  · rename_i m he
    obtain ⟨⟨dr, ρ2⟩, e2, ef⟩ := Option.map_eq_some_iff.mp ef
    cases ef
    obtain ⟨v, h1, _⟩ := r.slot s m.1 m.2 he
    exact ⟨v, h1, ρ, Z, As, r, dr, _, e2, fun vs H2 Z2 As2 r2 a2 c2 => q (v :: vs) H2 Z2 As2 r2 (.consO h1 a2) c2⟩
  · cases ef
end
section
variable {X : Cx} {e : Expr} {es : List Expr} {kws : List Keyword} {kpos npos : Pos} {nm : Option Str} {W Wa Wb : Bool} {os : List (Option Nat)} {f : EM} {fs : AM} {x : Str}
theorem dac_nil : DAC X [] false [] acNil := PA.conv pa_nil fun σ H Q q => ac_nil q
theorem dac_cons (h : DE X e Wa true 0 f) (hr : DAC X es Wb os fs) (hs : starEach (e :: es) X.env = (false, eval e X.env) :: starEach es X.env := by rfl) : DAC X (e :: es) (Wa || Wb) (none :: os) (acCons f fs) := PA.conv (pa_cons h hr hs) fun σ H Q q => ac_cons q
theorem dac_own (s : Nat) (hr : DAC X es W os fs) (hN : X.N[s]? = some x := by rfl) (hv : Vis X.env.scope x := by first | exact Or.inl rfl | exact Or.inr (Or.inl rfl) | exact Or.inr (Or.inr rfl)) (hs : starEach (.Name x npos :: es) X.env = (false, eval (.Name x npos) X.env) :: starEach es X.env := by rfl)
    (hd : (x == ("__debug__" : Str)) = false := by decide) (hcd : (x == ("__classdict__" : Str)) = false := by decide) : DAC X (.Name x npos :: es) W (some s :: os) (acOwn s fs) := PA.conv (pa_cons (pe_var hN hv hd hcd) hr hs) fun σ H Q q => ac_own q
theorem dak_nil : DAK X [] false [] acNil := PK.conv pk_nil fun σ H Q q => ac_nil q
theorem dak_cons (h : DE X e Wa true 0 f) (hr : DAK X kws Wb os fs) : DAK X (⟨nm, e, kpos⟩ :: kws) (Wa || Wb) (none :: os) (acCons f fs) := PK.conv (pk_cons h hr) fun σ H Q q => ac_cons q
theorem dak_own (s : Nat) (hr : DAK X kws W os fs) (hN : X.N[s]? = some x := by rfl) (hv : Vis X.env.scope x := by first | exact Or.inl rfl | exact Or.inr (Or.inl rfl) | exact Or.inr (Or.inr rfl))
    (hd : (x == ("__debug__" : Str)) = false := by decide) (hcd : (x == ("__classdict__" : Str)) = false := by decide) : DAK X (⟨nm, .Name x npos, kpos⟩ :: kws) W (some s :: os) (acOwn s fs) := PK.conv (pk_cons (pe_var hN hv hd hcd) hr) fun σ H Q q => ac_own q
end
/-! ### the call -/
/-- the parameters' data at the call -/
def fillA (ρ : Env) : List (Option Nat) → List Nat → List D → Option (List D)
  | [], [], [] => some []
  | none :: os, 0 :: ms, d :: ds => (fillA ρ os ms ds).map fun r => d :: r
  | some s :: os, (m + 1) :: ms, _ :: ds => match ρ[s]? with
    | some (some (m', d)) => if m' = m + 1 then (fillA ρ os ms ds).map fun r => d :: r else none
    | _ => none
  | _, _, _ => none
/-- .. and what then stands in the caller's slots -/
def putB : List (Option Nat) → Env → Env → Env
  | [], _, ρ => ρ
  | none :: os, ρp, ρ => putB os ρp.tail ρ
  | some s :: os, ρp, ρ => (putB os ρp.tail ρ).set s ρp.head?.join
theorem fillA_get {ρ : Env} : ∀ {os : List (Option Nat)} {ms : List Nat} {ds ds1 : List D}, fillA ρ os ms ds = some ds1 → ms.length = os.length ∧ ds1.length = os.length ∧
    ∀ (i m : Nat) d, ms[i]? = some m → ds1[i]? = some d → (os[i]? = some none ∧ m = 0 ∧ ds[i]? = some d) ∨ ∃ s, os[i]? = some (some s) ∧ ρ[s]? = some (some (m, d))
  | [], ms, ds, ds1, h => by
    cases ms <;> cases ds <;> simp only [fillA] at h <;> cases h
    exact ⟨rfl, rfl, fun i m d h => by simp at h⟩
  | none :: os, ms, ds, ds1, h => by
    cases ms with
    | nil => cases ds <;> cases h
    | cons m ms =>
      cases m with
      | succ m => cases ds <;> cases h
      | zero =>
        cases ds with
        | nil => cases h
        | cons d ds =>
          obtain ⟨r, e1, e2⟩ := Option.map_eq_some_iff.mp (show (fillA ρ os ms ds).map (fun r => d :: r) = some ds1 from h)
          subst e2
          obtain ⟨h1, h2, h3⟩ := fillA_get e1
          refine ⟨by rw [List.length_cons, List.length_cons, h1], by rw [List.length_cons, List.length_cons, h2], fun i m d' g1 g2 => ?_⟩
          cases i with
          | zero => simp at g1 g2; subst g1 g2; exact .inl ⟨rfl, rfl, rfl⟩
          | succ i => rw [List.getElem?_cons_succ] at g1 g2; simpa using h3 i m d' g1 g2
  | some s :: os, ms, ds, ds1, h => by
    cases ms with
    | nil => cases ds <;> cases h
    | cons m ms =>
      cases m with
      | zero => cases ds <;> cases h
      | succ m =>
        cases ds with
        | nil => cases h
        | cons d ds =>
          have h : (match ρ[s]? with
            | some (some (m', d)) => if m' = m + 1 then (fillA ρ os ms ds).map fun r => d :: r else none
            | _ => none) = some ds1 := h
          split at h
          · rename_i m' d' he
            split at h
            · rename_i hm
              obtain ⟨r, e1, e2⟩ := Option.map_eq_some_iff.mp h
              subst e2 hm
              obtain ⟨h1, h2, h3⟩ := fillA_get e1
              refine ⟨by rw [List.length_cons, List.length_cons, h1], by rw [List.length_cons, List.length_cons, h2], fun i m d' g1 g2 => ?_⟩
              cases i with
              | zero => simp at g1 g2; subst g1 g2; exact .inr ⟨s, rfl, he⟩
              | succ i => rw [List.getElem?_cons_succ] at g1 g2; simpa using h3 i m d' g1 g2
            · cases h
          · cases h
theorem putB_length : ∀ {os : List (Option Nat)} {ρp ρ : Env}, (putB os ρp ρ).length = ρ.length
  | [], _, _ => rfl
  | none :: os, ρp, ρ => by unfold putB; exact putB_length
  | some s :: os, ρp, ρ => by unfold putB; rw [List.length_set]; exact putB_length
theorem putB_get : ∀ {os : List (Option Nat)} {ρp ρ : Env} {j : Nat} {x : Nat × D}, (putB os ρp ρ)[j]? = some (some x) → (∃ i : Nat, os[i]? = some (some j) ∧ ρp[i]? = some (some x)) ∨ ((∀ i : Nat, os[i]? ≠ some (some j)) ∧ ρ[j]? = some (some x))
  | [], ρp, ρ, j, x, h => .inr ⟨fun i => by simp, h⟩
  | none :: os, ρp, ρ, j, x, h => by
    unfold putB at h
    rcases putB_get h with ⟨i, h1, h2⟩ | ⟨h1, h2⟩
    · exact .inl ⟨i + 1, by rw [List.getElem?_cons_succ]; exact h1, by rw [List.getElem?_tail] at h2; exact h2⟩
    · refine .inr ⟨fun i => ?_, h2⟩
      cases i with
      | zero => simp
      | succ i => rw [List.getElem?_cons_succ]; exact h1 i
  | some s :: os, ρp, ρ, j, x, h => by
    unfold putB at h
    by_cases hj : s = j
    · subst hj
      have hlt := (List.getElem?_eq_some_iff.mp h).1
      rw [List.length_set] at hlt
      rw [List.getElem?_set_self hlt] at h
      refine .inl ⟨0, rfl, ?_⟩
      cases ρp with
      | nil => simp at h
      | cons a ρp => simpa using h
    · rw [List.getElem?_set_ne hj] at h
      rcases putB_get h with ⟨i, h1, h2⟩ | ⟨h1, h2⟩
      · exact .inl ⟨i + 1, by rw [List.getElem?_cons_succ]; exact h1, by rw [List.getElem?_tail] at h2; exact h2⟩
      · refine .inr ⟨fun i => ?_, h2⟩
        cases i with
        | zero => simpa using hj
        | succ i => rw [List.getElem?_cons_succ]; exact h1 i
/-- no slot is handed over twice -/
def ndO (os : List (Option Nat)) : Bool := decide ((os.filterMap id).Nodup)
theorem ndO_inj : ∀ {os : List (Option Nat)}, (os.filterMap id).Nodup → ∀ (i j s : Nat), os[i]? = some (some s) → os[j]? = some (some s) → i = j
  | [], _, i, j, s, h1, h2 => by simp at h1
  | none :: os, h, i, j, s, h1, h2 => by
    cases i with
    | zero => simp at h1
    | succ i =>
      cases j with
      | zero => simp at h2
      | succ j =>
        rw [List.getElem?_cons_succ] at h1 h2
        rw [ndO_inj (os := os) (by simpa using h) i j s h1 h2]
  | some t :: os, h, i, j, s, h1, h2 => by
    have h' : t ∉ os.filterMap id ∧ (os.filterMap id).Nodup := by
      rw [List.filterMap_cons] at h
      simpa using h
    have mem : ∀ k : Nat, os[k]? = some (some s) → s ∈ os.filterMap id := fun k hk => List.mem_filterMap.mpr ⟨some s, List.mem_of_getElem? hk, rfl⟩
    cases i with
    | zero =>
      cases j with
      | zero => rfl
      | succ j =>
        rw [List.getElem?_cons_succ] at h2
        have : t = s := by simpa using h1
        subst this
        exact absurd (mem j h2) h'.1
    | succ i =>
      cases j with
      | zero =>
        rw [List.getElem?_cons_succ] at h1
        have : t = s := by simpa using h2
        subst this
        exact absurd (mem i h1) h'.1
      | succ j =>
        rw [List.getElem?_cons_succ] at h1 h2
        rw [ndO_inj h'.2 i j s h1 h2]
section
variable {K : PySem.W.Frag} {ρ ρ' ρp : Env} {σ : L2.St} {H : Hp} {Z : Addr → Prop} {As : Nat → List Addr} {kr : Nat} {d : D} {os : List (Option Nat)} {ms : List Nat} {ds ds1 : List D} {vs : List V} {G : GMap} {Q : VK} {E : XK}
theorem call_red (r : RS K ρ σ H Z As) (av : ArgV K H Z σ os ds vs) (hnd : ndO os = true) (hf : fillA ρ os ms ds = some ds1) (hG : G ds1 = some (d, ρp))
    (q : ∀ v H' Z' As' B, RS K (putB os ρp ρ) σ H' Z' As' → Own K H' Z' kr d v B → Chg (os.any (·.isSome)) H Z As H' Z' As' → Sep B H As H' Z' As' → Q v H') : spG K ms kr G vs H Q E := by
  have inj := ndO_inj (of_decide_eq_true hnd)
  obtain ⟨lm, ld1, hget⟩ := fillA_get hf
  let Ac : Nat → List Addr := fun i => match os[i]? with | some (some s) => As s | _ => []
  have acO : ∀ {i s : Nat}, os[i]? = some (some s) → Ac i = As s := fun {i s} h => by show (match os[i]? with | some (some s) => As s | _ => []) = _; rw [h]
  have acI : ∀ {i : Nat} {a : Addr}, a ∈ Ac i → ∃ s, os[i]? = some (some s) ∧ a ∈ As s := fun {i a} h => by
    have h : a ∈ (match os[i]? with | some (some s) => As s | _ => ([] : List Addr)) := h
    split at h
    · rename_i s e; exact ⟨s, e, h⟩
    · cases h
  have rc : RS K (envOf ms ds1) (vs.map some) H Z Ac := by
    refine ⟨fun i m d' e => ?_, fun i => ?_, fun i j a h1 h2 => ?_, fun i a h => ?_, fun i a h => ?_, r.zd, ?_⟩
    · have e' : ms[i]? = some m ∧ ds1[i]? = some d' := by
        unfold envOf at e
        rw [List.getElem?_map] at e
        obtain ⟨p, e1, e2⟩ := Option.map_eq_some_iff.mp e
        cases e2
        exact List.getElem?_zip_eq_some.mp e1
      have hi : i < vs.length := by rw [av.lv, ← lm]; exact (List.getElem?_eq_some_iff.mp e'.1).1
      have hv : vs[i]? = some vs[i] := by simp
      refine ⟨vs[i], by rw [List.getElem?_map, hv]; rfl, ?_⟩
      rcases hget i m d' e'.1 e'.2 with ⟨h1, rfl, h3⟩ | ⟨s, h1, h2⟩
      · refine ⟨av.fz i d' _ h1 h3 hv, ?_⟩
        show (match os[i]? with | some (some s) => As s | _ => []) = _
        rw [h1]
      · obtain ⟨v, g1, g2⟩ := r.slot s m d' h2
        have g3 := av.ow i s _ h1 hv
        rw [g1] at g3
        cases g3
        rw [acO h1]
        exact g2
    · show (match os[i]? with | some (some s) => As s | _ => ([] : List Addr)).Nodup
      split
      · exact r.nd _
      · exact List.nodup_nil
    · obtain ⟨s, g1, g2⟩ := acI h1
      obtain ⟨t, g3, g4⟩ := acI h2
      have := r.dj s t a g2 g4
      subst this
      exact inj i j s g1 g3
    · obtain ⟨s, g1, g2⟩ := acI h; exact r.nz s a g2
    · obtain ⟨s, g1, g2⟩ := acI h; exact r.mt s a g2
    · rw [envOf_length (ld1.trans lm.symm), List.length_map, av.lv, lm]
  refine ⟨Z, Ac, ds1, ld1.trans lm.symm, rc, d, ρp, hG, fun v H' Z' As' B r' ow c sp => ?_⟩
  -- the caller's state
  let An : Nat → List Addr := fun j => match os.findIdx? (· == some j) with | some i => As' i | none => As j
  have fi : ∀ {j i : Nat}, os.findIdx? (· == some j) = some i → os[i]? = some (some j) := fun {j i} h => by
    obtain ⟨h1, h2, _⟩ := List.findIdx?_eq_some_iff_getElem.mp h
    have : os[i] = some j := by simpa using h2
    rw [List.getElem?_eq_getElem h1, this]
  have fn : ∀ {j : Nat}, os.findIdx? (· == some j) = none → ∀ i : Nat, os[i]? ≠ some (some j) := fun {j} h i e => by
    have := List.findIdx?_eq_none_iff.mp h (some j) (List.mem_of_getElem? e)
    simp at this
  have anO : ∀ {i j : Nat}, os[i]? = some (some j) → An j = As' i := fun {i j} h => by
    show (match os.findIdx? (· == some j) with | some i => As' i | none => As j) = _
    cases e : os.findIdx? (· == some j) with
    | none => exact absurd h (fn e i)
    | some i' =>
      have := inj i' i j (fi e) h
      subst this
      rfl
  have anN : ∀ {j : Nat}, (∀ i : Nat, os[i]? ≠ some (some j)) → An j = As j := fun {j} h => by
    show (match os.findIdx? (· == some j) with | some i => As' i | none => As j) = _
    cases e : os.findIdx? (· == some j) with
    | none => rfl
    | some i' => exact absurd (fi e) (h i')
  have anC : ∀ j, (∃ i, os[i]? = some (some j) ∧ An j = As' i) ∨ ((∀ i : Nat, os[i]? ≠ some (some j)) ∧ An j = As j) := fun j => by
    cases e : os.findIdx? (· == some j) with
    | none => exact .inr ⟨fn e, anN (fn e)⟩
    | some i => exact .inl ⟨i, fi e, anO (fi e)⟩
  -- what the callee may own is new or was handed over
  have fr : ∀ {i : Nat} {a : Addr}, a ∈ As' i → H a = none ∨ ∃ s i, os[i]? = some (some s) ∧ a ∈ As s := fun {i a} h => by
    rcases c.af i a h with h | ⟨j, h⟩
    · exact .inl h
    · obtain ⟨s, g1, g2⟩ := acI h; exact .inr ⟨s, j, g1, g2⟩
  have kp : ∀ {j : Nat} {a : Addr}, (∀ i : Nat, os[i]? ≠ some (some j)) → a ∈ As j → ∀ i, a ∉ Ac i := fun {j a} hj ha i h => by
    obtain ⟨s, g1, g2⟩ := acI h
    have := r.dj s j a g2 ha
    subst this
    exact hj i g1
  have hp : Pre Z H H' := c.pre rc
  have rn : RS K (putB os ρp ρ) σ H' Z' An := by
    refine ⟨fun j m d' e => ?_, fun j => ?_, fun i j a h1 h2 => ?_, fun j a h z => ?_, fun j a h => ?_, r'.zd, by rw [putB_length, r.len]⟩
    · rcases putB_get e with ⟨i, h1, h2⟩ | ⟨h1, h2⟩
      · obtain ⟨v', g1, g2⟩ := r'.slot i m d' h2
        rw [List.getElem?_map] at g1
        obtain ⟨u, g3, g4⟩ := Option.map_eq_some_iff.mp g1
        cases g4
        rw [anO h1]
        exact ⟨v', av.ow i j v' h1 g3, g2⟩
      · obtain ⟨v', g1, g2⟩ := r.slot j m d' h2
        rw [anN h1]
        exact ⟨v', g1, Own.mono c.zz hp m (fun a ha o e => c.keep a o e fun _ => kp h1 ha) g2⟩
    · rcases anC j with ⟨i, h1, e⟩ | ⟨h1, e⟩
      · rw [e]; exact r'.nd i
      · rw [e]; exact r.nd j
    · rcases anC i with ⟨i', e1, e2⟩ | ⟨e1, e2⟩
      · rcases anC j with ⟨j', e3, e4⟩ | ⟨e3, e4⟩
        · rw [e2] at h1
          rw [e4] at h2
          have := r'.dj i' j' a h1 h2
          subst this
          rw [e1] at e3
          cases e3
          rfl
        · rw [e2] at h1
          rw [e4] at h2
          rcases fr h1 with z | ⟨s, i2, g1, g2⟩
          · exact absurd z (r.mt j a h2).ne
          · have := r.dj s j a g2 h2
            subst this
            exact absurd g1 (e3 i2)
      · rcases anC j with ⟨j', e3, e4⟩ | ⟨e3, e4⟩
        · rw [e2] at h1
          rw [e4] at h2
          rcases fr h2 with z | ⟨s, i2, g1, g2⟩
          · exact absurd z (r.mt i a h1).ne
          · have := r.dj s i a g2 h1
            subst this
            exact absurd g1 (e1 i2)
        · rw [e2] at h1
          rw [e4] at h2
          exact r.dj i j a h1 h2
    · rcases anC j with ⟨i, h1, e⟩ | ⟨h1, e⟩
      · rw [e] at h; exact r'.nz i a h z
      · rw [e] at h
        rcases c.zf a z with z | z | ⟨i, z⟩
        · exact r.nz j a h z
        · exact (r.mt j a h).ne z
        · exact kp h1 h i z
    · rcases anC j with ⟨i, h1, e⟩ | ⟨h1, e⟩
      · rw [e] at h; exact r'.mt i a h
      · rw [e] at h
        have q := r.mt j a h
        cases e : H a with
        | none => exact absurd e q.ne
        | some o => rw [e] at q; rw [c.keep a o e fun _ => kp h1 h]; exact q
  refine q v H' Z' An B rn ow ⟨fun a o e hw => c.keep a o e fun _ i hi => ?_, c.dom, c.zz, fun a z => ?_, fun j a h => ?_⟩ ⟨sp.nd, sp.nz, fun b hb j z => ?_, sp.mt, fun b hb => ?_⟩
  · obtain ⟨s, g1, g2⟩ := acI hi
    refine hw ?_ s g2
    rw [List.any_eq_true]
    exact ⟨some s, List.mem_of_getElem? g1, rfl⟩
  · rcases c.zf a z with h | h | ⟨i, h⟩
    · exact .inl h
    · exact .inr (.inl h)
    · obtain ⟨s, g1, g2⟩ := acI h; exact .inr (.inr ⟨s, g2⟩)
  · rcases anC j with ⟨i, h1, e⟩ | ⟨h1, e⟩
    · rw [e] at h
      rcases fr h with z | ⟨s, i2, g1, g2⟩
      · exact .inl z
      · exact .inr ⟨s, g2⟩
    · rw [e] at h; exact .inr ⟨j, h⟩
  · rcases anC j with ⟨i, h1, e⟩ | ⟨h1, e⟩
    · rw [e] at z; exact sp.dj b hb i z
    · rw [e] at z
      rcases sp.af b hb with y | ⟨i, y⟩
      · exact (r.mt j b z).ne y
      · exact kp h1 z i y
  · rcases sp.af b hb with y | ⟨i, y⟩
    · exact .inl y
    · obtain ⟨s, g1, g2⟩ := acI y; exact .inr ⟨s, g2⟩
end
def eCallD (os : List (Option Nat)) (ms : List Nat) (fs : AM) (G : GMap) : EM := fun ρ => (fs ρ).bind fun p => (fillA p.2 os ms p.1).bind fun ds => (G ds).map fun q => (q.1, putB os q.2 p.2)
section
variable {X : Cx} {k kr : Nat} {f : Addr} {fd : FuncData} {ps : List Str} {x : Str} {p pos : Pos} {e : Expr} {es : List Expr} {W : Bool} {os : List (Option Nat)} {ms : List Nat} {fs : AM} {G : GMap}
theorem callD_red {K : PySem.W.Frag} {σ : L2.St} {H : Hp} {Q : VK} (hnd : ndO os = true) (q : tE K (W || os.any (·.isSome)) true kr (eCallD os ms fs G) σ H Q) : tAC K W os fs σ H fun vs H1 => spG K ms kr G vs H1 Q E0 := by
  obtain ⟨ρ, Z, As, r, d, ρ', ef, q⟩ := q
  unfold eCallD at ef
  obtain ⟨⟨ds, ρ1⟩, e1, ef⟩ := Option.bind_eq_some_iff.mp ef
  obtain ⟨ds1, e2, ef⟩ := Option.bind_eq_some_iff.mp ef
  obtain ⟨⟨d', ρp⟩, e3, ef⟩ := Option.map_eq_some_iff.mp ef
  cases ef
  refine ⟨ρ, Z, As, r, ds, ρ1, e1, fun vs H1 Z1 As1 r1 av c1 => ?_⟩
  exact call_red r1 av hnd e2 e3 fun v H2 Z2 As2 B r2 ow c2 sp => q v H2 Z2 As2 B r2 ow (c1.trans r c2) fun _ => sp.after c1.up
theorem de_call (F : FnOk X.prog X.w X.K X.mg X.base CX0 k f fd ps (spG X.K ms kr G)) (hr : Room k X.A) (hm : X.mg x = some (.ref f)) (hk : PySem.W.keepIn X.K (.ref f) = true) (hb : Binds X.K fd ps []) (ha : DAC X (e :: es) W os fs) (hg : Gl X x := by rfl) (hnd : ndO os = true := by rfl)
    (hdb : (x == ("__debug__" : Str)) = false := by decide) (he : starEach (e :: es) X.env = (false, eval e X.env) :: starEach es X.env := by rfl) (hpl : (backTo pos (starEach es X.env)).any (·.1) = false := by rfl) :
    DE X (.Call (.Name x p) (e :: es) [] pos) (W || os.any (·.isSome)) true kr (eCallD os ms fs G) := PE.conv (pe_call F hr hg hm hk hb .nil pass0 ha hdb he hpl) fun σ H Q q => by
  have q := callD_red (W := W) hnd q
  obtain ⟨ρ, Z, As, r, ds, ρ1, e1, q⟩ := q
  exact ⟨ρ, Z, As, r, ds, ρ1, e1, fun vs H1 Z1 As1 r1 av c1 => by
    show spG X.K ms kr G (vs ++ []) H1 Q E0
    rw [List.append_nil]
    exact q vs H1 Z1 As1 r1 av c1⟩
theorem de_call0 (F : FnOk X.prog X.w X.K X.mg X.base CX0 k f fd ps (spG X.K [] kr G)) (hr : Room k X.A) (hm : X.mg x = some (.ref f)) (hk : PySem.W.keepIn X.K (.ref f) = true) (hb : Binds X.K fd ps []) (hg : Gl X x := by rfl) (hdb : (x == ("__debug__" : Str)) = false := by decide) :
    DE X (.Call (.Name x p) [] [] pos) false true kr (eCallD [] [] acNil G) := PE.conv (pe_call0 F hr hg hm hk hb .nil pass0 hdb) fun σ H Q q => by
  have q := callD_red (os := []) (W := false) rfl q
  obtain ⟨ρ, Z, As, r, ds, ρ1, e1, q⟩ := q
  cases e1
  exact q [] H Z As r ArgV.nil Chg.refl
end
end DL
/-! DL14: calls by keywords -/
namespace DL
open PySem PySem.Spec PyProof.Rows L2

/-- the i-th of the result is the (p i)-th of l -/
def pick {α : Type} (p : List Nat) (l : List α) : List α := p.filterMap (fun i => l[i]?)
theorem pick_get {α : Type} {l : List α} : ∀ {p : List Nat} {i : Nat}, (∀ j ∈ p, j < l.length) → (pick p l)[i]? = (p[i]?).bind (fun j => l[j]?)
  | [], i, h => by simp [pick]
  | j :: p, i, h => by
    have hj := h j List.mem_cons_self
    have e : pick (j :: p) l = l[j] :: pick p l := by
      unfold pick
      rw [List.filterMap_cons, List.getElem?_eq_getElem hj]
    rw [e]
    cases i with
    | zero => simp [hj]
    | succ i => rw [List.getElem?_cons_succ, List.getElem?_cons_succ]; exact pick_get fun k hk => h k (List.mem_cons_of_mem _ hk)
theorem pick_length {α : Type} {l : List α} : ∀ {p : List Nat}, (∀ j ∈ p, j < l.length) → (pick p l).length = p.length
  | [], h => rfl
  | j :: p, h => by
    have hj := h j List.mem_cons_self
    unfold pick
    rw [List.filterMap_cons, List.getElem?_eq_getElem hj, List.length_cons, List.length_cons]
    exact congrArg Nat.succ (pick_length fun k hk => h k (List.mem_cons_of_mem _ hk))
theorem vals_pick {vs : List V} {us : List Value} (r : Vals vs us) : ∀ p : List Nat, Vals (pick p vs) (pick p us)
  | [] => .nil
  | j :: p => by
    have hl := r.length
    unfold pick
    rw [List.filterMap_cons, List.filterMap_cons]
    by_cases h : j < vs.length
    · obtain ⟨u, h1, h2⟩ := r.get (List.getElem?_eq_getElem h)
      rw [List.getElem?_eq_getElem h, h1]
      exact .cons h2 (vals_pick r p)
    · rw [List.getElem?_eq_none (by omega), List.getElem?_eq_none (by omega)]
      exact vals_pick r p
/-- n positional values, m keywords -/
def gP {α : Type} (n m : Nat) (p : List Nat) (us ws : List α) : List α := if us.length = n ∧ ws.length = m then pick p (us ++ ws) else []
section
variable {K : PySem.W.Frag} {x : Str} {st : Stmt} {f : Addr} {fd : FuncData} {ps : List Str}
theorem kb_of (F : FnP K x st f fd) (n : Nat) (ks : List Str) (p : List Nat) (h0 : ps ≠ []) (h : ∀ (kV doc pm : Value) (an : Option Addr) (cdv ct : Value) (us ws : List Value), us.length = n → ws.length = ks.length →
      bindArgs (PySem.W.fnOf x x (defArgs st) (defBody st) (defScope st) .none kV doc pm an cdv ct) ⟨us, ks.zip ws⟩ = pure (ps.zip (pick p (us ++ ws)))) : KBinds K fd ps ks (gP n ks.length p) (gP n ks.length p) := by
  obtain ⟨oc, od, dV, kV, doc, pm, an, cdv, ct, osl, rfl, lk, hcd, hD, hK⟩ := F.ex
  rcases hD with ⟨_, rfl⟩ | ⟨e, _⟩
  · refine ⟨fun s us ws _ hl => ?_, fun {vs us zs ws} r1 r2 => ?_⟩
    · unfold gP at hl ⊢
      by_cases hh : us.length = n ∧ ws.length = ks.length
      · rw [if_pos hh]
        exact .of_eq (h kV doc pm an cdv ct us ws hh.1 hh.2)
      · rw [if_neg hh] at hl
        exact absurd (List.length_eq_zero_iff.mp hl.symm) h0
    · unfold gP
      rw [r1.length, r2.length]
      split
      · exact vals_pick (r1.append r2) p
      · exact .nil
  · exact absurd rfl e
end
section
variable {X : Cx} {CX : CXT} {k : Nat} {f : Addr} {fd : FuncData} {ps ks : List Str} {sp : Sp} {E : XK} {x : Str} {p pos : Pos} {kws : List Keyword} {tk : TA} {g : List Value → List Value → List Value} {gV : List V → List V → List V}
/-- f(k = v, ..) -/
theorem pe_callK0 (F : FnOk X.prog X.w X.K X.mg X.base CX k f fd ps sp) (hr : Room k X.A) (hg : Gl X x) (hm : X.mg x = some (.ref f)) (hk : PySem.W.keepIn X.K (.ref f) = true) (hb : KBinds X.K fd ps ks g gV) (hx : Passes CX X E)
    (hkw : PK X kws tk) (hall : (backToKw pos (keywordEach kws X.env)).all (·.1.isSome) = true := by rfl) (hks : (backToKw pos (keywordEach kws X.env)).filterMap (·.1) = ks := by rfl)
    (hdb : (x == ("__debug__" : Str)) = false := by decide)
    (hpl : ((backTo pos (starEach [] X.env)).any (·.1) || (backToKw pos (keywordEach kws X.env)).any (·.1.isNone)) = false := by rfl) :
    PE X (.Call (.Name x p) [] kws pos) (tCallK sp gV E tNil tk) := by
  refine ⟨fun pins s σ H Q I h => ?_⟩
  refine wpAny_Call_Name_kw (ld_glob I hg hm ?_ hdb)
  refine PySem.W.callWith_KW0 (h₀ := X.base) I.ok.mod.kin hk hall ?_ hpl
  refine thn (hkw.run pos pins s σ H _ I h) fun ws s2 ⟨zs, H2, I2, rz, q2⟩ => ⟨I2.kIn, ?_⟩
  rw [hks]
  exact run_fnk (us := []) F hr hb hx I2 .nil rz q2
end
section
variable {K : PySem.W.Frag} {ρ ρ' : Env} {σ : L2.St} {H H' : Hp} {Z Z' : Addr → Prop} {As As' : Nat → List Addr} {os os1 os2 : List (Option Nat)} {ds es : List D} {vs us : List V}
theorem ArgV.mono (hz : ∀ a, Z a → Z' a) (p : Pre Z H H') (a : ArgV K H Z σ os ds vs) : ArgV K H' Z' σ os ds vs := ⟨a.ld, a.lv, fun i d v h1 h2 h3 => Rep.mono hz p d v (a.fz i d v h1 h2 h3), a.ow⟩
theorem ArgV.append (a : ArgV K H Z σ os1 ds vs) (b : ArgV K H Z σ os2 es us) : ArgV K H Z σ (os1 ++ os2) (ds ++ es) (vs ++ us) where
  ld := by rw [List.length_append, List.length_append, a.ld, b.ld]
  lv := by rw [List.length_append, List.length_append, a.lv, b.lv]
  fz := fun i d v h1 h2 h3 => by
    by_cases hi : i < os1.length
    · rw [List.getElem?_append_left hi] at h1
      rw [List.getElem?_append_left (by rw [a.ld]; exact hi)] at h2
      rw [List.getElem?_append_left (by rw [a.lv]; exact hi)] at h3
      exact a.fz i d v h1 h2 h3
    · rw [List.getElem?_append_right (by omega)] at h1
      rw [List.getElem?_append_right (by rw [a.ld]; omega), a.ld] at h2
      rw [List.getElem?_append_right (by rw [a.lv]; omega), a.lv] at h3
      exact b.fz _ d v h1 h2 h3
  ow := fun i s v h1 h3 => by
    by_cases hi : i < os1.length
    · rw [List.getElem?_append_left hi] at h1
      rw [List.getElem?_append_left (by rw [a.lv]; exact hi)] at h3
      exact a.ow i s v h1 h3
    · rw [List.getElem?_append_right (by omega)] at h1
      rw [List.getElem?_append_right (by rw [a.lv]; omega), a.lv] at h3
      exact b.ow _ s v h1 h3
theorem ArgV.pick {p : List Nat} (a : ArgV K H Z σ os ds vs) (hp : ∀ j ∈ p, j < os.length) : ArgV K H Z σ (pick p os) (pick p ds) (pick p vs) where
  ld := by rw [pick_length hp, pick_length fun j hj => by rw [a.ld]; exact hp j hj]
  lv := by rw [pick_length hp, pick_length fun j hj => by rw [a.lv]; exact hp j hj]
  fz := fun i d v h1 h2 h3 => by
    rw [pick_get hp] at h1
    rw [pick_get fun j hj => by rw [a.ld]; exact hp j hj] at h2
    rw [pick_get fun j hj => by rw [a.lv]; exact hp j hj] at h3
    obtain ⟨j, e1, e2⟩ := Option.bind_eq_some_iff.mp h1
    rw [e1] at h2 h3
    exact a.fz j d v e2 h2 h3
  ow := fun i s v h1 h3 => by
    rw [pick_get hp] at h1
    rw [pick_get fun j hj => by rw [a.lv]; exact hp j hj] at h3
    obtain ⟨j, e1, e2⟩ := Option.bind_eq_some_iff.mp h1
    rw [e1] at h3
    exact a.ow j s v e2 h3
end
/-- os: the slots handed over, positional ones ahead of keywords -/
def eCallK (os : List (Option Nat)) (ms : List Nat) (p : List Nat) (fs1 fs2 : AM) (G : GMap) : EM := fun ρ => (fs1 ρ).bind fun a => (fs2 a.2).bind fun b => (fillA b.2 (pick p os) ms (pick p (a.1 ++ b.1))).bind fun ds => (G ds).map fun q => (q.1, putB (pick p os) q.2 b.2)
section
variable {X : Cx} {k kr n m : Nat} {f : Addr} {fd : FuncData} {ps ks : List Str} {x : Str} {p pos : Pos} {e : Expr} {es : List Expr} {kws : List Keyword} {W W2 : Bool} {os1 os2 : List (Option Nat)} {ms pp : List Nat} {fs1 fs2 : AM} {G : GMap}
theorem callK_red {K : PySem.W.Frag} {σ : L2.St} {H : Hp} {Q : VK} (hnd : ndO (pick pp (os1 ++ os2)) = true) (hp : ∀ j ∈ pp, j < (os1 ++ os2).length) (h1 : os1.length = n) (h2 : os2.length = m) (q : tE K ((W || W2) || (pick pp (os1 ++ os2)).any (·.isSome)) true kr (eCallK (os1 ++ os2) ms pp fs1 fs2 G) σ H Q) :
    tCallK (spG K ms kr G) (gP n m pp) E0 (tAC K W os1 fs1) (tAC K W2 os2 fs2) σ H Q := by
  obtain ⟨ρ, Z, As, r, d, ρ', ef, q⟩ := q
  unfold eCallK at ef
  obtain ⟨⟨ds, ρ1⟩, e1, ef⟩ := Option.bind_eq_some_iff.mp ef
  obtain ⟨⟨es, ρ2⟩, e2, ef⟩ := Option.bind_eq_some_iff.mp ef
  obtain ⟨ds1, e3, ef⟩ := Option.bind_eq_some_iff.mp ef
  obtain ⟨⟨d', ρp⟩, e4, ef⟩ := Option.map_eq_some_iff.mp ef
  cases ef
  refine ⟨ρ, Z, As, r, ds, ρ1, e1, fun vs H1 Z1 As1 r1 av c1 => ?_⟩
  refine ⟨ρ1, Z1, As1, r1, es, ρ2, e2, fun us H2 Z2 As2 r2 au c2 => ?_⟩
  have aa := ((av.mono c2.zz (c2.pre r1)).append au).pick hp
  show spG K ms kr G (gP n m pp vs us) H2 Q E0
  unfold gP
  rw [if_pos ⟨av.lv.trans h1, au.lv.trans h2⟩]
  have c12 := c1.trans r c2
  exact call_red r2 aa hnd e3 e4 fun v H3 Z3 As3 B r3 ow c3 sp => q v H3 Z3 As3 B r3 ow (c12.trans r c3) fun _ => sp.after c12.up
theorem de_callK (pp : List Nat) (F : FnOk X.prog X.w X.K X.mg X.base CX0 k f fd ps (spG X.K ms kr G)) (hr : Room k X.A) (hm : X.mg x = some (.ref f)) (hk : PySem.W.keepIn X.K (.ref f) = true) (hb : KBinds X.K fd ps ks (gP n m pp) (gP n m pp)) (ha : DAC X (e :: es) W os1 fs1) (hkw : DAK X kws W2 os2 fs2) (hg : Gl X x := by rfl)
    (hnd : ndO (pick pp (os1 ++ os2)) = true := by rfl) (hp : ∀ j ∈ pp, j < (os1 ++ os2).length := by decide) (h1 : os1.length = n := by rfl) (h2 : os2.length = m := by rfl)
    (hall : (backToKw pos (keywordEach kws X.env)).all (·.1.isSome) = true := by rfl) (hks : (backToKw pos (keywordEach kws X.env)).filterMap (·.1) = ks := by rfl)
    (hdb : (x == ("__debug__" : Str)) = false := by decide) (he : starEach (e :: es) X.env = (false, eval e X.env) :: starEach es X.env := by rfl)
    (hpl : ((backTo pos (starEach (e :: es) X.env)).any (·.1) || (backToKw pos (keywordEach kws X.env)).any (·.1.isNone)) = false := by rfl) :
    DE X (.Call (.Name x p) (e :: es) kws pos) ((W || W2) || (pick pp (os1 ++ os2)).any (·.isSome)) true kr (eCallK (os1 ++ os2) ms pp fs1 fs2 G) :=
  PE.conv (pe_callK F hr hg hm hk hb pass0 ha hkw hall hks hdb he hpl) fun σ H Q q => callK_red hnd hp h1 h2 q
theorem de_callK0 (pp : List Nat) (F : FnOk X.prog X.w X.K X.mg X.base CX0 k f fd ps (spG X.K ms kr G)) (hr : Room k X.A) (hm : X.mg x = some (.ref f)) (hk : PySem.W.keepIn X.K (.ref f) = true) (hb : KBinds X.K fd ps ks (gP 0 m pp) (gP 0 m pp)) (hkw : DAK X kws W2 os2 fs2) (hg : Gl X x := by rfl)
    (hnd : ndO (pick pp ([] ++ os2)) = true := by rfl) (hp : ∀ j ∈ pp, j < ([] ++ os2).length := by decide) (h2 : os2.length = m := by rfl)
    (hall : (backToKw pos (keywordEach kws X.env)).all (·.1.isSome) = true := by rfl) (hks : (backToKw pos (keywordEach kws X.env)).filterMap (·.1) = ks := by rfl)
    (hdb : (x == ("__debug__" : Str)) = false := by decide)
    (hpl : ((backTo pos (starEach [] X.env)).any (·.1) || (backToKw pos (keywordEach kws X.env)).any (·.1.isNone)) = false := by rfl) :
    DE X (.Call (.Name x p) [] kws pos) ((false || W2) || (pick pp ([] ++ os2)).any (·.isSome)) true kr (eCallK ([] ++ os2) ms pp acNil fs2 G) :=
  PE.conv (pe_callK0 F hr hg hm hk hb pass0 hkw hall hks hdb hpl) fun σ H Q q => by
    have q := callK_red (os1 := []) hnd hp rfl h2 q
    obtain ⟨ρ, Z, As, r, ds, ρ1, e1, q⟩ := q
    cases e1
    exact q [] H Z As r ArgV.nil Chg.refl
end
end DL
/-! DL15: dicts made and written; lists of lists written; ranges walked -/
namespace DL
open PySem PySem.Spec PyProof.Rows L2

/-! ### a key is put -/
section
variable {κ : Type} [DecidableEq κ]
def dputK (kf : D → Option κ) (ks xs : List D) (k : κ) (y d : D) : List D × List D :=
  if (kfind kf ks k).isSome = true then (ks, (ks.zip xs).map fun p => if kf p.1 = some k then d else p.2) else (ks ++ [y], xs ++ [d])
theorem any_find {kf : D → Option κ} (k : κ) : ∀ {ks : List D} {ps : List (κ × V)}, ks.map kf = ps.map (fun p => some p.1) → (ps.any fun kv => decide (kv.1 = k)) = (kfind kf ks k).isSome
  | [], [], _ => rfl
  | [], _ :: _, h => by simp at h
  | _ :: _, [], h => by simp at h
  | z :: ks, p :: ps, h => by
    have h1 : kf z = some p.1 ∧ ks.map kf = ps.map (fun p => some p.1) := by simpa using h
    unfold kfind
    rw [List.any_cons, List.findIdx?_cons]
    by_cases e : p.1 = k
    · rw [if_pos (by rw [h1.1, e]; simp)]
      simp [e]
    · have e2 : ¬ (decide (kf z = some k) = true) := by rw [h1.1]; simpa using e
      rw [if_neg e2, decide_eq_false e, Bool.false_or, any_find k h1.2]
      unfold kfind
      cases (ks.findIdx? fun z => decide (kf z = some k)) <;> rfl
theorem dputK_ok {K : PySem.W.Frag} {H : Hp} {Z : Addr → Prop} {kf : D → Option κ} {k : κ} {y d : D} {v : V} {ks xs : List D} {ps : List (κ × V)} (h : ks.map kf = ps.map (fun p => some p.1)) (hy : kf y = some k) (hr : Reps K H Z xs (ps.map (·.2))) (hd : Rep K H Z d v) :
    (dputK kf ks xs k y d).1.map kf = (putK ps k v).map (fun p => some p.1) ∧ Reps K H Z (dputK kf ks xs k y d).2 ((putK ps k v).map (·.2)) ∧ (dputK kf ks xs k y d).1.length ≤ ks.length + 1 := by
  unfold dputK putK
  rw [any_find k h]
  by_cases q : (kfind kf ks k).isSome = true
  · rw [if_pos q, if_pos q]
    refine ⟨?_, ?_, Nat.le_succ _⟩
    · rw [List.map_map, h]
      refine List.map_congr_left fun p _ => ?_
      show some p.1 = some (if p.1 = k then (p.1, v) else p).1
      split <;> rfl
    · clear q
      induction ks generalizing ps xs with
      | nil =>
        cases ps with
        | nil => simpa using Reps.nil
        | cons _ _ => simp at h
      | cons z ks ih =>
        cases ps with
        | nil => simp at h
        | cons p ps =>
          have h1 : kf z = some p.1 ∧ ks.map kf = ps.map (fun p => some p.1) := by simpa using h
          cases xs with
          | nil => unfold Reps at hr; simp at hr
          | cons x xs =>
            rw [List.map_cons] at hr
            unfold Reps at hr
            obtain ⟨w, r, e, r1, r2⟩ := hr
            cases e
            rw [List.zip_cons_cons, List.map_cons, List.map_cons, List.map_cons]
            refine Reps.cons ?_ (ih h1.2 r2)
            by_cases e : p.1 = k
            · rw [if_pos (by rw [h1.1, e]), if_pos e]; exact hd
            · rw [if_neg (by rw [h1.1]; simpa using e), if_neg e]; exact r1
  · rw [if_neg q, if_neg q]
    refine ⟨by simp [h, hy], ?_, by simp⟩
    rw [List.map_append]
    exact hr.append (Reps.one hd)
end
/-- t: the keys are tuples -/
def dput (t : Bool) (ks xs : List D) (y d : D) : Option (List D × List D) := match t with
  | false => (keyD y).map fun k => dputK keyD ks xs k y d
  | true => match y with
    | .tup _ => (keysD y).map fun k => dputK keysD ks xs k y d
    | _ => none
section
variable {K : PySem.W.Frag} {H : Hp} {Z : Addr → Prop} {v u : V}
/-- the store, at the heap -/
theorem dput_of {t : Bool} {ks xs ks' xs' : List D} {y d : D} {a : Addr} (hz : ¬ Z a) (h : DAt (fun o => H a = some o) (fun vs => Reps K H Z xs vs) ks t) (e : dput t ks xs y d = some (ks', xs')) (hl : ks.length < sizeLine) (hy : Rep K H Z y u) (hd : Rep K H Z d v) :
    ∃ o, DPut H a u v (upd H a o) ∧ MutO (some o) ∧ ks'.length ≤ sizeLine ∧ DAt (fun o' => (upd H a o) a = some o') (fun vs => Reps K (upd H a o) Z xs' vs) ks' t := by
  cases t with
  | false =>
    obtain ⟨ps, h1, h2, h3⟩ := h
    obtain ⟨k, ek, e⟩ := Option.map_eq_some_iff.mp e
    have q := dputK_ok h2 ek h3 hd
    rw [e] at q
    have hpl : ps.length = ks.length := by have := congrArg List.length h2; simpa using this.symm
    refine ⟨.dK (putK ps k v), ?_, trivial, by have q2 : ks'.length ≤ ks.length + 1 := q.2.2; omega, putK ps k v, upd_same, q.1, ?_⟩
    · rw [keyD_rep ek hy]
      exact DPut.k h1 (by omega)
    · exact Reps.mono (fun _ h => h) (Pre.write hz (by rw [h1]; trivial)) _ _ q.2.1
  | true =>
    obtain ⟨ps, h1, h2, h3⟩ := h
    cases y with
    | tup ys =>
      obtain ⟨k, ek, e⟩ := Option.map_eq_some_iff.mp e
      have q := dputK_ok h2 ek h3 hd
      rw [e] at q
      have hpl : ps.length = ks.length := by have := congrArg List.length h2; simpa using this.symm
      have ek' : ys.mapM keyD = some k := by
        have ek : (if ys.length ≤ 1000 then ys.mapM keyD else none) = some k := ek
        split at ek
        · exact ek
        · cases ek
      unfold Rep at hy
      obtain ⟨b, vs, rfl, hb, _, hr⟩ := hy
      refine ⟨.dT (putK ps k v), ?_, trivial, by have q2 : ks'.length ≤ ks.length + 1 := q.2.2; omega, putK ps k v, upd_same, q.1, ?_⟩
      · exact DPut.t h1 (by rw [hb, keysD_reps ek' hr]) (by omega)
      · exact Reps.mono (fun _ h => h) (Pre.write hz (by rw [h1]; trivial)) _ _ q.2.1
    | _ => cases e
theorem Own.dctAt {t : Bool} {ks xs : List D} {B : List Addr} (h : Own K H Z 1 (.dct t ks xs) v B) : ∃ a, v = .ref a ∧ ks.length ≤ sizeLine ∧ DAt (fun o => H a = some o) (fun vs => Reps K H Z xs vs) ks t ∧ B = [a] := by
  obtain ⟨a, Bs, e, h1, h2, h3⟩ := h
  have hB : Bs = [] := by
    cases t with
    | false => obtain ⟨ps, _, _, h⟩ := h2; exact (LO.to_reps h).2
    | true => obtain ⟨ps, _, _, h⟩ := h2; exact (LO.to_reps h).2
  subst hB
  exact ⟨a, e, h1, h2.imp (fun _ _ _ q => q) fun vs q => (LO.to_reps q).1, h3⟩
theorem own_dct1 {t : Bool} {ks xs : List D} {a : Addr} (hl : ks.length ≤ sizeLine) (h : DAt (fun o => H a = some o) (fun vs => Reps K H Z xs vs) ks t) : Own K H Z 1 (.dct t ks xs) (.ref a) [a] := by
  refine ⟨a, [], rfl, hl, ?_, rfl⟩
  exact h.imp (fun _ _ _ q => q) fun vs q => LO.of_reps q
end
/-! ### d[k] = e -/
def getD (s : Nat) (ρ : Env) : Option (Bool × List D × List D) := match ρ[s]? with | some (some (1, .dct t ks xs)) => some (t, ks, xs) | _ => none
theorem getD_some {s : Nat} {ρ : Env} {t : Bool} {ks xs : List D} (h : getD s ρ = some (t, ks, xs)) : ρ[s]? = some (some (1, .dct t ks xs)) := by
  unfold getD at h
  split at h
  · rename_i e; cases h; exact e
  · cases h
def sDSet (s : Nat) (f fy : EM) : SM := fun ρ => (f ρ).bind fun p => (getD s p.2).bind fun _ => (fy p.2).bind fun q => (getD s q.2).bind fun r =>
  if r.2.1.length < sizeLine then (dput r.1 r.2.1 r.2.2 q.1 p.1).map fun z => .nx (q.2.set s (some (1, .dct r.1 z.1 z.2))) else none
section
variable {X : Cx} {e a b c i : Expr} {st : Stmt} {pos apos cpos npos pos' pos2 : Pos} {W Wa Wb Wi o oa ob oi : Bool} {P : List Nat} {k ka kb ki n : Nat} {f fa fb fi fy : EM} {F G : SM} {x : Str}
theorem ds_dset (s : Nat) (h : DE X e W true 0 f) (hy : DE X i Wi oi 0 fy) (hu : X.A.units + 1 < cLine) (hN : X.N[s]? = some x := by rfl) (hv : Vis X.env.scope x := by first | exact Or.inl rfl | exact Or.inr (Or.inl rfl) | exact Or.inr (Or.inr rfl))
    (hs : swapsWith e (some (.Subscript (.Name x npos) i pos')) pos.line X.env = pure false := by rfl) (hd : (x == ("__debug__" : Str)) = false := by decide) (hcd : (x == ("__classdict__" : Str)) = false := by decide) :
    DS X (.Assign [.Subscript (.Name x npos) i pos'] e pos) P n (sDSet s f fy) := PS.conv (ps_dput hu (pe_var hN hv hd hcd) hy h hs) fun E σ H q => by
  obtain ⟨ρ, Z, As, r, o, ef, q⟩ := q
  unfold sDSet at ef
  obtain ⟨⟨d, ρ1⟩, e1, ef⟩ := Option.bind_eq_some_iff.mp ef
  obtain ⟨⟨t0, ks0, xs0⟩, e0, ef⟩ := Option.bind_eq_some_iff.mp ef
  obtain ⟨⟨y, ρ2⟩, e2, ef⟩ := Option.bind_eq_some_iff.mp ef
  obtain ⟨⟨t, ks, xs⟩, e3, ef⟩ := Option.bind_eq_some_iff.mp ef
  split at ef
  · rename_i hl
    obtain ⟨⟨ks', xs'⟩, e4, ef⟩ := Option.map_eq_some_iff.mp ef
    subst ef
    refine ⟨ρ, Z, As, r, d, ρ1, e1, fun u H1 Z1 As1 B1 r1 o1 c1 _ => ?_⟩
    obtain ⟨v, hv0, ow0⟩ := r1.slot s _ _ (getD_some e0)
    refine ⟨v, hv0, ρ1, Z1, As1, r1, y, ρ2, e2, fun w H2 Z2 As2 B2 r2 o2 c2 _ => ?_⟩
    obtain ⟨v', hv1, ow1⟩ := r2.slot s _ _ (getD_some e3)
    rw [hv0] at hv1
    cases hv1
    obtain ⟨a, el, hlk, hda, hB⟩ := ow1.dctAt
    have hmem : a ∈ As2 s := by rw [hB]; simp
    have hdr : Rep X.K H2 Z2 d u := Rep.mono c2.zz (c2.pre r1) d u o1.1
    obtain ⟨ob, g1, g2, g3, g4⟩ := dput_of (r2.nz s a hmem) hda e4 hl o2.1 hdr
    refine ⟨a, _, el, g1, ?_⟩
    have ow : Own X.K (upd H2 a ob) Z2 1 (.dct t ks' xs') v (As2 s) := by
      rw [el, hB]
      exact own_dct1 g3 g4
    have r3 := RS.write (o := ob) r2 hmem hv0 g2 ow
    have hd3 : H2 a ≠ none := (r2.mt s a hmem).ne
    have c3 := (c1.trans r c2).trans r (Chg.write (H := H2) (Z := Z2) (o := ob) hmem)
    have c3 : Chg true H Z As (upd H2 a ob) Z2 As2 := by simpa using c3
    exact q σ _ Z2 As2 r3 c3 Pin.refl
  · cases ef
end
/-! ### x[a][b] = e -/
section
variable {K : PySem.W.Frag} {H H' : Hp} {Z : Addr → Prop} {v : V}
/-- one of the items changes -/
theorem LO.change {P : D → V → List Addr → Prop} : ∀ {ds : List D} {vs : List V} {B : List Addr} {m : Nat} {d : D}, LO P ds vs B → B.Nodup → ds[m]? = some d →
    ∃ u B1, vs[m]? = some u ∧ P d u B1 ∧ (∀ b ∈ B1, b ∈ B) ∧ ∀ (P' : D → V → List Addr → Prop) (d' : D), P' d' u B1 → (∀ d v B2, (∀ b ∈ B2, b ∈ B ∧ b ∉ B1) → P d v B2 → P' d v B2) → LO P' (ds.set m d') vs B
  | [], vs, B, m, d, h, nd, e => by simp at e
  | d0 :: ds, vs, B, m, d, h, nd, e => by
    obtain ⟨v, r, B1, B2, ev, h1, h2, eb⟩ := h
    subst ev eb
    rw [List.nodup_append] at nd
    obtain ⟨n1, n2, n3⟩ := nd
    cases m with
    | zero =>
      have : d0 = d := by simpa using e
      subst this
      refine ⟨v, B1, rfl, h1, fun b hb => List.mem_append_left _ hb, fun P' d' hp hq => ?_⟩
      refine ⟨v, r, B1, B2, rfl, hp, h2.mono fun d v B3 hs q => hq d v B3 (fun b hb => ⟨List.mem_append_right _ (hs b hb), fun hb1 => n3 b hb1 b (hs b hb) rfl⟩) q, rfl⟩
    | succ m =>
      obtain ⟨u, B3, g1, g2, g3, g4⟩ := LO.change h2 n2 (by simpa using e)
      refine ⟨u, B3, by simpa using g1, g2, fun b hb => List.mem_append_right _ (g3 b hb), fun P' d' hp hq => ?_⟩
      refine ⟨v, r, B1, B2, rfl, hq d0 v B1 (fun b hb => ⟨List.mem_append_left _ hb, fun hb3 => n3 b hb b (g3 b hb3) rfl⟩) h1, ?_, rfl⟩
      exact g4 P' d' hp fun d v B4 hb q => hq d v B4 (fun b z => ⟨List.mem_append_right _ (hb b z).1, (hb b z).2⟩) q
end
def getLL (s : Nat) (ρ : Env) : Option (List D) := match ρ[s]? with | some (some (2, .lst ds)) => some ds | _ => none
theorem getLL_some {s : Nat} {ρ : Env} {ds : List D} (h : getLL s ρ = some ds) : ρ[s]? = some (some (2, .lst ds)) := by
  unfold getLL at h
  split at h
  · rename_i e; cases h; exact e
  · cases h
/-- ds[i][j] = d -/
def setLL (ds : List D) (x y d : D) : Option (List D) := match x, y with
  | .int i, .int j => (ixN ds.length i).bind fun m => match ds[m]? with
    | some (.lst es) => (ixN es.length j).map fun m2 => ds.set m (.lst (es.set m2 d))
    | _ => none
  | _, _ => none
def ixD (n : Nat) : D → Option Nat
  | .int i => ixN n i
  | _ => none
def sSetLL (s : Nat) (f fa fb : EM) : SM := fun ρ => (f ρ).bind fun p => (getLL s p.2).bind fun _ => (fa p.2).bind fun q => (getLL s q.2).bind fun ds1 => (ixD ds1.length q.1).bind fun _ => (fb q.2).bind fun r => (getLL s r.2).bind fun ds => (setLL ds q.1 r.1 p.1).map fun es => .nx (r.2.set s (some (2, .lst es)))
section
variable {X : Cx} {e a b c i : Expr} {st : Stmt} {pos apos cpos npos pos' pos2 : Pos} {W Wa Wb Wi o oa ob oi : Bool} {P : List Nat} {k ka kb ki n : Nat} {f fa fb fi fy : EM} {F G : SM} {x : Str}
theorem setLL_some {ds es : List D} {x y d : D} (h : setLL ds x y d = some es) : ∃ i j m gs m2, x = .int i ∧ y = .int j ∧ ixN ds.length i = some m ∧ ds[m]? = some (.lst gs) ∧ ixN gs.length j = some m2 ∧ es = ds.set m (.lst (gs.set m2 d)) := by
  unfold setLL at h
  split at h
  · rename_i i j
    obtain ⟨m, e1, h⟩ := Option.bind_eq_some_iff.mp h
    split at h
    · rename_i gs e2
      obtain ⟨m2, e3, h⟩ := Option.map_eq_some_iff.mp h
      exact ⟨i, j, m, gs, m2, rfl, rfl, e1, e2, e3, h.symm⟩
    · cases h
  · cases h
theorem ds_setll (s : Nat) (h : DE X e W true 0 f) (ha : DE X a false oa ka fa) (hb : DE X b false ob kb fb) (hN : X.N[s]? = some x := by rfl) (hv : Vis X.env.scope x := by first | exact Or.inl rfl | exact Or.inr (Or.inl rfl) | exact Or.inr (Or.inr rfl))
    (hsl : PlainIx a := by exact fun _ _ => rfl)
    (hs : swapsWithSole [.Subscript (.Subscript (.Name x npos) a pos2) b pos'] e pos.line X.env = pure false := by rfl) (hw : swappedStores [.Subscript (.Subscript (.Name x npos) a pos2) b pos'] e X.env = pure none := by rfl)
    (h1 : (assignEach [.Subscript (.Subscript (.Name x npos) a pos2) b pos'] X.env).map (·.2) = [assign (.Subscript (.Subscript (.Name x npos) a pos2) b pos') X.env] := by rfl)
    (has : ∀ v, assign (.Subscript (.Subscript (.Name x npos) a pos2) b pos') X.env v = (do
      let ov ← holding [v] (eval (.Subscript (.Name x npos) a pos2) X.env)
      let iv ← holding [v, ov] (eval b X.env)
      standAt pos'
      holding [v, ov, iv] (setItem ov iv v)
      release [v, ov, iv] []) := by intro _; rfl)
    (hd : (x == ("__debug__" : Str)) = false := by decide) (hcd : (x == ("__classdict__" : Str)) = false := by decide) :
    DS X (.Assign [.Subscript (.Subscript (.Name x npos) a pos2) b pos'] e pos) P n (sSetLL s f fa fb) := PS.conv (ps_asg h (pg_sub (pe_ix ix_list (pe_var hN hv hd hcd) ha hsl) hb set_list has) hs hw h1) fun E σ H q => by
  obtain ⟨ρ, Z, As, r, o, ef, q⟩ := q
  unfold sSetLL at ef
  obtain ⟨⟨d, ρ1⟩, e1, ef⟩ := Option.bind_eq_some_iff.mp ef
  obtain ⟨ds0, e0, ef⟩ := Option.bind_eq_some_iff.mp ef
  obtain ⟨⟨xi, ρ2⟩, e2, ef⟩ := Option.bind_eq_some_iff.mp ef
  obtain ⟨ds1, e3, ef⟩ := Option.bind_eq_some_iff.mp ef
  obtain ⟨m1, f0, ef⟩ := Option.bind_eq_some_iff.mp ef
  obtain ⟨⟨yj, ρ3⟩, e4, ef⟩ := Option.bind_eq_some_iff.mp ef
  obtain ⟨ds, e5, ef⟩ := Option.bind_eq_some_iff.mp ef
  obtain ⟨es, e6, ef⟩ := Option.map_eq_some_iff.mp ef
  subst ef
  obtain ⟨i, j, m, gs, m2, rfl, rfl, f1, f2, f3, rfl⟩ := setLL_some e6
  refine ⟨ρ, Z, As, r, d, ρ1, e1, fun u H1 Z1 As1 B1 r1 o1 c1 _ => ?_⟩
  obtain ⟨v, hv0, _⟩ := r1.slot s _ _ (getLL_some e0)
  refine ⟨v, hv0, ρ1, Z1, As1, r1, _, ρ2, e2, fun t H2 Z2 As2 B2 r2 o2 c2 _ => ?_⟩
  -- the outer list as it stands now, and later: the same
  obtain ⟨v', hv1, ow1⟩ := r2.slot s _ _ (getLL_some e3)
  rw [hv0] at hv1
  cases hv1
  obtain ⟨p, vs, Bs, ep, hp, hz, hlo, hB⟩ := ow1
  subst ep
  have hlen := hlo.length
  have f0 : ixN ds1.length i = some m1 := f0
  have hm1 : m1 < vs.length := by rw [hlen]; exact ixN_lt f0
  refine ⟨p, vs, i, vs[m1], rfl, o2.int, SqL.of hp, ?_, ?_⟩
  · unfold atI
    rw [hlen, f0]
    exact List.getElem?_eq_getElem hm1
  refine ⟨ρ2, Z2, As2, r2, _, ρ3, e4, fun w H3 Z3 As3 B3 r3 o3 c3 _ => ?_⟩
  obtain ⟨v', hv3, ow3⟩ := r3.slot s _ _ (getLL_some e5)
  rw [hv0] at hv3
  cases hv3
  obtain ⟨p', vs3, Bs3, ep, hp3, hz3, hlo3, hB3⟩ := ow3
  cases ep
  have hk : H3 p = some (.lst vs) := c3.keep p _ hp fun z => nomatch z
  rw [hk] at hp3
  cases hp3
  have hl3 := hlo3.length
  have em : m1 = m := by
    rw [← hl3, hlen] at f1
    rw [f0] at f1
    exact Option.some.inj f1
  subst em
  have nd3 : (p :: Bs3).Nodup := by have := r3.nd s; rw [hB3] at this; exact this
  obtain ⟨u1, B1', g1, g2, g3, g4⟩ := LO.change hlo3 (List.nodup_cons.mp nd3).2 f2
  have eu : vs[m1] = u1 := by
    rw [List.getElem?_eq_getElem hm1] at g1
    exact Option.some.inj g1
  obtain ⟨l, ws, el, hl, hzl, hrs, hBl⟩ := g2.lstAt
  subst el
  have hlB : l ∈ B1' := by rw [hBl]; exact List.mem_singleton.mpr rfl
  have hmem : l ∈ As3 s := by rw [hB3]; exact List.mem_cons_of_mem _ (g3 l hlB)
  have hlw := hrs.length
  refine ⟨l, ws, j, m2, eu, o3.int, hl, by rw [hlw]; exact f3, ?_⟩
  have c23 : Chg (W || false || false) H Z As H3 Z3 As3 := (c1.trans r c2).trans r c3
  have hdr : Rep X.K H3 Z3 d u := (o1.wait r1 (c2.trans r1 c3) (.inl rfl)).1
  have hr' : Reps X.K H3 Z3 (gs.set m2 d) (ws.set m2 u) := hrs.set m2 hdr
  have pw : Pre Z3 H3 (upd H3 l (.lst (ws.set m2 u))) := Pre.write (r3.nz s l hmem) (r3.mt s l hmem)
  have hpl : p ≠ l := fun z => (List.nodup_cons.mp nd3).1 (by rw [z]; exact g3 l hlB)
  have ow : Own X.K (upd H3 l (.lst (ws.set m2 u))) Z3 2 (.lst (ds.set m1 (.lst (gs.set m2 d)))) (.ref p) (As3 s) := by
    refine ⟨p, vs, Bs3, rfl, by rw [upd_ne hpl]; exact hk, hz, ?_, hB3⟩
    refine g4 _ _ ?_ fun d' v' B' hb q' => Own.mono (fun _ h => h) pw 1 (fun a ha o e => ?_) q'
    · rw [hBl]
      exact own_lst1 hr' (by rw [List.length_set]; exact hzl) (r3.nz s l hmem) (r3.mt s l hmem)
    · rw [upd_ne fun z => (hb a ha).2 (by rw [z]; exact hlB)]
      exact e
  have r4 := RS.write (o := .lst (ws.set m2 u)) r3 hmem hv0 trivial ow
  have c4 := c23.trans r (Chg.write (H := H3) (Z := Z3) (o := .lst (ws.set m2 u)) hmem)
  have c4 : Chg true H Z As (upd H3 l (.lst (ws.set m2 u))) Z3 As3 := by simpa using c4
  exact q σ _ Z3 As3 r4 c4 Pin.refl
end
/-! ### a range that has a name is walked -/
section
variable {X : Cx} {tg e a b : Expr} {pos p : Pos} {W Wa Wb o oa ob : Bool} {k ka kb n : Nat} {f fa fb : EM}
def iRngV (te : TE) : TI := fun σ H R => te σ H fun x H1 => ∃ a lo hi, x = .ref a ∧ H1 a = some (.rng lo hi) ∧ (-(2 ^ 62) ≤ lo ∧ lo < 2 ^ 62 ∧ -(2 ^ 62) ≤ hi ∧ hi < 2 ^ 62) ∧ R (Itr lo (hi - lo).toNat) H1
theorem pi_rngV {te : TE} (he : PE X e te) : PI X tg e (iRngV te) := by
  refine ⟨fun pins s σ H R I h => ?_⟩
  refine thn (he.run pins s σ H _ I h) fun v s1 ⟨x, H1, I1, r1, a, lo, hi, ex, hr, ⟨h1, h2, h3, h4⟩, q⟩ => ?_
  subst ex
  cases r1
  obtain ⟨t, u, w, ho⟩ := (show ObjOk X.prog X.w H1 s1.heap a (.rng lo hi) from I1.hok a _ hr)
  refine wpAny_pyIter_range (a := lo) (b := hi) (c := 1) (t := t) (u := u) (v := w) ho (small_one h1 h2 h3 h4) ?_
  refine pi_one (tk := s1.toks) I1 _ (turn_range _ lo (hi - lo).toNat) ?_ q
  have e1 : lo + ((0 : Nat) : Int) * 1 = lo := by simp
  have e2 : (((hi - lo).toNat : Nat) : Int) - ((0 : Nat) : Int) = Builtin.Range.rangeSize lo hi 1 := by rw [rangeSize_one]; split <;> omega
  show IsRangeIter _ _ (lo + ((0 : Nat) : Int) * 1) ((((hi - lo).toNat : Nat) : Int) - ((0 : Nat) : Int)) 1
  rw [e1, e2]
  exact Heap.get?_push_size _ rfl
def iRg (f : EM) : IM := fun ρ => (f ρ).bind fun p => match p.1 with | .rng lo hi => some (rngL lo (hi - lo).toNat, p.2) | _ => none
theorem di_rng (h : DE X e W true 0 f) : DI X tg e W (iRg f) := PI.conv (pi_rngV h) fun σ H R q => by
  obtain ⟨ρ, Z, As, r, ds, ρ', ef, q⟩ := q
  unfold iRg at ef
  obtain ⟨⟨d, ρ1⟩, e1, ef⟩ := Option.bind_eq_some_iff.mp ef
  refine ⟨ρ, Z, As, r, d, ρ1, e1, fun v H' Z' As' B r' ow c sp => ?_⟩
  cases d with
  | rng lo hi =>
    cases ef
    obtain ⟨ow, _⟩ := ow
    unfold Rep at ow
    obtain ⟨a, rfl, h1, h2⟩ := ow
    exact ⟨a, lo, hi, rfl, h1, h2, q _ H' Z' As' r' c (feeds_rng lo _)⟩
  | _ => cases ef
end
end DL
/-! DL16: dict comprehensions, dict(pairs) -/
namespace DL
open PySem PySem.Spec PyProof.Rows L2

/-! ### {k: v for ..} -/
section
variable {K : PySem.W.Frag} {ρ ρ' ρ0 : Env} {σ σ' σ0 : L2.St} {H H' H0 H1z H2z : Hp} {Z Z' Z0 Z1 Z2 : Addr → Prop} {As As' As0 As1 As2 : Nat → List Addr} {W W' : Bool} {B B' B1 : List Addr} {k : Nat} {d y : D} {v u : V} {p : Addr} {ks xs : List D}
structure CQ (K : PySem.W.Frag) (W : Bool) (p : Addr) (H0 : Hp) (Z0 : Addr → Prop) (As0 : Nat → List Addr) (ρ : Env) (σ : L2.St) (H : Hp) (Z : Addr → Prop) (As : Nat → List Addr) (ks xs : List D) : Prop where
  r : RS K ρ σ H Z As
  c : Chg W H0 Z0 As0 H Z As
  s : Sep [p] H0 As0 H Z As
  o : DAt (fun o => H p = some o) (fun vs => Reps K H Z xs vs) ks false
  l : ks.length ≤ sizeLine
  f : H0 p = none
theorem CQ.mem (i : CQ K W p H0 Z0 As0 ρ σ H Z As ks xs) : ¬ Z p ∧ (∀ j, p ∉ As j) ∧ MutO (H p) := ⟨i.s.nz p (by simp), i.s.dj p (by simp), i.s.mt p (by simp)⟩
theorem CQ.step (r0 : RS K ρ0 σ0 H0 Z0 As0) (i : CQ K W p H0 Z0 As0 ρ σ H Z As ks xs) (r1 : RS K ρ' σ' H1z Z1 As1) (c1 : Chg W H Z As H1z Z1 As1) : CQ K W p H0 Z0 As0 ρ' σ' H1z Z1 As1 ks xs := by
  refine ⟨r1, by simpa using i.c.trans r0 c1, i.s.wait i.r c1 i.c.up, ?_, i.l, i.f⟩
  exact i.o.imp (fun o _ _ e => c1.keep p o e fun _ j hj => i.mem.2.1 j hj) fun vs qz => Reps.mono c1.zz (c1.pre i.r) _ _ qz
theorem CQ.put {ks' xs' : List D} (i : CQ K W p H0 Z0 As0 ρ σ H Z As ks xs) (hy : Rep K H Z y u) (hd : Rep K H Z d v) (e : dput false ks xs y d = some (ks', xs')) (hlz : ks.length < sizeLine) :
    ∃ kvs k, u = kV k ∧ H p = some (.dK kvs) ∧ kvs.length < sizeLine ∧ CQ K W p H0 Z0 As0 ρ σ (upd H p (.dK (putK kvs k v))) Z As ks' xs' ∧ Pre Z H (upd H p (.dK (putK kvs k v))) := by
  obtain ⟨h1, h2z, h3z⟩ := i.mem
  obtain ⟨ps, g1, g2, g3⟩ := i.o
  obtain ⟨k, ek, e⟩ := Option.map_eq_some_iff.mp (show (keyD y).map (fun k => dputK keyD ks xs k y d) = some (ks', xs') from e)
  have qz := dputK_ok g2 ek g3 hd
  rw [e] at qz
  have hpl : ps.length = ks.length := by have := congrArg List.length g2; simpa using this.symm
  have q2 : ks'.length ≤ ks.length + 1 := qz.2.2
  have pw : Pre Z H (upd H p (.dK (putK ps k v))) := Pre.write h1 h3z
  refine ⟨ps, k, keyD_rep ek hy, g1, by omega, ⟨i.r.aside h1 h2z (.inl h3z), i.c.aside i.f, ⟨i.s.nd, i.s.nz, i.s.dj, fun bz hb => ?_, i.s.af⟩, ⟨putK ps k v, upd_same, qz.1, Reps.mono (fun _ h => h) pw _ _ qz.2.1⟩, by omega, i.f⟩, pw⟩
  have : bz = p := by simpa using hb
  rw [this, upd_same]
  trivial
end
def dLoop (g : GM) (t : TM) (fk fv : EM) (vs : List Nat) : List D → List D × List D → Env → Option ((List D × List D) × Env)
  | [], acc, ρ => some (acc, ρ)
  | d :: ds, acc, ρ => (g d ρ).bind fun ρ1 => (t ρ1).bind fun p => if p.1 = true then (fk p.2).bind fun qz => (fv qz.2).bind fun r => if acc.1.length < sizeLine then (dput false acc.1 acc.2 qz.1 r.1).bind fun a => dLoop g t fk fv vs ds a (wipeE r.2 vs) else none
    else dLoop g t fk fv vs ds acc (wipeE p.2 vs)
def eDComp (fi : IM) (g : GM) (t : TM) (fk fv : EM) (vs : List Nat) : EM := fun ρ => (fi ρ).bind fun p => (dLoop g t fk fv vs p.1 ([], []) (wipeE p.2 vs)).bind fun r => (backE p.2 r.2 vs).map fun ρ' => (.dct false r.1.1 r.1.2, ρ')
section
variable {X : Cx} {kx vx tg iter : Expr} {ifs : List Expr} {scope : Scope} {own : List (Str × Nat)} {pos : Pos} {W : Bool} {tvs : List Nat} {ft : TM} {fi : IM} {g : GM} {fk fv : EM}
theorem dcomp_red {K : PySem.W.Frag} {vs : List Nat} {σ : L2.St} {H : Hp} {Q : VK} (htv : ∀ i ∈ tvs, i ∈ vs) (qz : tE K W true 1 (eDComp fi g ft fk fv vs) σ H Q) : tDc (tI K W fi) (tG K tvs g) (tT K W ft) (tE K W true 0 fk) (tE K W true 0 fv) vs σ H Q := by
  obtain ⟨ρ, Z, As, r, d, ρ', ef, qz⟩ := qz
  unfold eDComp at ef
  obtain ⟨⟨es, ρ1⟩, e1, ef⟩ := Option.bind_eq_some_iff.mp ef
  obtain ⟨⟨⟨ks, xs⟩, ρ2⟩, e2, ef⟩ := Option.bind_eq_some_iff.mp ef
  obtain ⟨ρ3, e3, ef⟩ := Option.map_eq_some_iff.mp ef
  cases ef
  refine ⟨ρ, Z, As, r, es, ρ1, e1, fun Jz H1z Z1 As1 r1 c1 fe p hp => ?_⟩
  have hpz : ¬ Z1 p := fun z => r1.zd p z hp
  have hpa : ∀ i, p ∉ As1 i := fun i z => (r1.mt i p z).ne hp
  have hp0 : H p = none := by
    cases e : H p with
    | none => rfl
    | some o => exact absurd hp (c1.dom p (by rw [e]; exact fun z => nomatch z))
  have pn : Pre Z1 H1z (upd H1z p (.dK [])) := Pre.of_same fun a o e => by rw [upd_ne (ne_of_none e hp)]; exact e
  have ci : CQ K W p H Z As (wipeE ρ1 vs) (wipe σ vs) (upd H1z p (.dK [])) Z1 As1 [] [] := by
    refine ⟨(r1.aside hpz hpa (.inr hp)).wipe vs, c1.aside hp0, ⟨by simp, fun bz hb => ?_, fun bz hb => ?_, fun bz hb => ?_, fun bz hb => ?_⟩, ⟨[], upd_same, rfl, Reps.nil⟩, Nat.zero_le _, hp0⟩
    all_goals (have e : bz = p := by simpa using hb)
    all_goals subst e
    · exact hpz
    · exact hpa
    · rw [upd_same]; trivial
    · exact .inl hp0
  have fe := fe.mono pn
  refine ⟨fun i m H' => m = es.length - i ∧ i ≤ es.length ∧ ∃ ρ2' Z2 As2 acc, CQ K W p H Z As ρ2' (wipe σ vs) H' Z2 As2 acc.1 acc.2 ∧ (∀ a, Z1 a → Z2 a) ∧ Pre Z1 (upd H1z p (.dK [])) H' ∧ dLoop g ft fk fv vs (es.drop i) acc ρ2' = some ((ks, xs), ρ2),
    ⟨es.length, by simp, Nat.zero_le _, _, Z1, As1, ([], []), ci, fun _ h => h, Pre.refl, e2⟩, ?_⟩
  rintro i m H2z ⟨rfl, hiz, ρ4, Z2, As2, acc, ci2, z2, p2, e4⟩
  obtain ⟨f1z, f2z, f3z⟩ := fe H2z Z2 z2 p2 ci2.r.zd
  by_cases hltz : i < es.length
  · refine .inr ⟨f1z i hltz, fun H' => i + 1 ≤ es.length ∧ ∃ ρ2' Z2 As2 acc, CQ K W p H Z As ρ2' (wipe σ vs) H' Z2 As2 acc.1 acc.2 ∧ (∀ a, Z1 a → Z2 a) ∧ Pre Z1 (upd H1z p (.dK [])) H' ∧ dLoop g ft fk fv vs (es.drop (i + 1)) acc ρ2' = some ((ks, xs), ρ2),
      fun H' w => ⟨es.length - (i + 1), by omega, rfl, w⟩, fun x H3z y => ?_⟩
    have ed : es.drop i = es[i] :: es.drop (i + 1) := List.drop_eq_getElem_cons hltz
    rw [ed] at e4
    unfold dLoop at e4
    obtain ⟨ρ5, e5, e4⟩ := Option.bind_eq_some_iff.mp e4
    obtain ⟨⟨bz, ρ6⟩, e6, e4⟩ := Option.bind_eq_some_iff.mp e4
    obtain ⟨Z3, gr, hxz⟩ := f2z i x H3z es[i] y (by simp)
    refine ⟨ρ4, Z3, As2, es[i], ci2.r.gr gr, hxz, ρ5, e5, fun σ4 As4 r4 a4 k4 l4 => ?_⟩
    have w4 : wipe σ4 vs = wipe σ vs := (wipe_eq l4 fun j hj => k4 j fun z => hj (htv j z)).trans (wipe_sub fun _ h => h)
    refine ⟨w4, ?_⟩
    have c3 : Chg W H2z Z2 As2 H3z Z3 As4 := (Chg.gr (W := W) gr).less a4
    have ci3 := ci2.step r r4 c3
    have p3 : Pre Z1 (upd H1z p (.dK [])) H3z := p2.trans z2 (Pre.of_same gr.same)
    have z3 : ∀ a, Z1 a → Z3 a := fun a h => gr.zz a (z2 a h)
    refine ⟨ρ5, Z3, As4, r4, bz, ρ6, e6, fun H5z Z5 As5 r5 c5 => ?_⟩
    have ci5 := ci3.step r r5 c5
    have p5 := p3.trans z3 (c5.pre r4)
    have z5 : ∀ a, Z1 a → Z5 a := fun a h => c5.zz a (z3 a h)
    cases bz with
    | false =>
      simp only [Bool.false_eq_true, if_false] at e4 ⊢
      have r6 := ci5.r.wipe vs
      rw [w4] at r6
      exact ⟨hltz, _, Z5, As5, acc, ⟨r6, ci5.c, ci5.s, ci5.o, ci5.l, ci5.f⟩, z5, p5, e4⟩
    | true =>
      simp only [if_true] at e4 ⊢
      obtain ⟨⟨yk, ρ7⟩, e7, e4⟩ := Option.bind_eq_some_iff.mp e4
      obtain ⟨⟨dv, ρ8⟩, e8, e4⟩ := Option.bind_eq_some_iff.mp e4
      split at e4
      · rename_i hlz
        obtain ⟨⟨ks', xs'⟩, e9, e4⟩ := Option.bind_eq_some_iff.mp e4
        refine ⟨ρ6, Z5, As5, r5, yk, ρ7, e7, fun u H6z Z6 As6 B6 r6 o6 c6 _ => ?_⟩
        have ci6 := ci5.step r r6 c6
        refine ⟨ρ7, Z6, As6, r6, dv, ρ8, e8, fun w H7z Z7 As7 B7 r7z o7 c7 _ => ?_⟩
        have ci7 := ci6.step r r7z c7
        have hy7 := (o6.wait r6 c7 (.inl rfl)).1
        obtain ⟨kvs, k, g1, g2, g3, ci8, p8⟩ := ci7.put hy7 o7.1 e9 hlz
        have r9 := ci8.r.wipe vs
        rw [w4] at r9
        have z7 : ∀ a, Z1 a → Z7 a := fun a h => c7.zz a (c6.zz a (z5 a h))
        have p7 := (p5.trans z5 (c6.pre r5)).trans (fun a h => c6.zz a (z5 a h)) (c7.pre r6)
        exact ⟨kvs, k, g1, g2, g3, hltz, _, Z7, As7, (ks', xs'), ⟨r9, ci8.c, ci8.s, ci8.o, ci8.l, ci8.f⟩, z7, p7.trans z7 p8, e4⟩
      · cases e4
  · have ei : i = es.length := by omega
    subst ei
    rw [List.drop_length] at e4
    cases e4
    refine .inl ⟨f3z _ (Nat.le_refl _), ?_⟩
    have r4 : RS K ρ2 σ H2z Z2 As2 := ci2.r.more (wipe_length σ vs).symm fun j x e => (wipe_some e).1
    obtain ⟨As5, r5, a5⟩ := RS.back r1 z2 (pn.trans (fun _ h => h) p2) vs r4 e3
    exact qz (.ref p) H2z Z2 As5 [p] r5 (own_dct1 ci2.l ci2.o) (ci2.c.less a5) fun _ => ci2.s.less a5
theorem de_dcomp (own : List (Str × Nat)) (hcz : X.calm = true) (hNz : X.N.Nodup) (hiz : DI X tg iter W fi)
    (hgz : ∀ (s : Shared) (H : Hp) (C : Addr) (cl : List (Str × Addr)) (fpz : List Addr), DG (X.blk s H scope (compEnvC scope cl C X.env) fpz) tg tvs g) (htz : ∀ (s : Shared) (H : Hp) (C : Addr) (cl : List (Str × Addr)) (fpz : List Addr), DTs (X.blk s H scope (compEnvC scope cl C X.env) fpz) ifs W ft)
    (hkz : ∀ (s : Shared) (H : Hp) (C : Addr) (cl : List (Str × Addr)) (fpz : List Addr), DE (X.blk s H scope (compEnvC scope cl C X.env) fpz) kx W true 0 fk)
    (hv : ∀ (s : Shared) (H : Hp) (C : Addr) (cl : List (Str × Addr)) (fpz : List Addr), DE (X.blk s H scope (compEnvC scope cl C X.env) fpz) vx W true 0 fv)
    (okz : blkC X.N X.env.scope scope own = true := by rfl) (htv : ∀ i ∈ tvs, i ∈ own.map (·.2) := by decide) (hsz : ∀ x, foldedSetIterable iter X.env x = pure x := by intro _; rfl) :
    DE X (.DictComp kx vx [⟨tg, iter, ifs, 0⟩] scope pos) W true 1 (eDComp fi g ft fk fv (own.map (·.2))) :=
  PE.conv (pe_dc hcz hNz hiz (blkOk_by okz) hgz htz hkz hv hsz) fun σ H Q qz => dcomp_red htv qz
end

/-! ### dict(l) of a list of pairs with tuples as keys -/
section
variable {prog : Program} {w : World} {A : Around} {E : Value → Shared → Prop}
def mergedH (xs : List (List Key × Addr × Value)) (rs : List (List Key × Addr × Value)) : List (List Key × Addr × Value) := rs.foldl (fun acc qz => storedH acc qz.1 qz.2.1 qz.2.2) xs
theorem length_storedH (xs : List (List Key × Addr × Value)) (k : List Key) (bz : Addr) (u : Value) : (storedH xs k bz u).length ≤ xs.length + 1 := by
  unfold storedH
  split
  · rw [List.length_map]; omega
  · rw [List.length_append, List.length_singleton]
    exact Nat.le_refl _
theorem tk_keeps {h h' : Heap} {ks : List Key} {a : Addr} (i : (tupleKind (mixKind prog w)).is h ks a) (k : ∀ o, h.get? a = some o → h'.get? a = some o) : (tupleKind (mixKind prog w)).is h' ks a := by
  obtain ⟨o, its, n, h1, h2z, h3z, h4⟩ := i
  exact ⟨o, its, n, k o h1, h2z, h3z, h4⟩
theorem tk_lt {h : Heap} {ks : List Key} {a : Addr} (i : (tupleKind (mixKind prog w)).is h ks a) : a < h.objs.size := by
  obtain ⟨o, its, n, h1, h2z, h3z, h4⟩ := i
  exact Heap.lt_size h1
/-- the walk over the pairs (upd_loop with tuples as keys) -/
theorem upd_loopT {R : Result → Shared → Prop} {S I l : Addr} {items : Array Value} {res : Value} (hu : A.in1.units + 1 < cLine) (hh : A.handled = none) (hlI : l ≠ I) (hSI : S ≠ I) (hSl : S ≠ l) :
    ∀ (rest : List (List Key × Addr × Value)) (i : Nat) (acc : List (List Key × Addr × Value)) (ix : Int) (t : Tok) (s : Shared), items.size = i + rest.length → acc.length + rest.length ≤ sizeLine →
      (∀ (j : Nat) (qz : List Key × Addr × Value), rest[j]? = some qz → ∃ (bz : Addr), items[i + j]? = some (.ref bz) ∧ bz ≠ S ∧ bz ≠ I ∧ IsTup s.heap bz #[.ref qz.2.1, qz.2.2] ∧ qz.2.1 ≠ S ∧ qz.2.1 ≠ I ∧ (tupleKind (mixKind prog w)).is s.heap qz.1 qz.2.1) →
      s.heap.IsListIter I l i → s.heap.IsList l items → s.heap.DictOfH (tupleKind (mixKind prog w)) S acc → (∀ x ∈ acc, x.2.1 ≠ S ∧ x.2.1 ≠ I) →
      (∀ h' tk, h'.DictOfH (tupleKind (mixKind prog w)) S (mergedH acc rest) → (∀ bz o, bz ≠ S → bz ≠ I → s.heap.get? bz = some o → h'.get? bz = some o) → R (.ok (.ret res)) { s with heap := h', toks := tk }) →
      codeAny (model prog w) A (.builtin "dict.update.loop" ⟨[.ref S, .ref I, .int ix t, res], []⟩) R s
  | [], i, acc, ix, t, s, hsz, hln, htz, hit, hlz, hmz, ha, hR => by
    refine codeAny_builtin ud_entry ?_
    rw [Around.under_plainId ud_plain _]
    show wpAny _ A.in1 (pyNext (.ref I) >>= _) _ _ s
    refine wpAny_bind (wpAny_pyNext_list_end (A := A.in1) hh hit hlz (by first | exact Array.getElem?_eq_none (Nat.le_of_eq hsz) | (simp at hsz; simp; omega)) fun h' hez => ?_)
    show wpAny _ A.in1 (Builtin.Dict.addKeywords S [] >>= _) _ _ _
    refine wpAny_bind (wpAny_pure (wpAny_pure ?_))
    refine hR h' s.toks ?_ fun bz o _ hb e => hez bz o hb e
    obtain ⟨o, es, ep, h1, h2z, h3z, h4, h5, h6⟩ := hmz
    exact ⟨o, es, ep, hez S o hSI h1, h2z, h3z, h4, fun x hxz => tk_keeps (h5 x hxz) fun o e => hez _ o (ha x hxz).2 e, h6⟩
  | qz :: rest, i, acc, ix, t, s, hsz, hln, htz, hit, hlz, hmz, ha, hR => by
    obtain ⟨bz, hb, hbS, hbI, htup, hkS, hkI, hkz⟩ := htz 0 qz rfl
    rw [List.length_cons] at hsz hln
    refine codeAny_builtin ud_entry ?_
    rw [Around.under_plainId ud_plain _]
    show wpAny _ A.in1 (pyNext (.ref I) >>= _) _ _ s
    refine wpAny_bind (wpAny_pyNext_list_item (x := .ref bz) hit hlz (by simpa using hb) fun h1 hit1 hs1 => ?_)
    have ht1 : IsTup h1 bz #[.ref qz.2.1, qz.2.2] := htup.extBut hs1.extBut hbI
    have hl1 : h1.IsList l items := hlz.extBut hs1.extBut hlI
    have hk1 : (tupleKind (mixKind prog w)).is h1 qz.1 qz.2.1 := tk_keeps hkz fun o e => hs1.extBut _ o hkI e
    have hm1 : h1.DictOfH (tupleKind (mixKind prog w)) S acc := by
      obtain ⟨o, es, ep, g1, g2, g3, g4, g5, g6⟩ := hmz
      exact ⟨o, es, ep, hs1.extBut S o hSI g1, g2, g3, g4, fun x hxz => tk_keeps (g5 x hxz) fun o e => hs1.extBut _ o (ha x hxz).2 e, g6⟩
    obtain ⟨o, ho, hcz, n, hd⟩ := id ht1
    show wpAny _ A.in1 (holding [Value.ref bz] _ >>= _) _ _ _
    refine wpAny_bind (wpAny_holding ?_)
    refine wpAny_bind (wpAny_tryCatch ?_)
    unfold Builtin.Dict.pairItems
    refine wpAny_bind (wpAny_typeOf (T := "tuple") ⟨o, ho, hcz⟩ ?_)
    rw [if_pos (by first | decide | rfl | simp)]
    refine wpAny_bind (wpAny_seqItems ho hd (wpAny_pure ?_))
    show wpAny _ A.in1 (holding [.ref qz.2.1, qz.2.2] (dictSet S (.ref qz.2.1) qz.2.2)) _ _ _
    refine wpAny_holding (wpAny_dictSet_heap (hsz := by omega) (knd := tupleKind (mixKind prog w)) (k := qz.1) (tupleKind_room_in1 (Nat.lt_of_succ_lt hu)) hk1 hm1 fun h2z hm2 hs2 => ?_)
    refine wpAny_pure ⟨plainId_quiet ud_plain _, upd_loopT (items := items) hu hh hlI hSI hSl rest (i + 1) (storedH acc qz.1 qz.2.1 qz.2.2) (ix + 1) 0 _ (show items.size = i + 1 + rest.length by omega) ?_ (fun j q' e => ?_) ?_ ?_ hm2 (fun x hxz => ?_) fun h' tk hd' k => ?_⟩
    · have z := length_storedH acc qz.1 qz.2.1 qz.2.2
      omega
    · obtain ⟨b', hb', hbS', hbI', htup', hkS', hkI', hk'⟩ := htz (j + 1) q' (by simpa using e)
      refine ⟨b', ?_, hbS', hbI', (htup'.extBut hs1.extBut hbI').extBut hs2.extBut hbS', hkS', hkI', tk_keeps (tk_keeps hk' fun o e => hs1.extBut _ o hkI' e) fun o e => hs2.extBut _ o hkS' e⟩
      rw [show i + 1 + j = i + (j + 1) by omega]
      exact hb'
    · exact hit1.at fun o' e => hs2.extBut I o' (Ne.symm hSI) e
    · exact hl1.extBut hs2.extBut (Ne.symm hSl)
    · rcases mem_storedH hxz with ⟨y, hy, e1, e2⟩ | ⟨e1, e2⟩
      · rw [e2]; exact ha y hy
      · rw [e2]; exact ⟨hkS, hkI⟩
    · exact hR h' tk hd' fun c oc h3z h4 e => k c oc h3z h4 (hs2.extBut c oc h3z (hs1.extBut c oc h4 e))
/-- dict(l) of a list of pairs (call_dict_pairs with tuples as keys) -/
theorem call_dict_pairsT {s : Shared} {l : Addr} {ol : Obj} {items : Array Value} {n : Nat} {prs : List (List Key × Addr × Value)} {Q : Value → Shared → Prop} (hu : A.units + 3 < cLine) (hh : A.handled = none) (hlz : s.heap.get? l = some ol) (hcz : ol.cls = .type "list") (hd : ol.dict = none)
    (hdat : ol.data = .seq items n) (hsz : items.size = prs.length) (hln : prs.length ≤ sizeLine)
    (htz : ∀ (j : Nat) (qz : List Key × Addr × Value), prs[j]? = some qz → ∃ (bz : Addr), items[j]? = some (.ref bz) ∧ IsTup s.heap bz #[.ref qz.2.1, qz.2.2] ∧ (tupleKind (mixKind prog w)).is s.heap qz.1 qz.2.1)
    (h : ∀ h' tk, h'.DictOfH (tupleKind (mixKind prog w)) s.heap.objs.size (mergedH [] prs) → (∀ bz o, s.heap.get? bz = some o → h'.get? bz = some o) → Q (.ref s.heap.objs.size) { s with heap := h', toks := tk }) :
    wpAny (model prog w) A (call (.type "dict") [.ref l]) Q E s := by
  refine callType_codes (Q₁ := fun obj s₁ => obj = .ref s.heap.objs.size ∧ s₁ = { s with heap := s.heap.push { cls := .type "dict", data := .dict #[] } }) PySem.F.kt_called_dict (PySem.F.kt_typeCall_dict_1 _) PySem.F.entry_dict_init (kt_code_dict_new _ ⟨rfl, rfl⟩) ?_
  rintro obj s₁ ⟨rfl, rfl⟩
  have hnew0 : (s.heap.push { cls := .type "dict", data := .dict #[] }).DictOf (mixKind prog w) s.heap.objs.size [] := Heap.DictOf.new s.heap
  have hnew : (s.heap.push { cls := .type "dict", data := .dict #[] }).DictOfH (tupleKind (mixKind prog w)) s.heap.objs.size [] := ⟨_, #[], 0, Heap.get?_push_size _ rfl, ⟨rfl, rfl, rfl⟩, rfl, rfl, fun x hxz => (nomatch hxz), List.nodup_nil⟩
  have k0 : ∀ bz o, s.heap.get? bz = some o → (s.heap.push { cls := .type "dict", data := .dict #[] }).get? bz = some o := fun bz o e => Heap.get?_push_of_some _ e
  refine ⟨hnew0.typeIs, PySem.F.args_dict_init_2 _ _, ?_⟩
  unfold Builtin.«dict.__init__»
  refine wpAny_bind ?_
  unfold Builtin.Dict.selfAndRest
  refine wpAny_bind (wpAny_notOrdered_dict hnew0.typeIs ?_)
  show wpAny _ _ (pure (s.heap.objs.size, [Value.ref l])) _ _ _
  refine wpAny_pure ?_
  show wpAny _ _ (Builtin.Dict.updateFrom "dict.__init__" s.heap.objs.size (.ref l) [] .none) _ _ _
  unfold Builtin.Dict.updateFrom
  refine wpAny_bind (wpAny_typeOf (T := "list") ⟨ol, k0 _ _ hlz, hcz⟩ ?_)
  rw [if_pos (by first | decide | rfl | simp)]
  refine wpAny_bind (miss_list (k0 _ _ hlz) hcz hdat hd hh fun h1 tk1 hk1 => ?_)
  rw [if_pos (show (none : Option Value).isNone = true from rfl)]
  refine wpAny_bind (wpAny_rule ?_)
  have hl1 : h1.IsList l items := ⟨ol, hk1 _ _ (k0 _ _ hlz), hcz, n, hdat⟩
  have hS1 : s.heap.objs.size < h1.objs.size := by
    have e : (s.heap.push { cls := .type "dict", data := .dict #[] }).get? s.heap.objs.size = some { cls := .type "dict", data := .dict #[] } := Heap.get?_push_size _ rfl
    exact Heap.lt_size (hk1 _ _ e)
  refine wpAny_bind (wpAny_pyIter_list hl1 ?_)
  have k2 : ∀ bz o, h1.get? bz = some o → (h1.push { cls := .type "list_iterator", data := .fields #[.ref l, .int 0 0] }).get? bz = some o := fun bz o e => Heap.get?_push_of_some _ e
  have hltz : l < s.heap.objs.size := Heap.lt_size hlz
  have hnewH : (h1.push { cls := .type "list_iterator", data := .fields #[.ref l, .int 0 0] }).DictOfH (tupleKind (mixKind prog w)) s.heap.objs.size [] := by
    obtain ⟨o, es, ep, g1, g2, g3, g4, g5, g6⟩ := hnew
    exact ⟨o, es, ep, k2 _ _ (hk1 _ _ g1), g2, g3, g4, fun x hxz => (nomatch hxz), g6⟩
  have key := upd_loopT (prog := prog) (w := w) (A := A.in1) (R := wants (fun r s₂ => r = .none ∧ Q (.ref s.heap.objs.size) s₂) E) (S := s.heap.objs.size) (I := h1.objs.size) (l := l) (items := items) (res := Value.none) (by show A.units + 1 + 1 + 1 < cLine; omega) hh
    (Nat.ne_of_lt (Nat.lt_trans hltz hS1)) (Nat.ne_of_lt hS1) (Nat.ne_of_gt hltz) prs 0 [] 0 0
    { s with heap := h1.push { cls := .type "list_iterator", data := .fields #[.ref l, .int 0 0] }, toks := tk1 } (by rw [hsz, Nat.zero_add]) (by rw [List.length_nil, Nat.zero_add]; exact hln)
    (fun j qz e => by
      obtain ⟨bz, e1, e2, e3⟩ := htz j qz e
      have hb : bz < s.heap.objs.size := e2.lt
      have hq : qz.2.1 < s.heap.objs.size := tk_lt e3
      exact ⟨bz, by rw [Nat.zero_add]; exact e1, Nat.ne_of_lt hb, Nat.ne_of_lt (Nat.lt_trans hb hS1), e2.keeps fun c o z => k2 _ _ (hk1 _ _ (k0 _ _ z)), Nat.ne_of_lt hq, Nat.ne_of_lt (Nat.lt_trans hq hS1), tk_keeps e3 fun o z => k2 _ _ (hk1 _ _ (k0 _ _ z))⟩)
    ⟨_, Heap.get?_push_size _ rfl, rfl, rfl⟩ (hl1.at fun o e => k2 _ _ e) hnewH (fun x hxz => (nomatch hxz))
    (fun h' tk hd' k => ⟨rfl, h h' tk hd' fun bz o e => k bz o (Nat.ne_of_lt (Heap.lt_size e)) (Nat.ne_of_lt (Nat.lt_trans (Heap.lt_size e) hS1)) (k2 _ _ (hk1 _ _ (k0 _ _ e)))⟩)
  first
    | exact wpAny_pure ⟨plainId_quiet ud_plain _, key⟩
    | exact wpAny_bind (wpAny_pure (wpAny_pure ⟨plainId_quiet ud_plain _, key⟩))
end
section
variable {X : Cx}
def mergeT (kvs more : List (List Key × V)) : List (List Key × V) := more.foldl (fun acc kv => putK acc kv.1 kv.2) kvs
theorem KT.merge {H : Hp} : ∀ {more : List (List Key × V)} {rs : List (List Key × Addr × Value)} {kvs : List (List Key × V)} {vs : List (List Key × Addr × Value)}, KT H more rs → KT H kvs vs → KT H (mergeT kvs more) (mergedH vs rs) := by
  intro more rs kvs vs r
  induction r generalizing kvs vs with
  | nil => intro qz; exact qz
  | @cons p qz ps qs h t ihz =>
    intro r0
    obtain ⟨h1, h2z, h3z⟩ := h
    have e : KT H (putK kvs p.1 p.2) (storedH vs qz.1 qz.2.1 qz.2.2) := by
      have := r0.put p.1 h2z h3z
      rw [← h1]; exact this
    exact ihz e
theorem length_mergeT : ∀ (more kvs : List (List Key × V)), (mergeT kvs more).length ≤ kvs.length + more.length
  | [], kvs => by show kvs.length ≤ kvs.length + 0; omega
  | p :: r, kvs => by
    have h1 := length_mergeT r (putK kvs p.1 p.2)
    have h2z := length_putK kvs p.1 p.2
    show (mergeT (putK kvs p.1 p.2) r).length ≤ _
    rw [List.length_cons]; omega
/-- the pairs at ps: key tuples at bs -/
theorem pairsT_of {pins : List (Addr × Obj)} {σ : L2.St} {H : Hp} {s : Shared} (I : Inv X pins σ H s) : ∀ {ps : List Addr} {kvs : List (List Key × V)}, Paired (fun p kv => ∃ bz, SqT X.K H p [.ref bz, kv.2] ∧ H bz = some (.tup (kv.1.map kV))) ps kvs →
    ∃ prs : List (List Key × Addr × Value), KT H kvs prs ∧ prs.length = ps.length ∧ ∀ (j : Nat) (qz : List Key × Addr × Value), prs[j]? = some qz → ∃ (bz : Addr), ps[j]? = some bz ∧ IsTup s.heap bz #[.ref qz.2.1, qz.2.2] ∧ (tupleKind (mixKind X.prog X.w)).is s.heap qz.1 qz.2.1
  | _, _, .nil => ⟨[], .nil, rfl, fun j qz e => by simp at e⟩
  | _, _, .cons (a := p) (b := kv) h t => by
    obtain ⟨prs, r, hlz, hp⟩ := pairsT_of I t
    obtain ⟨bz, h1, h2z⟩ := h
    obtain ⟨its, rv, htz, _⟩ := I.tuple h1
    obtain ⟨u, y, ei, ru, ry⟩ := vals2 rv
    subst ei
    cases (show u = Value.ref bz from ru)
    refine ⟨(kv.1, bz, y) :: prs, .cons ⟨rfl, h2z, ry⟩ r, by rw [List.length_cons, List.length_cons, hlz], fun j qz e => ?_⟩
    cases j with
    | zero =>
      have e' : (kv.1, bz, y) = qz := Option.some.inj e
      subst e'
      exact ⟨p, rfl, htz, key_of I.hok h2z⟩
    | succ j =>
      obtain ⟨b', e1, e2, e3⟩ := hp j qz (by simpa using e)
      exact ⟨b', by simpa using e1, e2, e3⟩
theorem call_dictT (hu : X.A.units + 3 < cLine) (hcalm : X.calm = true) : CallR X (.type "dict") (fun xs H Q => ∃ (a : Addr) (ps : List Addr) (kvs : List (List Key × V)), xs = [.ref a] ∧ SqL X.K H a (ps.map V.ref) ∧ Paired (fun p kv => ∃ bz, SqT X.K H p [.ref bz, kv.2] ∧ H bz = some (.tup (kv.1.map kV))) ps kvs ∧
    ∀ p, H p = none → Q (.ref p) (upd H p (.dT (mergeT [] kvs)))) := by
  intro pins s σ H xs us Q I r qz
  obtain ⟨a, ps, kvs, ex, hq, hp, qz⟩ := qz
  subst ex
  obtain ⟨u, eu, rx⟩ := vals1 r
  subst eu
  cases rx
  obtain ⟨its, rv, pl, hzz⟩ := I.list hq
  have ei := refs_at rv
  subst ei
  rw [List.length_map] at hzz
  obtain ⟨prs, rel, hlz, hpr⟩ := pairsT_of I hp
  obtain ⟨o, n, ho, hcz, hd, hdat⟩ := pl
  refine call_dict_pairsT (prs := prs) hu (I.ok.hd hcalm) ho hcz hd hdat (by simp [hlz]) (by rw [hlz]; exact hzz) (fun j q' e => ?_) fun h' tk hd' k => ?_
  · obtain ⟨bz, e1, e2, e3⟩ := hpr j q' e
    exact ⟨bz, by simp [e1], e2, e3⟩
  · have hmz : (s.heap.objs.size == sysModules) = false := beq_eq_false_iff_ne.mpr (Nat.ne_of_gt I.big)
    have hlen : (mergeT [] kvs).length ≤ sizeLine := by
      refine Nat.le_trans (length_mergeT kvs []) ?_
      rw [List.length_nil, Nat.zero_add, Paired.length rel, hlz]
      exact hzz
    have hn : H s.heap.objs.size = none := I.hok.fresh (Nat.le_refl _)
    obtain ⟨ob, es, ep, g1, g2, g3, g4, _, g6⟩ := hd'
    refine ⟨.ref s.heap.objs.size, upd H s.heap.objs.size (.dT (mergeT [] kvs)), I.laid (t' := tk) k (Nat.le_refl _) (show ObjOk X.prog X.w _ _ _ (.dT (mergeT [] kvs)) from ⟨hlen, hmz, mergedH [] prs, (KT.merge rel .nil).keeps fun c ys ec => ?_, ob, es, ep, g1, g2, g3, g4, g6⟩), rfl, qz _ hn⟩
    rw [upd_ne (ne_of_none ec hn)]
    exact ec
end
end DL
/-! DL17: what is never come to; dict(pairs), displays of dicts; constants of the module -/
namespace DL
open PySem PySem.Spec PyProof.Rows L2

/-! ### never -/
def eNev : EM := fun _ => none
def tNev : TM := fun _ => none
def iNev : IM := fun _ => none
section
variable {X : Cx} {e tg : Expr} {W o : Bool} {k : Nat}
theorem de_never : DE X e W o k eNev := ⟨fun pins s σ H Q I q => by obtain ⟨_, _, _, _, _, _, ef, _⟩ := q; cases ef⟩
theorem dt_never : DT X e W tNev := ⟨fun pins s σ H Q I q => by obtain ⟨_, _, _, _, _, _, ef, _⟩ := q; cases ef⟩
theorem di_never : DI X tg e W iNev := ⟨fun pins s σ H Q I q => by obtain ⟨_, _, _, _, _, _, ef, _⟩ := q; cases ef⟩
end

/-! ### dict(pairs) -/
def dctOf (t : Bool) : List D → List D × List D → Option (List D × List D)
  | [], acc => some acc
  | p :: ps, acc => match tupOf p with
    | some [y, d] => (dput t acc.1 acc.2 y d).bind fun a => dctOf t ps a
    | _ => none
def dDict (t : Bool) (as : List D) : Option D := match as with
  | [.lst ds] => if ds.length ≤ sizeLine then (dctOf t ds ([], [])).map fun a => .dct t a.1 a.2 else none
  | _ => none
section
variable {X : Cx} {K : PySem.W.Frag} {H : Hp} {Z : Addr → Prop}
theorem Rep.pair {p : D} {y d : D} {v : V} (e : tupOf p = some [y, d]) (h : Rep K H Z p v) : ∃ a u w, v = .ref a ∧ SqT K H a [u, w] ∧ Rep K H Z y u ∧ Rep K H Z d w := by
  obtain ⟨a, vs, e1, h1, h2, h3⟩ := (show Own K H Z 0 p v [] from ⟨h, rfl⟩).tupA e
  obtain ⟨u, w, rfl, r1, r2⟩ := reps_two h3
  exact ⟨a, u, w, e1, h1, r1, r2⟩
theorem pairsK : ∀ {ds : List D} {vs : List V} {acc r : List D × List D} {kvs0 : List (Key × V)}, Reps K H Z ds vs → dctOf false ds acc = some r → acc.1.map keyD = kvs0.map (fun p => some p.1) → Reps K H Z acc.2 (kvs0.map (·.2)) →
    ∃ (ps : List Addr) (kvs : List (Key × V)), vs = ps.map V.ref ∧ Paired (fun p kv => SqT K H p [kV kv.1, kv.2]) ps kvs ∧ r.1.map keyD = (mergeK kvs0 kvs).map (fun p => some p.1) ∧ Reps K H Z r.2 ((mergeK kvs0 kvs).map (·.2))
  | [], vs, acc, r, kvs0, h, e, h1, h2 => by
    unfold Reps at h
    subst h
    cases e
    exact ⟨[], [], rfl, .nil, h1, h2⟩
  | p :: ds, vs, acc, r, kvs0, h, e, h1, h2 => by
    unfold Reps at h
    obtain ⟨v, vr, rfl, g1, g2⟩ := h
    unfold dctOf at e
    split at e
    · rename_i y d et
      obtain ⟨acc', e1, e⟩ := Option.bind_eq_some_iff.mp e
      obtain ⟨a, u, w, rfl, hs, ru, rw'⟩ := g1.pair et
      obtain ⟨k, ek, e1⟩ := Option.map_eq_some_iff.mp (show (keyD y).map (fun k => dputK keyD acc.1 acc.2 k y d) = some acc' from e1)
      have q := dputK_ok h1 ek h2 rw'
      rw [e1] at q
      obtain ⟨ps, kvs, f1, f2, f3, f4⟩ := pairsK g2 e q.1 q.2.1
      have hu := keyD_rep ek ru
      subst hu
      exact ⟨a :: ps, (k, w) :: kvs, by rw [f1]; rfl, .cons hs f2, f3, f4⟩
    · cases e
theorem pairsT : ∀ {ds : List D} {vs : List V} {acc r : List D × List D} {kvs0 : List (List Key × V)}, Reps K H Z ds vs → dctOf true ds acc = some r → acc.1.map keysD = kvs0.map (fun p => some p.1) → Reps K H Z acc.2 (kvs0.map (·.2)) →
    ∃ (ps : List Addr) (kvs : List (List Key × V)), vs = ps.map V.ref ∧ Paired (fun p kv => ∃ b, SqT K H p [.ref b, kv.2] ∧ H b = some (.tup (kv.1.map kV))) ps kvs ∧ r.1.map keysD = (mergeT kvs0 kvs).map (fun p => some p.1) ∧ Reps K H Z r.2 ((mergeT kvs0 kvs).map (·.2))
  | [], vs, acc, r, kvs0, h, e, h1, h2 => by
    unfold Reps at h
    subst h
    cases e
    exact ⟨[], [], rfl, .nil, h1, h2⟩
  | p :: ds, vs, acc, r, kvs0, h, e, h1, h2 => by
    unfold Reps at h
    obtain ⟨v, vr, rfl, g1, g2⟩ := h
    unfold dctOf at e
    split at e
    · rename_i y d et
      obtain ⟨acc', e1, e'⟩ := Option.bind_eq_some_iff.mp e
      obtain ⟨a, u, w, rfl, hs, ru, rw'⟩ := g1.pair et
      cases y with
      | tup ys =>
        obtain ⟨k, ek, e1⟩ := Option.map_eq_some_iff.mp (show (keysD (.tup ys)).map (fun k => dputK keysD acc.1 acc.2 k (.tup ys) d) = some acc' from e1)
        have q := dputK_ok h1 ek h2 rw'
        rw [e1] at q
        obtain ⟨ps, kvs, f1, f2, f3, f4⟩ := pairsT g2 e' q.1 q.2.1
        have ek' : ys.mapM keyD = some k := by
          have ek : (if ys.length ≤ 1000 then ys.mapM keyD else none) = some k := ek
          split at ek
          · exact ek
          · cases ek
        unfold Rep at ru
        obtain ⟨b, bs, rfl, hb, _, hr⟩ := ru
        exact ⟨a :: ps, (k, w) :: kvs, by rw [f1]; rfl, .cons ⟨b, hs, by rw [hb, keysD_reps ek' hr]⟩ f2, f3, f4⟩
      | _ => cases e1
    · cases e
theorem o_dict (hc : X.calm = true) (hu : X.A.units + 3 < cLine) {t : Bool} {ds : List D} {d : D} (h : dDict t ds = some d) : ∃ r, CallR X (.type "dict") r ∧ CallAt X.K r ds d 1 := by
  unfold dDict at h
  split at h
  · rename_i es
    split at h
    · rename_i hlen
      obtain ⟨⟨ks, xs⟩, e1, h⟩ := Option.map_eq_some_iff.mp h
      subst h
      cases t with
      | false =>
        refine ⟨_, call_dictP hc, fun H Z ks' vs zd hk os Q q => ?_⟩
        obtain ⟨v, n, B, rfl, rfl, ow⟩ := one_own os
        obtain ⟨a, ws, ev, h1, h2, h3⟩ := ow.lst1 (hk n (by simp))
        obtain ⟨ps, kvs, f1, f2, f3, f4⟩ := pairsK (kvs0 := []) h3 e1 rfl Reps.nil
        subst f1
        refine ⟨a, ps, kvs, by rw [ev], .inl h1, f2, fun p hp => ?_⟩
        have g : Gr H Z (upd H p (.dK (mergeK [] kvs))) Z [p] := Gr.own zd hp trivial
        refine q _ _ Z [p] g (own_dct1 ?_ ⟨_, upd_same, f3, g.reps f4⟩)
        show ks.length ≤ sizeLine
        have := congrArg List.length f3
        have l1 := length_mergeK kvs []
        have l2 := Paired.length f2
        have l3 := h3.length
        simp only [List.length_map, List.length_nil] at this l1 l3
        omega
      | true =>
        refine ⟨_, call_dictT hu hc, fun H Z ks' vs zd hk os Q q => ?_⟩
        obtain ⟨v, n, B, rfl, rfl, ow⟩ := one_own os
        obtain ⟨a, ws, ev, h1, h2, h3⟩ := ow.lst1 (hk n (by simp))
        obtain ⟨ps, kvs, f1, f2, f3, f4⟩ := pairsT (kvs0 := []) h3 e1 rfl Reps.nil
        subst f1
        refine ⟨a, ps, kvs, by rw [ev], .inl h1, f2, fun p hp => ?_⟩
        have g : Gr H Z (upd H p (.dT (mergeT [] kvs))) Z [p] := Gr.own zd hp trivial
        refine q _ _ Z [p] g (own_dct1 ?_ ⟨_, upd_same, f3, g.reps f4⟩)
        show ks.length ≤ sizeLine
        have := congrArg List.length f3
        have l1 := length_mergeT kvs []
        have l2 := Paired.length f2
        have l3 := h3.length
        simp only [List.length_map, List.length_nil] at this l1 l3
        omega
    · cases h
  · cases h
end

/-! ### {k: v, ..} -/
abbrev PM := Env → Option (List (D × D) × Env)
def pNil : PM := fun ρ => some ([], ρ)
def pCons (fk fv : EM) (fs : PM) : PM := fun ρ => (fk ρ).bind fun a => (fv a.2).bind fun b => (fs b.2).map fun c => ((a.1, b.1) :: c.1, c.2)
/-- the pairs of a display, of which the dict at p is made -/
inductive DPs (K : PySem.W.Frag) (W : Bool) : List (TE × TE) → PM → Prop
  | nil : DPs K W [] pNil
  | cons {fk fv : EM} {fs : PM} {r : List (TE × TE)} (h : DPs K W r fs) : DPs K W ((tE K W true 0 fk, tE K W true 0 fv) :: r) (pCons fk fv fs)
def dctPs (ps : List (D × D)) : Option (List D × List D) := dctOf false (ps.map fun p => .tup [p.1, p.2]) ([], [])
def eDisp (fs : PM) : EM := fun ρ => (fs ρ).bind fun p => if p.1.length ≤ 15 then (dctPs p.1).map fun a => (.dct false a.1 a.2, p.2) else none
inductive PRep (K : PySem.W.Frag) (H : Hp) (Z : Addr → Prop) : List (D × D) → List (V × V) → Prop
  | nil : PRep K H Z [] []
  | cons {y d : D} {u w : V} {ds : List (D × D)} {vs : List (V × V)} (h1 : Rep K H Z y u) (h2 : Rep K H Z d w) (h : PRep K H Z ds vs) : PRep K H Z ((y, d) :: ds) ((u, w) :: vs)
theorem PRep.mono {K : PySem.W.Frag} {H H' : Hp} {Z Z' : Addr → Prop} (hz : ∀ a, Z a → Z' a) (p : Pre Z H H') {ds : List (D × D)} {vs : List (V × V)} (h : PRep K H Z ds vs) : PRep K H' Z' ds vs := by
  induction h with
  | nil => exact .nil
  | cons h1 h2 _ ih => exact .cons (Rep.mono hz p _ _ h1) (Rep.mono hz p _ _ h2) ih
theorem PRep.length {K : PySem.W.Frag} {H : Hp} {Z : Addr → Prop} {ds : List (D × D)} {vs : List (V × V)} (h : PRep K H Z ds vs) : vs.length = ds.length := by
  induction h with
  | nil => rfl
  | cons _ _ _ ih => rw [List.length_cons, List.length_cons, ih]
theorem prep_merge {K : PySem.W.Frag} {H : Hp} {Z : Addr → Prop} {ps : List (D × D)} {vs : List (V × V)} (h : PRep K H Z ps vs) : ∀ {acc r : List D × List D} {kvs0 : List (Key × V)}, dctOf false (ps.map fun p => .tup [p.1, p.2]) acc = some r → acc.1.map keyD = kvs0.map (fun p => some p.1) → Reps K H Z acc.2 (kvs0.map (·.2)) →
    ∃ kvs : List (Key × V), vs = kvs.map (fun kv => (kV kv.1, kv.2)) ∧ r.1.map keyD = (mergeK kvs0 kvs).map (fun p => some p.1) ∧ Reps K H Z r.2 ((mergeK kvs0 kvs).map (·.2)) := by
  induction h with
  | nil => intro acc r kvs0 e h1 h2; cases e; exact ⟨[], rfl, h1, h2⟩
  | @cons y d u w ds vs g1 g2 _ ih =>
    intro acc r kvs0 e h1 h2
    rw [List.map_cons] at e
    unfold dctOf at e
    obtain ⟨acc', e1, e⟩ := Option.bind_eq_some_iff.mp (show (dput false acc.1 acc.2 y d).bind (fun a => dctOf false (ds.map fun p => .tup [p.1, p.2]) a) = some r from e)
    obtain ⟨k, ek, e1⟩ := Option.map_eq_some_iff.mp (show (keyD y).map (fun k => dputK keyD acc.1 acc.2 k y d) = some acc' from e1)
    have q := dputK_ok h1 ek h2 g2
    rw [e1] at q
    obtain ⟨kvs, f1, f2, f3⟩ := ih e q.1 q.2.1
    have hu := keyD_rep ek g1
    subst hu
    exact ⟨(k, w) :: kvs, by rw [f1]; rfl, f2, f3⟩
section
variable {K : PySem.W.Frag} {ρ ρ' ρ0 : Env} {σ σ0 : L2.St} {H H' H0 : Hp} {Z Z' Z0 : Addr → Prop} {As As' As0 : Nat → List Addr} {W : Bool} {p : Addr}
theorem disp_red (r0 : RS K ρ0 σ0 H0 Z0 As0) {trs : List (TE × TE)} {fs : PM} (h : DPs K W trs fs) : ∀ {ρ ρ' : Env} {H : Hp} {Z : Addr → Prop} {As : Nat → List Addr} {ds : List (D × D)} {Q : List (V × V) → Hp → Prop}, CQ K W p H0 Z0 As0 ρ σ H Z As [] [] → fs ρ = some (ds, ρ') →
    (∀ vs H' Z' As', CQ K W p H0 Z0 As0 ρ' σ H' Z' As' [] [] → PRep K H' Z' ds vs → (∀ a, Z a → Z' a) → Pre Z H H' → Q vs H') → tPairs trs σ H Q := by
  induction h with
  | nil => intro ρ ρ' H Z As ds Q c e q; cases e; exact q [] H Z As c .nil (fun _ h => h) Pre.refl
  | @cons fk fv fs r h ih =>
    intro ρ ρ' H Z As ds Q c e q
    unfold pCons at e
    obtain ⟨⟨y, ρ1⟩, e1, e⟩ := Option.bind_eq_some_iff.mp e
    obtain ⟨⟨d, ρ2⟩, e2, e⟩ := Option.bind_eq_some_iff.mp e
    obtain ⟨⟨dr, ρ3⟩, e3, e⟩ := Option.map_eq_some_iff.mp e
    cases e
    refine ⟨ρ, Z, As, c.r, y, ρ1, e1, fun u H1 Z1 As1 B1 r1 o1 c1 _ => ?_⟩
    have k1 := c.step r0 r1 c1
    refine ⟨ρ1, Z1, As1, r1, d, ρ2, e2, fun w H2 Z2 As2 B2 r2 o2 c2 _ => ?_⟩
    have k2 := k1.step r0 r2 c2
    have y2 : Rep K H2 Z2 y u := Rep.mono c2.zz (c2.pre r1) y u o1.1
    have p02 : Pre Z H H2 := (c1.pre c.r).trans c1.zz (c2.pre r1)
    have z02 : ∀ a, Z a → Z2 a := fun a h => c2.zz a (c1.zz a h)
    exact ih k2 e3 fun vs H3 Z3 As3 k3 pr z3 p3 => q ((u, w) :: vs) H3 Z3 As3 k3 (.cons (Rep.mono z3 p3 _ _ y2) (Rep.mono z3 p3 _ _ o2.1) pr) (fun a h => z3 a (z02 a h)) (p02.trans z02 p3)
end
section
variable {X : Cx} {pos : Pos} {keys : List (Option Expr)} {values : List Expr} {trs : List (TE × TE)} {W : Bool} {fs : PM} {k v : Expr} {fk fv : EM}
abbrev DPP (X : Cx) (pos : Pos) (keys : List (Option Expr)) (values : List Expr) (W : Bool) (fs : PM) : Prop := ∃ trs, PPs X pos keys values trs ∧ DPs X.K W trs fs
theorem dpp_nil : DPP X pos [] [] W pNil := ⟨[], pps_nil, .nil⟩
theorem dpp_cons (hk : DE X k W true 0 fk) (hv : DE X v W true 0 fv) (h : DPP X pos keys values W fs) : DPP X pos (some k :: keys) (v :: values) W (pCons fk fv fs) := by
  obtain ⟨trs, h1, h2⟩ := h
  exact ⟨_, pps_cons hk hv h1, .cons h2⟩
theorem de_disp (h : DPP X pos keys values W fs) (hall : keys.all (·.isSome) = true := by rfl) (hl : keys.length = values.length := by rfl) (h0 : keys ≠ [] := by exact List.cons_ne_nil _ _) (h15 : keys.length ≤ 15 := by decide) : DE X (.Dict keys values pos) W true 1 (eDisp fs) := by
  obtain ⟨trs, h1, h2⟩ := h
  refine PE.conv (pe_disp h1 hall hl h0 h15) fun σ H Q q => ?_
  obtain ⟨ρ, Z, As, r, d, ρ', ef, q⟩ := q
  unfold eDisp at ef
  obtain ⟨⟨ps, ρ1⟩, e1, ef⟩ := Option.bind_eq_some_iff.mp ef
  split at ef
  case isFalse => cases ef
  rename_i h15'
  obtain ⟨⟨ks, xs⟩, e2, ef⟩ := Option.map_eq_some_iff.mp ef
  cases ef
  intro p hp
  have hpz : ¬ Z p := fun z => r.zd p z hp
  have hpa : ∀ i, p ∉ As i := fun i z => (r.mt i p z).ne hp
  have ci : CQ X.K W p H Z As ρ σ (upd H p (.dK [])) Z As [] [] := by
    refine ⟨r.aside hpz hpa (.inr hp), Chg.refl.aside hp, ⟨by simp, fun b hb => ?_, fun b hb => ?_, fun b hb => ?_, fun b hb => ?_⟩, ⟨[], upd_same, rfl, Reps.nil⟩, Nat.zero_le _, hp⟩
    all_goals (have e : b = p := by simpa using hb)
    all_goals subst e
    · exact hpz
    · exact hpa
    · rw [upd_same]; trivial
    · exact .inl hp
  refine disp_red r h2 ci e1 fun vs H' Z' As' c pr z' p' => ?_
  obtain ⟨kvs0, g1, g2, g3⟩ := c.o
  have hk0 : kvs0 = [] := by cases kvs0 <;> first | rfl | simp at g2
  subst hk0
  obtain ⟨kvs, f1, f2, f3⟩ := prep_merge (kvs0 := []) pr e2 rfl Reps.nil
  have hlen : kvs.length ≤ 15 := by
    have := pr.length
    rw [f1, List.length_map] at this
    have h15' : ps.length ≤ 15 := h15'
    omega
  refine ⟨g1, kvs, f1, hlen, ?_⟩
  obtain ⟨m1, m2, m3⟩ := c.mem
  have pw : Pre Z' H' (upd H' p (.dK (mergeK [] kvs))) := Pre.write m1 m3
  refine q (.ref p) _ Z' As' [p] (c.r.aside m1 m2 (.inl m3)) (own_dct1 ?_ ⟨_, upd_same, f2, Reps.mono (fun _ h => h) pw _ _ f3⟩) (c.c.aside hp) fun _ => ⟨c.s.nd, c.s.nz, c.s.dj, fun b hb => ?_, c.s.af⟩
  · have := congrArg List.length f2
    have l1 := length_mergeK kvs []
    simp only [List.length_map, List.length_nil] at this l1
    show ks.length ≤ sizeLine
    rw [sizeLine_eq]
    omega
  · have : b = p := by simpa using hb
    rw [this, upd_same]
    trivial
end
end DL
/-! DL18: what the module's top holds -/
namespace DL
open PySem PySem.Spec PyProof.Rows L2

/-! ### written values -/
mutual
def litV (K : PySem.W.Frag) : D → Value → Bool
  | .non, .none => true
  | .bl b, .bool c => b == c
  | .int i, .int j _ => decide (i = j)
  | .str s, .str t _ => decide (s = t) && okS s
  | .ktp ds, .ref a => match K.lookup a with
    | some ⟨.type c, _, .seq its _, _⟩ => decide (c = "tuple") && (decide (its.size ≤ sizeLine) && litVs K ds its.toList)
    | _ => false
  | _, _ => false
def litVs (K : PySem.W.Frag) : List D → List Value → Bool
  | [], [] => true
  | d :: ds, u :: us => litV K d u && litVs K ds us
  | _, _ => false
end
mutual
theorem litV_ok {K : PySem.W.Frag} : ∀ (d : D) (u : Value), litV K d u = true → ∃ v, RelV v u ∧ ∀ H Z, Rep K H Z d v
  | .non, u, h => by
    cases u with
    | none => exact ⟨.non, rfl, fun H Z => by unfold Rep; rfl⟩
    | _ => simp [litV] at h
  | .bl b, u, h => by
    cases u with
    | bool c =>
      have e : b = c := by simpa [litV] using h
      subst e
      exact ⟨.bl b, rfl, fun H Z => by unfold Rep; rfl⟩
    | _ => simp [litV] at h
  | .int i, u, h => by
    cases u with
    | int j t =>
      have e : i = j := by simpa [litV] using h
      subst e
      exact ⟨.int i, ⟨t, rfl⟩, fun H Z => by unfold Rep; rfl⟩
    | _ => simp [litV] at h
  | .str s, u, h => by
    cases u with
    | str y t =>
      have e : s = y ∧ okS s = true := by simpa [litV] using h
      obtain ⟨rfl, h2⟩ := e
      exact ⟨.str s, ⟨t, rfl⟩, fun H Z => by unfold Rep; exact ⟨rfl, h2⟩⟩
    | _ => simp [litV] at h
  | .ktp ds, u, h => by
    cases u with
    | ref a =>
      unfold litV at h
      cases q : K.lookup a with
      | none => rw [q] at h; cases h
      | some o =>
        obtain ⟨oc, od, dt, osl⟩ := o
        rw [q] at h
        cases oc with
        | type c =>
          cases dt with
          | seq its n =>
            simp only [Bool.and_eq_true, decide_eq_true_eq] at h
            obtain ⟨h1, h2, h3⟩ := h
            obtain ⟨vs, r, hr⟩ := litVs_ok ds its.toList h3
            have hl : vs.length = its.size := by rw [r.length, Array.length_toList]
            refine ⟨.ref a, rfl, fun H Z => ?_⟩
            unfold Rep
            exact ⟨a, vs, rfl, ⟨_, its, n, q, by rw [h1], rfl, h2, r⟩, by omega, hr H Z⟩
          | _ => cases h
        | _ => cases dt <;> cases h
    | _ => simp [litV] at h
  | .tup _, u, h => by cases u <;> simp [litV] at h
  | .lst _, u, h => by cases u <;> simp [litV] at h
  | .dct _ _ _, u, h => by cases u <;> simp [litV] at h
  | .rng _ _, u, h => by cases u <;> simp [litV] at h
  | .ty _, u, h => by cases u <;> simp [litV] at h
theorem litVs_ok {K : PySem.W.Frag} : ∀ (ds : List D) (us : List Value), litVs K ds us = true → ∃ vs, Vals vs us ∧ ∀ H Z, Reps K H Z ds vs
  | [], [], h => ⟨[], .nil, fun H Z => Reps.nil⟩
  | [], _ :: _, h => by simp [litVs] at h
  | _ :: _, [], h => by simp [litVs] at h
  | d :: ds, u :: us, h => by
    unfold litVs at h
    obtain ⟨h1, h2⟩ := Bool.and_eq_true_iff.mp h
    obtain ⟨v, r, hv⟩ := litV_ok d u h1
    obtain ⟨vs, rs, hvs⟩ := litVs_ok ds us h2
    exact ⟨v :: vs, .cons r rs, fun H Z => Reps.cons (hv H Z) (hvs H Z)⟩
end
/-- the module's name x stands for d -/
def GloV (K : PySem.W.Frag) (mg : Str → Option Value) (x : Str) (d : D) : Prop := ∃ u, mg x = some u ∧ litV K d u = true
/-- .. for a dict with these text keys -/
structure GloD (K : PySem.W.Frag) (w : World) (mg : Str → Option Value) (x : Str) (kvs : List (Str × D)) : Prop where
  ex : ∃ a es n, mg x = some (.ref a) ∧ KDict K w a es n ∧ ∀ q ∈ kvs, ∃ u, PySem.W.nsIn K a q.1 = some (some u) ∧ litV K q.2 u = true
def eKix (kvs : List (Str × D)) (f : EM) : EM := fun ρ => (f ρ).bind fun p => match p.1 with
  | .str s => (kvs.lookup s).map fun d => (d, p.2)
  | _ => none
section
variable {X : Cx} {e : Expr} {pos npos : Pos} {x : Str} {d : D} {W o : Bool} {f : EM} {kvs : List (Str × D)}
theorem de_glob (h : GloV X.K X.mg x d) (hg : Gl X x := by rfl) (hd : (x == ("__debug__" : Str)) = false := by decide) : DE X (.Name x pos) false true 0 (eC d) := by
  obtain ⟨u, h1, h2⟩ := h
  obtain ⟨v, r, hr⟩ := litV_ok d u h2
  exact de_c (pe_glob hg h1 r hd) hr
theorem de_ty {n : String} (hm : X.mg x = none) (hv : bootBuiltins x = some (.type n)) (hg : Gl X x := by rfl) (hn : x ≠ "__name__" := by decide) (hd : (x == ("__debug__" : Str)) = false := by decide) : DE X (.Name x pos) false true 0 (eC (.ty n)) :=
  de_c (pe_bltn hg hm hv (v := .ty n) rfl hn hd) fun H Z => by unfold Rep; rfl
theorem lookup_mem {α : Type} {s : Str} {v : α} : ∀ {l : List (Str × α)}, l.lookup s = some v → (s, v) ∈ l
  | [], h => by cases h
  | (b, u) :: r, h => by
    rw [List.lookup_cons] at h
    split at h
    · rename_i q
      cases h
      rw [eq_of_beq q]
      exact List.mem_cons_self
    · exact List.mem_cons_of_mem _ (lookup_mem h)
/-- a dict of the top asked for a text key -/
theorem de_kix (h : DE X e W o 0 f) (hd : GloD X.K X.w X.mg x kvs) (hs : PlainIx e := by exact fun _ _ => rfl) (hg : Gl X x := by rfl) (hdb : (x == ("__debug__" : Str)) = false := by decide) : DE X (.Subscript (.Name x npos) e pos) W true 0 (eKix kvs f) := by
  obtain ⟨a, es, n, h1, h2, h3⟩ := hd.ex
  refine PE.conv (pe_ix ix_kdict (pe_glob hg h1 (v := .ref a) rfl hdb) h hs) fun σ H Q q => ?_
  obtain ⟨ρ, Z, As, r, d, ρ', ef, q⟩ := q
  unfold eKix at ef
  obtain ⟨⟨y, ρ1⟩, e1, ef⟩ := Option.bind_eq_some_iff.mp ef
  cases y with
  | str s =>
    obtain ⟨d', e2, ef⟩ := Option.map_eq_some_iff.mp (show (kvs.lookup s).map (fun d => (d, ρ1)) = some (d, ρ') from ef)
    cases ef
    obtain ⟨u, g1, g2⟩ := h3 _ (lookup_mem e2)
    obtain ⟨v, rv, hr⟩ := litV_ok d u g2
    refine ⟨ρ, Z, As, r, _, _, e1, fun w H' Z' As' B r' ow c _ => ?_⟩
    have hw := ow.1
    unfold Rep at hw
    exact ⟨a, s, v, rfl, hw.1, ⟨es, n, u, h2.at_, h2.lit, g1, rv⟩, q v H' Z' As' [] r' ⟨hr H' Z', rfl⟩ c fun _ => Sep.nil⟩
  | _ => cases ef
end
/-! ### the built-in names -/
theorem b_len : bootBuiltins "len" = some (.builtin "len") := by decide +kernel
theorem b_abs : bootBuiltins "abs" = some (.builtin "abs") := by decide +kernel
theorem b_all : bootBuiltins "all" = some (.builtin "all") := by decide +kernel
theorem b_any : bootBuiltins "any" = some (.builtin "any") := by decide +kernel
theorem b_max : bootBuiltins "max" = some (.builtin "max") := by decide +kernel
theorem b_min : bootBuiltins "min" = some (.builtin "min") := by decide +kernel
theorem b_sum : bootBuiltins "sum" = some (.builtin "sum") := by decide +kernel
theorem b_isinstance : bootBuiltins "isinstance" = some (.builtin "isinstance") := by decide +kernel
theorem b_int : bootBuiltins "int" = some (.type "int") := by decide +kernel
theorem b_bool : bootBuiltins "bool" = some (.type "bool") := by decide +kernel
theorem b_str : bootBuiltins "str" = some (.type "str") := by decide +kernel
theorem b_list : bootBuiltins "list" = some (.type "list") := by decide +kernel
theorem b_tuple : bootBuiltins "tuple" = some (.type "tuple") := by decide +kernel
theorem b_dict : bootBuiltins "dict" = some (.type "dict") := by decide +kernel
theorem b_range : bootBuiltins "range" = some (.type "range") := by decide +kernel
/-! ### the head's Bool -/
def gloB (K : PySem.W.Frag) (x : Str) (d : D) : Bool := match PySem.W.nsIn K mainGlobals x with
  | some (some u) => litV K d u
  | _ => false
theorem gloB_ok {K : PySem.W.Frag} {h : Heap} {mg : Str → Option Value} (X : K.In h) (G : h.Ns mainGlobals mg) {x : Str} {d : D} (c : gloB K x d = true) : GloV K mg x d := by
  unfold gloB at c
  cases e : PySem.W.nsIn K mainGlobals x with
  | none => rw [e] at c; cases c
  | some o =>
    rw [e] at c
    cases o with
    | none => cases c
    | some u => exact ⟨u, PySem.W.mg_of X G e, c⟩
def tabB (K : PySem.W.Frag) (a : Addr) (kvs : List (Str × D)) : Bool := kvs.all fun q => match PySem.W.nsIn K a q.1 with
  | some (some u) => litV K q.2 u
  | _ => false
theorem tabB_ok {K : PySem.W.Frag} {a : Addr} {kvs : List (Str × D)} (c : tabB K a kvs = true) : ∀ q ∈ kvs, ∃ u, PySem.W.nsIn K a q.1 = some (some u) ∧ litV K q.2 u = true := fun q hq => by
  have c := List.all_eq_true.mp c q hq
  cases e : PySem.W.nsIn K a q.1 with
  | none => rw [e] at c; cases c
  | some o =>
    rw [e] at c
    cases o with
    | none => cases c
    | some u => exact ⟨u, rfl, c⟩
end DL
/-! DL19: moves, minus, whatever is walked, several names at once in the plain order; room -/
namespace DL
open PySem PySem.Spec PyProof.Rows L2

/-! ### a name that owns gives it up -/
def eTake (i m : Nat) : EM := fun ρ => match ρ[i]? with
  | some (some (m', d)) => if m' = m then some (d, ρ.set i none) else none
  | _ => none
section
variable {K : PySem.W.Frag} {ρ ρ' : Env} {σ : L2.St} {H H' : Hp} {Z Z' : Addr → Prop} {As As' : Nat → List Addr} {W : Bool} {i : Nat}
/-- what a name owned is nobody's -/
theorem RS.drop (r : RS K ρ σ H Z As) (i : Nat) : RS K (ρ.set i none) σ H Z (fun j => if j = i then [] else As j) where
  slot := fun j m d e => by
    by_cases hj : j = i
    · subst hj
      by_cases hlt : j < ρ.length
      · rw [List.getElem?_set_self hlt] at e; cases e
      · rw [List.getElem?_eq_none (by simpa using hlt)] at e; cases e
    · rw [List.getElem?_set_ne (Ne.symm hj)] at e
      rw [if_neg hj]
      exact r.slot j m d e
  nd := fun j => by
    by_cases hj : j = i
    · simp only [hj, if_true]; exact List.nodup_nil
    · simp only [hj, if_false]; exact r.nd j
  dj := fun j l a h1 h2 => by
    by_cases hj : j = i
    · simp [hj] at h1
    · by_cases hl : l = i
      · simp [hl] at h2
      · simp only [hj, hl, if_false] at h1 h2; exact r.dj j l a h1 h2
  nz := fun j a h => by
    by_cases hj : j = i
    · simp [hj] at h
    · simp only [hj, if_false] at h; exact r.nz j a h
  mt := fun j a h => by
    by_cases hj : j = i
    · simp [hj] at h
    · simp only [hj, if_false] at h; exact r.mt j a h
  zd := r.zd
  len := by simp [r.len]
end
section
variable {X : Cx} {e a b c tg : Expr} {pos : Pos} {W Wa Wb Wc o oa ob : Bool} {P : List Nat} {k ka kb kc n : Nat} {f fa fb fc : EM} {fi : IM}
theorem de_take (i : Nat) {m : Nat} {x : Str} (hN : X.N[i]? = some x := by rfl) (hv : Vis X.env.scope x := by first | exact Or.inl rfl | exact Or.inr (Or.inl rfl) | exact Or.inr (Or.inr rfl)) (hd : (x == ("__debug__" : Str)) = false := by decide)
    (hcd : (x == ("__classdict__" : Str)) = false := by decide) : DE X (.Name x pos) false true m (eTake i m) := PE.conv (pe_var hN hv hd hcd) fun σ H Q q => by
  obtain ⟨ρ, Z, As, r, d, ρ', ef, q⟩ := q
  unfold eTake at ef
  split at ef
  · rename_i m' d' he
    split at ef
    · rename_i hm
      subst hm
      cases ef
      obtain ⟨v, h1, h2⟩ := r.slot i _ _ he
      refine ⟨v, h1, q v H Z _ _ (r.drop i) h2 (Chg.refl.less fun j a ha => ?_) fun _ => ⟨r.nd i, fun b hb => r.nz i b hb, fun b hb j z => ?_, fun b hb => r.mt i b hb, fun b hb => .inr ⟨i, hb⟩⟩⟩
      · by_cases hj : j = i
        · simp [hj] at ha
        · simpa [hj] using ha
      · by_cases hj : j = i
        · simp [hj] at z
        · simp only [hj, if_false] at z; exact hj (r.dj j i b z hb)
    · cases ef
  · cases ef
/-- minus -/
def eNeg (f : EM) : EM := fun ρ => (f ρ).bind fun p => match p.1 with | .int i => some (.int (-i), p.2) | _ => none
theorem de_neg (h : DE X a Wa oa ka fa) : DE X (.UnaryOp .USub a pos) Wa true 0 (eNeg fa) := PE.conv (pe_un un_neg h) fun σ H Q q => by
  obtain ⟨ρ, Z, As, r, d, ρ', ef, q⟩ := q
  unfold eNeg at ef
  obtain ⟨⟨y, ρ1⟩, e1, ef⟩ := Option.bind_eq_some_iff.mp ef
  cases y with
  | int i =>
    cases ef
    exact ⟨ρ, Z, As, r, _, _, e1, fun v H' Z' As' B r' ow c _ => ⟨i, ow.int, q (.int (-i)) H' Z' As' [] r' ⟨by unfold Rep; rfl, rfl⟩ c fun _ => Sep.nil⟩⟩
  | _ => cases ef
theorem DI.up (h : DI X tg e false fi) : DI X tg e W fi := PI.conv h fun σ H R q => by
  obtain ⟨ρ, Z, As, r, d, ρ', ef, q⟩ := q
  exact ⟨ρ, Z, As, r, d, ρ', ef, fun J H' Z' As' r' c fe => q J H' Z' As' r' c.of_false fe⟩
/-- a list, a tuple, a range: what is walked -/
def iLst' (f : EM) : IM := fun ρ => (f ρ).bind fun p => match p.1 with
  | .lst ds => some (ds, p.2)
  | .tup ds => some (ds, p.2)
  | .ktp ds => some (ds, p.2)
  | .rng lo hi => some (rngL lo (hi - lo).toNat, p.2)
  | _ => none
theorem di_seq (h : DE X e W true 0 f) : DI X tg e W (iLst' f) := ⟨fun pins s σ H R I q => by
  obtain ⟨ρ, Z, As, r, ds, ρ', ef, q⟩ := q
  unfold iLst' at ef
  obtain ⟨⟨d, ρ1⟩, e1, ef⟩ := Option.bind_eq_some_iff.mp ef
  cases d with
  | lst es => exact (di_lst h).run pins s σ H R I ⟨ρ, Z, As, r, ds, ρ', by unfold iLst; rw [e1]; exact ef, q⟩
  | tup es => exact (di_tup h).run pins s σ H R I ⟨ρ, Z, As, r, ds, ρ', by unfold iTp; rw [e1]; exact ef, q⟩
  | ktp es => exact (di_tup h).run pins s σ H R I ⟨ρ, Z, As, r, ds, ρ', by unfold iTp; rw [e1]; exact ef, q⟩
  | rng lo hi => exact (di_rng h).run pins s σ H R I ⟨ρ, Z, As, r, ds, ρ', by unfold iRg; rw [e1]; exact ef, q⟩
  | _ => cases ef⟩
/-- a, b = x, y where the stores go from the left -/
theorem ds_parT {i j : Nat} {x y : Str} {px py pt : Pos} {kt k2 pt2} (hN : X.N.Nodup) (hc : X.calm = true) (ha : DE X a Wa true ka fa) (hb : DE X b Wb true kb fb) (hi : X.N[i]? = some x := by rfl) (hj : X.N[j]? = some y := by rfl) (hij : i ≠ j := by decide) (hp : i ∉ P ∧ j ∉ P := by decide)
    (hx : Loc X.env.scope x := by first | exact .inl rfl | exact .inr rfl) (hy : Loc X.env.scope y := by first | exact .inl rfl | exact .inr rfl)
    (hfx : X.fn x = true ∨ X.env.scope.names.lookup x = some .local := by first | exact .inl rfl | exact .inr rfl) (hfy : X.fn y = true ∨ X.env.scope.names.lookup y = some .local := by first | exact .inl rfl | exact .inr rfl)
    (hw : swappedStores [.Tuple [.Name x px, .Name y py] kt pt] (.Tuple [a, b] k2 pt2) X.env = pure none := by rfl)
    (hs : swapsWithSole [.Tuple [.Name x px, .Name y py] kt pt] (.Tuple [a, b] k2 pt2) pos.line X.env = pure false := by rfl)
    (h1 : (assignEach [.Tuple [.Name x px, .Name y py] kt pt] X.env).map (·.2) = [assign (.Tuple [.Name x px, .Name y py] kt pt) X.env] := by rfl)
    (g1 : (assignEach [.Name x px, .Name y py] X.env).map (·.2) = assign (.Name x px) X.env :: (assignEach [.Name y py] X.env).map (·.2) := by rfl) (g2 : (assignEach [.Name y py] X.env).map (·.2) = assign (.Name y py) X.env :: (assignEach [] X.env).map (·.2) := by rfl)
    (hn : (assignEach [.Name x px, .Name y py] X.env).length = 2 := by rfl) (hst : (assignEach [.Name x px, .Name y py] X.env).findIdx? (·.1) = none := by rfl)
    (st1 : starEach [a, b] X.env = (false, eval a X.env) :: starEach [b] X.env := by rfl) (st2 : starEach [b] X.env = (false, eval b X.env) :: starEach [] X.env := by rfl) :
    DS X (.Assign [.Tuple [.Name x px, .Name y py] kt pt] (.Tuple [a, b] k2 pt2) pos) P n (sPar i j ka kb fa fb) :=
  PS.conv (ps_asg (pe_tup (pa_cons ha (pa_cons hb pa_nil st2) st1)) (pg_tup hc (pgs_cons (pg_name hN hi hx hfx) (pgs_cons (pg_name hN hj hy hfy) pgs_nil g2) g1) hn hst) hs hw h1) fun E σ H q => by
  obtain ⟨ρ, Z, As, r, o, ef, q⟩ := q
  unfold sPar at ef
  obtain ⟨⟨x, ρ1⟩, e1, ef⟩ := Option.bind_eq_some_iff.mp ef
  obtain ⟨⟨y, ρ2⟩, e2, ef⟩ := Option.map_eq_some_iff.mp ef
  cases ef
  refine ⟨ρ, Z, As, r, x, ρ1, e1, fun u H1 Z1 As1 B1 r1 o1 c1 s1 => ?_⟩
  refine ⟨ρ1, Z1, As1, r1, y, ρ2, e2, fun v H2 Z2 As2 B2 r2 o2 c2 s2 => ?_⟩
  have s1 := s1 rfl
  have s2 := s2 rfl
  refine ⟨by show 2 ≤ sizeLine; decide, fun p hp0 => ?_⟩
  have g : Gr H2 Z2 (upd H2 p (.tup [u, v])) Z2 [] := Gr.tup r2.zd hp0
  refine ⟨p, [u, v], rfl, SqT.of upd_same, rfl, u, [v], rfl, v, [], rfl, rfl, ?_⟩
  have cg : Chg false H2 Z2 As2 (upd H2 p (.tup [u, v])) Z2 As2 := Chg.gr g
  have r2' := r2.gr g
  have s1' := s1.wait r1 c2 c1.up
  have o1' := o1.waitB r1 s1 c2
  have c12 := c1.trans r c2
  have ap := s1.apart s2
  have s1'' := s1'.wait r2 cg c12.up
  have o1'' := g.ow o1'
  have s2' := (s2.after c1).wait r2 cg c12.up
  have o2' := g.ow o2
  have c12' := c12.trans r cg
  have r3 := r2'.store (i := i) o1'' s1''
  have c3 := c12'.store s1'' i
  have s2'' : Sep B2 H As (upd H2 p (.tup [u, v])) Z2 (fun l => if l = i then B1 else As2 l) := s2'.stored fun b hb z => ap b z hb
  have r4 := r3.store (i := j) o2' s2''
  have c4 := c3.store s2'' j
  refine q _ _ Z2 _ r4 c4 fun l hl => ?_
  rw [List.getElem?_set_ne fun z => hp.2 (by rw [z]; exact hl), List.getElem?_set_ne fun z => hp.1 (by rw [z]; exact hl)]
end
/-! ### room -/
section
variable {k : Nat} {A : Around}
theorem u1_ (r : Room k A) : A.units + 1 < cLine := by have := r.un; omega
theorem u3_ (r : Room k A) : A.units + 3 < cLine := by have := r.un; omega
theorem u64_ (r : Room k A) : A.units + 64 < cLine := by have := r.un; omega
theorem u65_ (r : Room k A) : A.units + 65 < cLine := by have := r.un; omega
end
/-- the parameters that own -/
def ownPs : Nat → List Nat → List Nat
  | _, [] => []
  | i, 0 :: ms => ownPs (i + 1) ms
  | i, (_ + 1) :: ms => i :: ownPs (i + 1) ms
theorem ownPs_mem : ∀ (ms : List Nat) (j i m : Nat), ms[i]? = some (m + 1) → j + i ∈ ownPs j ms
  | [], j, i, m, h => by simp at h
  | 0 :: ms, j, 0, m, h => by simp at h
  | 0 :: ms, j, i + 1, m, h => by
    unfold ownPs
    have := ownPs_mem ms (j + 1) i m (by simpa using h)
    rw [show j + (i + 1) = j + 1 + i by omega]
    exact this
  | (k + 1) :: ms, j, 0, m, h => by unfold ownPs; simp
  | (k + 1) :: ms, j, i + 1, m, h => by
    unfold ownPs
    have := ownPs_mem ms (j + 1) i m (by simpa using h)
    rw [show j + (i + 1) = j + 1 + i by omega]
    exact List.mem_cons_of_mem _ this
theorem ownP (ms : List Nat) (i m : Nat) (h : ms[i]? = some (m + 1)) : i ∈ ownPs 0 ms := by
  have := ownPs_mem ms 0 i m h
  rwa [Nat.zero_add] at this
end DL
/-! DL20: more that is wanted -/
namespace DL
open PySem PySem.Spec PyProof.Rows L2
/-- (a, b, ..) = a tuple or a list -/
def gTq (n : Nat) (gs : GMs) : GM := fun d ρ => match d with
  | .lst ds => if ds.length = n then gs ds ρ else none
  | d => gTp n gs d ρ
section
variable {X : Cx} {pos : Pos}
theorem dg_seq {es : List Expr} {t m : Nat} {vs : List Nat} {gs : GMs} (hc : X.calm = true) (h : DGs X es vs gs) (hn : (assignEach es X.env).length = m := by rfl) (hst : (assignEach es X.env).findIdx? (·.1) = none := by rfl) : DG X (.Tuple es t pos) vs (gTq m gs) := ⟨fun pins s σ H v u Q I r q => by
  obtain ⟨ρ, Z, As, d, rs, hr, ρ', ef, q⟩ := q
  have dt : DG X (.Tuple es t pos) vs (gTp m gs) := dg_tup hc h hn hst
  have other := fun z => dt.run pins s σ H v u Q I r z
  cases d with
  | lst ds =>
    have ef : (if ds.length = m then gs ds ρ else none) = some ρ' := ef
    split at ef
    · rename_i hl
      refine (pg_unl hc h hn hst).run pins s σ H v u Q I r ?_
      have hr0 := hr
      unfold Rep at hr
      obtain ⟨a, ws, e, _, h1, _, h3⟩ := hr
      exact ⟨a, ws, e, .inl h1, by rw [h3.length, hl], ρ, Z, As, ds, rs, h3, ρ', ef, q⟩
    · cases ef
  | non => exact other ⟨ρ, Z, As, _, rs, hr, ρ', ef, q⟩
  | bl b => exact other ⟨ρ, Z, As, _, rs, hr, ρ', ef, q⟩
  | int b => exact other ⟨ρ, Z, As, _, rs, hr, ρ', ef, q⟩
  | str b => exact other ⟨ρ, Z, As, _, rs, hr, ρ', ef, q⟩
  | tup b => exact other ⟨ρ, Z, As, _, rs, hr, ρ', ef, q⟩
  | ktp b => exact other ⟨ρ, Z, As, _, rs, hr, ρ', ef, q⟩
  | dct a b c => exact other ⟨ρ, Z, As, _, rs, hr, ρ', ef, q⟩
  | rng b c => exact other ⟨ρ, Z, As, _, rs, hr, ρ', ef, q⟩
  | ty b => exact other ⟨ρ, Z, As, _, rs, hr, ρ', ef, q⟩⟩
end
end DL
/-! DL21: sorted over data: lists of ints, of tuples of ints, dicts whose keys are ints -/
namespace DL
open PySem PySem.Spec PyProof.Rows L2

/-! ### in plain words -/
def insG {α : Type} (lt : α → α → Bool) (x : α) : List α → List α
  | [] => [x]
  | y :: ys => if lt x y = true then x :: y :: ys else y :: insG lt x ys
def isG {α : Type} (lt : α → α → Bool) : List α → List α
  | [] => []
  | x :: xs => insG lt x (isG lt xs)
section
variable {α : Type} {lt : α → α → Bool}
theorem insG_perm (x : α) : ∀ ys : List α, (insG lt x ys).Perm (x :: ys)
  | [] => List.Perm.refl _
  | y :: ys => by
    unfold insG
    split
    · exact List.Perm.refl _
    · exact ((insG_perm x ys).cons y).trans (List.Perm.swap x y ys)
theorem isG_perm : ∀ xs : List α, (isG lt xs).Perm xs
  | [] => List.Perm.refl _
  | x :: xs => (insG_perm x (isG lt xs)).trans ((isG_perm xs).cons x)
/-- ascending -/
abbrev Asc (lt : α → α → Bool) (l : List α) : Prop := l.Pairwise fun a b => lt b a = false
theorem insG_asc (O : SrtO.Swo lt) (x : α) : ∀ ys : List α, Asc lt ys → Asc lt (insG lt x ys)
  | [], _ => List.pairwise_singleton _ _
  | y :: ys, h => by
    obtain ⟨h1, h2⟩ := List.pairwise_cons.mp h
    unfold insG
    split
    · rename_i hx
      refine List.pairwise_cons.mpr ⟨fun z hz => ?_, h⟩
      rcases List.mem_cons.mp hz with rfl | hz
      · exact O.asym _ _ hx
      · exact O.tr x y z (O.asym _ _ hx) (h1 z hz)
    · rename_i hx
      have hx : lt x y = false := by simpa using hx
      refine List.pairwise_cons.mpr ⟨fun z hz => ?_, insG_asc O x ys h2⟩
      rcases List.mem_cons.mp ((insG_perm x ys).mem_iff.mp hz) with rfl | hz
      · exact hx
      · exact h1 z hz
theorem isG_asc (O : SrtO.Swo lt) : ∀ xs : List α, Asc lt (isG lt xs)
  | [] => List.Pairwise.nil
  | x :: xs => insG_asc O x _ (isG_asc O xs)
/-- there is just one ascending rearrangement -/
theorem asc_uniq (anti : ∀ a b, lt a b = false → lt b a = false → a = b) : ∀ {l m : List α}, l.Perm m → Asc lt l → Asc lt m → l = m
  | [], m, p, _, _ => (List.Perm.nil_eq p)
  | x :: l, m, p, h1, h2 => by
    cases m with
    | nil => exact absurd p.length_eq (by simp)
    | cons y m =>
      obtain ⟨a1, a2⟩ := List.pairwise_cons.mp h1
      obtain ⟨b1, b2⟩ := List.pairwise_cons.mp h2
      have e : x = y := by
        have hx : x ∈ y :: m := p.mem_iff.mp List.mem_cons_self
        have hy : y ∈ x :: l := p.mem_iff.mpr List.mem_cons_self
        rcases List.mem_cons.mp hx with e | hx
        · exact e
        · rcases List.mem_cons.mp hy with e | hy
          · exact e.symm
          · exact anti x y (b1 x hx) (a1 y hy)
      subst e
      rw [asc_uniq anti ((List.perm_cons x).mp p) a2 b2]
end
/-- x before y, ints -/
def ltI (x y : Int) : Bool := decide (x < y)
theorem ltI_swo : SrtO.Swo ltI := ⟨fun x y h => by have := of_decide_eq_true h; exact decide_eq_false (by omega), fun x y z h1 h2 => by
  have := of_decide_eq_false h1
  have := of_decide_eq_false h2
  exact decide_eq_false (by omega)⟩
theorem ltI_anti (a b : Int) (h1 : ltI a b = false) (h2 : ltI b a = false) : a = b := by
  have := of_decide_eq_false h1
  have := of_decide_eq_false h2
  omega
/-- x before y, lists of ints -/
def ltL : List Int → List Int → Bool
  | _, [] => false
  | [], _ :: _ => true
  | x :: xs, y :: ys => if x = y then ltL xs ys else decide (x < y)
theorem ltL_cons (x y : Int) (xs ys : List Int) : ltL (x :: xs) (y :: ys) = if x = y then ltL xs ys else decide (x < y) := rfl
theorem ltL_anti : ∀ a b : List Int, ltL a b = false → ltL b a = false → a = b
  | [], [], _, _ => rfl
  | [], _ :: _, h, _ => by cases h
  | _ :: _, [], _, h => by cases h
  | x :: xs, y :: ys, h1, h2 => by
    rw [ltL_cons] at h1 h2
    by_cases e : x = y
    · subst e
      rw [if_pos rfl] at h1 h2
      rw [ltL_anti xs ys h1 h2]
    · rw [if_neg e] at h1
      rw [if_neg (Ne.symm e)] at h2
      have := of_decide_eq_false h1
      have := of_decide_eq_false h2
      omega
theorem ltL_asym : ∀ a b : List Int, ltL a b = true → ltL b a = false
  | [], [], h => by cases h
  | [], _ :: _, _ => rfl
  | _ :: _, [], h => by cases h
  | x :: xs, y :: ys, h => by
    rw [ltL_cons] at h ⊢
    by_cases e : x = y
    · subst e
      rw [if_pos rfl] at h ⊢
      exact ltL_asym xs ys h
    · rw [if_neg e] at h
      rw [if_neg (Ne.symm e)]
      have := of_decide_eq_true h
      exact decide_eq_false (by omega)
theorem ltL_tr : ∀ x y z : List Int, ltL y x = false → ltL z y = false → ltL z x = false
  | [], _, z, _, _ => by cases z <;> rfl
  | _ :: _, [], _, h, _ => by cases h
  | _ :: _, _ :: _, [], _, h => by cases h
  | a :: x, b :: y, c :: z, h1, h2 => by
    rw [ltL_cons] at h1 h2 ⊢
    by_cases e1 : b = a
    · subst e1
      rw [if_pos rfl] at h1
      by_cases e2 : c = b
      · subst e2
        rw [if_pos rfl] at h2 ⊢
        exact ltL_tr x y z h1 h2
      · rw [if_neg e2] at h2 ⊢
        exact h2
    · rw [if_neg e1] at h1
      have q1 := of_decide_eq_false h1
      by_cases e2 : c = b
      · subst e2
        rw [if_neg e1]
        exact h1
      · rw [if_neg e2] at h2
        have q2 := of_decide_eq_false h2
        rw [if_neg (by omega)]
        exact decide_eq_false (by omega)
theorem ltL_swo : SrtO.Swo ltL := ⟨ltL_asym, ltL_tr⟩

/-! ### sorted of tuples of ints, at the library's level -/
section
variable {prog : Program} {w : World} {A : Around} {E : Value → Shared → Prop} {s : Shared}
/-- the object of a value is a tuple of these ints -/
def TupN (h : Heap) (v : Value) (ns : List Int) : Prop := ∃ (a : Addr) (o : Obj) (xs : List Value) (n : Nat), v = .ref a ∧ h.get? a = some o ∧ o.cls = .type "tuple" ∧ o.data = .seq xs.toArray n ∧ IntsAre xs ns
theorem TupN.keeps {h h' : Heap} {v : Value} {ns : List Int} (t : TupN h v ns) (k : ∀ b o, h.get? b = some o → o.cls = .type "tuple" → h'.get? b = some o) : TupN h' v ns := by
  obtain ⟨a, o, xs, n, e, ho, hc, hd, hi⟩ := t
  exact ⟨a, o, xs, n, e, k _ _ ho hc, hc, hd, hi⟩
theorem ltL_fin : ∀ (ns ms : List Int), ns = [] ∨ ms = [] → ltL ns ms = decide (ns.length < ms.length)
  | [], [], _ => rfl
  | [], _ :: _, _ => by simp [ltL]
  | _ :: _, [], _ => by simp [ltL]
  | _ :: _, _ :: _, h => by rcases h with h | h <;> cases h
theorem katInts {fin : Bool} {Q : Bool → Shared → Prop} {xs : List Value} {ns : List Int} (hx : IntsAre xs ns) : ∀ {ys : List Value} {ms : List Int} (i : Nat), IntsAre ys ms → fin = decide (ns.length < ms.length) → Q (ltL ns ms) s → PySem.W.KatLex prog w A true fin Q (xs.zip ys) i s := by
  induction hx with
  | nil =>
    intro ys ms i hy ef q
    rw [ltL_fin _ _ (.inl rfl), ← ef] at q
    exact PySem.W.kat_nil q
  | cons a t hx ih =>
    intro ys ms i hy ef q
    cases hy with
    | nil =>
      rw [ltL_fin _ _ (.inr rfl), ← ef] at q
      exact PySem.W.kat_nil q
    | cons b u hy =>
      rw [List.zip_cons_cons]
      refine PySem.W.kat_cons (SeqAt.EqAt.int_int a t b u prog w _ _ ?_)
      refine PySem.W.kat_go (fun e => ?_) (fun e => ?_)
      · have e : a = b := by simpa using e
        subst e
        rw [ltL_cons, if_pos rfl] at q
        refine PySem.W.kat_yes (ih (i + 1) hy ?_ q)
        rw [ef]
        simp
      · have e : ¬ a = b := by simpa using e
        rw [ltL_cons, if_neg e] at q
        refine PySem.W.kat_no ?_
        by_cases h0 : i = 0
        · subst h0
          exact oneLt_int q
        · have : (true && i == 0) = false := by simp [h0]
          rw [this]
          exact PySem.W.kat_one _ _ (PyProof.Rows.lt_int q)
theorem tupFirsts {h : Heap} : ∀ {vs : List Value}, (∀ v ∈ vs, ∃ ns, ns ≠ [] ∧ TupN h v ns) → ∃ fs : List Value, PySem.W.KatTups h vs fs ∧ fs.length = vs.length ∧ ∀ f ∈ fs, ∃ x t, f = Value.int x t
  | [], _ => ⟨[], PySem.W.KatTups.nil, rfl, fun _ hm => absurd hm (by simp)⟩
  | v :: vs, hp => by
    obtain ⟨fs, k1, k2, k3⟩ := tupFirsts (vs := vs) fun u hu => hp u (List.mem_cons_of_mem _ hu)
    obtain ⟨ns, hne, a, o, xs, n, rfl, ho, hc, hd, hi⟩ := hp v List.mem_cons_self
    cases hi with
    | nil => exact absurd rfl hne
    | cons b t hi =>
      refine ⟨.int b t :: fs, PySem.W.KatTups.cons ho hc hd (by simp) k1, by rw [List.length_cons, List.length_cons, k2], fun f hf => ?_⟩
      rcases List.mem_cons.mp hf with rfl | hf
      · exact ⟨b, t, rfl⟩
      · exact k3 f hf
theorem tup_sortable {a : Addr} {vs : List Value} {k : Value → List Int} (h0 : 0 < vs.length) (hp : ∀ v ∈ vs, k v ≠ [] ∧ TupN s.heap v (k v)) (ha : ∀ o, s.heap.get? a = some o → o.cls ≠ .type "tuple") :
    SrtO.SortableO prog w A s a vs fun v u => ltL (k v) (k u) := by
  intro h' keep
  have hp' : ∀ v ∈ vs, k v ≠ [] ∧ TupN h' v (k v) := fun v hm => ⟨(hp v hm).1, (hp v hm).2.keeps fun b o e c => keep b o (fun z => by subst z; exact ha o e c) e⟩
  obtain ⟨fs, h1, h2, h3⟩ := tupFirsts fun v hm => ⟨_, hp' v hm⟩
  refine ⟨tuples' true, fun Q E hq => ?_, ?_⟩
  · refine PySem.W.kat_kind (T := .type "int") h1 (by omega) (fun f hm => ?_) (by rfl) ?_
    · obtain ⟨x, t, rfl⟩ := h3 f hm
      exact PySem.W.Looks.now
    · have e : (Value.type "int" != Value.type "tuple") = true := by first | decide +kernel | rfl
      rw [e]
      exact hq
  · intro p q hm hm'
    obtain ⟨_, x, ox, xs, n, e1, ho, hc, hd, hi⟩ := hp' _ hm
    obtain ⟨_, y, oy, ys, m, e2, ho', hc', hd', hi'⟩ := hp' _ hm'
    show wpAny (model prog w) A (keyLt' (tuples' true) p.1 q.1) (fun r s' => s' = { s with heap := h' } ∧ r = ltL (k p.1) (k q.1)) (fun _ _ => False) _
    generalize k p.1 = ns at hi ⊢
    generalize k q.1 = ms at hi' ⊢
    rw [e1, e2]
    refine PySem.W.kat_lt ho hd ho' hd' ?_
    rw [List.size_toArray, List.size_toArray]
    exact katInts hi 0 hi' (by rw [hi.length, hi'.length]) ⟨rfl, rfl⟩
end

/-! ### as a rule of the hand layer -/
/-- the ints of a tuple -/
def keyV (H : Hp) : V → List Int
  | .ref a => match H a with
    | some (.tup xs) => xs.map fun v => match v with | .int i => i | _ => 0
    | _ => []
  | _ => []
theorem keyV_of {H : Hp} {a : Addr} {ns : List Int} (h : H a = some (.tup (ns.map V.int))) : keyV H (.ref a) = ns := by
  simp only [keyV, h]
  rw [List.map_map]
  exact List.map_id' ns
def rSortedTI (K : PySem.W.Frag) : List V → Hp → VK → Prop := fun vs H Q => ∃ (a : Addr) (xs : List V), vs = [V.ref a] ∧ SqL K H a xs ∧ (∀ x ∈ xs, ∃ (t : Addr) (ns : List Int), x = V.ref t ∧ ns ≠ [] ∧ H t = some (.tup (ns.map V.int))) ∧
  ∀ ys p, ys.Perm xs → Asc ltL (ys.map (keyV H)) → H p = none → Q (.ref p) (upd H p (.lst ys))
theorem cr_sortedTI {X : Cx} : CallR X (.builtin "sorted") (rSortedTI X.K) := by
  intro pins s σ H vs us Q I r h
  obtain ⟨a, xs, rfl, hs, hx, q⟩ := h
  obtain ⟨its, rv, hl, hz⟩ := I.list hs
  obtain ⟨u, rfl, ru⟩ := vals1 r
  obtain rfl : u = Value.ref a := ru
  obtain ⟨e1, e2⟩ := refs_back rv fun x m => by
    obtain ⟨t, _, e, _⟩ := hx x m
    exact ⟨t, e⟩
  have hp : ∀ v ∈ its, keyV H (backV v) ≠ [] ∧ TupN s.heap v (keyV H (backV v)) := fun v hv => by
    obtain ⟨t, rfl⟩ := e2 v hv
    have hm : V.ref t ∈ xs := by rw [e1]; exact List.mem_map.mpr ⟨_, hv, rfl⟩
    obtain ⟨t', ns, e, hne, ht⟩ := hx _ hm
    cases e
    show keyV H (.ref t) ≠ [] ∧ TupN s.heap (.ref t) (keyV H (.ref t))
    rw [keyV_of ht]
    obtain ⟨_, its2, r2, o, ho, hc, n, hd⟩ := I.hok _ _ ht
    exact ⟨hne, t, o, its2, n, rfl, ho, hc, hd, Vals.ints r2⟩
  refine SrtO.sorted_ord (ltv := fun v u => ltL (keyV H (backV v)) (keyV H (backV u))) ⟨fun x y => ltL_asym _ _, fun x y z => ltL_tr _ _ _⟩ hl.isList (by rw [← rv.length]; exact hz) (fun h2 h₁ a' ha' kk => ?_) fun out h1 h2 => ?_
  · refine tup_sortable (s := { s with heap := h₁ }) (k := fun v => keyV H (backV v)) (by omega) (fun v hv => ⟨(hp v hv).1, (hp v hv).2.keeps fun b o e _ => (kk b o e).2⟩) fun o e => ?_
    have e' : some o = some (seqObj "list" its.toArray 0) := e.symm.trans ha'
    cases e'
    intro c
    exact absurd (Value.type.inj c) (by decide)
  · have h3 : ∀ u ∈ out, ∃ a, u = Value.ref a := fun u hu => e2 u (h2.perm.mem_iff.mp hu)
    obtain ⟨n, hn⟩ := PyProof.Rows.sortedAll_at s.heap its out.toArray
    have hpm : (out.map backV).Perm xs := by rw [e1]; exact h2.perm.map _
    have hlen : (out.map backV).length ≤ sizeLine := by rw [hpm.length_eq]; exact hz
    refine ⟨.ref _, upd H (s.heap.objs.size + 1) (.lst (out.map backV)), I.laid (t' := s.toks) (fun _ _ => PyProof.Rows.sortedAll_old) (Nat.le_succ _) ⟨hlen, out, n, vals_back h3, hn⟩, rfl, q _ _ hpm ?_ (I.hok.fresh (Nat.le_succ _))⟩
    rw [List.map_map]
    exact List.pairwise_map.mpr h1
end DL
/-! DL22: sorted of data, index, slices whose bounds write -/
namespace DL
open PySem PySem.Spec PyProof.Rows L2
theorem b_sorted : bootBuiltins "sorted" = some (.builtin "sorted") := by rfl
def tupIs : D → Option (List Int)
  | .tup ds => allInts ds
  | _ => none
def allTI : List D → Option (List (List Int))
  | [] => some []
  | d :: ds => (tupIs d).bind fun ns => if ns = [] then none else (allTI ds).map fun r => ns :: r
def dSorted : List D → Option D
  | [.lst ds] => match allInts ds with
    | some ns => some (.lst ((isG ltI ns).map .int))
    | none => (allTI ds).map fun nss => .lst ((isG ltL nss).map fun ns => .tup (ns.map .int))
  | [.dct false ks _] => (allInts ks).bind fun is => if is.length < 64 then some (.lst ((isG ltI is).map .int)) else none
  | _ => none
section
variable {X : Cx} {K : PySem.W.Frag} {H : Hp} {Z : Addr → Prop}
theorem allInts_eq : ∀ {ds : List D} {ns : List Int}, allInts ds = some ns → ds = ns.map .int
  | [], ns, h => by cases h; rfl
  | d :: ds, ns, h => by
    cases d with
    | int b =>
      obtain ⟨r, e1, e2⟩ := Option.map_eq_some_iff.mp (show (allInts ds).map (b :: ·) = some ns from h)
      rw [allInts_eq e1, ← e2]
      rfl
    | _ => cases h
theorem reps_ints (ns : List Int) : Reps K H Z (ns.map .int) (ns.map V.int) := by
  induction ns with
  | nil => exact Reps.nil
  | cons n ns ih => exact Reps.cons (by unfold Rep; rfl) ih
theorem isI_le (ns : List Int) : (isG ltI ns).Pairwise (· ≤ ·) := (isG_asc ltI_swo ns).imp fun {a b} h => Int.not_lt.mp (of_decide_eq_false h)
theorem isI_uniq {ns ms : List Int} (p : ns.Perm ms) (h : ns.Pairwise (· ≤ ·)) : ns = isG ltI ms :=
  asc_uniq (lt := ltI) ltI_anti (p.trans (isG_perm ms).symm) (h.imp fun {a b} q => decide_eq_false (Int.not_lt.mpr q)) (isG_asc ltI_swo ms)
/-- each one a tuple of ints -/
theorem allTI_rep : ∀ {ds : List D} {nss : List (List Int)} {vs : List V}, allTI ds = some nss → Reps K H Z ds vs → ds = nss.map (fun ns => .tup (ns.map .int)) ∧ (∀ v ∈ vs, ∃ (t : Addr) (ns : List Int), v = V.ref t ∧ ns ≠ [] ∧ ns.length ≤ sizeLine ∧ H t = some (.tup (ns.map V.int))) ∧ vs.map (keyV H) = nss
  | [], nss, vs, e, h => by
    cases e
    unfold Reps at h
    subst h
    exact ⟨rfl, fun v hv => absurd hv (by simp), rfl⟩
  | d :: ds, nss, vs, e, h => by
    obtain ⟨ns, e1, e⟩ := Option.bind_eq_some_iff.mp (show (tupIs d).bind (fun ns => if ns = [] then none else (allTI ds).map fun r => ns :: r) = some nss from e)
    split at e
    · cases e
    · rename_i hne
      obtain ⟨r, e2, e3⟩ := Option.map_eq_some_iff.mp e
      unfold Reps at h
      obtain ⟨v, vr, rfl, h1, h2⟩ := h
      obtain ⟨k1, k2, k3⟩ := allTI_rep e2 h2
      cases d with
      | tup es =>
        have e1 : allInts es = some ns := e1
        unfold Rep at h1
        obtain ⟨t, ws, ev, ht, hl, hr⟩ := h1
        have ew := allInts_vals e1 hr
        rw [ew] at ht hl
        rw [List.length_map] at hl
        refine ⟨?_, fun u hu => ?_, ?_⟩
        · rw [← e3, k1, allInts_eq e1]
          rfl
        · rcases List.mem_cons.mp hu with rfl | hu
          · exact ⟨t, ns, ev, hne, hl, ht⟩
          · exact k2 u hu
        · rw [List.map_cons, k3, ← e3, ev, keyV_of ht]
      | _ => cases e1
theorem reps_tups : ∀ {vs : List V}, (∀ v ∈ vs, ∃ (t : Addr) (ns : List Int), v = V.ref t ∧ ns ≠ [] ∧ ns.length ≤ sizeLine ∧ H t = some (.tup (ns.map V.int))) → Reps K H Z ((vs.map (keyV H)).map fun ns => .tup (ns.map .int)) vs
  | [], _ => Reps.nil
  | v :: vs, h => by
    obtain ⟨t, ns, ev, _, hl, ht⟩ := h v List.mem_cons_self
    rw [List.map_cons, List.map_cons]
    refine Reps.cons ?_ (reps_tups fun u hu => h u (List.mem_cons_of_mem _ hu))
    rw [ev, keyV_of ht]
    unfold Rep
    exact ⟨t, _, rfl, ht, by rw [List.length_map]; exact hl, reps_ints ns⟩
theorem o_sorted (hc : X.calm = true) {ds : List D} {d : D} (h : dSorted ds = some d) : ∃ r, CallR X (.builtin "sorted") r ∧ CallAt X.K r ds d 1 := by
  match ds, h with
  | [.lst es], h =>
    cases hi : allInts es with
    | some ns =>
      have h : some (D.lst ((isG ltI ns).map .int)) = some d := by rw [← h]; simp only [dSorted, hi]
      cases h
      refine ⟨_, cr_sortedI, fun H Z ks vs zd hk os Q q => ?_⟩
      obtain ⟨v, n, B, rfl, rfl, ow⟩ := one_own os
      obtain ⟨a, ws, ev, h1, h2, h3⟩ := ow.lst1 (hk n (by simp))
      have ew := allInts_vals hi h3
      subst ew
      refine ⟨a, ns, by rw [ev], .inl h1, fun ns' p hp ha hn => ?_⟩
      rw [isI_uniq hp ha]
      obtain ⟨g, o⟩ := lst_new (K := X.K) (Z := Z) zd hn (reps_ints (K := X.K) (H := H) (isG ltI ns)) (by rw [List.length_map, (isG_perm ns).length_eq]; rw [List.length_map] at h2; exact h2)
      exact q _ _ _ _ g o
    | none =>
      have h : (allTI es).map (fun nss => D.lst ((isG ltL nss).map fun ns => .tup (ns.map .int))) = some d := by rw [← h]; simp only [dSorted, hi]
      obtain ⟨nss, e, h⟩ := Option.map_eq_some_iff.mp h
      subst h
      refine ⟨_, cr_sortedTI, fun H Z ks vs zd hk os Q q => ?_⟩
      obtain ⟨v, n, B, rfl, rfl, ow⟩ := one_own os
      obtain ⟨a, ws, ev, h1, h2, h3⟩ := ow.lst1 (hk n (by simp))
      obtain ⟨k1, k2, k3⟩ := allTI_rep e h3
      refine ⟨a, ws, by rw [ev], .inl h1, fun x hx => let ⟨t, ns, r1, r2, _, r3⟩ := k2 x hx; ⟨t, ns, r1, r2, r3⟩, fun ys p hp ha hn => ?_⟩
      have e2 : ys.map (keyV H) = isG ltL nss := by
        refine asc_uniq (lt := ltL) ltL_anti ?_ ha (isG_asc ltL_swo nss)
        rw [← k3]
        exact (hp.map _).trans (isG_perm _).symm
      have rp : Reps X.K H Z ((isG ltL nss).map fun ns => .tup (ns.map .int)) ys := by
        rw [← e2]
        exact reps_tups fun v hv => k2 v (hp.mem_iff.mp hv)
      obtain ⟨g, o⟩ := lst_new (K := X.K) (Z := Z) zd hn rp (by rw [hp.length_eq]; exact h2)
      exact q _ _ _ _ g o
  | [.dct false kk xs], h =>
    obtain ⟨is, e1, h⟩ := Option.bind_eq_some_iff.mp (show (allInts kk).bind (fun is => if is.length < 64 then some (D.lst ((isG ltI is).map .int)) else none) = some d from h)
    split at h
    · rename_i h64
      cases h
      refine ⟨_, call_sortedDI hc, fun H Z ks vs zd hk os Q q => ?_⟩
      obtain ⟨v, n, B, rfl, rfl, ow⟩ := one_own os
      obtain ⟨a, ev, ps, hd, hks, _⟩ := ow.read.dct
      have e2 : ps.map (·.1) = is.map Sum.inl := by
        rw [allInts_eq e1] at hks
        have : (is.map Sum.inl).map some = (ps.map (·.1)).map (some : Key → Option Key) := by
          rw [List.map_map, List.map_map] 
          rw [List.map_map] at hks
          exact hks
        exact ((List.map_inj_right fun x y e => Option.some.inj e).mp this).symm
      refine ⟨a, ps, is, by rw [ev], hd, e2, h64, fun ys p hp ha hn => ?_⟩
      rw [isI_uniq hp ha]
      obtain ⟨g, o⟩ := lst_new (K := X.K) (Z := Z) zd hn (reps_ints (K := X.K) (H := H) (isG ltI is)) (by rw [List.length_map, (isG_perm is).length_eq, sizeLine_eq]; omega)
      exact q _ _ _ _ g o
    · cases h
end
end DL
/-! DL23: methods of lists that change nothing (index), slices whose bounds write, len(set(..)) -/
namespace DL
open PySem PySem.Spec PyProof.Rows L2
/-- a method of a list that leaves it: r answers as told -/
def MqAt (K : PySem.W.Frag) (r : V → List V → Hp → VK → Prop) (ds as : List D) (d : D) (k : Nat) : Prop := ∀ (H : Hp) (Z : Addr → Prop) (j : Nat) (ks : List Nat) (u : V) (vs : List V) (Bx : List Addr), (∀ a, Z a → H a ≠ none) → j ≤ 1 → (∀ i ∈ ks, i ≤ 1) → Own K H Z j (.lst ds) u Bx → Owns K H Z ks as vs →
  ∀ Q : VK, (∀ w H' Z' B, Gr H Z H' Z' B → Own K H' Z' k d w B → Q w H') → r u vs H Q
def eMq (g : List D → List D → Option D) (fo : EM) (fs : AM) : EM := fun ρ => (fo ρ).bind fun p => match p.1 with
  | .lst ds => (fs p.2).bind fun q => (g ds q.1).map fun d => (d, q.2)
  | _ => none
section
variable {X : Cx} {o e : Expr} {es : List Expr} {apos cpos : Pos} {Wo W oo : Bool} {ko k : Nat} {ks : List Nat} {fo : EM} {fs : AM}
theorem de_mq {name : Str} {id : String} {g : List D → List D → Option D} (slot : Slot "list" name id) (hty : typeOf (.builtin id) = pure (.type "method_descriptor"))
    (hg : ∀ ds as d, g ds as = some d → ∃ r, MtR X id r ∧ MqAt X.K r ds as d k) (ho : DE X o Wo oo ko fo) (h : DA X (e :: es) W ks fs) (hw : ko = 0 ∨ W = false := by first | exact .inl rfl | exact .inr rfl) (hko : ko ≤ 1 := by decide) (hks : ∀ i ∈ ks, i ≤ 1 := by decide)
    (hbase : attributeBase o name X.env (eval o X.env) = eval o X.env := by rfl)
    (hfew : ((backTo cpos (starEach (e :: es) X.env)).all (fun x => !x.1) && (backToKw cpos (keywordEach [] X.env)).all (fun x => x.1.isSome) && decide ((e :: es).length + ([] : List Keyword).length + (if ([] : List Keyword).isEmpty then 0 else 1) < 30)) = true := by rfl)
    (hline : (apos.endLine == cpos.line) = true := by rfl) (hs : starEach (e :: es) X.env = (false, eval e X.env) :: starEach es X.env := by rfl) (hplain : (backTo cpos (starEach es X.env)).any (·.1) = false := by rfl) :
    DE X (.Call (.Attribute o name apos) (e :: es) [] cpos) (Wo || W) true k (eMq g fo fs) := by
  refine ⟨fun pins st σ H Q I q => ?_⟩
  obtain ⟨ρ, Z, As, r, d, ρ', ef, q⟩ := q
  unfold eMq at ef
  obtain ⟨⟨x, ρ1⟩, e1, ef⟩ := Option.bind_eq_some_iff.mp ef
  cases x with
  | lst ds =>
    obtain ⟨⟨as, ρ2⟩, e2, ef⟩ := Option.bind_eq_some_iff.mp (show ((fs ρ1).bind fun q => (g ds q.1).map fun d => (d, q.2)) = some (d, ρ') from ef)
    obtain ⟨d', e3, ef⟩ := Option.map_eq_some_iff.mp ef
    cases ef
    obtain ⟨rr, hm, hr⟩ := hg _ _ _ e3
    refine (pe_bm PySem.F.plainAttrs_list slot hty hm ho h hbase hfew hline hs hplain).run pins st σ H Q I ?_
    refine ⟨ρ, Z, As, r, _, ρ1, e1, fun u H1 Z1 As1 B1 r1 o1 c1 _ => ⟨?_, ?_⟩⟩
    · obtain ⟨a, vs, B', ev, h1, _, _⟩ := o1.items
      rw [ev]
      exact .inl ⟨rfl, _, h1⟩
    · refine ⟨ρ1, Z1, As1, r1, as, ρ2, e2, fun vs H2 Z2 As2 r2 o2 c2 => ?_⟩
      refine hr H2 Z2 ko ks u vs B1 r2.zd hko hks (o1.wait r1 c2 hw) o2 Q fun w H3 Z3 B g3 o3 => ?_
      have c := c1.trans r c2
      refine q w H3 Z3 As2 B (r2.gr g3) o3 ?_ fun _ => Sep.gr r2 c g3
      have := c.trans r (Chg.gr (W := false) (As := As2) g3)
      simpa using this
  | _ => cases ef
/-- xs.index(x) -/
def gIndex (ds as : List D) : Option D := match as with
  | [x] => (toPy x).bind fun p => (toPys ds).bind fun qs => if pyOk p = true ∧ pyOk (.list qs) = true then (qs.findIdx? fun z => PyData.eqv z p).map fun (j : Nat) => D.int (j : Int) else none
  | _ => none
theorem o_index (hu : X.A.units + 65 < cLine) {ds as : List D} {d : D} (h : gIndex ds as = some d) : ∃ r, MtR X "list.index" r ∧ MqAt X.K r ds as d k := by
  match as, h with
  | [x], h =>
    obtain ⟨p, e1, h⟩ := Option.bind_eq_some_iff.mp (show (toPy x).bind (fun p => (toPys ds).bind fun qs => if pyOk p = true ∧ pyOk (.list qs) = true then (qs.findIdx? fun z => PyData.eqv z p).map fun (j : Nat) => D.int (j : Int) else none) = some d from h)
    obtain ⟨qs, e2, h⟩ := Option.bind_eq_some_iff.mp h
    split at h
    · rename_i hc
      obtain ⟨j, e3, h⟩ := Option.map_eq_some_iff.mp h
      subst h
      obtain ⟨hj, h4, h5⟩ := List.findIdx?_eq_some_iff_getElem.mp e3
      refine ⟨_, mt_indexD hu, fun H Z jj ks u vs Bx zd hj1 hks ow os Q q => ?_⟩
      obtain ⟨v, n, B, rfl, rfl, ow2⟩ := one_own os
      obtain ⟨a1, a2⟩ := Rep.dp x v p ow2.read e1
      have et : toPy (.lst ds) = some (.list qs) := by unfold toPy; rw [e2]; rfl
      obtain ⟨b1, b2⟩ := Rep.dp _ u _ ow.read et
      obtain ⟨a, ws, B', ev, _⟩ := ow.items
      subst ev
      refine ⟨a, v, p, qs, j, qs[j], rfl, rfl, b1, a1, shaped_of b2 (of_decide_eq_true hc.2), shaped_of a2 (of_decide_eq_true hc.1), List.getElem?_eq_getElem hj, h4, fun m z' hm hz => ?_, q _ H Z [] (Gr.refl zd) ow_int⟩
      obtain ⟨hm2, e5⟩ := List.getElem?_eq_some_iff.mp hz
      have := h5 m hm
      rw [e5] at this
      simpa using this
    · cases h
/-- slices whose bounds may write -/
theorem de_sliceW {lo hi : Option Expr} {p2 pos : Pos} {We Wl Wh : Bool} {fl fh : OM} (he : DE X o We oo 0 fo) (hl : DO X lo Wl fl) (hh : DO X hi Wh fh) : DE X (.Subscript o (.Slice lo hi none p2) pos) (We || Wl || Wh) true 1 (eSl fo fl fh) := by
  refine ⟨fun pins s σ H Q I q => ?_⟩
  obtain ⟨ρ, Z, As, r, d, ρ', ef, q⟩ := q
  unfold eSl at ef
  obtain ⟨⟨x, ρ1⟩, e1, ef⟩ := Option.bind_eq_some_iff.mp ef
  obtain ⟨⟨i, ρ2⟩, e2, ef⟩ := Option.bind_eq_some_iff.mp ef
  obtain ⟨⟨j, ρ3⟩, e3, ef⟩ := Option.bind_eq_some_iff.mp ef
  obtain ⟨d', e4, ef⟩ := Option.map_eq_some_iff.mp ef
  cases ef
  obtain ⟨rr, hr0, hr⟩ := o_sl (X := X) e4
  refine (pe_slice hr0 he hl hh).run pins s σ H Q I ?_
  refine ⟨ρ, Z, As, r, x, ρ1, e1, fun u H1 Z1 As1 B1 r1 o1 c1 _ => ?_⟩
  refine ⟨ρ1, Z1, As1, r1, i, ρ2, e2, fun H2 Z2 As2 r2 c2 => ?_⟩
  refine ⟨ρ2, Z2, As2, r2, j, _, e3, fun H3 Z3 As3 r3 c3 => ?_⟩
  refine hr H3 Z3 0 u B1 r3.zd (by decide) ((o1.wait r1 c2 (.inl rfl)).wait r2 c3 (.inl rfl)) Q fun w H4 Z4 B g o4 => ?_
  have c : Chg (We || Wl || Wh) H Z As H3 Z3 As3 := (c1.trans r c2).trans r c3
  refine q w H4 Z4 As3 B (r3.gr g) o4 ?_ fun _ => Sep.gr r3 c g
  have := c.trans r (Chg.gr (W := false) (As := As3) g)
  simpa using this
end
end DL
/-! DL24: xs[a:b:-1] of a list -/
namespace DL
open PySem PySem.Spec PyProof.Rows L2
/-- which places a slice takes -/
def stepIx (n : Nat) (lo hi : Option Int) : List Nat := sliceRange (sliceBounds lo hi (some (-1)) n).1 (sliceBounds lo hi (some (-1)) n).2.1 (-1)
def stepL {α : Type} (xs : List α) (lo hi : Option Int) : List α := (stepIx xs.length lo hi).filterMap fun i => xs[i]?
theorem stepL_length {α : Type} (xs : List α) (lo hi : Option Int) : (stepL xs lo hi).length ≤ (stepIx xs.length lo hi).length := List.length_filterMap_le _ _
theorem pick_vals : ∀ (is : List Nat) {xs : List V} {its : List Value}, Vals xs its → Vals (is.filterMap fun i => xs[i]?) (is.filterMap fun i => its[i]?)
  | [], _, _, _ => .nil
  | i :: is, xs, its, r => by
    have ih := pick_vals is r
    have hl := r.length
    rw [List.filterMap_cons, List.filterMap_cons]
    by_cases h : i < xs.length
    · obtain ⟨u, hu, rv⟩ := Vals.get r (List.getElem?_eq_getElem h)
      rw [List.getElem?_eq_getElem h, hu]
      exact .cons rv ih
    · rw [List.getElem?_eq_none (by omega), List.getElem?_eq_none (by omega)]
      exact ih
theorem slicePick_list (its : List Value) (lo hi : Option Int) : slicePick its.toArray lo hi (some (-1)) = (stepL its lo hi).toArray := by
  unfold slicePick stepL stepIx
  rw [List.size_toArray]
  congr 1
  show List.filterMap (fun i => its.toArray[i]?) _ = List.filterMap (fun i => its[i]?) _
  congr 1
  funext i
  exact List.getElem?_toArray
def tSlM (K : PySem.W.Frag) (te : TE) (tl th : TO) : TE := fun σ H Q => te σ H fun x H1 => tl σ H1 fun i H2 => th σ H2 fun j H3 => ∃ a xs, x = .ref a ∧ SqL K H3 a xs ∧ (stepL xs i j).length ≤ xs.length ∧ ∀ p, H3 p = none → Q (.ref p) (upd H3 p (.lst (stepL xs i j)))
section
variable {X : Cx}
theorem pe_slM {e : Expr} {lo hi : Option Expr} {te : TE} {tl th : TO} {k : Nat} {p1 p2 p3 pos : Pos} (he : PE X e te) (hl : PO X lo tl) (hh : PO X hi th) : PE X (.Subscript e (.Slice lo hi (some (.UnaryOp .USub (.Constant (.int 1) k p1) p2)) p3) pos) (tSlM X.K te tl th) := by
  refine ⟨fun pins st σ H Q I0 hq => ?_⟩
  refine Subscript_ (thn (he.run pins st σ H _ I0 hq) fun v t1 ⟨x, H1, J1, rx, q1⟩ => ?_)
  have hst : PO X (some (.UnaryOp .USub (.Constant (.int 1) k p1) p2)) (tPart (tUn (L2.rU fun i => V.int (-i)) (L2.tC (V.int 1)))) := po_some (pe_un un_neg pe_int)
  refine wpAny_Slice (thn (hl.run pins t1 σ H1 _ J1 q1) fun vl t2 ⟨l, H2, J2, pl, q2⟩ => thn (hh.run pins t2 σ H2 _ J2 q2) fun vu t3 ⟨u, H3, J3, pu, q3⟩ => ?_)
  refine thn (hst.run pins t3 σ H3 (fun o H' => o = some (-1) ∧ H' = H3) J3 ⟨1, rfl, -1, rfl, rfl, rfl⟩) fun vs t4 ⟨o, H4, J4, ps, eo, e4⟩ => ?_
  subst eo e4
  obtain ⟨a, xs, ex, hx, hlen, q⟩ := q3
  subst ex
  cases rx
  have J5 : Inv X pins σ H4 { t4 with heap := t4.heap.push { cls := .type "slice", data := .fields #[vl, vu, vs] } } := J4.kept (t' := t4.toks) fun b ob z => Heap.get?_push_of_some _ z
  obtain ⟨its, r, ht, hz⟩ := J5.list hx
  have hlen2 := r.length
  show wpAny (model X.prog X.w) X.A (subscriptTail e (.Slice lo hi (some (.UnaryOp .USub (.Constant (.int 1) k p1) p2)) p3) (.ref a) (.ref t4.heap.objs.size)) (EP X pins σ Q) X.xe { t4 with heap := t4.heap.push { cls := .type "slice", data := .fields #[vl, vu, vs] } }
  refine tail_any (ops := [.ref a, .ref t4.heap.objs.size]) ht.isList.typeIs (PySem.slot_list_getitem.lookup) ?_ (by with_unfolding_all rfl)
  refine wpAny_getItem_list_slice ht.isList (Heap.IsSliceOf.new _ vl vu vs) pl pu ps (by decide) ?_ (by rw [List.size_toArray]; omega)
  rw [slicePick_list]
  refine ⟨.ref _, _, J5.laid (t' := t4.toks) (o := .lst (stepL xs l u)) (fun b ob z => Heap.get?_push_of_some _ z) (Nat.le_refl _) ?_, rfl, q _ (J5.hok.fresh (Nat.le_refl _))⟩
  refine ⟨by omega, _, 0, ?_, Heap.get?_push_size _ rfl⟩
  have e1 : stepL its l u = (stepIx xs.length l u).filterMap fun i => its[i]? := by unfold stepL; rw [← hlen2]
  rw [e1]
  exact pick_vals _ r
end
def eSlM (f : EM) (l h : OM) : EM := fun ρ => (f ρ).bind fun p => (l p.2).bind fun q => (h q.2).bind fun r => match p.1 with
  | .lst ds => if (stepL ds q.1 r.1).length ≤ ds.length then some (.lst (stepL ds q.1 r.1), r.2) else none
  | _ => none
section
variable {X : Cx} {o : Expr} {oo : Bool} {fo : EM} {K : PySem.W.Frag} {H : Hp} {Z : Addr → Prop}
theorem stepL_reps : ∀ (is : List Nat) {ds : List D} {vs : List V}, Reps K H Z ds vs → Reps K H Z (is.filterMap fun i => ds[i]?) (is.filterMap fun i => vs[i]?)
  | [], _, _, _ => Reps.nil
  | i :: is, ds, vs, r => by
    have ih := stepL_reps is r
    have hl := r.length
    rw [List.filterMap_cons, List.filterMap_cons]
    by_cases h : i < ds.length
    · obtain ⟨u, hu, rv⟩ := r.get (List.getElem?_eq_getElem h)
      rw [List.getElem?_eq_getElem h, hu]
      exact Reps.cons rv ih
    · rw [List.getElem?_eq_none (by omega), List.getElem?_eq_none (by omega)]
      exact ih
theorem de_slM {lo hi : Option Expr} {p1 p2 p3 pos : Pos} {k ko : Nat} {We : Bool} {fl fh : OM} (he : DE X o We oo ko fo) (hl : DO X lo false fl) (hh : DO X hi false fh) (hk : ko ≤ 1 := by decide) : DE X (.Subscript o (.Slice lo hi (some (.UnaryOp .USub (.Constant (.int 1) k p1) p2)) p3) pos) We true 1 (eSlM fo fl fh) := by
  refine ⟨fun pins s σ H Q I q => ?_⟩
  obtain ⟨ρ, Z, As, r, d, ρ', ef, q⟩ := q
  unfold eSlM at ef
  obtain ⟨⟨x, ρ1⟩, e1, ef⟩ := Option.bind_eq_some_iff.mp ef
  obtain ⟨⟨i, ρ2⟩, e2, ef⟩ := Option.bind_eq_some_iff.mp ef
  obtain ⟨⟨j, ρ3⟩, e3, ef⟩ := Option.bind_eq_some_iff.mp ef
  cases x with
  | lst ds =>
    have ef : (if (stepL ds i j).length ≤ ds.length then some (D.lst (stepL ds i j), ρ3) else none) = some (d, ρ') := ef
    split at ef
    · rename_i hlen
      cases ef
      refine (pe_slM he hl hh).run pins s σ H Q I ?_
      refine ⟨ρ, Z, As, r, _, ρ1, e1, fun u H1 Z1 As1 B1 r1 o1 c1 _ => ?_⟩
      refine ⟨ρ1, Z1, As1, r1, i, ρ2, e2, fun H2 Z2 As2 r2 c2 => ?_⟩
      refine ⟨ρ2, Z2, As2, r2, j, _, e3, fun H3 Z3 As3 r3 c3 => ?_⟩
      obtain ⟨a, vs, ea, h1, h2, h3⟩ := ((o1.wait r1 c2 (.inr rfl)).wait r2 c3 (.inr rfl)).lst1 hk
      have hl3 := h3.length
      have rp : Reps X.K H3 Z3 (stepL ds i j) (stepL vs i j) := by
        unfold stepL
        rw [hl3]
        exact stepL_reps _ h3
      refine ⟨a, vs, ea, .inl h1, by rw [rp.length, hl3]; exact hlen, fun p hp => ?_⟩
      obtain ⟨g, ow⟩ := lst_new r3.zd hp rp (by rw [rp.length]; omega)
      have c : Chg We H Z As H3 Z3 As3 := by
        have := (c1.trans r c2).trans r c3
        simpa using this
      refine q (.ref p) _ Z3 As3 [p] (r3.gr g) ow ?_ fun _ => Sep.gr r3 c g
      have := c.trans r (Chg.gr (W := false) (As := As3) g)
      simpa using this
    · cases ef
  | _ => cases ef
end
end DL
/-! DL25: len(set(x)), x a list or a tuple of ints -/
namespace DL
open PySem PySem.Spec PyProof.Rows L2
def dedupI : List Int → List Int
  | [] => []
  | x :: xs => if x ∈ dedupI xs then dedupI xs else x :: dedupI xs
theorem dedupI_mem : ∀ {xs : List Int} {k : Int}, k ∈ dedupI xs ↔ k ∈ xs
  | [], k => Iff.rfl
  | x :: xs, k => by
    unfold dedupI
    have ih := dedupI_mem (xs := xs) (k := k)
    split
    · rename_i h
      rw [ih, List.mem_cons]
      exact ⟨.inr, fun q => q.elim (fun e => e ▸ (dedupI_mem (xs := xs)).mp h) id⟩
    · rw [List.mem_cons, List.mem_cons, ih]
theorem dedupI_nodup : ∀ xs : List Int, (dedupI xs).Nodup
  | [] => List.Pairwise.nil
  | x :: xs => by
    unfold dedupI
    split
    · exact dedupI_nodup xs
    · rename_i h
      exact List.nodup_cons.mpr ⟨h, dedupI_nodup xs⟩
theorem dedupI_of : ∀ {xs : List Int}, xs.Nodup → dedupI xs = xs
  | [], _ => rfl
  | x :: xs, h => by
    obtain ⟨h1, h2⟩ := List.nodup_cons.mp h
    unfold dedupI
    rw [dedupI_of h2, if_neg h1]
def tLenSetA (K : PySem.W.Frag) (ta : TE) : TE := fun σ H Q => ta σ H fun x H1 => ∃ (l : Addr) (ns : List Int), x = V.ref l ∧ ns.length ≤ 4000 ∧ ((SqL K H1 l (ns.map V.int) ∧ ns.Nodup) ∨ SqT K H1 l (ns.map V.int)) ∧ Q (.int ((dedupI ns).length : Nat)) H1
section
variable {X : Cx}
theorem pe_lenSetA {a : Expr} {ta : TE} {p p2 q pos : Pos} (hg : Gl X "len") (hm : X.mg "len" = none) (hg2 : Gl X "set") (hm2 : X.mg "set" = none) (ha : PE X a ta) (hc : X.calm = true := by rfl)
    (na : starEach [a] X.env = (false, eval a X.env) :: starEach [] X.env := by rfl) : PE X (.Call (.Name "len" p) [.Call (.Name "set" p2) [a] [] q] [] pos) (tLenSetA X.K ta) := by
  refine ⟨fun pins st σ H Q I0 hq => ?_⟩
  refine Call_ (ld_blt I0 hg hm boot_len ?_)
  refine PyProof.Rows.callWith_builtin1 (PyProof.Rows.args_cons ?_ rfl) rfl rfl
  refine Call_ (ld_blt I0 hg2 hm2 PyProof.Rows.boot_set ?_)
  refine PyProof.Rows.callWith_type1 (PyProof.Rows.args_cons (thn (ha.run pins st σ H _ I0 hq) fun v t1 ⟨x, H1, J1, rx, q1⟩ => PyProof.Rows.args_nil ?_) na) na rfl
  obtain ⟨l, ns, rfl, hlen, hsq, q1⟩ := q1
  cases rx
  rcases hsq with ⟨hsq, hnd⟩ | hsq
  · obtain ⟨its, r, pl, hz⟩ := J1.list hsq
    have hl2 : its.toArray.size = ns.length := by rw [List.size_toArray, ← r.length, List.length_map]
    refine call_set_list (J1.ok.hd hc) pl.isList (by simpa using RZ.intsAre_vals r) (by rw [hl2]; unfold scanBound; omega) fun h' tk hS hk => ?_
    refine PyProof.Rows.args_nil ?_
    rw [hl2, RZ.firstMet_nodup hnd ns.length (Nat.le_refl _), List.take_length] at hS
    obtain ⟨o, es, ep, t, ho, hex, hd, _, _, _, hf, hn⟩ := hS
    have J2 : Inv X pins σ H1 { t1 with heap := h', toks := tk } := J1.kept fun b o e => hk b o (Heap.lt_size e) e
    rw [dedupI_of hnd] at q1
    exact call_len_set ho hex hd hf (by rw [hn] <;> omega) ⟨.int ns.length, H1, J2.tok _, ⟨_, by rw [hn]⟩, q1⟩
  · obtain ⟨its, r, pl, hz⟩ := J1.tuple hsq
    have hi : IntsAre its.toArray.toList ns := by simpa using Vals.ints r
    refine call_set_tupI ns (J1.ok.hd hc) pl hi (by unfold scanBound; omega) fun h' tk c hS hcn hk => ?_
    refine PyProof.Rows.args_nil ?_
    obtain ⟨o, es, ep, t, ho, hex, hd, _, hnd, hmem, hsz, hf, hn, _⟩ := hS
    have J2 : Inv X pins σ H1 { t1 with heap := h', toks := tk } := J1.kept fun b o e => hk b o e
    have he : es.size = (dedupI ns).length := by
      have pm : (es.toList.map keyOf).Perm (dedupI ns) := (List.perm_ext_iff_of_nodup hnd (dedupI_nodup ns)).mpr fun k => by
        rw [← hmem k, dedupI_mem]
        simp
      have := pm.length_eq
      rw [List.length_map, Array.length_toList] at this
      exact this
    exact call_len_set ho hex hd hf (by rw [hn] <;> omega) ⟨.int ((dedupI ns).length : Nat), H1, J2.tok _, ⟨_, by rw [he]⟩, q1⟩
end
def eLenSet (f : EM) : EM := fun ρ => (f ρ).bind fun p => match p.1 with
  | .lst ds => (allInts ds).bind fun ns => if ns.Nodup ∧ ns.length ≤ 4000 then some (.int ((dedupI ns).length : Nat), p.2) else none
  | .tup ds => (allInts ds).bind fun ns => if ns.length ≤ 4000 then some (.int ((dedupI ns).length : Nat), p.2) else none
  | _ => none
section
variable {X : Cx} {a : Expr} {o W : Bool} {k : Nat} {f : EM}
theorem de_lenSet {p p2 q pos : Pos} (hg : Gl X "len") (hm : X.mg "len" = none) (hg2 : Gl X "set") (hm2 : X.mg "set" = none) (he : DE X a W o k f) (hk : k ≤ 1 := by decide) (hc : X.calm = true := by rfl)
    (na : starEach [a] X.env = (false, eval a X.env) :: starEach [] X.env := by rfl) : DE X (.Call (.Name "len" p) [.Call (.Name "set" p2) [a] [] q] [] pos) W true 0 (eLenSet f) := PE.conv (pe_lenSetA hg hm hg2 hm2 he hc na) fun σ H Q q => by
  obtain ⟨ρ, Z, As, r, d, ρ', ef, q⟩ := q
  unfold eLenSet at ef
  obtain ⟨⟨x, ρ1⟩, e1, ef⟩ := Option.bind_eq_some_iff.mp ef
  cases x with
  | lst ds =>
    obtain ⟨ns, e2, ef⟩ := Option.bind_eq_some_iff.mp (show ((allInts ds).bind fun ns => if ns.Nodup ∧ ns.length ≤ 4000 then some (D.int ((dedupI ns).length : Nat), ρ1) else none) = some (d, ρ') from ef)
    split at ef
    · rename_i hc2
      cases ef
      refine ⟨ρ, Z, As, r, _, _, e1, fun u H1 Z1 As1 B1 r1 o1 c1 _ => ?_⟩
      obtain ⟨l, vs, ev, h1, h2, h3⟩ := o1.lst1 hk
      have ew := allInts_vals e2 h3
      exact ⟨l, ns, ev, hc2.2, .inl ⟨.inl (by rw [← ew]; exact h1), hc2.1⟩, q _ H1 Z1 As1 [] r1 ow_int c1 fun _ => Sep.nil⟩
    · cases ef
  | tup ds =>
    obtain ⟨ns, e2, ef⟩ := Option.bind_eq_some_iff.mp (show ((allInts ds).bind fun ns => if ns.length ≤ 4000 then some (D.int ((dedupI ns).length : Nat), ρ1) else none) = some (d, ρ') from ef)
    split at ef
    · rename_i hc2
      cases ef
      refine ⟨ρ, Z, As, r, _, _, e1, fun u H1 Z1 As1 B1 r1 o1 c1 _ => ?_⟩
      obtain ⟨l, vs, ev, h1, h2, h3⟩ := o1.tup1
      have ew := allInts_vals e2 h3
      exact ⟨l, ns, ev, hc2, .inr (SqT.of (by rw [← ew]; exact h1)), q _ H1 Z1 As1 [] r1 ow_int c1 fun _ => Sep.nil⟩
    · cases ef
  | _ => cases ef
end
end DL
/-! DLH: the head: what the top has laid, lists left out -/
namespace DL
open PySem PySem.Spec PyProof.Rows L2

def isLst (o : Obj) : Bool := match o.cls with
  | .type c => decide (c = "list")
  | _ => false
def frL (g : Addr → Option Obj) (as : List Addr) : PySem.W.Frag := (He.frG g as).filter fun q => !isLst q.2
theorem lk_mem {a : Addr} {o : Obj} : ∀ {l : List (Addr × Obj)}, l.lookup a = some o → (a, o) ∈ l
  | [], h => by cases h
  | (b, u) :: r, h => by
    rw [List.lookup_cons] at h
    split at h
    · rename_i q
      cases h
      rw [eq_of_beq q]
      exact List.mem_cons_self
    · exact List.mem_cons_of_mem _ (lk_mem h)
theorem frL_mem {g : Addr → Option Obj} {as : List Addr} {a : Addr} {o : Obj} (h : (frL g as).lookup a = some o) : g a = some o ∧ isLst o = false := by
  obtain ⟨h1, h2⟩ := List.mem_filter.mp (lk_mem h)
  refine ⟨?_, by simpa using h2⟩
  obtain ⟨b, _, e⟩ := List.mem_filterMap.mp h1
  obtain ⟨u, e1, e2⟩ := Option.map_eq_some_iff.mp e
  cases e2
  exact e1
/-- no list of the top is told -/
def NoL (K : PySem.W.Frag) : Prop := ∀ a o, K.lookup a = some o → isLst o = false
abbrev AlL : Type := He.AlT × Bool
def obsL (n : Nat) (fa : List He.Fa) (fn : List He.DefD) (ts : List He.Tab) (ex : PySem.W.Frag → Bool) (g : Addr → Option Obj) : AlL := (He.obsT fa fn ts (frL g (He.asD g n)), ex (frL g (He.asD g n)))
def hookL (n : Nat) (fa : List He.Fa) (fn : List He.DefD) (ts : List He.Tab) (ex : PySem.W.Frag → Bool) : PySem.W.Hook where
  α := AlL
  obs := fun s => obsL n fa fn ts ex s.heap.get?
  val := fun w => (He.valT fn ts w, true)
  says := fun w h => ∃ K : PySem.W.Frag, K.In h ∧ He.SaysT fa fn ts w K ∧ ex K = true ∧ NoL K
  of := fun _ _ e => ⟨_, fun _ _ q => (frL_mem q).1, congrArg (fun z : AlL => z.1) e, congrArg (fun z : AlL => z.2) e, fun _ _ q => (frL_mem q).2⟩
  keeps := fun _ _ _ ⟨K, hK, c⟩ k => ⟨K, PySem.W.Frag.In.keeps hK k, c⟩
theorem obsL_eq {n : Nat} {fa : List He.Fa} {fn : List He.DefD} {ts : List He.Tab} {ex : PySem.W.Frag → Bool} {g : Addr → Option Obj} {s : Shared} (h : ∀ a, g a = s.heap.get? a) : obsL n fa fn ts ex g = (hookL n fa fn ts ex).obs s := by
  have e : g = s.heap.get? := funext h
  rw [e] <;> rfl
/-- the law's promise at the script -/
theorem law_sp {K : PySem.W.Frag} {G : GMap} {H : Hp} {a : Addr} {ns : List Int} (nl : NoL K) (hS : SqL K H a (ns.map V.int)) (hl : ns.length ≤ sizeLine) (hG : ∃ ρ, G [.lst (ns.map .int)] = some (.bl true, ρ)) :
    spG K [0] 0 G [.ref a] H (fun v _ => v = .bl true) fun _ _ _ => False := by
  rcases hS with hS | ⟨o, its, n, h1, h2, _⟩
  · obtain ⟨ρ, hG⟩ := hG
    have hne : H a ≠ none := by
      rcases hS with h | ⟨o, h⟩ <;> rw [h] <;> exact fun z => nomatch z
    have hr : ∀ ns : List Int, Reps K H (fun b => b = a) (ns.map .int) (ns.map V.int) := fun ns => by
      induction ns with
      | nil => exact Reps.nil
      | cons n ns ih => exact Reps.cons (by unfold Rep; rfl) ih
    refine ⟨fun b => b = a, fun _ => [], [.lst (ns.map .int)], rfl, ⟨fun i m d e => ?_, fun _ => List.nodup_nil, (fun _ _ _ h => by cases h), (fun _ _ h => by cases h), (fun _ _ h => by cases h), fun b e => by rw [e]; exact hne, rfl⟩, _, _, hG, fun v H' Z' As' B r' ow c sp => ?_⟩
    · cases i with
      | zero =>
        have e : some (some (0, D.lst (ns.map .int))) = some (some (m, d)) := e
        cases e
        refine ⟨.ref a, rfl, ?_, rfl⟩
        unfold Rep
        exact ⟨a, ns.map V.int, rfl, rfl, hS, by rw [List.length_map]; exact hl, hr ns⟩
      | succ i => simp [envOf] at e
    · have := ow.1
      unfold Rep at this
      exact this
  · have := nl a o h1
    unfold isLst at this
    rw [h2] at this
    simp at this
end DL
namespace K02
open PySem PySem.Spec PyProof.Rows L2 DL
def top (i : Nat) : Stmt := PySem.Challenge.pw_semigroupbench_k02_lights_of_few_broken.main.body.getD i (.Pass ⟨0, 0, 0, 0⟩)
abbrev s_is_tuple : Stmt := top 9
abbrev s_is_integer : Stmt := top 5
abbrev s_is_within : Stmt := top 6
abbrev s_is_index : Stmt := top 7
abbrev s_is_list : Stmt := top 8
abbrev s_are_elements : Stmt := top 10
abbrev s_is_table : Stmt := top 14
abbrev s_is_broken : Stmt := top 15
abbrev s_broken_with : Stmt := top 16
abbrev s_is_semigroup : Stmt := top 17
abbrev s_check_table : Stmt := top 18
abbrev s_broken : Stmt := top 19
abbrev s__law_cell : Stmt := top 22
abbrev s__law_box : Stmt := top 23
abbrev s__law_take : Stmt := top 24
abbrev s__law_same : Stmt := top 26
abbrev s__law_broken : Stmt := top 27
abbrev s__law_mixed : Stmt := top 25
abbrev s__law_followed : Stmt := top 28
abbrev s__law_from_moves : Stmt := top 29
abbrev s__law_relabelled : Stmt := top 30
abbrev s__law_plain : Stmt := top 31
abbrev s__law_drawn : Stmt := top 32
abbrev s__law_spoilt : Stmt := top 34
abbrev s__law_base : Stmt := top 33
abbrev s__law_planted : Stmt := top 35
abbrev s__law_made_of : Stmt := top 36
abbrev s_are_different : Stmt := top 11
abbrev s_light : Stmt := top 20
abbrev s__law_told : Stmt := top 37
abbrev s__law_middles_right : Stmt := top 38
abbrev s_law : Stmt := top 39
def c_MOST_ELEMENTS : D := .int 10
/-! ### what each def computes -/
def F_is_tuple : SM :=
    (sRet (eAndM (eCall dIsi (aCons (eVar 0 0) (aCons (eC (.ty "tuple")) aNil))) (eOp2 dEq (eCall dLen (aCons (eVar 0 0) aNil)) (eVar 1 0))))
def G_is_tuple : GMap := defG 2 [0, 0] F_is_tuple
def F_is_integer : SM :=
    (sRet (eAndM (eCall dIsi (aCons (eVar 0 0) (aCons (eC (.ty "int")) aNil))) (eNotM (eCall dIsi (aCons (eVar 0 0) (aCons (eC (.ty "bool")) aNil))))))
def G_is_integer : GMap := defG 1 [0] F_is_integer
def F_is_within : SM :=
    (sRet (eAndM (eCallD [none] [0] (acCons (eVar 0 0) acNil) G_is_integer) (eChain dLe dLe (eVar 1 0) (eVar 0 0) (eVar 2 0))))
def G_is_within : GMap := defG 3 [0, 0, 0] F_is_within
def F_is_index : SM :=
    (sRet (eCallD [none, none, none] [0, 0, 0] (acCons (eVar 0 0) (acCons (eC (.int 0)) (acCons (eOp2 dSub (eVar 1 0) (eC (.int 1))) acNil))) G_is_within))
def G_is_index : GMap := defG 2 [0, 0] F_is_index
def F_is_list : SM :=
    (sRet (eCall dIsi (aCons (eVar 0 0) (aCons (eTup (aCons (eC (.ty "list")) (aCons (eC (.ty "tuple")) aNil))) aNil))))
def G_is_list : GMap := defG 1 [0] F_is_list
def F_are_elements : SM :=
    (sRet (eAndM (eCallD [none] [0] (acCons (eVar 0 0) acNil) G_is_list) (eCall dAll (aCons (eComp (iLst' (eVar 0 0)) (gNm 2) tYesM (lOne (eCallD [none, none] [0, 0] (acCons (eVar 2 0) (acCons (eVar 1 0) acNil)) G_is_index)) [2]) aNil))))
def G_are_elements : GMap := defG 3 [0, 0] F_are_elements
def F_is_table : SM :=
    (sSeq (sIf (tOrM (tNotM (tVal (eCall dIsi (aCons (eVar 0 0) (aCons (eC (.ty "tuple")) aNil))))) (tNotM (tChainM dLe dLe (eC (.int 1)) (eCall dLen (aCons (eVar 0 0) aNil)) (eC c_MOST_ELEMENTS))))
    (sRet (eC (.bl false)))
    sNil)
    (sSeq (sSet 1 0 (eCall dLen (aCons (eVar 0 0) aNil)))
    (sRet (eCall dAll (aCons (eComp (iLst' (eVar 0 0)) (gNm 2) tYesM (lOne (eAndM (eCallD [none, none] [0, 0] (acCons (eVar 2 0) (acCons (eVar 1 0) acNil)) G_is_tuple) (eCallD [none, none] [0, 0] (acCons (eVar 2 0) (acCons (eVar 1 0) acNil)) G_are_elements))) [2]) aNil)))))
def G_is_table : GMap := defG 3 [0] F_is_table
def F_is_broken : SM :=
    (sRet (eOp2 dNe (eIx (0 - 1) (eIx (0 - 1) (eVar 0 0) (eIx (0 - 1) (eIx (0 - 1) (eVar 0 0) (eVar 1 0)) (eVar 2 0))) (eVar 3 0)) (eIx (0 - 1) (eIx (0 - 1) (eVar 0 0) (eVar 1 0)) (eIx (0 - 1) (eIx (0 - 1) (eVar 0 0) (eVar 2 0)) (eVar 3 0)))))
def G_is_broken : GMap := defG 4 [0, 0, 0, 0] F_is_broken
def F_broken_with : SM :=
    (sSeq (sSet 2 0 (eCall dRange (aCons (eCall dLen (aCons (eVar 0 0) aNil)) aNil)))
    (sRet (eComp (iLst' (eVar 2 0)) (gNm 3) tYesM (lFor (iLst' (eVar 2 0)) (gNm 4) tYesM (lFor (iLst' (eVar 2 0)) (gNm 5) (tAndM (tCmpM dIn (eVar 4 0) (eVar 1 0)) (tVal (eCallD [none, none, none, none] [0, 0, 0, 0] (acCons (eVar 0 0) (acCons (eVar 3 0) (acCons (eVar 4 0) (acCons (eVar 5 0) acNil)))) G_is_broken))) (lOne (eTup (aCons (eVar 3 0) (aCons (eVar 4 0) (aCons (eVar 5 0) aNil))))) [5]) [4, 5]) [3, 4, 5])))
def G_broken_with : GMap := defG 6 [0, 0] F_broken_with
def F_is_semigroup : SM :=
    (sRet (eAndM (eCallD [none] [0] (acCons (eVar 0 0) acNil) G_is_table) (eOp2 dEq (eCallD [none, none] [0, 0] (acCons (eVar 0 0) (acCons (eCall dList (aCons (eCall dRange (aCons (eCall dLen (aCons (eVar 0 0) aNil)) aNil)) aNil)) acNil)) G_broken_with) (eC (.lst [])))))
def G_is_semigroup : GMap := defG 1 [0] F_is_semigroup
def F_check_table : SM :=
    (sIf (tNotM (tVal (eCallD [none] [0] (acCons (eVar 0 0) acNil) G_is_table)))
    sNever
    sNil)
def G_check_table : GMap := defG 1 [0] F_check_table
def F_broken : SM :=
    (sSeq (sExpr (eCallD [none] [0] (acCons (eVar 0 0) acNil) G_check_table))
    (sRet (eCallD [none, none] [0, 0] (acCons (eVar 0 0) (acCons (eCall dList (aCons (eCall dRange (aCons (eCall dLen (aCons (eVar 0 0) aNil)) aNil)) aNil)) acNil)) G_broken_with)))
def G_broken : GMap := defG 1 [0] F_broken
def F__law_cell : SM :=
    (sRet (eIfM (tCmpM dLt (eVar 1 0) (eCall dLen (aCons (eVar 0 0) aNil))) (eIx (0 - 1) (eVar 0 0) (eVar 1 0)) (eOp2 dAdd (eOp2 dMul (eC (.int 6143)) (eVar 1 0)) (eOp2 dMod (eCall dIntC (aCons (eCall dSum (aCons (eSl (eVar 0 0) oNo (oSo (eC (.int 1)))) aNil)) aNil)) (eC (.int 1000171))))))
def G__law_cell : GMap := defG 2 [0, 0] F__law_cell
def F__law_box : SM :=
    (sRet (eLst (aCons (eCall dAbs (aCons (eVar 0 0) aNil)) (aCons (eOp2 dGe (eCall dAbs (aCons (eVar 0 0) aNil)) (eOp2 dPow (eC (.int 10)) (eC (.int 18)))) (aCons (eOp2 dMod (eCall dIntC (aCons (eCall dAbs (aCons (eVar 0 0) aNil)) aNil)) (eC (.int 2147483629))) (aCons (eC (.int 0)) aNil))))))
def G__law_box : GMap := defG 1 [0] F__law_box
def F__law_take : SM :=
    (sSeq (sIf (tAndM (tVal (eIx (1 - 1) (eVar 0 1) (eC (.int 1)))) (tCmpM dGt (eIx (1 - 1) (eVar 0 1) (eC (.int 0))) (eC (.int 0))))
    (sSeq (sSet 2 0 (eOp2 dMod (eCall dIntC (aCons (eIx (1 - 1) (eVar 0 1) (eC (.int 0))) aNil)) (eVar 1 0)))
    (sSeq (sSetIx 0 (eOp2 dDiv (eIx (1 - 1) (eVar 0 1) (eC (.int 0))) (eVar 1 0)) (eC (.int 0)))
    (sRet (eVar 2 0))))
    sNil)
    (sSeq (sSetIx 0 (eOp2 dAdd (eIx (1 - 1) (eVar 0 1) (eC (.int 3))) (eC (.int 1))) (eC (.int 3)))
    (sSeq (sSet 3 0 (eOp2 dMod (eCall dIntC (aCons (eOp2 dPow (eOp2 dAdd (eOp2 dAdd (eIx (1 - 1) (eVar 0 1) (eC (.int 2))) (eOp2 dMul (eC (.int 15486059)) (eIx (1 - 1) (eVar 0 1) (eC (.int 3))))) (eC (.int 179424971))) (eC (.int 5))) aNil)) (eC (.int 2147483647))))
    (sRet (eOp2 dMod (eCall dIntC (aCons (eOp2 dDiv (eOp2 dMod (eCall dIntC (aCons (eOp2 dPow (eOp2 dAdd (eOp2 dMul (eVar 3 0) (eC (.int 48271))) (eOp2 dMul (eC (.int 104947)) (eIx (1 - 1) (eVar 0 1) (eC (.int 3))))) (eC (.int 3))) aNil)) (eC (.int 2147483587))) (eC (.int 64))) aNil)) (eVar 1 0))))))
def G__law_take : GMap := defG 4 [1, 0] F__law_take
def F__law_same (G : GMap) : SM :=
    (sSeq (sIf (tOrM (tCmpM dIs (eVar 1 0) (eC .non)) (tVal (eCall dIsi (aCons (eVar 1 0) (aCons (eC (.ty "bool")) aNil)))))
    (sRet (eIfM (tCmpM dIs (eVar 1 0) (eC .non)) (eOp2 dIs (eVar 0 0) (eC .non)) (eAndM (eCall dIsi (aCons (eVar 0 0) (aCons (eC (.ty "bool")) aNil))) (eOp2 dEq (eOp2 dIs (eVar 0 0) (eC (.bl true))) (eOp2 dIs (eVar 1 0) (eC (.bl true)))))))
    sNil)
    (sSeq (sIf (tVal (eCall dIsi (aCons (eVar 1 0) (aCons (eC (.ty "int")) aNil))))
    (sRet (eAndM (eCall dIsi (aCons (eVar 0 0) (aCons (eC (.ty "int")) aNil))) (eAndM (eNotM (eCall dIsi (aCons (eVar 0 0) (aCons (eC (.ty "bool")) aNil)))) (eOp2 dEq (eOp2 dSub (eCall dIntC (aCons (eVar 0 0) aNil)) (eVar 1 0)) (eC (.int 0))))))
    sNil)
    (sSeq (sIf (tVal (eCall dIsi (aCons (eVar 1 0) (aCons (eC (.ty "str")) aNil))))
    (sRet (eAndM (eCall dIsi (aCons (eVar 0 0) (aCons (eC (.ty "str")) aNil))) (eOp2 dEq (eVar 0 0) (eVar 1 0))))
    sNil)
    (sSeq (sIf (tVal (eCall dIsi (aCons (eVar 1 0) (aCons (eC (.ty "dict")) aNil))))
    (sSeq (sIf (tOrM (tNotM (tVal (eCall dIsi (aCons (eVar 0 0) (aCons (eC (.ty "dict")) aNil))))) (tCmpM dNe (eCall dLen (aCons (eVar 0 0) aNil)) (eCall dLen (aCons (eVar 1 0) aNil))))
    (sRet (eC (.bl false)))
    sNil)
    (sRet eNev))
    sNil)
    (sSeq (sIf (tOrM (tNotM (tVal (eCall dIsi (aCons (eVar 1 0) (aCons (eTup (aCons (eC (.ty "list")) (aCons (eC (.ty "tuple")) aNil))) aNil))))) (tNotM (tVal (eCall dIsi (aCons (eVar 0 0) (aCons (eTup (aCons (eC (.ty "list")) (aCons (eC (.ty "tuple")) aNil))) aNil))))))
    (sRet (eC (.bl false)))
    sNil)
    (sSeq (sIf (tOrM (tCmpM dNe (eCall dIsi (aCons (eVar 0 0) (aCons (eC (.ty "list")) aNil))) (eCall dIsi (aCons (eVar 1 0) (aCons (eC (.ty "list")) aNil)))) (tCmpM dNe (eCall dLen (aCons (eVar 0 0) aNil)) (eCall dLen (aCons (eVar 1 0) aNil))))
    (sRet (eC (.bl false)))
    sNil)
    (sRet (eOp2 dEq (eComp (iRg1 (aCons (eCall dLen (aCons (eVar 1 0) aNil)) aNil)) (gNm 3) (tNotM (tVal (eCallD [none, none] [0, 0] (acCons (eIx (0 - 1) (eVar 0 0) (eVar 3 0)) (acCons (eIx (0 - 1) (eVar 1 0) (eVar 3 0)) acNil)) G))) (lOne (eVar 3 0)) [3]) (eC (.lst []))))))))))
def G__law_same_n : Nat → GMap
  | 0 => fun _ => none
  | n + 1 => defG 4 [0, 0] (F__law_same (G__law_same_n n))
abbrev G__law_same : GMap := G__law_same_n 10
def F__law_same_v0 : SM :=
    (sSeq (sIf (tOrM (tCmpM dIs (eVar 1 0) (eC .non)) (tVal (eCall dIsi (aCons (eVar 1 0) (aCons (eC (.ty "bool")) aNil)))))
    (sRet (eIfM (tCmpM dIs (eVar 1 0) (eC .non)) (eOp2 dIs (eVar 0 1) (eC .non)) (eAndM (eCall dIsi (aCons (eVar 0 1) (aCons (eC (.ty "bool")) aNil))) (eOp2 dEq (eOp2 dIs (eVar 0 1) (eC (.bl true))) (eOp2 dIs (eVar 1 0) (eC (.bl true)))))))
    sNil)
    (sSeq (sIf (tVal (eCall dIsi (aCons (eVar 1 0) (aCons (eC (.ty "int")) aNil))))
    (sRet (eAndM (eCall dIsi (aCons (eVar 0 1) (aCons (eC (.ty "int")) aNil))) (eAndM (eNotM (eCall dIsi (aCons (eVar 0 1) (aCons (eC (.ty "bool")) aNil)))) (eOp2 dEq (eOp2 dSub (eCall dIntC (aCons (eVar 0 1) aNil)) (eVar 1 0)) (eC (.int 0))))))
    sNil)
    (sSeq (sIf (tVal (eCall dIsi (aCons (eVar 1 0) (aCons (eC (.ty "str")) aNil))))
    (sRet (eAndM (eCall dIsi (aCons (eVar 0 1) (aCons (eC (.ty "str")) aNil))) (eOp2 dEq (eVar 0 1) (eVar 1 0))))
    sNil)
    (sSeq (sIf (tVal (eCall dIsi (aCons (eVar 1 0) (aCons (eC (.ty "dict")) aNil))))
    (sSeq (sIf (tOrM (tNotM (tVal (eCall dIsi (aCons (eVar 0 1) (aCons (eC (.ty "dict")) aNil))))) (tCmpM dNe (eCall dLen (aCons (eVar 0 1) aNil)) (eCall dLen (aCons (eVar 1 0) aNil))))
    (sRet (eC (.bl false)))
    sNil)
    (sRet eNev))
    sNil)
    (sSeq (sIf (tOrM (tNotM (tVal (eCall dIsi (aCons (eVar 1 0) (aCons (eTup (aCons (eC (.ty "list")) (aCons (eC (.ty "tuple")) aNil))) aNil))))) (tNotM (tVal (eCall dIsi (aCons (eVar 0 1) (aCons (eTup (aCons (eC (.ty "list")) (aCons (eC (.ty "tuple")) aNil))) aNil))))))
    (sRet (eC (.bl false)))
    sNil)
    (sSeq (sIf (tOrM (tCmpM dNe (eCall dIsi (aCons (eVar 0 1) (aCons (eC (.ty "list")) aNil))) (eCall dIsi (aCons (eVar 1 0) (aCons (eC (.ty "list")) aNil)))) (tCmpM dNe (eCall dLen (aCons (eVar 0 1) aNil)) (eCall dLen (aCons (eVar 1 0) aNil))))
    (sRet (eC (.bl false)))
    sNil)
    (sRet (eOp2 dEq (eComp (iRg1 (aCons (eCall dLen (aCons (eVar 1 0) aNil)) aNil)) (gNm 3) (tNotM (tVal (eCallD [none, none] [0, 0] (acCons (eIx (1 - 1) (eVar 0 1) (eVar 3 0)) (acCons (eIx (0 - 1) (eVar 1 0) (eVar 3 0)) acNil)) G__law_same))) (lOne (eVar 3 0)) [3]) (eC (.lst []))))))))))
def G__law_same_v0 : GMap := defG 4 [1, 0] F__law_same_v0
def F__law_broken : SM :=
    (sSeq (sPar 1 2 0 0 (eCall dLen (aCons (eVar 0 0) aNil)) (eC (.lst [])))
    (sSeq (sFor (iRg1 (aCons (eVar 1 0) aNil)) (gNm 3)
    (sFor (iRg1 (aCons (eVar 1 0) aNil)) (gNm 4)
    (sSet 2 0 (eOp2 dAdd (eVar 2 0) (eComp (iRg1 (aCons (eVar 1 0) aNil)) (gNm 5) (tCmpM dNe (eIx (0 - 1) (eIx (0 - 1) (eVar 0 0) (eIx (0 - 1) (eIx (0 - 1) (eVar 0 0) (eVar 3 0)) (eVar 4 0))) (eVar 5 0)) (eIx (0 - 1) (eIx (0 - 1) (eVar 0 0) (eVar 3 0)) (eIx (0 - 1) (eIx (0 - 1) (eVar 0 0) (eVar 4 0)) (eVar 5 0)))) (lOne (eTup (aCons (eVar 3 0) (aCons (eVar 4 0) (aCons (eVar 5 0) aNil))))) [5])))))
    (sRet (eVar 2 0))))
def G__law_broken : GMap := defG 6 [0] F__law_broken
def F__law_mixed : SM :=
    (sSeq (sPar 2 3 1 1 (eCall dList (aCons (eVar 1 0) aNil)) (eC (.lst [])))
    (sSeq (sFor (iRg1 (aCons (eCall dLen (aCons (eVar 1 0) aNil)) aNil)) (gNm 4)
    (sExpr (eMeth 3 gAppend (aCons (eMeth 2 gPop (aCons (eCallD [some 0, none] [1, 0] (acOwn 0 (acCons (eCall dLen (aCons (eVar 2 1) aNil)) acNil)) G__law_take) aNil)) aNil))))
    (sRet (eTake 3 1))))
def G__law_mixed : GMap := defG 5 [1, 0] F__law_mixed
def F__law_followed : SM :=
    (sRet (eCall dTuple (aCons (eComp (iLst' (eVar 0 0)) (gNm 2) tYesM (lOne (eIx (0 - 1) (eVar 1 0) (eVar 2 0))) [2]) aNil)))
def G__law_followed : GMap := defG 3 [0, 0] F__law_followed
def F__law_from_moves : SM :=
    (sSeq (sPar 2 3 1 0 (eCall dList (aCons (eCall (dDict true) (aCons (eComp (iLst' (eVar 0 0)) (gNm 4) tYesM (lOne (eTup (aCons (eVar 4 0) (aCons (eC (.bl true)) aNil)))) [4]) aNil)) aNil)) (eC (.int 0)))
    (sSeq (whileM (tCmpM dLt (eVar 3 0) (eCall dLen (aCons (eVar 2 1) aNil)))
    (sSeq (sFor (iLst' (eVar 0 0)) (gNm 4)
    (sSeq (sSet 5 0 (eCallD [none, none] [0, 0] (acCons (eIx (1 - 1) (eVar 2 1) (eVar 3 0)) (acCons (eVar 4 0) acNil)) G__law_followed))
    (sIf (tCmpM dNotIn (eVar 5 0) (eVar 2 1))
    (sExpr (eMeth 2 gAppend (aCons (eVar 5 0) aNil)))
    sNil)))
    (sSeq (sIf (tCmpM dGt (eCall dLen (aCons (eVar 2 1) aNil)) (eVar 1 0))
    (sRet (eC .non))
    sNil)
    (sSet 3 0 (eOp2 dAdd (eVar 3 0) (eC (.int 1)))))) 1000000)
    (sFrz 2 (sRet (eCall dTuple (aCons (eComp (iLst' (eVar 2 0)) (gNm 6) tYesM (lOne (eCall dTuple (aCons (eComp (iLst' (eVar 2 0)) (gNm 7) tYesM (lOne (eMq gIndex (eVar 2 0) (aCons (eCallD [none, none] [0, 0] (acCons (eVar 6 0) (acCons (eVar 7 0) acNil)) G__law_followed) aNil))) [7]) aNil))) [6]) aNil))))))
def G__law_from_moves : GMap := defG 8 [0, 0] F__law_from_moves
def F__law_relabelled : SM :=
    (sSeq (sSet 2 0 (eComp (iRg1 (aCons (eCall dLen (aCons (eVar 1 0) aNil)) aNil)) (gNm 3) tYesM (lOne (eMq gIndex (eVar 1 0) (aCons (eVar 3 0) aNil))) [3]))
    (sRet (eCall dTuple (aCons (eComp (iRg1 (aCons (eCall dLen (aCons (eVar 0 0) aNil)) aNil)) (gNm 4) tYesM (lOne (eCall dTuple (aCons (eComp (iRg1 (aCons (eCall dLen (aCons (eVar 0 0) aNil)) aNil)) (gNm 5) tYesM (lOne (eIx (0 - 1) (eVar 1 0) (eIx (0 - 1) (eIx (0 - 1) (eVar 0 0) (eIx (0 - 1) (eVar 2 0) (eVar 4 0))) (eIx (0 - 1) (eVar 2 0) (eVar 5 0))))) [5]) aNil))) [4]) aNil))))
def G__law_relabelled : GMap := defG 6 [0, 0] F__law_relabelled
def F__law_plain : SM :=
    (sSeq (sSet 2 0 (eOp2 dAdd (eC (.int 1)) (eCallD [some 0, none] [1, 0] (acOwn 0 (acCons (eVar 1 0) acNil)) G__law_take)))
    (sSeq (sSet 3 0 (eCallD [some 0, none] [1, 0] (acOwn 0 (acCons (eC (.int 7)) acNil)) G__law_take))
    (sSeq (sIf (tCmpM dEq (eVar 3 0) (eC (.int 0)))
    (sRet (eCall dTuple (aCons (eComp (iRg1 (aCons (eVar 2 0) aNil)) (gNm 9) tYesM (lOne (eCall dTuple (aCons (eOp2 dMul (eLst (aCons (eVar 9 0) aNil)) (eVar 2 0)) aNil))) [9]) aNil)))
    sNil)
    (sSeq (sIf (tCmpM dEq (eVar 3 0) (eC (.int 1)))
    (sRet (eCall dTuple (aCons (eComp (iRg1 (aCons (eVar 2 0) aNil)) (gNm 9) tYesM (lOne (eCall dTuple (aCons (eCall dRange (aCons (eVar 2 0) aNil)) aNil))) [9]) aNil)))
    sNil)
    (sSeq (sIf (tCmpM dEq (eVar 3 0) (eC (.int 2)))
    (sRet (eCall dTuple (aCons (eComp (iRg1 (aCons (eVar 2 0) aNil)) (gNm 9) tYesM (lOne (eCall dTuple (aCons (eOp2 dMul (eLst (aCons (eC (.int 0)) aNil)) (eVar 2 0)) aNil))) [9]) aNil)))
    sNil)
    (sSeq (sIf (tCmpM dEq (eVar 3 0) (eC (.int 3)))
    (sRet (eCall dTuple (aCons (eComp (iRg1 (aCons (eVar 2 0) aNil)) (gNm 9) tYesM (lOne (eCall dTuple (aCons (eComp (iRg1 (aCons (eVar 2 0) aNil)) (gNm 10) tYesM (lOne (eCall dMin2 (aCons (eVar 9 0) (aCons (eVar 10 0) aNil)))) [10]) aNil))) [9]) aNil)))
    sNil)
    (sSeq (sIf (tCmpM dEq (eVar 3 0) (eC (.int 4)))
    (sRet (eCall dTuple (aCons (eComp (iRg1 (aCons (eVar 2 0) aNil)) (gNm 9) tYesM (lOne (eCall dTuple (aCons (eComp (iRg1 (aCons (eVar 2 0) aNil)) (gNm 10) tYesM (lOne (eOp2 dMod (eCall dIntC (aCons (eOp2 dAdd (eVar 9 0) (eVar 10 0)) aNil)) (eVar 2 0))) [10]) aNil))) [9]) aNil)))
    sNil)
    (sSeq (sIf (tCmpM dEq (eVar 3 0) (eC (.int 5)))
    (sSeq (sSet 4 0 (eOp2 dAdd (eC (.int 1)) (eCallD [some 0, none] [1, 0] (acOwn 0 (acCons (eVar 2 0) acNil)) G__law_take)))
    (sSeq (sSet 5 0 (eOp2 dSub (eOp2 dAdd (eVar 2 0) (eC (.int 1))) (eVar 4 0)))
    (sSeq (sSet 6 0 (eComp (iRg1 (aCons (eOp2 dAdd (eOp2 dMul (eC (.int 2)) (eVar 2 0)) (eC (.int 1))) aNil)) (gNm 11) tYesM (lOne (eIfM (tCmpM dLt (eVar 11 0) (eVar 2 0)) (eVar 11 0) (eOp2 dAdd (eOp2 dSub (eVar 4 0) (eC (.int 1))) (eOp2 dMod (eCall dIntC (aCons (eOp2 dAdd (eOp2 dSub (eVar 11 0) (eVar 4 0)) (eC (.int 1))) aNil)) (eVar 5 0))))) [11]))
    (sRet (eCall dTuple (aCons (eComp (iRg1 (aCons (eVar 2 0) aNil)) (gNm 9) tYesM (lOne (eCall dTuple (aCons (eComp (iRg1 (aCons (eVar 2 0) aNil)) (gNm 10) tYesM (lOne (eIx (0 - 1) (eVar 6 0) (eOp2 dAdd (eOp2 dAdd (eVar 9 0) (eVar 10 0)) (eC (.int 1))))) [10]) aNil))) [9]) aNil))))))
    sNil)
    (sSeq (sSet 7 0 (eOp2 dAdd (eC (.int 1)) (eCallD [some 0, none] [1, 0] (acOwn 0 (acCons (eC (.int 3)) acNil)) G__law_take)))
    (sSeq (sSet 8 0 (eCall dMax2 (aCons (eC (.int 1)) (aCons (eOp2 dDiv (eVar 1 0) (eVar 7 0)) aNil))))
    (sSeq (sSet 8 0 (eOp2 dAdd (eC (.int 1)) (eCallD [some 0, none] [1, 0] (acOwn 0 (acCons (eCall dMin2 (aCons (eC (.int 3)) (aCons (eVar 8 0) aNil))) acNil)) G__law_take)))
    (sSeq (sIf (tCmpM dGt (eOp2 dMul (eVar 7 0) (eVar 8 0)) (eVar 1 0))
    (sAsg (eTup (aCons (eC (.int 1)) (aCons (eCall dMin2 (aCons (eVar 1 0) (aCons (eC (.int 2)) aNil))) aNil))) (gTq 2 (gsCons (gNm 7) (gsCons (gNm 8) gsNil))))
    sNil)
    (sRet (eCall dTuple (aCons (eComp (iRg1 (aCons (eOp2 dMul (eVar 7 0) (eVar 8 0)) aNil)) (gNm 9) tYesM (lOne (eCall dTuple (aCons (eComp (iRg1 (aCons (eOp2 dMul (eVar 7 0) (eVar 8 0)) aNil)) (gNm 10) tYesM (lOne (eOp2 dAdd (eOp2 dMul (eOp2 dDiv (eVar 9 0) (eVar 8 0)) (eVar 8 0)) (eOp2 dMod (eCall dIntC (aCons (eVar 10 0) aNil)) (eVar 8 0)))) [10]) aNil))) [9]) aNil)))))))))))))))
def G__law_plain : GMap := defG 12 [1, 0] F__law_plain
def F__law_drawn : SM :=
    (sSeq (sAsg (eTup (aCons (eC .non) (aCons (eCallD [some 0, none] [1, 0] (acOwn 0 (acCons (eC (.int 6)) acNil)) G__law_take) aNil))) (gTq 2 (gsCons (gNm 2) (gsCons (gNm 3) gsNil))))
    (sSeq (sFor (iRg1 (aCons (eVar 3 0) aNil)) (gNm 4)
    (sSeq (sSet 5 0 (eOp2 dAdd (eC (.int 2)) (eCallD [some 0, none] [1, 0] (acOwn 0 (acCons (eC (.int 3)) acNil)) G__law_take)))
    (sSeq (sSet 6 0 (eComp (iRg1 (aCons (eOp2 dAdd (eC (.int 1)) (eCallD [some 0, none] [1, 0] (acOwn 0 (acCons (eC (.int 2)) acNil)) G__law_take)) aNil)) (gNm 10) tYesM (lOne (eCall dTuple (aCons (eComp (iRg1 (aCons (eVar 5 0) aNil)) (gNm 11) tYesM (lOne (eCallD [some 0, none] [1, 0] (acOwn 0 (acCons (eVar 5 0) acNil)) G__law_take)) [11]) aNil))) [10]))
    (sSeq (sSet 7 0 (eCallD [none, none] [0, 0] (acCons (eVar 6 0) (acCons (eVar 1 0) acNil)) G__law_from_moves))
    (sIf (tAndM (tCmpM dIsNot (eVar 7 0) (eC .non)) (tOrM (tCmpM dIs (eVar 2 0) (eC .non)) (tCmpM dGt (eCall dLen (aCons (eVar 7 0) aNil)) (eCall dLen (aCons (eVar 2 0) aNil)))))
    (sSet 2 0 (eVar 7 0))
    sNil)))))
    (sSeq (sIf (tCmpM dIs (eVar 2 0) (eC .non))
    (sSet 2 0 (eCallD [some 0, none] [1, 0] (acOwn 0 (acCons (eVar 1 0) acNil)) G__law_plain))
    sNil)
    (sSeq (sIf (tAndM (tCmpM dLt (eCall dLen (aCons (eVar 2 0) aNil)) (eVar 1 0)) (tCmpM dEq (eCallD [some 0, none] [1, 0] (acOwn 0 (acCons (eC (.int 4)) acNil)) G__law_take) (eC (.int 0))))
    (sSeq (sAsg (eTup (aCons (eCall dLen (aCons (eVar 2 0) aNil)) (aCons (eCallD [some 0, none] [1, 0] (acOwn 0 (acCons (eC (.int 2)) acNil)) G__law_take) aNil))) (gTq 2 (gsCons (gNm 8) (gsCons (gNm 9) gsNil))))
    (sSeq (sSet 2 0 (eCall dTuple (aCons (eComp (iRg1 (aCons (eVar 8 0) aNil)) (gNm 12) tYesM (lOne (eOp2 dAdd (eIx (0 - 1) (eVar 2 0) (eVar 12 0)) (eTup (aCons (eIfM (tCmpM dEq (eVar 9 0) (eC (.int 0))) (eVar 12 0) (eVar 8 0)) aNil)))) [12]) aNil)))
    (sSet 2 0 (eOp2 dAdd (eVar 2 0) (eTup (aCons (eIfM (tCmpM dEq (eVar 9 0) (eC (.int 0))) (eOp2 dAdd (eCall dTuple (aCons (eCall dRange (aCons (eVar 8 0) aNil)) aNil)) (eTup (aCons (eVar 8 0) aNil))) (eOp2 dMul (eTup (aCons (eVar 8 0) aNil)) (eOp2 dAdd (eVar 8 0) (eC (.int 1))))) aNil))))))
    sNil)
    (sRet (eCallD [none, none] [0, 0] (acCons (eVar 2 0) (acCons (eCallD [some 0, none] [1, 0] (acOwn 0 (acCons (eCall dList (aCons (eCall dRange (aCons (eCall dLen (aCons (eVar 2 0) aNil)) aNil)) aNil)) acNil)) G__law_mixed) acNil)) G__law_relabelled))))))
def G__law_drawn : GMap := defG 13 [1, 0] F__law_drawn
def F__law_spoilt : SM :=
    (sSeq (sSet 2 0 (eCall dLen (aCons (eVar 1 0) aNil)))
    (sSeq (sPar 3 4 0 0 (eCallD [some 0, none] [1, 0] (acOwn 0 (acCons (eVar 2 0) acNil)) G__law_take) (eCallD [some 0, none] [1, 0] (acOwn 0 (acCons (eVar 2 0) acNil)) G__law_take))
    (sSeq (sSet 5 0 (eOp2 dAdd (eOp2 dAdd (eSl (eIx (0 - 1) (eVar 1 0) (eVar 3 0)) oNo (oSo (eVar 4 0))) (eTup (aCons (eCallD [some 0, none] [1, 0] (acOwn 0 (acCons (eVar 2 0) acNil)) G__law_take) aNil))) (eSl (eIx (0 - 1) (eVar 1 0) (eVar 3 0)) (oSo (eOp2 dAdd (eVar 4 0) (eC (.int 1)))) oNo)))
    (sRet (eOp2 dAdd (eOp2 dAdd (eSl (eVar 1 0) oNo (oSo (eVar 3 0))) (eTup (aCons (eVar 5 0) aNil))) (eSl (eVar 1 0) (oSo (eOp2 dAdd (eVar 3 0) (eC (.int 1)))) oNo))))))
def G__law_spoilt : GMap := defG 6 [1, 0] F__law_spoilt
def F__law_base : SM :=
    (sSeq (sSet 1 0 (eTup (aCons (eC (.int 3)) (aCons (eC (.int 3)) (aCons (eC (.int 3)) (aCons (eC (.int 3)) aNil))))))
    (sSeq (sSet 2 1 (eDisp (pCons (eC (.str "aaa")) (eLst (aCons (eTup (aCons (eC (.int 2)) (aCons (eC (.int 2)) (aCons (eC (.int 2)) aNil)))) (aCons (eTup (aCons (eVar 1 0) (aCons (eTup (aCons (eC (.int 3)) (aCons (eC (.int 3)) (aCons (eC (.int 0)) (aCons (eC (.int 3)) aNil))))) (aCons (eTup (aCons (eC (.int 3)) (aCons (eC (.int 3)) (aCons (eC (.int 1)) (aCons (eC (.int 3)) aNil))))) (aCons (eVar 1 0) aNil))))) aNil))) (pCons (eC (.str "aab")) (eLst (aCons (eTup (aCons (eC (.int 0)) (aCons (eC (.int 0)) (aCons (eC (.int 1)) aNil)))) (aCons (eTup (aCons (eTup (aCons (eC (.int 3)) (aCons (eC (.int 1)) (aCons (eC (.int 3)) (aCons (eC (.int 3)) aNil))))) (aCons (eVar 1 0) (aCons (eVar 1 0) (aCons (eVar 1 0) aNil))))) aNil))) pNil))))
    (sSeq (sDSet 2 (eLst (aCons (eTup (aCons (eC (.int 1)) (aCons (eC (.int 0)) (aCons (eC (.int 1)) aNil)))) (aCons (eTup (aCons (eTup (aCons (eC (.int 0)) (aCons (eC (.int 1)) (aCons (eC (.int 2)) (aCons (eC (.int 3)) aNil))))) (aCons (eTup (aCons (eC (.int 3)) (aCons (eC (.int 2)) (aCons (eC (.int 3)) (aCons (eC (.int 3)) aNil))))) (aCons (eVar 1 0) (aCons (eVar 1 0) aNil))))) aNil))) (eC (.str "aba")))
    (sSeq (sDSet 2 (eLst (aCons (eTup (aCons (eC (.int 0)) (aCons (eC (.int 2)) (aCons (eC (.int 2)) aNil)))) (aCons (eTup (aCons (eTup (aCons (eC (.int 3)) (aCons (eC (.int 3)) (aCons (eC (.int 0)) (aCons (eC (.int 3)) aNil))))) (aCons (eVar 1 0) (aCons (eVar 1 0) (aCons (eVar 1 0) aNil))))) aNil))) (eC (.str "abb")))
    (sSeq (sDSet 2 (eLst (aCons (eTup (aCons (eC (.int 0)) (aCons (eC (.int 1)) (aCons (eC (.int 2)) aNil)))) (aCons (eTup (aCons (eTup (aCons (eC (.int 0)) (aCons (eC (.int 1)) (aCons (eC (.int 3)) (aCons (eC (.int 3)) aNil))))) (aCons (eTup (aCons (eC (.int 0)) (aCons (eC (.int 1)) (aCons (eC (.int 2)) (aCons (eC (.int 3)) aNil))))) (aCons (eTup (aCons (eC (.int 2)) (aCons (eC (.int 2)) (aCons (eC (.int 3)) (aCons (eC (.int 3)) aNil))))) (aCons (eVar 1 0) aNil))))) aNil))) (eC (.str "abc")))
    (sRet (eIx (1 - 1) (eVar 2 1) (eVar 0 0))))))))
def G__law_base : GMap := defG 3 [0] F__law_base
def F__law_planted : SM :=
    (sSeq (sSet 2 0 (eOp2 dAdd (eC (.int 1)) (eCallD [some 0, none] [1, 0] (acOwn 0 (acCons (eOp2 dDiv (eOp2 dSub (eVar 1 0) (eC (.int 1))) (eC (.int 3))) acNil)) G__law_take)))
    (sSeq (sPar 3 4 2 1 (eComp (iRg1 (aCons (eVar 1 0) aNil)) (gNm 9) tYesM (lOne (eOp2 dMul (eLst (aCons (eOp2 dSub (eVar 1 0) (eC (.int 1))) aNil)) (eVar 1 0))) [9]) (eC (.lst [])))
    (sSeq (sFor (iRg1 (aCons (eVar 2 0) aNil)) (gNm 5)
    (sSeq (sAsg (eCallD [none] [0] (acCons (eIx (0 - 1) (eLst (aCons (eC (.str "aaa")) (aCons (eC (.str "aab")) (aCons (eC (.str "aba")) (aCons (eC (.str "abb")) (aCons (eC (.str "abc")) aNil)))))) (eCallD [some 0, none] [1, 0] (acOwn 0 (acCons (eC (.int 5)) acNil)) G__law_take)) acNil) G__law_base) (gTq 2 (gsCons (gNm 6) (gsCons (gNm 7) gsNil))))
    (sSeq (sSet 8 0 (eLst (aCons (eOp2 dMul (eC (.int 3)) (eVar 5 0)) (aCons (eOp2 dAdd (eOp2 dMul (eC (.int 3)) (eVar 5 0)) (eC (.int 1))) (aCons (eOp2 dAdd (eOp2 dMul (eC (.int 3)) (eVar 5 0)) (eC (.int 2))) (aCons (eOp2 dSub (eVar 1 0) (eC (.int 1))) aNil))))))
    (sSeq (sFor (iRg1 (aCons (eC (.int 4)) aNil)) (gNm 9)
    (sFor (iRg1 (aCons (eC (.int 4)) aNil)) (gNm 10)
    (sSetLL 3 (eIx (0 - 1) (eVar 8 0) (eIx (0 - 1) (eIx (0 - 1) (eVar 7 0) (eVar 9 0)) (eVar 10 0))) (eIx (0 - 1) (eVar 8 0) (eVar 9 0)) (eIx (0 - 1) (eVar 8 0) (eVar 10 0)))))
    (sExpr (eMeth 4 gAppend (aCons (eCall dTuple (aCons (eComp (iLst' (eVar 6 0)) (gNm 9) tYesM (lOne (eIx (0 - 1) (eVar 8 0) (eVar 9 0))) [9]) aNil)) aNil)))))))
    (sSeq (sSet 11 0 (eCallD [some 0, none] [1, 0] (acOwn 0 (acCons (eCall dList (aCons (eCall dRange (aCons (eVar 1 0) aNil)) aNil)) acNil)) G__law_mixed))
    (sFrz 3 (sSeq (sSet 12 0 (eCallD [none, none] [0, 0] (acCons (eCall dTuple (aCons (eComp (iLst' (eVar 3 0)) (gNm 13) tYesM (lOne (eCall dTuple (aCons (eVar 13 0) aNil))) [13]) aNil)) (acCons (eVar 11 0) acNil)) G__law_relabelled))
    (sFrz 4 (sRet (eLst (aCons (eVar 12 0) (aCons (eCall dSorted (aCons (eComp (iLst' (eVar 4 0)) (gNm 6) tYesM (lOne (eCall dTuple (aCons (eComp (iLst' (eVar 6 0)) (gNm 9) tYesM (lOne (eIx (0 - 1) (eVar 11 0) (eVar 9 0))) [9]) aNil))) [6]) aNil)) aNil)))))))))))
def G__law_planted : GMap := defG 14 [1, 0] F__law_planted
def F__law_made_of : SM :=
    (sSeq (sSet 2 0 (eCall dSorted (aCons (eCall (dDict false) (aCons (eComp (iLst' (eVar 1 0)) (gNm 5) tYesM (lOne (eTup (aCons (eVar 5 0) (aCons (eC (.bl true)) aNil)))) [5]) aNil)) aNil)))
    (sSeq (sFor (iRg1 (aCons (eCall dLen (aCons (eVar 0 0) aNil)) aNil)) (gNm 3)
    (sSeq (sSet 4 1 (eCall (dDict false) (aCons (eComp (iLst' (eVar 2 0)) (gNm 5) tYesM (lOne (eTup (aCons (eVar 5 0) (aCons (eC (.bl true)) aNil)))) [5]) aNil)))
    (sSeq (sFor (iLst' (eVar 2 0)) (gNm 5)
    (sFor (iLst' (eVar 2 0)) (gNm 6)
    (sDSet 4 (eC (.bl true)) (eIx (0 - 1) (eIx (0 - 1) (eVar 0 0) (eVar 5 0)) (eVar 6 0)))))
    (sSet 2 0 (eCall dSorted (aCons (eVar 4 1) aNil))))))
    (sRet (eVar 2 0))))
def G__law_made_of : GMap := defG 7 [0, 0] F__law_made_of
def F_are_different : SM :=
    (sRet (eAndM (eCallD [none, none] [0, 0] (acCons (eVar 0 0) (acCons (eVar 1 0) acNil)) G_are_elements) (eOp2 dEq (eLenSet (eVar 0 0)) (eCall dLen (aCons (eVar 0 0) aNil)))))
def G_are_different : GMap := defG 2 [0, 0] F_are_different
def F_light : SM :=
    (sSeq (sExpr (eCallD [none] [0] (acCons (eVar 0 0) acNil) G_check_table))
    (sSeq (sIf (tNotM (tVal (eCallD [none, none] [0, 0] (acCons (eVar 1 0) (acCons (eCall dLen (aCons (eVar 0 0) aNil)) acNil)) G_are_different)))
    sNever
    sNil)
    (sRet (eCallD [none, none] [0, 0] (acCons (eVar 0 0) (acCons (eCall dList (aCons (eVar 1 0) aNil)) acNil)) G_broken_with))))
def G_light : GMap := defG 2 [0, 0] F_light
def F__law_told : SM :=
    (sRet (eIfM (tVal (eVar 2 0)) (eCallK ([] ++ [none, none]) [0, 0] [1, 0] acNil (acCons (eCall dTuple (aCons (eVar 1 0) aNil)) (acCons (eVar 0 0) acNil)) G_light) (eCallD [none, none] [0, 0] (acCons (eVar 0 0) (acCons (eCall dList (aCons (eVar 1 0) aNil)) acNil)) G_light)))
def G__law_told : GMap := defG 3 [0, 0, 0] F__law_told
def F__law_middles_right : SM :=
    (sSeq (sSet 4 0 (eCall dLen (aCons (eVar 1 0) aNil)))
    (sSeq (sSet 5 0 (eCallD [some 0, none] [1, 0] (acOwn 0 (acCons (eCall dList (aCons (eCall dRange (aCons (eVar 4 0) aNil)) aNil)) acNil)) G__law_mixed))
    (sSeq (sSet 6 0 (eOp2 dAdd (eComp (iLst' (eVar 5 0)) (gNm 11) tYesM (lOne (eLst (aCons (eVar 11 0) aNil))) [11]) (eLst (aCons (eSl (eVar 5 0) oNo (oSo (eC (.int 2)))) (aCons (eSlM (eVar 5 0) (oSo (eC (.int 2))) (oSo (eC (.int 0)))) (aCons (eSl (eVar 5 0) oNo (oSo (eNeg (eC (.int 1))))) (aCons (eSl (eVar 5 0) (oSo (eC (.int 1))) oNo) (aCons (eVar 5 0) (aCons (eRevL (eVar 5 0)) (aCons (eC (.lst [])) aNil))))))))))
    (sSeq (sSet 6 0 (eOp2 dAdd (eVar 6 0) (eComp (iRg1 (aCons (eC (.int 3)) aNil)) (gNm 12) tYesM (lOne (eSl (eVar 5 0) oNo (oSo (eCallD [some 0, none] [1, 0] (acOwn 0 (acCons (eOp2 dAdd (eVar 4 0) (eC (.int 1))) acNil)) G__law_take)))) [12])))
    (sSeq (sFor (iLst' (eVar 6 0)) (gNm 7)
    (sSeq (sSet 8 0 (eComp (iLst' (eVar 2 0)) (gNm 13) (tCmpM dIn (eIx (0 - 1) (eVar 13 0) (eC (.int 1))) (eVar 7 0)) (lOne (eVar 13 0)) [13]))
    (sSeq (sSet 9 1 (eCallD [none, none, none] [0, 0, 0] (acCons (eVar 1 0) (acCons (eVar 7 0) (acCons (eVar 3 0) acNil))) G__law_told))
    (sSeq (sIf (tNotM (tVal (eCallD [some 9, none] [1, 0] (acOwn 9 (acCons (eVar 8 0) acNil)) G__law_same_v0)))
    (sRet (eC (.bl false)))
    sNil)
    (sSeq (sExpr (eMeth 9 gAppend (aCons (eTup (aCons (eC (.int 0)) (aCons (eC (.int 0)) (aCons (eC (.int 0)) aNil)))) aNil)))
    (sSeq (sSet 10 0 (eComp (iLst' (eVar 5 0)) (gNm 11) (tCmpM dNotIn (eVar 11 0) (eVar 7 0)) (lOne (eVar 11 0)) [11]))
    (sSeq (sIf (tNotM (tVal (eCallD [none, none] [0, 0] (acCons (eCall dSorted (aCons (eOp2 dAdd (eVar 8 0) (eCallD [none, none, none] [0, 0, 0] (acCons (eVar 1 0) (acCons (eVar 10 0) (acCons (eNotM (eVar 3 0)) acNil))) G__law_told)) aNil)) (acCons (eVar 2 0) acNil)) G__law_same)))
    (sRet (eC (.bl false)))
    sNil)
    (sSeq (sIf (tAndM (tCmpM dEq (eCall dLen (aCons (eCallD [none, none] [0, 0] (acCons (eVar 1 0) (acCons (eVar 7 0) acNil)) G__law_made_of) aNil)) (eVar 4 0)) (tCmpM dNe (eOp2 dEq (eVar 8 0) (eC (.lst []))) (eOp2 dEq (eVar 2 0) (eC (.lst [])))))
    (sRet (eC (.bl false)))
    sNil)
    (sSet 3 0 (eNotM (eVar 3 0)))))))))))
    (sRet (eC (.bl true))))))))
def G__law_middles_right : GMap := defG 14 [1, 0, 0, 0] F__law_middles_right
def F_law : SM :=
    (sSeq (sFor (iRg1 (aCons (eCall dMax2 (aCons (eC (.int 1)) (aCons (eCall dMin2 (aCons (eC (.int 2)) (aCons (eCall dLen (aCons (eVar 0 0) aNil)) aNil))) aNil))) aNil)) (gNm 1)
    (sSeq (sSet 2 1 (eCallD [none] [0] (acCons (eCallD [none, none] [0, 0] (acCons (eVar 0 0) (acCons (eVar 1 0) acNil)) G__law_cell) acNil) G__law_box))
    (sSeq (sPar 3 4 0 0 (eOp2 dEq (eCallD [some 2, none] [1, 0] (acOwn 2 (acCons (eC (.int 2)) acNil)) G__law_take) (eC (.int 0))) (eIx (0 - 1) (eLst (aCons (eC (.int 4)) (aCons (eC (.int 5)) (aCons (eC (.int 7)) (aCons (eC (.int 10)) (aCons (eOp2 dAdd (eC (.int 4)) (eCallD [some 2, none] [1, 0] (acOwn 2 (acCons (eC (.int 7)) acNil)) G__law_take)) aNil)))))) (eCallD [some 2, none] [1, 0] (acOwn 2 (acCons (eC (.int 5)) acNil)) G__law_take)))
    (sFor (iRg1 (aCons (eC (.int 2)) aNil)) (gNm 5)
    (sSeq (sAsg (eCallD [some 2, none] [1, 0] (acOwn 2 (acCons (eVar 4 0) acNil)) G__law_planted) (gTq 2 (gsCons (gNm 6) (gsCons (gNm 7) gsNil))))
    (sSeq (sIf (tCmpM dNe (eCallD [none] [0] (acCons (eVar 6 0) acNil) G__law_broken) (eVar 7 0))
    (sRet (eC (.bl false)))
    sNil)
    (sSeq (sIf (tOrM (tNotM (tVal (eCallD [none, none] [0, 0] (acCons (eIfM (tVal (eVar 3 0)) (eCallK ([] ++ [none]) [0] [0] acNil (acCons (eVar 6 0) acNil) G_broken) (eCallD [none] [0] (acCons (eVar 6 0) acNil) G_broken)) (acCons (eVar 7 0) acNil)) G__law_same))) (tCmpM dIsNot (eCallD [none] [0] (acCons (eVar 6 0) acNil) G_is_semigroup) (eC (.bl false))))
    (sRet (eC (.bl false)))
    sNil)
    (sSeq (sIf (tNotM (tVal (eCallD [some 2, none, none, none] [1, 0, 0, 0] (acOwn 2 (acCons (eVar 6 0) (acCons (eVar 7 0) (acCons (eVar 3 0) acNil)))) G__law_middles_right)))
    (sRet (eC (.bl false)))
    sNil)
    (sSeq (sSet 8 0 (eCallD [some 2, none] [1, 0] (acOwn 2 (acCons (eVar 6 0) acNil)) G__law_spoilt))
    (sSeq (sIf (tNotM (tVal (eCallD [some 2, none, none, none] [1, 0, 0, 0] (acOwn 2 (acCons (eVar 8 0) (acCons (eCallD [none] [0] (acCons (eVar 8 0) acNil) G__law_broken) (acCons (eNotM (eVar 3 0)) acNil)))) G__law_middles_right)))
    (sRet (eC (.bl false)))
    sNil)
    (sSeq (sSet 9 0 (eCallD [some 2, none] [1, 0] (acOwn 2 (acCons (eC (.int 6)) acNil)) G__law_drawn))
    (sSeq (sIf (tNotM (tVal (eCallD [some 2, none, none, none] [1, 0, 0, 0] (acOwn 2 (acCons (eVar 9 0) (acCons (eC (.lst [])) (acCons (eVar 3 0) acNil)))) G__law_middles_right)))
    (sRet (eC (.bl false)))
    sNil)
    (sSet 3 0 (eNotM (eVar 3 0)))))))))))))))
    (sRet (eC (.bl true))))
def G_law : GMap := defG 10 [0] F_law
/-! ### what the top holds -/
structure Txt (K : PySem.W.Frag) (w : World) (mg : Str → Option Value) where
  v_MOST_ELEMENTS : GloV K mg "MOST_ELEMENTS" c_MOST_ELEMENTS
  n_abs : mg "abs" = none
  n_all : mg "all" = none
  n_bool : mg "bool" = none
  n_dict : mg "dict" = none
  n_int : mg "int" = none
  n_isinstance : mg "isinstance" = none
  n_len : mg "len" = none
  n_list : mg "list" = none
  n_max : mg "max" = none
  n_min : mg "min" = none
  n_range : mg "range" = none
  n_set : mg "set" = none
  n_sorted : mg "sorted" = none
  n_str : mg "str" = none
  n_sum : mg "sum" = none
  n_tuple : mg "tuple" = none
  f_is_tuple : Addr
  d_is_tuple : FuncData
  F_is_tuple : FnP K "is_tuple" s_is_tuple f_is_tuple d_is_tuple
  g_is_tuple : mg "is_tuple" = some (.ref f_is_tuple)
  f_is_integer : Addr
  d_is_integer : FuncData
  F_is_integer : FnP K "is_integer" s_is_integer f_is_integer d_is_integer
  g_is_integer : mg "is_integer" = some (.ref f_is_integer)
  f_is_within : Addr
  d_is_within : FuncData
  F_is_within : FnP K "is_within" s_is_within f_is_within d_is_within
  g_is_within : mg "is_within" = some (.ref f_is_within)
  f_is_index : Addr
  d_is_index : FuncData
  F_is_index : FnP K "is_index" s_is_index f_is_index d_is_index
  g_is_index : mg "is_index" = some (.ref f_is_index)
  f_is_list : Addr
  d_is_list : FuncData
  F_is_list : FnP K "is_list" s_is_list f_is_list d_is_list
  g_is_list : mg "is_list" = some (.ref f_is_list)
  f_are_elements : Addr
  d_are_elements : FuncData
  F_are_elements : FnP K "are_elements" s_are_elements f_are_elements d_are_elements
  g_are_elements : mg "are_elements" = some (.ref f_are_elements)
  f_is_table : Addr
  d_is_table : FuncData
  F_is_table : FnP K "is_table" s_is_table f_is_table d_is_table
  g_is_table : mg "is_table" = some (.ref f_is_table)
  f_is_broken : Addr
  d_is_broken : FuncData
  F_is_broken : FnP K "is_broken" s_is_broken f_is_broken d_is_broken
  g_is_broken : mg "is_broken" = some (.ref f_is_broken)
  f_broken_with : Addr
  d_broken_with : FuncData
  F_broken_with : FnP K "broken_with" s_broken_with f_broken_with d_broken_with
  g_broken_with : mg "broken_with" = some (.ref f_broken_with)
  f_is_semigroup : Addr
  d_is_semigroup : FuncData
  F_is_semigroup : FnP K "is_semigroup" s_is_semigroup f_is_semigroup d_is_semigroup
  g_is_semigroup : mg "is_semigroup" = some (.ref f_is_semigroup)
  f_check_table : Addr
  d_check_table : FuncData
  F_check_table : FnP K "check_table" s_check_table f_check_table d_check_table
  g_check_table : mg "check_table" = some (.ref f_check_table)
  f_broken : Addr
  d_broken : FuncData
  F_broken : FnP K "broken" s_broken f_broken d_broken
  g_broken : mg "broken" = some (.ref f_broken)
  f__law_cell : Addr
  d__law_cell : FuncData
  F__law_cell : FnP K "_law_cell" s__law_cell f__law_cell d__law_cell
  g__law_cell : mg "_law_cell" = some (.ref f__law_cell)
  f__law_box : Addr
  d__law_box : FuncData
  F__law_box : FnP K "_law_box" s__law_box f__law_box d__law_box
  g__law_box : mg "_law_box" = some (.ref f__law_box)
  f__law_take : Addr
  d__law_take : FuncData
  F__law_take : FnP K "_law_take" s__law_take f__law_take d__law_take
  g__law_take : mg "_law_take" = some (.ref f__law_take)
  f__law_same : Addr
  d__law_same : FuncData
  F__law_same : FnP K "_law_same" s__law_same f__law_same d__law_same
  g__law_same : mg "_law_same" = some (.ref f__law_same)
  f__law_broken : Addr
  d__law_broken : FuncData
  F__law_broken : FnP K "_law_broken" s__law_broken f__law_broken d__law_broken
  g__law_broken : mg "_law_broken" = some (.ref f__law_broken)
  f__law_mixed : Addr
  d__law_mixed : FuncData
  F__law_mixed : FnP K "_law_mixed" s__law_mixed f__law_mixed d__law_mixed
  g__law_mixed : mg "_law_mixed" = some (.ref f__law_mixed)
  f__law_followed : Addr
  d__law_followed : FuncData
  F__law_followed : FnP K "_law_followed" s__law_followed f__law_followed d__law_followed
  g__law_followed : mg "_law_followed" = some (.ref f__law_followed)
  f__law_from_moves : Addr
  d__law_from_moves : FuncData
  F__law_from_moves : FnP K "_law_from_moves" s__law_from_moves f__law_from_moves d__law_from_moves
  g__law_from_moves : mg "_law_from_moves" = some (.ref f__law_from_moves)
  f__law_relabelled : Addr
  d__law_relabelled : FuncData
  F__law_relabelled : FnP K "_law_relabelled" s__law_relabelled f__law_relabelled d__law_relabelled
  g__law_relabelled : mg "_law_relabelled" = some (.ref f__law_relabelled)
  f__law_plain : Addr
  d__law_plain : FuncData
  F__law_plain : FnP K "_law_plain" s__law_plain f__law_plain d__law_plain
  g__law_plain : mg "_law_plain" = some (.ref f__law_plain)
  f__law_drawn : Addr
  d__law_drawn : FuncData
  F__law_drawn : FnP K "_law_drawn" s__law_drawn f__law_drawn d__law_drawn
  g__law_drawn : mg "_law_drawn" = some (.ref f__law_drawn)
  f__law_spoilt : Addr
  d__law_spoilt : FuncData
  F__law_spoilt : FnP K "_law_spoilt" s__law_spoilt f__law_spoilt d__law_spoilt
  g__law_spoilt : mg "_law_spoilt" = some (.ref f__law_spoilt)
  f__law_base : Addr
  d__law_base : FuncData
  F__law_base : FnP K "_law_base" s__law_base f__law_base d__law_base
  g__law_base : mg "_law_base" = some (.ref f__law_base)
  f__law_planted : Addr
  d__law_planted : FuncData
  F__law_planted : FnP K "_law_planted" s__law_planted f__law_planted d__law_planted
  g__law_planted : mg "_law_planted" = some (.ref f__law_planted)
  f__law_made_of : Addr
  d__law_made_of : FuncData
  F__law_made_of : FnP K "_law_made_of" s__law_made_of f__law_made_of d__law_made_of
  g__law_made_of : mg "_law_made_of" = some (.ref f__law_made_of)
  f_are_different : Addr
  d_are_different : FuncData
  F_are_different : FnP K "are_different" s_are_different f_are_different d_are_different
  g_are_different : mg "are_different" = some (.ref f_are_different)
  f_light : Addr
  d_light : FuncData
  F_light : FnP K "light" s_light f_light d_light
  g_light : mg "light" = some (.ref f_light)
  f__law_told : Addr
  d__law_told : FuncData
  F__law_told : FnP K "_law_told" s__law_told f__law_told d__law_told
  g__law_told : mg "_law_told" = some (.ref f__law_told)
  f__law_middles_right : Addr
  d__law_middles_right : FuncData
  F__law_middles_right : FnP K "_law_middles_right" s__law_middles_right f__law_middles_right d__law_middles_right
  g__law_middles_right : mg "_law_middles_right" = some (.ref f__law_middles_right)
  f_law : Addr
  d_law : FuncData
  F_law : FnP K "law" s_law f_law d_law
  g_law : mg "law" = some (.ref f_law)
namespace Txt
variable {K : PySem.W.Frag} {w : World} {mg : Str → Option Value}
theorem b_is_tuple (T : Txt K w mg) : Binds K T.d_is_tuple ["value", "many"] [] := T.F_is_tuple.bindsN fun _ _ _ _ _ _ us hl => match us, hl with | [_, _], _ => rfl
theorem b_is_integer (T : Txt K w mg) : Binds K T.d_is_integer ["value"] [] := T.F_is_integer.bindsN fun _ _ _ _ _ _ us hl => match us, hl with | [_], _ => rfl
theorem b_is_within (T : Txt K w mg) : Binds K T.d_is_within ["value", "low", "high"] [] := T.F_is_within.bindsN fun _ _ _ _ _ _ us hl => match us, hl with | [_, _, _], _ => rfl
theorem b_is_index (T : Txt K w mg) : Binds K T.d_is_index ["value", "many"] [] := T.F_is_index.bindsN fun _ _ _ _ _ _ us hl => match us, hl with | [_, _], _ => rfl
theorem b_is_list (T : Txt K w mg) : Binds K T.d_is_list ["value"] [] := T.F_is_list.bindsN fun _ _ _ _ _ _ us hl => match us, hl with | [_], _ => rfl
theorem b_are_elements (T : Txt K w mg) : Binds K T.d_are_elements ["value", "many"] [] := T.F_are_elements.bindsN fun _ _ _ _ _ _ us hl => match us, hl with | [_, _], _ => rfl
theorem b_is_table (T : Txt K w mg) : Binds K T.d_is_table ["value"] [] := T.F_is_table.bindsN fun _ _ _ _ _ _ us hl => match us, hl with | [_], _ => rfl
theorem b_is_broken (T : Txt K w mg) : Binds K T.d_is_broken ["table", "x", "y", "z"] [] := T.F_is_broken.bindsN fun _ _ _ _ _ _ us hl => match us, hl with | [_, _, _, _], _ => rfl
theorem b_broken_with (T : Txt K w mg) : Binds K T.d_broken_with ["table", "middles"] [] := T.F_broken_with.bindsN fun _ _ _ _ _ _ us hl => match us, hl with | [_, _], _ => rfl
theorem b_is_semigroup (T : Txt K w mg) : Binds K T.d_is_semigroup ["value"] [] := T.F_is_semigroup.bindsN fun _ _ _ _ _ _ us hl => match us, hl with | [_], _ => rfl
theorem b_check_table (T : Txt K w mg) : Binds K T.d_check_table ["table"] [] := T.F_check_table.bindsN fun _ _ _ _ _ _ us hl => match us, hl with | [_], _ => rfl
theorem b_broken (T : Txt K w mg) : Binds K T.d_broken ["table"] [] := T.F_broken.bindsN fun _ _ _ _ _ _ us hl => match us, hl with | [_], _ => rfl
theorem b__law_cell (T : Txt K w mg) : Binds K T.d__law_cell ["script", "k"] [] := T.F__law_cell.bindsN fun _ _ _ _ _ _ us hl => match us, hl with | [_, _], _ => rfl
theorem b__law_box (T : Txt K w mg) : Binds K T.d__law_box ["great"] [] := T.F__law_box.bindsN fun _ _ _ _ _ _ us hl => match us, hl with | [_], _ => rfl
theorem b__law_take (T : Txt K w mg) : Binds K T.d__law_take ["box", "many"] [] := T.F__law_take.bindsN fun _ _ _ _ _ _ us hl => match us, hl with | [_, _], _ => rfl
theorem b__law_same (T : Txt K w mg) : Binds K T.d__law_same ["given", "due"] [] := T.F__law_same.bindsN fun _ _ _ _ _ _ us hl => match us, hl with | [_, _], _ => rfl
theorem b__law_broken (T : Txt K w mg) : Binds K T.d__law_broken ["table"] [] := T.F__law_broken.bindsN fun _ _ _ _ _ _ us hl => match us, hl with | [_], _ => rfl
theorem b__law_mixed (T : Txt K w mg) : Binds K T.d__law_mixed ["box", "items"] [] := T.F__law_mixed.bindsN fun _ _ _ _ _ _ us hl => match us, hl with | [_, _], _ => rfl
theorem b__law_followed (T : Txt K w mg) : Binds K T.d__law_followed ["one", "other"] [] := T.F__law_followed.bindsN fun _ _ _ _ _ _ us hl => match us, hl with | [_, _], _ => rfl
theorem b__law_from_moves (T : Txt K w mg) : Binds K T.d__law_from_moves ["moves", "most"] [] := T.F__law_from_moves.bindsN fun _ _ _ _ _ _ us hl => match us, hl with | [_, _], _ => rfl
theorem b__law_relabelled (T : Txt K w mg) : Binds K T.d__law_relabelled ["table", "names"] [] := T.F__law_relabelled.bindsN fun _ _ _ _ _ _ us hl => match us, hl with | [_, _], _ => rfl
theorem b__law_plain (T : Txt K w mg) : Binds K T.d__law_plain ["box", "most"] [] := T.F__law_plain.bindsN fun _ _ _ _ _ _ us hl => match us, hl with | [_, _], _ => rfl
theorem b__law_drawn (T : Txt K w mg) : Binds K T.d__law_drawn ["box", "most"] [] := T.F__law_drawn.bindsN fun _ _ _ _ _ _ us hl => match us, hl with | [_, _], _ => rfl
theorem b__law_spoilt (T : Txt K w mg) : Binds K T.d__law_spoilt ["box", "table"] [] := T.F__law_spoilt.bindsN fun _ _ _ _ _ _ us hl => match us, hl with | [_, _], _ => rfl
theorem b__law_base (T : Txt K w mg) : Binds K T.d__law_base ["word"] [] := T.F__law_base.bindsN fun _ _ _ _ _ _ us hl => match us, hl with | [_], _ => rfl
theorem b__law_planted (T : Txt K w mg) : Binds K T.d__law_planted ["box", "many"] [] := T.F__law_planted.bindsN fun _ _ _ _ _ _ us hl => match us, hl with | [_, _], _ => rfl
theorem b__law_made_of (T : Txt K w mg) : Binds K T.d__law_made_of ["table", "members"] [] := T.F__law_made_of.bindsN fun _ _ _ _ _ _ us hl => match us, hl with | [_, _], _ => rfl
theorem b_are_different (T : Txt K w mg) : Binds K T.d_are_different ["value", "many"] [] := T.F_are_different.bindsN fun _ _ _ _ _ _ us hl => match us, hl with | [_, _], _ => rfl
theorem b_light (T : Txt K w mg) : Binds K T.d_light ["table", "members"] [] := T.F_light.bindsN fun _ _ _ _ _ _ us hl => match us, hl with | [_, _], _ => rfl
theorem b__law_told (T : Txt K w mg) : Binds K T.d__law_told ["table", "members", "named"] [] := T.F__law_told.bindsN fun _ _ _ _ _ _ us hl => match us, hl with | [_, _, _], _ => rfl
theorem b__law_middles_right (T : Txt K w mg) : Binds K T.d__law_middles_right ["box", "table", "due", "named"] [] := T.F__law_middles_right.bindsN fun _ _ _ _ _ _ us hl => match us, hl with | [_, _, _, _], _ => rfl
theorem b_law (T : Txt K w mg) : Binds K T.d_law ["script"] [] := T.F_law.bindsN fun _ _ _ _ _ _ us hl => match us, hl with | [_], _ => rfl
theorem kb_light_0_members_table (T : Txt K w mg) : KBinds K T.d_light ["table", "members"] ["members", "table"] (gP 0 2 [1, 0]) (gP 0 2 [1, 0]) := kb_of T.F_light 0 ["members", "table"] [1, 0] (List.cons_ne_nil _ _) fun _ _ _ _ _ _ us ws hl hl2 => match us, ws, hl, hl2 with | [], [_, _], _, _ => rfl
theorem kb_broken_0_table (T : Txt K w mg) : KBinds K T.d_broken ["table"] ["table"] (gP 0 1 [0]) (gP 0 1 [0]) := kb_of T.F_broken 0 ["table"] [0] (List.cons_ne_nil _ _) fun _ _ _ _ _ _ us ws hl hl2 => match us, ws, hl, hl2 with | [], [_], _, _ => rfl
end Txt
section
variable {P : Program} {w : World} {K : PySem.W.Frag} {mg : Str → Option Value} {base : Heap}
theorem sc_is_tuple : FnScope ["value", "many"] ["value", "many"] (defScope s_is_tuple) := ⟨rfl, rfl, rfl, by decide +kernel, rfl, by decide +kernel, by decide +kernel⟩
theorem ok_is_tuple (T : Txt K w mg) : FnOk P w K mg base CX0 1 T.f_is_tuple T.d_is_tuple ["value", "many"] (spG K [0, 0] 0 G_is_tuple) := by
  have S := sc_is_tuple
  refine dfn_ok (N := ["value", "many"]) (ws := []) (F := F_is_tuple) T.F_is_tuple S rfl (ownP _) fun cdv A outer s H E hr => ?_
  exact (dss_one (ds_ret (de_and (de_callB (k := 0) (fun _ _ h => o_isi h) (by rfl) T.n_isinstance b_isinstance (da_cons (de_var 0 (m := 0)) (da_cons (de_ty T.n_tuple b_tuple) da_nil))) (de_one (de_cmp (k := 0) (fun _ _ _ h => o_eq (u64_ hr) h) (de_callB (k := 0) (fun _ _ h => o_len h) (by rfl) T.n_len b_len (da_cons (de_var 0 (m := 0)) da_nil)) (de_var 1 (m := 0)))))))
theorem sc_is_integer : FnScope ["value"] ["value"] (defScope s_is_integer) := ⟨rfl, rfl, rfl, by decide +kernel, rfl, by decide +kernel, by decide +kernel⟩
theorem ok_is_integer (T : Txt K w mg) : FnOk P w K mg base CX0 1 T.f_is_integer T.d_is_integer ["value"] (spG K [0] 0 G_is_integer) := by
  have S := sc_is_integer
  refine dfn_ok (N := ["value"]) (ws := []) (F := F_is_integer) T.F_is_integer S rfl (ownP _) fun cdv A outer s H E hr => ?_
  exact (dss_one (ds_ret (de_and (de_callB (k := 0) (fun _ _ h => o_isi h) (by rfl) T.n_isinstance b_isinstance (da_cons (de_var 0 (m := 0)) (da_cons (de_ty T.n_int b_int) da_nil))) (de_one (de_not (de_callB (k := 0) (fun _ _ h => o_isi h) (by rfl) T.n_isinstance b_isinstance (da_cons (de_var 0 (m := 0)) (da_cons (de_ty T.n_bool b_bool) da_nil))))))))
theorem sc_is_within : FnScope ["value", "low", "high"] ["value", "low", "high"] (defScope s_is_within) := ⟨rfl, rfl, rfl, by decide +kernel, rfl, by decide +kernel, by decide +kernel⟩
theorem ok_is_within (T : Txt K w mg) : FnOk P w K mg base CX0 2 T.f_is_within T.d_is_within ["value", "low", "high"] (spG K [0, 0, 0] 0 G_is_within) := by
  have S := sc_is_within
  refine dfn_ok (N := ["value", "low", "high"]) (ws := []) (F := F_is_within) T.F_is_within S rfl (ownP _) fun cdv A outer s H E hr => ?_
  exact (dss_one (ds_ret (de_and (de_call (ok_is_integer T) (hr.mono (by decide)) T.g_is_integer T.F_is_integer.kp T.b_is_integer (dac_cons (DE.own0 ((de_var 0 (m := 0)))) dac_nil)) (de_one (de_chain (fun _ _ _ h => o_le h) (fun _ _ _ h => o_le h) h_le (de_var 1 (m := 0)) (de_var 0 (m := 0)) (de_var 2 (m := 0)))))))
theorem sc_is_index : FnScope ["value", "many"] ["value", "many"] (defScope s_is_index) := ⟨rfl, rfl, rfl, by decide +kernel, rfl, by decide +kernel, by decide +kernel⟩
theorem ok_is_index (T : Txt K w mg) : FnOk P w K mg base CX0 3 T.f_is_index T.d_is_index ["value", "many"] (spG K [0, 0] 0 G_is_index) := by
  have S := sc_is_index
  refine dfn_ok (N := ["value", "many"]) (ws := []) (F := F_is_index) T.F_is_index S rfl (ownP _) fun cdv A outer s H E hr => ?_
  exact (dss_one (ds_ret (de_call (ok_is_within T) (hr.mono (by decide)) T.g_is_within T.F_is_within.kp T.b_is_within (dac_cons (DE.own0 ((de_var 0 (m := 0)))) (dac_cons de_int (dac_cons (de_op (k := 0) (fun _ _ _ h => o_sub h) (de_var 1 (m := 0)) de_int) dac_nil))))))
theorem sc_is_list : FnScope ["value"] ["value"] (defScope s_is_list) := ⟨rfl, rfl, rfl, by decide +kernel, rfl, by decide +kernel, by decide +kernel⟩
theorem ok_is_list (T : Txt K w mg) : FnOk P w K mg base CX0 1 T.f_is_list T.d_is_list ["value"] (spG K [0] 0 G_is_list) := by
  have S := sc_is_list
  refine dfn_ok (N := ["value"]) (ws := []) (F := F_is_list) T.F_is_list S rfl (ownP _) fun cdv A outer s H E hr => ?_
  exact (dss_one (ds_ret (de_callB (k := 0) (fun _ _ h => o_isi h) (by rfl) T.n_isinstance b_isinstance (da_cons (de_var 0 (m := 0)) (da_cons (de_tup (da_cons (de_ty T.n_list b_list) (da_cons (de_ty T.n_tuple b_tuple) da_nil))) da_nil)))))
theorem sc_are_elements : FnScope ["value", "many", "item"] ["value", "many"] (defScope s_are_elements) := ⟨rfl, rfl, rfl, by decide +kernel, rfl, by decide +kernel, by decide +kernel⟩
theorem ok_are_elements (T : Txt K w mg) : FnOk P w K mg base CX0 4 T.f_are_elements T.d_are_elements ["value", "many"] (spG K [0, 0] 0 G_are_elements) := by
  have S := sc_are_elements
  refine dfn_ok (N := ["value", "many", "item"]) (ws := []) (F := F_are_elements) T.F_are_elements S rfl (ownP _) fun cdv A outer s H E hr => ?_
  exact (dss_one (ds_ret (de_and (de_call (ok_is_list T) (hr.mono (by decide)) T.g_is_list T.F_is_list.kp T.b_is_list (dac_cons (DE.own0 ((de_var 0 (m := 0)))) dac_nil)) (de_one (de_callB (k := 0) (fun _ _ h => o_all rfl h) (by rfl) T.n_all b_all (da_cons (de_comp (W := false) (k := 0) [("item", 2)] rfl S.nd (di_seq (DE.own0 ((de_var 0 (m := 0))))) (fun _ _ _ _ _ => (dg_name (i := 2) S.nd)) (fun _ _ _ _ _ => dts_nil) (fun _ _ _ _ _ => (dc_last (de_call (ok_is_index T) (hr.mono (by decide)) T.g_is_index T.F_is_index.kp T.b_is_index (dac_cons (DE.own0 ((de_var 2 (m := 0)))) (dac_cons (DE.own0 ((de_var 1 (m := 0)))) dac_nil)))))) da_nil))))))
theorem sc_is_table : FnScope ["value", "many", "line"] ["value"] (defScope s_is_table) := ⟨rfl, rfl, rfl, by decide +kernel, rfl, by decide +kernel, by decide +kernel⟩
theorem ok_is_table (T : Txt K w mg) : FnOk P w K mg base CX0 5 T.f_is_table T.d_is_table ["value"] (spG K [0] 0 G_is_table) := by
  have S := sc_is_table
  refine dfn_ok (N := ["value", "many", "line"]) (ws := []) (F := F_is_table) T.F_is_table S rfl (ownP _) fun cdv A outer s H E hr => ?_
  exact (dss_cons (ds_if (dt_bool (dw_or (dt_not (dt_val (de_callB (k := 0) (fun _ _ h => o_isi h) (by rfl) T.n_isinstance b_isinstance (da_cons (de_var 0 (m := 0)) (da_cons (de_ty T.n_tuple b_tuple) da_nil))))) (dw_or1 (dt_not (dt_chain (fun _ _ _ h => o_le h) (fun _ _ _ h => o_le h) h_le de_int (de_callB (k := 0) (fun _ _ h => o_len h) (by rfl) T.n_len b_len (da_cons (de_var 0 (m := 0)) da_nil)) (de_glob T.v_MOST_ELEMENTS))))))
    (dss_one (ds_ret de_bl))
    dss_nil)
    (dss_cons (ds_set (i := 1) (k := 0) S.nd (de_callB (k := 0) (fun _ _ h => o_len h) (by rfl) T.n_len b_len (da_cons (de_var 0 (m := 0)) da_nil)))
    (dss_one (ds_ret (de_callB (k := 0) (fun _ _ h => o_all rfl h) (by rfl) T.n_all b_all (da_cons (de_comp (W := false) (k := 0) [("line", 2)] rfl S.nd (di_seq (DE.own0 ((de_var 0 (m := 0))))) (fun _ _ _ _ _ => (dg_name (i := 2) S.nd)) (fun _ _ _ _ _ => dts_nil) (fun _ _ _ _ _ => (dc_last (de_and (de_call (ok_is_tuple T) (hr.mono (by decide)) T.g_is_tuple T.F_is_tuple.kp T.b_is_tuple (dac_cons (DE.own0 ((de_var 2 (m := 0)))) (dac_cons (DE.own0 ((de_var 1 (m := 0)))) dac_nil))) (de_one (de_call (ok_are_elements T) (hr.mono (by decide)) T.g_are_elements T.F_are_elements.kp T.b_are_elements (dac_cons (DE.own0 ((de_var 2 (m := 0)))) (dac_cons (DE.own0 ((de_var 1 (m := 0)))) dac_nil)))))))) da_nil))))))
theorem sc_is_broken : FnScope ["table", "x", "y", "z"] ["table", "x", "y", "z"] (defScope s_is_broken) := ⟨rfl, rfl, rfl, by decide +kernel, rfl, by decide +kernel, by decide +kernel⟩
theorem ok_is_broken (T : Txt K w mg) : FnOk P w K mg base CX0 1 T.f_is_broken T.d_is_broken ["table", "x", "y", "z"] (spG K [0, 0, 0, 0] 0 G_is_broken) := by
  have S := sc_is_broken
  refine dfn_ok (N := ["table", "x", "y", "z"]) (ws := []) (F := F_is_broken) T.F_is_broken S rfl (ownP _) fun cdv A outer s H E hr => ?_
  exact (dss_one (ds_ret (de_cmp (k := 0) (fun _ _ _ h => o_ne (u64_ hr) h) (de_ix (de_ix (de_var 0 (m := 0)) (de_ix (de_ix (de_var 0 (m := 0)) (de_var 1 (m := 0)) (u1_ hr)) (de_var 2 (m := 0)) (u1_ hr)) (u1_ hr)) (de_var 3 (m := 0)) (u1_ hr)) (de_ix (de_ix (de_var 0 (m := 0)) (de_var 1 (m := 0)) (u1_ hr)) (de_ix (de_ix (de_var 0 (m := 0)) (de_var 2 (m := 0)) (u1_ hr)) (de_var 3 (m := 0)) (u1_ hr)) (u1_ hr)))))
theorem sc_broken_with : FnScope ["table", "middles", "every", "x", "y", "z"] ["table", "middles"] (defScope s_broken_with) := ⟨rfl, rfl, rfl, by decide +kernel, rfl, by decide +kernel, by decide +kernel⟩
theorem ok_broken_with (T : Txt K w mg) : FnOk P w K mg base CX0 2 T.f_broken_with T.d_broken_with ["table", "middles"] (spG K [0, 0] 1 G_broken_with) := by
  have S := sc_broken_with
  refine dfn_ok (N := ["table", "middles", "every", "x", "y", "z"]) (ws := []) (F := F_broken_with) T.F_broken_with S rfl (ownP _) fun cdv A outer s H E hr => ?_
  exact (dss_cons (ds_set (i := 2) (k := 0) S.nd (de_callTy (k := 0) (fun _ _ h => o_range h) (by rfl) T.n_range b_range (da_cons (de_callB (k := 0) (fun _ _ h => o_len h) (by rfl) T.n_len b_len (da_cons (de_var 0 (m := 0)) da_nil)) da_nil)))
    (dss_one (ds_ret (de_comp (W := false) (k := 0) [("x", 3), ("y", 4), ("z", 5)] rfl S.nd (di_seq (DE.own0 ((de_var 2 (m := 0))))) (fun _ _ _ _ _ => (dg_name (i := 3) S.nd)) (fun _ _ _ _ _ => dts_nil) (fun _ _ _ _ _ => (dc_for (vs := [4, 5]) rfl (di_seq (DE.own0 ((de_var 2 (m := 0))))) (dg_name (i := 4) S.nd) dts_nil (dc_for (vs := [5]) rfl (di_seq (DE.own0 ((de_var 2 (m := 0))))) (dg_name (i := 5) S.nd) (dts_one (dt_bool (dw_and (dt_cmp (fun _ _ _ h => o_in (u65_ hr) h) (de_var 4 (m := 0)) (de_var 1 (m := 0)) (hm := by rfl)) (dw_and1 (dt_val (de_call (ok_is_broken T) (hr.mono (by decide)) T.g_is_broken T.F_is_broken.kp T.b_is_broken (dac_cons (DE.own0 ((de_var 0 (m := 0)))) (dac_cons (DE.own0 ((de_var 3 (m := 0)))) (dac_cons (DE.own0 ((de_var 4 (m := 0)))) (dac_cons (DE.own0 ((de_var 5 (m := 0)))) dac_nil)))))))))) (dc_last (de_tup (da_cons (DE.own0 ((de_var 3 (m := 0)))) (da_cons (DE.own0 ((de_var 4 (m := 0)))) (da_cons (DE.own0 ((de_var 5 (m := 0)))) da_nil))))))))))))
theorem sc_is_semigroup : FnScope ["value"] ["value"] (defScope s_is_semigroup) := ⟨rfl, rfl, rfl, by decide +kernel, rfl, by decide +kernel, by decide +kernel⟩
theorem ok_is_semigroup (T : Txt K w mg) : FnOk P w K mg base CX0 6 T.f_is_semigroup T.d_is_semigroup ["value"] (spG K [0] 0 G_is_semigroup) := by
  have S := sc_is_semigroup
  refine dfn_ok (N := ["value"]) (ws := []) (F := F_is_semigroup) T.F_is_semigroup S rfl (ownP _) fun cdv A outer s H E hr => ?_
  exact (dss_one (ds_ret (de_and (de_call (ok_is_table T) (hr.mono (by decide)) T.g_is_table T.F_is_table.kp T.b_is_table (dac_cons (DE.own0 ((de_var 0 (m := 0)))) dac_nil)) (de_one (de_cmp (k := 0) (fun _ _ _ h => o_eq (u64_ hr) h) (de_call (ok_broken_with T) (hr.mono (by decide)) T.g_broken_with T.F_broken_with.kp T.b_broken_with (dac_cons (DE.own0 ((de_var 0 (m := 0)))) (dac_cons (DE.fz ((de_callTy (fun _ _ h => o_list rfl h) (by rfl) T.n_list b_list (da_cons (de_callTy (k := 0) (fun _ _ h => o_range h) (by rfl) T.n_range b_range (da_cons (de_callB (k := 0) (fun _ _ h => o_len h) (by rfl) T.n_len b_len (da_cons (de_var 0 (m := 0)) da_nil)) da_nil)) da_nil)))) dac_nil))) (de_nil 0))))))
theorem sc_check_table : FnScope ["table"] ["table"] (defScope s_check_table) := ⟨rfl, rfl, rfl, by decide +kernel, rfl, by decide +kernel, by decide +kernel⟩
theorem ok_check_table (T : Txt K w mg) : FnOk P w K mg base CX0 6 T.f_check_table T.d_check_table ["table"] (spG K [0] 0 G_check_table) := by
  have S := sc_check_table
  refine dfn_ok (N := ["table"]) (ws := []) (F := F_check_table) T.F_check_table S rfl (ownP _) fun cdv A outer s H E hr => ?_
  exact (dss_one (ds_if (dt_not (dt_val (de_call (ok_is_table T) (hr.mono (by decide)) T.g_is_table T.F_is_table.kp T.b_is_table (dac_cons (DE.own0 ((de_var 0 (m := 0)))) dac_nil))))
    (dss_one ds_never)
    dss_nil))
theorem sc_broken : FnScope ["table"] ["table"] (defScope s_broken) := ⟨rfl, rfl, rfl, by decide +kernel, rfl, by decide +kernel, by decide +kernel⟩
theorem ok_broken (T : Txt K w mg) : FnOk P w K mg base CX0 7 T.f_broken T.d_broken ["table"] (spG K [0] 0 G_broken) := by
  have S := sc_broken
  refine dfn_ok (N := ["table"]) (ws := []) (F := F_broken) T.F_broken S rfl (ownP _) fun cdv A outer s H E hr => ?_
  exact (dss_cons (ds_expr (de_call (ok_check_table T) (hr.mono (by decide)) T.g_check_table T.F_check_table.kp T.b_check_table (dac_cons (DE.own0 ((de_var 0 (m := 0)))) dac_nil)))
    (dss_one (ds_ret (DE.fz ((de_call (ok_broken_with T) (hr.mono (by decide)) T.g_broken_with T.F_broken_with.kp T.b_broken_with (dac_cons (DE.own0 ((de_var 0 (m := 0)))) (dac_cons (DE.fz ((de_callTy (fun _ _ h => o_list rfl h) (by rfl) T.n_list b_list (da_cons (de_callTy (k := 0) (fun _ _ h => o_range h) (by rfl) T.n_range b_range (da_cons (de_callB (k := 0) (fun _ _ h => o_len h) (by rfl) T.n_len b_len (da_cons (de_var 0 (m := 0)) da_nil)) da_nil)) da_nil)))) dac_nil))))))))
theorem sc__law_cell : FnScope ["script", "k"] ["script", "k"] (defScope s__law_cell) := ⟨rfl, rfl, rfl, by decide +kernel, rfl, by decide +kernel, by decide +kernel⟩
theorem ok__law_cell (T : Txt K w mg) : FnOk P w K mg base CX0 1 T.f__law_cell T.d__law_cell ["script", "k"] (spG K [0, 0] 0 G__law_cell) := by
  have S := sc__law_cell
  refine dfn_ok (N := ["script", "k"]) (ws := []) (F := F__law_cell) T.F__law_cell S rfl (ownP _) fun cdv A outer s H E hr => ?_
  exact (dss_one (ds_ret (de_if (dt_cmp (fun _ _ _ h => o_lt h) (de_var 1 (m := 0)) (de_callB (k := 0) (fun _ _ h => o_len h) (by rfl) T.n_len b_len (da_cons (de_var 0 (m := 0)) da_nil))) (DE.own0 ((de_ix (de_var 0 (m := 0)) (de_var 1 (m := 0)) (u1_ hr)))) (DE.fz ((de_op (fun _ _ _ h => o_add h) (de_op (fun _ _ _ h => o_mul h) de_int (de_var 1 (m := 0))) (de_op (k := 0) (fun _ _ _ h => o_mod h) (de_callTy (k := 0) (fun _ _ h => o_int h) (by rfl) T.n_int b_int (da_cons (de_callB (k := 0) (fun _ _ h => o_sum rfl h) (by rfl) T.n_sum b_sum (da_cons (de_slice (de_var 0 (m := 0)) do_no (do_so de_int)) da_nil)) da_nil)) de_int)))))))
theorem sc__law_box : FnScope ["great"] ["great"] (defScope s__law_box) := ⟨rfl, rfl, rfl, by decide +kernel, rfl, by decide +kernel, by decide +kernel⟩
theorem ok__law_box (T : Txt K w mg) : FnOk P w K mg base CX0 1 T.f__law_box T.d__law_box ["great"] (spG K [0] 1 G__law_box) := by
  have S := sc__law_box
  refine dfn_ok (N := ["great"]) (ws := []) (F := F__law_box) T.F__law_box S rfl (ownP _) fun cdv A outer s H E hr => ?_
  exact (dss_one (ds_ret (de_lst (da_cons (de_callB (k := 0) (fun _ _ h => o_abs h) (by rfl) T.n_abs b_abs (da_cons (de_var 0 (m := 0)) da_nil)) (da_cons (de_cmp (k := 0) (fun _ _ _ h => o_ge h) (de_callB (k := 0) (fun _ _ h => o_abs h) (by rfl) T.n_abs b_abs (da_cons (de_var 0 (m := 0)) da_nil)) (de_op (k := 0) (fun _ _ _ h => o_pow h) de_int de_int)) (da_cons (de_op (k := 0) (fun _ _ _ h => o_mod h) (de_callTy (k := 0) (fun _ _ h => o_int h) (by rfl) T.n_int b_int (da_cons (de_callB (k := 0) (fun _ _ h => o_abs h) (by rfl) T.n_abs b_abs (da_cons (de_var 0 (m := 0)) da_nil)) da_nil)) de_int) (da_cons de_int da_nil)))))))
theorem sc__law_take : FnScope ["box", "many", "digit", "mixed"] ["box", "many"] (defScope s__law_take) := ⟨rfl, rfl, rfl, by decide +kernel, rfl, by decide +kernel, by decide +kernel⟩
theorem ok__law_take (T : Txt K w mg) : FnOk P w K mg base CX0 1 T.f__law_take T.d__law_take ["box", "many"] (spG K [1, 0] 0 G__law_take) := by
  have S := sc__law_take
  refine dfn_ok (N := ["box", "many", "digit", "mixed"]) (ws := [0]) (F := F__law_take) T.F__law_take S rfl (ownP _) fun cdv A outer s H E hr => ?_
  exact (dss_cons (ds_if (dt_bool (dw_and (dt_val (de_ix (de_var 0 (m := 1)) de_int (u1_ hr))) (dw_and1 (dt_cmp (fun _ _ _ h => o_gt h) (de_ix (de_var 0 (m := 1)) de_int (u1_ hr)) de_int))))
    (dss_cons (ds_set (i := 2) (k := 0) S.nd (de_op (k := 0) (fun _ _ _ h => o_mod h) (de_callTy (k := 0) (fun _ _ h => o_int h) (by rfl) T.n_int b_int (da_cons (de_ix (de_var 0 (m := 1)) de_int (u1_ hr)) da_nil)) (de_var 1 (m := 0))))
    (dss_cons (ds_setix 0 (de_op (k := 0) (fun _ _ _ h => o_div h) (de_ix (de_var 0 (m := 1)) de_int (u1_ hr)) (de_var 1 (m := 0))) de_int)
    (dss_one (ds_ret (DE.own0 ((de_var 2 (m := 0))))))))
    dss_nil)
    (dss_cons (ds_setix 0 (DE.fz ((de_op (fun _ _ _ h => o_add h) (de_ix (de_var 0 (m := 1)) de_int (u1_ hr)) de_int))) de_int)
    (dss_cons (ds_set (i := 3) (k := 0) S.nd (de_op (k := 0) (fun _ _ _ h => o_mod h) (de_callTy (k := 0) (fun _ _ h => o_int h) (by rfl) T.n_int b_int (da_cons (de_op (k := 0) (fun _ _ _ h => o_pow h) (de_op (fun _ _ _ h => o_add h) (de_op (fun _ _ _ h => o_add h) (de_ix (de_var 0 (m := 1)) de_int (u1_ hr)) (de_op (fun _ _ _ h => o_mul h) de_int (de_ix (de_var 0 (m := 1)) de_int (u1_ hr)))) de_int) de_int) da_nil)) de_int))
    (dss_one (ds_ret (de_op (k := 0) (fun _ _ _ h => o_mod h) (de_callTy (k := 0) (fun _ _ h => o_int h) (by rfl) T.n_int b_int (da_cons (de_op (k := 0) (fun _ _ _ h => o_div h) (de_op (k := 0) (fun _ _ _ h => o_mod h) (de_callTy (k := 0) (fun _ _ h => o_int h) (by rfl) T.n_int b_int (da_cons (de_op (k := 0) (fun _ _ _ h => o_pow h) (de_op (fun _ _ _ h => o_add h) (de_op (fun _ _ _ h => o_mul h) (de_var 3 (m := 0)) de_int) (de_op (fun _ _ _ h => o_mul h) de_int (de_ix (de_var 0 (m := 1)) de_int (u1_ hr)))) de_int) da_nil)) de_int) de_int) da_nil)) (de_var 1 (m := 0))))))))
theorem sc__law_same : FnScope ["given", "due", "key", "k"] ["given", "due"] (defScope s__law_same) := ⟨rfl, rfl, rfl, by decide +kernel, rfl, by decide +kernel, by decide +kernel⟩
theorem ok__law_same_n (T : Txt K w mg) : ∀ n : Nat, FnOk P w K mg base CX0 (1 + n) T.f__law_same T.d__law_same ["given", "due"] (spG K [0, 0] 0 (G__law_same_n n))
  | 0 => ⟨fun _ _ _ _ h => (spG_none h).elim, fun _ _ _ _ _ _ _ _ _ _ _ _ _ h => (spG_none h).elim⟩
  | n + 1 => by
    have ih := ok__law_same_n T n
    have S := sc__law_same
    refine dfn_ok (N := ["given", "due", "key", "k"]) (ws := []) (F := F__law_same (G__law_same_n n)) T.F__law_same S rfl (fun i m h => by revert h; exact ownP _ i m) fun cdv A outer s H E hr => ?_
    have hr : Room (1 + n) _ := hr
    exact (dss_cons (ds_if (dt_bool (dw_or (dt_cmp (fun _ _ _ h => o_is h) (de_var 1 (m := 0)) de_non) (dw_or1 (dt_val (de_callB (k := 0) (fun _ _ h => o_isi h) (by rfl) T.n_isinstance b_isinstance (da_cons (de_var 1 (m := 0)) (da_cons (de_ty T.n_bool b_bool) da_nil)))))))
    (dss_one (ds_ret (de_if (dt_cmp (fun _ _ _ h => o_is h) (de_var 1 (m := 0)) de_non) (de_cmp (k := 0) (fun _ _ _ h => o_is h) (de_var 0 (m := 0)) de_non) (de_and (de_callB (k := 0) (fun _ _ h => o_isi h) (by rfl) T.n_isinstance b_isinstance (da_cons (de_var 0 (m := 0)) (da_cons (de_ty T.n_bool b_bool) da_nil))) (de_one (de_cmp (k := 0) (fun _ _ _ h => o_eq (u64_ hr) h) (de_cmp (k := 0) (fun _ _ _ h => o_is h) (de_var 0 (m := 0)) de_bl) (de_cmp (k := 0) (fun _ _ _ h => o_is h) (de_var 1 (m := 0)) de_bl)))))))
    dss_nil)
    (dss_cons (ds_if (dt_val (de_callB (k := 0) (fun _ _ h => o_isi h) (by rfl) T.n_isinstance b_isinstance (da_cons (de_var 1 (m := 0)) (da_cons (de_ty T.n_int b_int) da_nil))))
    (dss_one (ds_ret (de_and (de_callB (k := 0) (fun _ _ h => o_isi h) (by rfl) T.n_isinstance b_isinstance (da_cons (de_var 0 (m := 0)) (da_cons (de_ty T.n_int b_int) da_nil))) (de_and (de_not (de_callB (k := 0) (fun _ _ h => o_isi h) (by rfl) T.n_isinstance b_isinstance (da_cons (de_var 0 (m := 0)) (da_cons (de_ty T.n_bool b_bool) da_nil)))) (de_one (de_cmp (k := 0) (fun _ _ _ h => o_eq (u64_ hr) h) (de_op (k := 0) (fun _ _ _ h => o_sub h) (de_callTy (k := 0) (fun _ _ h => o_int h) (by rfl) T.n_int b_int (da_cons (de_var 0 (m := 0)) da_nil)) (de_var 1 (m := 0))) de_int))))))
    dss_nil)
    (dss_cons (ds_if (dt_val (de_callB (k := 0) (fun _ _ h => o_isi h) (by rfl) T.n_isinstance b_isinstance (da_cons (de_var 1 (m := 0)) (da_cons (de_ty T.n_str b_str) da_nil))))
    (dss_one (ds_ret (de_and (de_callB (k := 0) (fun _ _ h => o_isi h) (by rfl) T.n_isinstance b_isinstance (da_cons (de_var 0 (m := 0)) (da_cons (de_ty T.n_str b_str) da_nil))) (de_one (de_cmp (k := 0) (fun _ _ _ h => o_eq (u64_ hr) h) (de_var 0 (m := 0)) (de_var 1 (m := 0)))))))
    dss_nil)
    (dss_cons (ds_if (dt_val (de_callB (k := 0) (fun _ _ h => o_isi h) (by rfl) T.n_isinstance b_isinstance (da_cons (de_var 1 (m := 0)) (da_cons (de_ty T.n_dict b_dict) da_nil))))
    (dss_cons (ds_if (dt_bool (dw_or (dt_not (dt_val (de_callB (k := 0) (fun _ _ h => o_isi h) (by rfl) T.n_isinstance b_isinstance (da_cons (de_var 0 (m := 0)) (da_cons (de_ty T.n_dict b_dict) da_nil))))) (dw_or1 (dt_cmp (fun _ _ _ h => o_ne (u64_ hr) h) (de_callB (k := 0) (fun _ _ h => o_len h) (by rfl) T.n_len b_len (da_cons (de_var 0 (m := 0)) da_nil)) (de_callB (k := 0) (fun _ _ h => o_len h) (by rfl) T.n_len b_len (da_cons (de_var 1 (m := 0)) da_nil))))))
    (dss_one (ds_ret de_bl))
    dss_nil)
    (dss_one (ds_ret (de_never (W := false) (o := true) (k := 0)))))
    dss_nil)
    (dss_cons (ds_if (dt_bool (dw_or (dt_not (dt_val (de_callB (k := 0) (fun _ _ h => o_isi h) (by rfl) T.n_isinstance b_isinstance (da_cons (de_var 1 (m := 0)) (da_cons (de_tup (da_cons (de_ty T.n_list b_list) (da_cons (de_ty T.n_tuple b_tuple) da_nil))) da_nil))))) (dw_or1 (dt_not (dt_val (de_callB (k := 0) (fun _ _ h => o_isi h) (by rfl) T.n_isinstance b_isinstance (da_cons (de_var 0 (m := 0)) (da_cons (de_tup (da_cons (de_ty T.n_list b_list) (da_cons (de_ty T.n_tuple b_tuple) da_nil))) da_nil))))))))
    (dss_one (ds_ret de_bl))
    dss_nil)
    (dss_cons (ds_if (dt_bool (dw_or (dt_cmp (fun _ _ _ h => o_ne (u64_ hr) h) (de_callB (k := 0) (fun _ _ h => o_isi h) (by rfl) T.n_isinstance b_isinstance (da_cons (de_var 0 (m := 0)) (da_cons (de_ty T.n_list b_list) da_nil))) (de_callB (k := 0) (fun _ _ h => o_isi h) (by rfl) T.n_isinstance b_isinstance (da_cons (de_var 1 (m := 0)) (da_cons (de_ty T.n_list b_list) da_nil)))) (dw_or1 (dt_cmp (fun _ _ _ h => o_ne (u64_ hr) h) (de_callB (k := 0) (fun _ _ h => o_len h) (by rfl) T.n_len b_len (da_cons (de_var 0 (m := 0)) da_nil)) (de_callB (k := 0) (fun _ _ h => o_len h) (by rfl) T.n_len b_len (da_cons (de_var 1 (m := 0)) da_nil))))))
    (dss_one (ds_ret de_bl))
    dss_nil)
    (dss_one (ds_ret (de_cmp (k := 0) (fun _ _ _ h => o_eq (u64_ hr) h) (de_comp (W := false) (k := 0) [("k", 3)] rfl S.nd (di_range1 (by rfl) T.n_range (da_cons (de_callB (k := 0) (fun _ _ h => o_len h) (by rfl) T.n_len b_len (da_cons (de_var 1 (m := 0)) da_nil)) da_nil)) (fun _ _ _ _ _ => (dg_name (i := 3) S.nd)) (fun _ _ _ _ _ => (dts_one (dt_not (dt_val (de_call ih hr T.g__law_same T.F__law_same.kp T.b__law_same (dac_cons (DE.own0 ((de_ix (de_var 0 (m := 0)) (de_var 3 (m := 0)) (u1_ hr)))) (dac_cons (DE.own0 ((de_ix (de_var 1 (m := 0)) (de_var 3 (m := 0)) (u1_ hr)))) dac_nil))))))) (fun _ _ _ _ _ => (dc_last (DE.own0 ((de_var 3 (m := 0))))))) (de_nil 0))))))))))
theorem ok__law_same (T : Txt K w mg) : FnOk P w K mg base CX0 11 T.f__law_same T.d__law_same ["given", "due"] (spG K [0, 0] 0 G__law_same) := ok__law_same_n T 10
theorem ok__law_same_v0 (T : Txt K w mg) : FnOk P w K mg base CX0 12 T.f__law_same T.d__law_same ["given", "due"] (spG K [1, 0] 0 G__law_same_v0) := by
  have S := sc__law_same
  refine dfn_ok (N := ["given", "due", "key", "k"]) (ws := [0]) (F := F__law_same_v0) T.F__law_same S rfl (ownP _) fun cdv A outer s H E hr => ?_
  exact (dss_cons (ds_if (dt_bool (dw_or (dt_cmp (fun _ _ _ h => o_is h) (de_var 1 (m := 0)) de_non) (dw_or1 (dt_val (de_callB (k := 0) (fun _ _ h => o_isi h) (by rfl) T.n_isinstance b_isinstance (da_cons (de_var 1 (m := 0)) (da_cons (de_ty T.n_bool b_bool) da_nil)))))))
    (dss_one (ds_ret (de_if (dt_cmp (fun _ _ _ h => o_is h) (de_var 1 (m := 0)) de_non) (de_cmp (k := 0) (fun _ _ _ h => o_is h) (de_var 0 (m := 1)) de_non) (de_and (de_callB (k := 0) (fun _ _ h => o_isi h) (by rfl) T.n_isinstance b_isinstance (da_cons (de_var 0 (m := 1)) (da_cons (de_ty T.n_bool b_bool) da_nil))) (de_one (de_cmp (k := 0) (fun _ _ _ h => o_eq (u64_ hr) h) (de_cmp (k := 0) (fun _ _ _ h => o_is h) (de_var 0 (m := 1)) de_bl) (de_cmp (k := 0) (fun _ _ _ h => o_is h) (de_var 1 (m := 0)) de_bl)))))))
    dss_nil)
    (dss_cons (ds_if (dt_val (de_callB (k := 0) (fun _ _ h => o_isi h) (by rfl) T.n_isinstance b_isinstance (da_cons (de_var 1 (m := 0)) (da_cons (de_ty T.n_int b_int) da_nil))))
    (dss_one (ds_ret (de_and (de_callB (k := 0) (fun _ _ h => o_isi h) (by rfl) T.n_isinstance b_isinstance (da_cons (de_var 0 (m := 1)) (da_cons (de_ty T.n_int b_int) da_nil))) (de_and (de_not (de_callB (k := 0) (fun _ _ h => o_isi h) (by rfl) T.n_isinstance b_isinstance (da_cons (de_var 0 (m := 1)) (da_cons (de_ty T.n_bool b_bool) da_nil)))) (de_one (de_cmp (k := 0) (fun _ _ _ h => o_eq (u64_ hr) h) (de_op (k := 0) (fun _ _ _ h => o_sub h) (de_callTy (k := 0) (fun _ _ h => o_int h) (by rfl) T.n_int b_int (da_cons (de_var 0 (m := 1)) da_nil)) (de_var 1 (m := 0))) de_int))))))
    dss_nil)
    (dss_cons (ds_if (dt_val (de_callB (k := 0) (fun _ _ h => o_isi h) (by rfl) T.n_isinstance b_isinstance (da_cons (de_var 1 (m := 0)) (da_cons (de_ty T.n_str b_str) da_nil))))
    (dss_one (ds_ret (de_and (de_callB (k := 0) (fun _ _ h => o_isi h) (by rfl) T.n_isinstance b_isinstance (da_cons (de_var 0 (m := 1)) (da_cons (de_ty T.n_str b_str) da_nil))) (de_one (de_cmp (k := 0) (fun _ _ _ h => o_eq (u64_ hr) h) (de_var 0 (m := 1)) (de_var 1 (m := 0)))))))
    dss_nil)
    (dss_cons (ds_if (dt_val (de_callB (k := 0) (fun _ _ h => o_isi h) (by rfl) T.n_isinstance b_isinstance (da_cons (de_var 1 (m := 0)) (da_cons (de_ty T.n_dict b_dict) da_nil))))
    (dss_cons (ds_if (dt_bool (dw_or (dt_not (dt_val (de_callB (k := 0) (fun _ _ h => o_isi h) (by rfl) T.n_isinstance b_isinstance (da_cons (de_var 0 (m := 1)) (da_cons (de_ty T.n_dict b_dict) da_nil))))) (dw_or1 (dt_cmp (fun _ _ _ h => o_ne (u64_ hr) h) (de_callB (k := 0) (fun _ _ h => o_len h) (by rfl) T.n_len b_len (da_cons (de_var 0 (m := 1)) da_nil)) (de_callB (k := 0) (fun _ _ h => o_len h) (by rfl) T.n_len b_len (da_cons (de_var 1 (m := 0)) da_nil))))))
    (dss_one (ds_ret de_bl))
    dss_nil)
    (dss_one (ds_ret (de_never (W := false) (o := true) (k := 0)))))
    dss_nil)
    (dss_cons (ds_if (dt_bool (dw_or (dt_not (dt_val (de_callB (k := 0) (fun _ _ h => o_isi h) (by rfl) T.n_isinstance b_isinstance (da_cons (de_var 1 (m := 0)) (da_cons (de_tup (da_cons (de_ty T.n_list b_list) (da_cons (de_ty T.n_tuple b_tuple) da_nil))) da_nil))))) (dw_or1 (dt_not (dt_val (de_callB (k := 0) (fun _ _ h => o_isi h) (by rfl) T.n_isinstance b_isinstance (da_cons (de_var 0 (m := 1)) (da_cons (de_tup (da_cons (de_ty T.n_list b_list) (da_cons (de_ty T.n_tuple b_tuple) da_nil))) da_nil))))))))
    (dss_one (ds_ret de_bl))
    dss_nil)
    (dss_cons (ds_if (dt_bool (dw_or (dt_cmp (fun _ _ _ h => o_ne (u64_ hr) h) (de_callB (k := 0) (fun _ _ h => o_isi h) (by rfl) T.n_isinstance b_isinstance (da_cons (de_var 0 (m := 1)) (da_cons (de_ty T.n_list b_list) da_nil))) (de_callB (k := 0) (fun _ _ h => o_isi h) (by rfl) T.n_isinstance b_isinstance (da_cons (de_var 1 (m := 0)) (da_cons (de_ty T.n_list b_list) da_nil)))) (dw_or1 (dt_cmp (fun _ _ _ h => o_ne (u64_ hr) h) (de_callB (k := 0) (fun _ _ h => o_len h) (by rfl) T.n_len b_len (da_cons (de_var 0 (m := 1)) da_nil)) (de_callB (k := 0) (fun _ _ h => o_len h) (by rfl) T.n_len b_len (da_cons (de_var 1 (m := 0)) da_nil))))))
    (dss_one (ds_ret de_bl))
    dss_nil)
    (dss_one (ds_ret (de_cmp (k := 0) (fun _ _ _ h => o_eq (u64_ hr) h) (de_comp (W := false) (k := 0) [("k", 3)] rfl S.nd (di_range1 (by rfl) T.n_range (da_cons (de_callB (k := 0) (fun _ _ h => o_len h) (by rfl) T.n_len b_len (da_cons (de_var 1 (m := 0)) da_nil)) da_nil)) (fun _ _ _ _ _ => (dg_name (i := 3) S.nd)) (fun _ _ _ _ _ => (dts_one (dt_not (dt_val (de_call (ok__law_same T) (hr.mono (by decide)) T.g__law_same T.F__law_same.kp T.b__law_same (dac_cons (DE.own0 ((de_ix (de_var 0 (m := 1)) (de_var 3 (m := 0)) (u1_ hr)))) (dac_cons (DE.own0 ((de_ix (de_var 1 (m := 0)) (de_var 3 (m := 0)) (u1_ hr)))) dac_nil))))))) (fun _ _ _ _ _ => (dc_last (DE.own0 ((de_var 3 (m := 0))))))) (de_nil 0))))))))))
theorem sc__law_broken : FnScope ["table", "many", "found", "x", "y", "z"] ["table"] (defScope s__law_broken) := ⟨rfl, rfl, rfl, by decide +kernel, rfl, by decide +kernel, by decide +kernel⟩
theorem ok__law_broken (T : Txt K w mg) : FnOk P w K mg base CX0 1 T.f__law_broken T.d__law_broken ["table"] (spG K [0] 0 G__law_broken) := by
  have S := sc__law_broken
  refine dfn_ok (N := ["table", "many", "found", "x", "y", "z"]) (ws := []) (F := F__law_broken) T.F__law_broken S rfl (ownP _) fun cdv A outer s H E hr => ?_
  exact (dss_cons (ds_par (i := 1) (j := 2) (ka := 0) (kb := 0) S.nd rfl (de_callB (k := 0) (fun _ _ h => o_len h) (by rfl) T.n_len b_len (da_cons (de_var 0 (m := 0)) da_nil)) (DE.fz ((de_nil 0))))
    (dss_cons (ds_for PassesOwn.never rfl (di_range1 (by rfl) T.n_range (da_cons (DE.own0 ((de_var 1 (m := 0)))) da_nil)) (dg_name (i := 3) S.nd)
    (dss_one (ds_for PassesOwn.never rfl (di_range1 (by rfl) T.n_range (da_cons (DE.own0 ((de_var 1 (m := 0)))) da_nil)) (dg_name (i := 4) S.nd)
    (dss_one (ds_set (i := 2) (k := 0) S.nd (DE.fz ((de_op (fun _ _ _ h => o_add h) (de_var 2 (m := 0)) (de_comp (W := false) (k := 0) [("z", 5)] rfl S.nd (di_range1 (by rfl) T.n_range (da_cons (DE.own0 ((de_var 1 (m := 0)))) da_nil)) (fun _ _ _ _ _ => (dg_name (i := 5) S.nd)) (fun _ _ _ _ _ => (dts_one (dt_cmp (fun _ _ _ h => o_ne (u64_ hr) h) (de_ix (de_ix (de_var 0 (m := 0)) (de_ix (de_ix (de_var 0 (m := 0)) (de_var 3 (m := 0)) (u1_ hr)) (de_var 4 (m := 0)) (u1_ hr)) (u1_ hr)) (de_var 5 (m := 0)) (u1_ hr)) (de_ix (de_ix (de_var 0 (m := 0)) (de_var 3 (m := 0)) (u1_ hr)) (de_ix (de_ix (de_var 0 (m := 0)) (de_var 4 (m := 0)) (u1_ hr)) (de_var 5 (m := 0)) (u1_ hr)) (u1_ hr))))) (fun _ _ _ _ _ => (dc_last (de_tup (da_cons (DE.own0 ((de_var 3 (m := 0)))) (da_cons (DE.own0 ((de_var 4 (m := 0)))) (da_cons (DE.own0 ((de_var 5 (m := 0)))) da_nil)))))))))))))))
    (dss_one (ds_ret (DE.own0 ((de_var 2 (m := 0))))))))
theorem sc__law_mixed : FnScope ["box", "items", "left", "found", "turn"] ["box", "items"] (defScope s__law_mixed) := ⟨rfl, rfl, rfl, by decide +kernel, rfl, by decide +kernel, by decide +kernel⟩
theorem ok__law_mixed (T : Txt K w mg) : FnOk P w K mg base CX0 2 T.f__law_mixed T.d__law_mixed ["box", "items"] (spG K [1, 0] 1 G__law_mixed) := by
  have S := sc__law_mixed
  refine dfn_ok (N := ["box", "items", "left", "found", "turn"]) (ws := [0]) (F := F__law_mixed) T.F__law_mixed S rfl (ownP _) fun cdv A outer s H E hr => ?_
  exact (dss_cons (ds_par (i := 2) (j := 3) (ka := 1) (kb := 1) S.nd rfl (de_callTy (fun _ _ h => o_list rfl h) (by rfl) T.n_list b_list (da_cons (de_var 1 (m := 0)) da_nil)) (de_nil 0))
    (dss_cons (ds_for PassesOwn.never rfl (di_range1 (by rfl) T.n_range (da_cons (de_callB (k := 0) (fun _ _ h => o_len h) (by rfl) T.n_len b_len (da_cons (de_var 1 (m := 0)) da_nil)) da_nil)) (dg_name (i := 4) S.nd)
    (dss_one (ds_expr (de_meth (g := gAppend) 3 PySem.F.slot_list_append PySem.F.type_list_append (fun _ _ _ _ h => m_append _ _ _ _ h) (da_cons (de_meth (g := gPop) 2 PySem.F.slot_list_pop PySem.F.type_list_pop (fun _ _ _ _ h => m_pop _ _ _ _ h) (da_cons (de_call (ok__law_take T) (hr.mono (by decide)) T.g__law_take T.F__law_take.kp T.b__law_take (dac_own 0 (dac_cons (de_callB (k := 0) (fun _ _ h => o_len h) (by rfl) T.n_len b_len (da_cons (de_var 2 (m := 1)) da_nil)) dac_nil))) da_nil)) da_nil)))))
    (dss_one (ds_ret (de_take 3 (m := 1))))))
theorem sc__law_followed : FnScope ["one", "other", "point"] ["one", "other"] (defScope s__law_followed) := ⟨rfl, rfl, rfl, by decide +kernel, rfl, by decide +kernel, by decide +kernel⟩
theorem ok__law_followed (T : Txt K w mg) : FnOk P w K mg base CX0 1 T.f__law_followed T.d__law_followed ["one", "other"] (spG K [0, 0] 0 G__law_followed) := by
  have S := sc__law_followed
  refine dfn_ok (N := ["one", "other", "point"]) (ws := []) (F := F__law_followed) T.F__law_followed S rfl (ownP _) fun cdv A outer s H E hr => ?_
  exact (dss_one (ds_ret (de_callTy (k := 0) (fun _ _ h => o_tuple rfl h) (by rfl) T.n_tuple b_tuple (da_cons (de_comp (W := false) (k := 0) [("point", 2)] rfl S.nd (di_seq (DE.own0 ((de_var 0 (m := 0))))) (fun _ _ _ _ _ => (dg_name (i := 2) S.nd)) (fun _ _ _ _ _ => dts_nil) (fun _ _ _ _ _ => (dc_last (DE.own0 ((de_ix (de_var 1 (m := 0)) (de_var 2 (m := 0)) (u1_ hr))))))) da_nil))))
theorem sc__law_from_moves : FnScope ["moves", "most", "found", "at", "move", "after", "one", "other"] ["moves", "most"] (defScope s__law_from_moves) := ⟨rfl, rfl, rfl, by decide +kernel, rfl, by decide +kernel, by decide +kernel⟩
theorem ok__law_from_moves (T : Txt K w mg) : FnOk P w K mg base CX0 2 T.f__law_from_moves T.d__law_from_moves ["moves", "most"] (spG K [0, 0] 0 G__law_from_moves) := by
  have S := sc__law_from_moves
  refine dfn_ok (N := ["moves", "most", "found", "at", "move", "after", "one", "other"]) (ws := []) (F := F__law_from_moves) T.F__law_from_moves S rfl (ownP _) fun cdv A outer s H E hr => ?_
  exact (dss_cons (ds_parT (i := 2) (j := 3) (ka := 1) (kb := 0) S.nd rfl (de_callTy (fun _ _ h => o_list rfl h) (by rfl) T.n_list b_list (da_cons (de_callTy (fun _ _ h => o_dict rfl (u3_ hr) h) (by rfl) T.n_dict b_dict (da_cons (de_comp (W := false) (k := 0) [("move", 4)] rfl S.nd (di_seq (DE.own0 ((de_var 0 (m := 0))))) (fun _ _ _ _ _ => (dg_name (i := 4) S.nd)) (fun _ _ _ _ _ => dts_nil) (fun _ _ _ _ _ => (dc_last (de_tup (da_cons (DE.own0 ((de_var 4 (m := 0)))) (da_cons de_bl da_nil)))))) da_nil)) da_nil)) de_int)
    (dss_cons (ds_while 1000000 PassesOwn.never (dt_cmp (fun _ _ _ h => o_lt h) (de_var 3 (m := 0)) (de_callB (k := 0) (fun _ _ h => o_len h) (by rfl) T.n_len b_len (da_cons (de_var 2 (m := 1)) da_nil)))
    (dss_cons (ds_for PassesOwn.never rfl (di_seq (DE.own0 ((de_var 0 (m := 0))))) (dg_name (i := 4) S.nd)
    (dss_cons (ds_set (i := 5) (k := 0) S.nd (de_call (ok__law_followed T) (hr.mono (by decide)) T.g__law_followed T.F__law_followed.kp T.b__law_followed (dac_cons (DE.own0 ((de_ix (de_var 2 (m := 1)) (de_var 3 (m := 0)) (u1_ hr)))) (dac_cons (DE.own0 ((de_var 4 (m := 0)))) dac_nil))))
    (dss_one (ds_if (dt_cmp (fun _ _ _ h => o_notin (u65_ hr) h) (de_var 5 (m := 0)) (de_var 2 (m := 1)) (hm := by rfl))
    (dss_one (ds_expr (de_meth (g := gAppend) 2 PySem.F.slot_list_append PySem.F.type_list_append (fun _ _ _ _ h => m_append _ _ _ _ h) (da_cons (DE.own0 ((de_var 5 (m := 0)))) da_nil))))
    dss_nil))))
    (dss_cons (ds_if (dt_cmp (fun _ _ _ h => o_gt h) (de_callB (k := 0) (fun _ _ h => o_len h) (by rfl) T.n_len b_len (da_cons (de_var 2 (m := 1)) da_nil)) (de_var 1 (m := 0)))
    (dss_one (ds_ret de_non))
    dss_nil)
    (dss_one (ds_set (i := 3) (k := 0) S.nd (DE.fz ((de_op (fun _ _ _ h => o_add h) (de_var 3 (m := 0)) de_int))))))))
    (dss_frz 2 (dss_one (ds_ret (de_callTy (k := 0) (fun _ _ h => o_tuple rfl h) (by rfl) T.n_tuple b_tuple (da_cons (de_comp (W := false) (k := 0) [("one", 6)] rfl S.nd (di_seq (DE.own0 ((de_var 2 (m := 0))))) (fun _ _ _ _ _ => (dg_name (i := 6) S.nd)) (fun _ _ _ _ _ => dts_nil) (fun _ _ _ _ _ => (dc_last (de_callTy (k := 0) (fun _ _ h => o_tuple rfl h) (by rfl) T.n_tuple b_tuple (da_cons (de_comp (W := false) (k := 0) [("other", 7)] rfl S.nd (di_seq (DE.own0 ((de_var 2 (m := 0))))) (fun _ _ _ _ _ => (dg_name (i := 7) S.nd)) (fun _ _ _ _ _ => dts_nil) (fun _ _ _ _ _ => (dc_last (de_mq (g := gIndex) (k := 0) PySem.F.slot_list_index PySem.F.type_list_index (fun _ _ _ h => o_index (u65_ hr) h) (de_var 2 (m := 0)) (da_cons (de_call (ok__law_followed T) (hr.mono (by decide)) T.g__law_followed T.F__law_followed.kp T.b__law_followed (dac_cons (DE.own0 ((de_var 6 (m := 0)))) (dac_cons (DE.own0 ((de_var 7 (m := 0)))) dac_nil))) da_nil))))) da_nil))))) da_nil)))))))
theorem sc__law_relabelled : FnScope ["table", "names", "back", "k", "x", "y"] ["table", "names"] (defScope s__law_relabelled) := ⟨rfl, rfl, rfl, by decide +kernel, rfl, by decide +kernel, by decide +kernel⟩
theorem ok__law_relabelled (T : Txt K w mg) : FnOk P w K mg base CX0 1 T.f__law_relabelled T.d__law_relabelled ["table", "names"] (spG K [0, 0] 0 G__law_relabelled) := by
  have S := sc__law_relabelled
  refine dfn_ok (N := ["table", "names", "back", "k", "x", "y"]) (ws := []) (F := F__law_relabelled) T.F__law_relabelled S rfl (ownP _) fun cdv A outer s H E hr => ?_
  exact (dss_cons (ds_set (i := 2) (k := 0) S.nd (DE.fz ((de_comp (W := false) (k := 0) [("k", 3)] rfl S.nd (di_range1 (by rfl) T.n_range (da_cons (de_callB (k := 0) (fun _ _ h => o_len h) (by rfl) T.n_len b_len (da_cons (de_var 1 (m := 0)) da_nil)) da_nil)) (fun _ _ _ _ _ => (dg_name (i := 3) S.nd)) (fun _ _ _ _ _ => dts_nil) (fun _ _ _ _ _ => (dc_last (de_mq (g := gIndex) (k := 0) PySem.F.slot_list_index PySem.F.type_list_index (fun _ _ _ h => o_index (u65_ hr) h) (de_var 1 (m := 0)) (da_cons (de_var 3 (m := 0)) da_nil))))))))
    (dss_one (ds_ret (de_callTy (k := 0) (fun _ _ h => o_tuple rfl h) (by rfl) T.n_tuple b_tuple (da_cons (de_comp (W := false) (k := 0) [("x", 4)] rfl S.nd (di_range1 (by rfl) T.n_range (da_cons (de_callB (k := 0) (fun _ _ h => o_len h) (by rfl) T.n_len b_len (da_cons (de_var 0 (m := 0)) da_nil)) da_nil)) (fun _ _ _ _ _ => (dg_name (i := 4) S.nd)) (fun _ _ _ _ _ => dts_nil) (fun _ _ _ _ _ => (dc_last (de_callTy (k := 0) (fun _ _ h => o_tuple rfl h) (by rfl) T.n_tuple b_tuple (da_cons (de_comp (W := false) (k := 0) [("y", 5)] rfl S.nd (di_range1 (by rfl) T.n_range (da_cons (de_callB (k := 0) (fun _ _ h => o_len h) (by rfl) T.n_len b_len (da_cons (de_var 0 (m := 0)) da_nil)) da_nil)) (fun _ _ _ _ _ => (dg_name (i := 5) S.nd)) (fun _ _ _ _ _ => dts_nil) (fun _ _ _ _ _ => (dc_last (DE.own0 ((de_ix (de_var 1 (m := 0)) (de_ix (de_ix (de_var 0 (m := 0)) (de_ix (de_var 2 (m := 0)) (de_var 4 (m := 0)) (u1_ hr)) (u1_ hr)) (de_ix (de_var 2 (m := 0)) (de_var 5 (m := 0)) (u1_ hr)) (u1_ hr)) (u1_ hr))))))) da_nil))))) da_nil)))))
theorem sc__law_plain : FnScope ["box", "most", "many", "way", "index", "period", "steps", "left", "right", "x", "y", "k"] ["box", "most"] (defScope s__law_plain) := ⟨rfl, rfl, rfl, by decide +kernel, rfl, by decide +kernel, by decide +kernel⟩
theorem ok__law_plain (T : Txt K w mg) : FnOk P w K mg base CX0 2 T.f__law_plain T.d__law_plain ["box", "most"] (spG K [1, 0] 0 G__law_plain) := by
  have S := sc__law_plain
  refine dfn_ok (N := ["box", "most", "many", "way", "index", "period", "steps", "left", "right", "x", "y", "k"]) (ws := [0]) (F := F__law_plain) T.F__law_plain S rfl (ownP _) fun cdv A outer s H E hr => ?_
  exact (dss_cons (ds_set (i := 2) (k := 0) S.nd (DE.fz ((de_op (fun _ _ _ h => o_add h) de_int (de_call (ok__law_take T) (hr.mono (by decide)) T.g__law_take T.F__law_take.kp T.b__law_take (dac_own 0 (dac_cons (DE.own0 ((de_var 1 (m := 0)))) dac_nil)))))))
    (dss_cons (ds_set (i := 3) (k := 0) S.nd (de_call (ok__law_take T) (hr.mono (by decide)) T.g__law_take T.F__law_take.kp T.b__law_take (dac_own 0 (dac_cons de_int dac_nil))))
    (dss_cons (ds_if (dt_cmp (fun _ _ _ h => o_eq (u64_ hr) h) (de_var 3 (m := 0)) de_int)
    (dss_one (ds_ret (de_callTy (k := 0) (fun _ _ h => o_tuple rfl h) (by rfl) T.n_tuple b_tuple (da_cons (de_comp (W := false) (k := 0) [("x", 9)] rfl S.nd (di_range1 (by rfl) T.n_range (da_cons (DE.own0 ((de_var 2 (m := 0)))) da_nil)) (fun _ _ _ _ _ => (dg_name (i := 9) S.nd)) (fun _ _ _ _ _ => dts_nil) (fun _ _ _ _ _ => (dc_last (de_callTy (k := 0) (fun _ _ h => o_tuple rfl h) (by rfl) T.n_tuple b_tuple (da_cons (de_op (fun _ _ _ h => o_mul h) (de_lst (da_cons (DE.own0 ((de_var 9 (m := 0)))) da_nil)) (de_var 2 (m := 0))) da_nil))))) da_nil))))
    dss_nil)
    (dss_cons (ds_if (dt_cmp (fun _ _ _ h => o_eq (u64_ hr) h) (de_var 3 (m := 0)) de_int)
    (dss_one (ds_ret (de_callTy (k := 0) (fun _ _ h => o_tuple rfl h) (by rfl) T.n_tuple b_tuple (da_cons (de_comp (W := false) (k := 0) [("x", 9)] rfl S.nd (di_range1 (by rfl) T.n_range (da_cons (DE.own0 ((de_var 2 (m := 0)))) da_nil)) (fun _ _ _ _ _ => (dg_name (i := 9) S.nd)) (fun _ _ _ _ _ => dts_nil) (fun _ _ _ _ _ => (dc_last (de_callTy (k := 0) (fun _ _ h => o_tuple rfl h) (by rfl) T.n_tuple b_tuple (da_cons (de_callTy (k := 0) (fun _ _ h => o_range h) (by rfl) T.n_range b_range (da_cons (de_var 2 (m := 0)) da_nil)) da_nil))))) da_nil))))
    dss_nil)
    (dss_cons (ds_if (dt_cmp (fun _ _ _ h => o_eq (u64_ hr) h) (de_var 3 (m := 0)) de_int)
    (dss_one (ds_ret (de_callTy (k := 0) (fun _ _ h => o_tuple rfl h) (by rfl) T.n_tuple b_tuple (da_cons (de_comp (W := false) (k := 0) [("x", 9)] rfl S.nd (di_range1 (by rfl) T.n_range (da_cons (DE.own0 ((de_var 2 (m := 0)))) da_nil)) (fun _ _ _ _ _ => (dg_name (i := 9) S.nd)) (fun _ _ _ _ _ => dts_nil) (fun _ _ _ _ _ => (dc_last (de_callTy (k := 0) (fun _ _ h => o_tuple rfl h) (by rfl) T.n_tuple b_tuple (da_cons (de_op (fun _ _ _ h => o_mul h) (de_lst (da_cons de_int da_nil)) (de_var 2 (m := 0))) da_nil))))) da_nil))))
    dss_nil)
    (dss_cons (ds_if (dt_cmp (fun _ _ _ h => o_eq (u64_ hr) h) (de_var 3 (m := 0)) de_int)
    (dss_one (ds_ret (de_callTy (k := 0) (fun _ _ h => o_tuple rfl h) (by rfl) T.n_tuple b_tuple (da_cons (de_comp (W := false) (k := 0) [("x", 9)] rfl S.nd (di_range1 (by rfl) T.n_range (da_cons (DE.own0 ((de_var 2 (m := 0)))) da_nil)) (fun _ _ _ _ _ => (dg_name (i := 9) S.nd)) (fun _ _ _ _ _ => dts_nil) (fun _ _ _ _ _ => (dc_last (de_callTy (k := 0) (fun _ _ h => o_tuple rfl h) (by rfl) T.n_tuple b_tuple (da_cons (de_comp (W := false) (k := 0) [("y", 10)] rfl S.nd (di_range1 (by rfl) T.n_range (da_cons (DE.own0 ((de_var 2 (m := 0)))) da_nil)) (fun _ _ _ _ _ => (dg_name (i := 10) S.nd)) (fun _ _ _ _ _ => dts_nil) (fun _ _ _ _ _ => (dc_last (de_callB (k := 0) (fun _ _ h => o_min2 rfl h) (by rfl) T.n_min b_min (da_cons (de_var 9 (m := 0)) (da_cons (de_var 10 (m := 0)) da_nil)))))) da_nil))))) da_nil))))
    dss_nil)
    (dss_cons (ds_if (dt_cmp (fun _ _ _ h => o_eq (u64_ hr) h) (de_var 3 (m := 0)) de_int)
    (dss_one (ds_ret (de_callTy (k := 0) (fun _ _ h => o_tuple rfl h) (by rfl) T.n_tuple b_tuple (da_cons (de_comp (W := false) (k := 0) [("x", 9)] rfl S.nd (di_range1 (by rfl) T.n_range (da_cons (DE.own0 ((de_var 2 (m := 0)))) da_nil)) (fun _ _ _ _ _ => (dg_name (i := 9) S.nd)) (fun _ _ _ _ _ => dts_nil) (fun _ _ _ _ _ => (dc_last (de_callTy (k := 0) (fun _ _ h => o_tuple rfl h) (by rfl) T.n_tuple b_tuple (da_cons (de_comp (W := false) (k := 0) [("y", 10)] rfl S.nd (di_range1 (by rfl) T.n_range (da_cons (DE.own0 ((de_var 2 (m := 0)))) da_nil)) (fun _ _ _ _ _ => (dg_name (i := 10) S.nd)) (fun _ _ _ _ _ => dts_nil) (fun _ _ _ _ _ => (dc_last (de_op (k := 0) (fun _ _ _ h => o_mod h) (de_callTy (k := 0) (fun _ _ h => o_int h) (by rfl) T.n_int b_int (da_cons (de_op (fun _ _ _ h => o_add h) (de_var 9 (m := 0)) (de_var 10 (m := 0))) da_nil)) (de_var 2 (m := 0)))))) da_nil))))) da_nil))))
    dss_nil)
    (dss_cons (ds_if (dt_cmp (fun _ _ _ h => o_eq (u64_ hr) h) (de_var 3 (m := 0)) de_int)
    (dss_cons (ds_set (i := 4) (k := 0) S.nd (DE.fz ((de_op (fun _ _ _ h => o_add h) de_int (de_call (ok__law_take T) (hr.mono (by decide)) T.g__law_take T.F__law_take.kp T.b__law_take (dac_own 0 (dac_cons (DE.own0 ((de_var 2 (m := 0)))) dac_nil)))))))
    (dss_cons (ds_set (i := 5) (k := 0) S.nd (de_op (k := 0) (fun _ _ _ h => o_sub h) (de_op (fun _ _ _ h => o_add h) (de_var 2 (m := 0)) de_int) (de_var 4 (m := 0))))
    (dss_cons (ds_set (i := 6) (k := 0) S.nd (DE.fz ((de_comp (W := false) (k := 0) [("k", 11)] rfl S.nd (di_range1 (by rfl) T.n_range (da_cons (DE.fz ((de_op (fun _ _ _ h => o_add h) (de_op (fun _ _ _ h => o_mul h) de_int (de_var 2 (m := 0))) de_int))) da_nil)) (fun _ _ _ _ _ => (dg_name (i := 11) S.nd)) (fun _ _ _ _ _ => dts_nil) (fun _ _ _ _ _ => (dc_last (de_if (dt_cmp (fun _ _ _ h => o_lt h) (de_var 11 (m := 0)) (de_var 2 (m := 0))) (DE.own0 ((de_var 11 (m := 0)))) (DE.fz ((de_op (fun _ _ _ h => o_add h) (de_op (k := 0) (fun _ _ _ h => o_sub h) (de_var 4 (m := 0)) de_int) (de_op (k := 0) (fun _ _ _ h => o_mod h) (de_callTy (k := 0) (fun _ _ h => o_int h) (by rfl) T.n_int b_int (da_cons (de_op (fun _ _ _ h => o_add h) (de_op (k := 0) (fun _ _ _ h => o_sub h) (de_var 11 (m := 0)) (de_var 4 (m := 0))) de_int) da_nil)) (de_var 5 (m := 0)))))))))))))
    (dss_one (ds_ret (de_callTy (k := 0) (fun _ _ h => o_tuple rfl h) (by rfl) T.n_tuple b_tuple (da_cons (de_comp (W := false) (k := 0) [("x", 9)] rfl S.nd (di_range1 (by rfl) T.n_range (da_cons (DE.own0 ((de_var 2 (m := 0)))) da_nil)) (fun _ _ _ _ _ => (dg_name (i := 9) S.nd)) (fun _ _ _ _ _ => dts_nil) (fun _ _ _ _ _ => (dc_last (de_callTy (k := 0) (fun _ _ h => o_tuple rfl h) (by rfl) T.n_tuple b_tuple (da_cons (de_comp (W := false) (k := 0) [("y", 10)] rfl S.nd (di_range1 (by rfl) T.n_range (da_cons (DE.own0 ((de_var 2 (m := 0)))) da_nil)) (fun _ _ _ _ _ => (dg_name (i := 10) S.nd)) (fun _ _ _ _ _ => dts_nil) (fun _ _ _ _ _ => (dc_last (DE.own0 ((de_ix (de_var 6 (m := 0)) (de_op (fun _ _ _ h => o_add h) (de_op (fun _ _ _ h => o_add h) (de_var 9 (m := 0)) (de_var 10 (m := 0))) de_int) (u1_ hr))))))) da_nil))))) da_nil)))))))
    dss_nil)
    (dss_cons (ds_set (i := 7) (k := 0) S.nd (DE.fz ((de_op (fun _ _ _ h => o_add h) de_int (de_call (ok__law_take T) (hr.mono (by decide)) T.g__law_take T.F__law_take.kp T.b__law_take (dac_own 0 (dac_cons de_int dac_nil)))))))
    (dss_cons (ds_set (i := 8) (k := 0) S.nd (de_callB (k := 0) (fun _ _ h => o_max2 rfl h) (by rfl) T.n_max b_max (da_cons de_int (da_cons (de_op (k := 0) (fun _ _ _ h => o_div h) (de_var 1 (m := 0)) (de_var 7 (m := 0))) da_nil))))
    (dss_cons (ds_set (i := 8) (k := 0) S.nd (DE.fz ((de_op (fun _ _ _ h => o_add h) de_int (de_call (ok__law_take T) (hr.mono (by decide)) T.g__law_take T.F__law_take.kp T.b__law_take (dac_own 0 (dac_cons (de_callB (k := 0) (fun _ _ h => o_min2 rfl h) (by rfl) T.n_min b_min (da_cons de_int (da_cons (de_var 8 (m := 0)) da_nil))) dac_nil)))))))
    (dss_cons (ds_if (dt_cmp (fun _ _ _ h => o_gt h) (de_op (fun _ _ _ h => o_mul h) (de_var 7 (m := 0)) (de_var 8 (m := 0))) (de_var 1 (m := 0)))
    (dss_one (ds_asg (de_tup (da_cons de_int (da_cons (de_callB (k := 0) (fun _ _ h => o_min2 rfl h) (by rfl) T.n_min b_min (da_cons (de_var 1 (m := 0)) (da_cons de_int da_nil))) da_nil))) (dg_seq rfl (dgs_cons (dg_name (i := 7) S.nd) (dgs_cons (dg_name (i := 8) S.nd) dgs_nil)))))
    dss_nil)
    (dss_one (ds_ret (de_callTy (k := 0) (fun _ _ h => o_tuple rfl h) (by rfl) T.n_tuple b_tuple (da_cons (de_comp (W := false) (k := 0) [("x", 9)] rfl S.nd (di_range1 (by rfl) T.n_range (da_cons (DE.fz ((de_op (fun _ _ _ h => o_mul h) (de_var 7 (m := 0)) (de_var 8 (m := 0))))) da_nil)) (fun _ _ _ _ _ => (dg_name (i := 9) S.nd)) (fun _ _ _ _ _ => dts_nil) (fun _ _ _ _ _ => (dc_last (de_callTy (k := 0) (fun _ _ h => o_tuple rfl h) (by rfl) T.n_tuple b_tuple (da_cons (de_comp (W := false) (k := 0) [("y", 10)] rfl S.nd (di_range1 (by rfl) T.n_range (da_cons (DE.fz ((de_op (fun _ _ _ h => o_mul h) (de_var 7 (m := 0)) (de_var 8 (m := 0))))) da_nil)) (fun _ _ _ _ _ => (dg_name (i := 10) S.nd)) (fun _ _ _ _ _ => dts_nil) (fun _ _ _ _ _ => (dc_last (DE.fz ((de_op (fun _ _ _ h => o_add h) (de_op (fun _ _ _ h => o_mul h) (de_op (k := 0) (fun _ _ _ h => o_div h) (de_var 9 (m := 0)) (de_var 8 (m := 0))) (de_var 8 (m := 0))) (de_op (k := 0) (fun _ _ _ h => o_mod h) (de_callTy (k := 0) (fun _ _ h => o_int h) (by rfl) T.n_int b_int (da_cons (de_var 10 (m := 0)) da_nil)) (de_var 8 (m := 0))))))))) da_nil))))) da_nil))))))))))))))))
theorem sc__law_drawn : FnScope ["box", "most", "table", "number", "turn", "points", "moves", "other", "many", "way", "m", "k", "x"] ["box", "most"] (defScope s__law_drawn) := ⟨rfl, rfl, rfl, by decide +kernel, rfl, by decide +kernel, by decide +kernel⟩
theorem ok__law_drawn (T : Txt K w mg) : FnOk P w K mg base CX0 3 T.f__law_drawn T.d__law_drawn ["box", "most"] (spG K [1, 0] 0 G__law_drawn) := by
  have S := sc__law_drawn
  refine dfn_ok (N := ["box", "most", "table", "number", "turn", "points", "moves", "other", "many", "way", "m", "k", "x"]) (ws := [0]) (F := F__law_drawn) T.F__law_drawn S rfl (ownP _) fun cdv A outer s H E hr => ?_
  exact (dss_cons (ds_asg (de_tup (da_cons de_non (da_cons (de_call (ok__law_take T) (hr.mono (by decide)) T.g__law_take T.F__law_take.kp T.b__law_take (dac_own 0 (dac_cons de_int dac_nil))) da_nil))) (dg_seq rfl (dgs_cons (dg_name (i := 2) S.nd) (dgs_cons (dg_name (i := 3) S.nd) dgs_nil))))
    (dss_cons (ds_for PassesOwn.never rfl (di_range1 (by rfl) T.n_range (da_cons (DE.own0 ((de_var 3 (m := 0)))) da_nil)) (dg_name (i := 4) S.nd)
    (dss_cons (ds_set (i := 5) (k := 0) S.nd (DE.fz ((de_op (fun _ _ _ h => o_add h) de_int (de_call (ok__law_take T) (hr.mono (by decide)) T.g__law_take T.F__law_take.kp T.b__law_take (dac_own 0 (dac_cons de_int dac_nil)))))))
    (dss_cons (ds_setLc0 (W := true) (i := 6) (k := 0) [("m", 10)] rfl S.nd (di_range1 (by rfl) T.n_range (da_cons (DE.fz ((de_op (fun _ _ _ h => o_add h) de_int (de_call (ok__law_take T) (hr.mono (by decide)) T.g__law_take T.F__law_take.kp T.b__law_take (dac_own 0 (dac_cons de_int dac_nil)))))) da_nil)) (fun _ _ _ _ _ => (dg_name (i := 10) S.nd)) (fun _ _ _ _ _ => dts_nil) (fun _ _ _ _ _ => (dc_last (de_callTy (k := 0) (fun _ _ h => o_tuple rfl h) (by rfl) T.n_tuple b_tuple (da_cons (de_comp (W := true) (k := 0) [("k", 11)] rfl S.nd (DI.up (di_range1 (by rfl) T.n_range (da_cons (DE.own0 ((de_var 5 (m := 0)))) da_nil))) (fun _ _ _ _ _ => (dg_name (i := 11) S.nd)) (fun _ _ _ _ _ => dts_nil) (fun _ _ _ _ _ => (dc_last (de_call (ok__law_take T) (hr.mono (by decide)) T.g__law_take T.F__law_take.kp T.b__law_take (dac_own 0 (dac_cons (DE.own0 ((de_var 5 (m := 0)))) dac_nil)))))) da_nil)))))
    (dss_cons (ds_set (i := 7) (k := 0) S.nd (de_call (ok__law_from_moves T) (hr.mono (by decide)) T.g__law_from_moves T.F__law_from_moves.kp T.b__law_from_moves (dac_cons (DE.own0 ((de_var 6 (m := 0)))) (dac_cons (DE.own0 ((de_var 1 (m := 0)))) dac_nil))))
    (dss_one (ds_if (dt_bool (dw_and (dt_cmp (fun _ _ _ h => o_isnot h) (de_var 7 (m := 0)) de_non) (dw_and1 (dt_bool (dw_or (dt_cmp (fun _ _ _ h => o_is h) (de_var 2 (m := 0)) de_non) (dw_or1 (dt_cmp (fun _ _ _ h => o_gt h) (de_callB (k := 0) (fun _ _ h => o_len h) (by rfl) T.n_len b_len (da_cons (de_var 7 (m := 0)) da_nil)) (de_callB (k := 0) (fun _ _ h => o_len h) (by rfl) T.n_len b_len (da_cons (de_var 2 (m := 0)) da_nil)))))))))
    (dss_one (ds_set (i := 2) (k := 0) S.nd (DE.own0 ((de_var 7 (m := 0))))))
    dss_nil))))))
    (dss_cons (ds_if (dt_cmp (fun _ _ _ h => o_is h) (de_var 2 (m := 0)) de_non)
    (dss_one (ds_set (i := 2) (k := 0) S.nd (de_call (ok__law_plain T) (hr.mono (by decide)) T.g__law_plain T.F__law_plain.kp T.b__law_plain (dac_own 0 (dac_cons (DE.own0 ((de_var 1 (m := 0)))) dac_nil)))))
    dss_nil)
    (dss_cons (ds_if (dt_bool (dw_and (dt_cmp (fun _ _ _ h => o_lt h) (de_callB (k := 0) (fun _ _ h => o_len h) (by rfl) T.n_len b_len (da_cons (de_var 2 (m := 0)) da_nil)) (de_var 1 (m := 0))) (dw_and1 (dt_cmp (fun _ _ _ h => o_eq (u64_ hr) h) (de_call (ok__law_take T) (hr.mono (by decide)) T.g__law_take T.F__law_take.kp T.b__law_take (dac_own 0 (dac_cons de_int dac_nil))) de_int))))
    (dss_cons (ds_asg (de_tup (da_cons (de_callB (k := 0) (fun _ _ h => o_len h) (by rfl) T.n_len b_len (da_cons (de_var 2 (m := 0)) da_nil)) (da_cons (de_call (ok__law_take T) (hr.mono (by decide)) T.g__law_take T.F__law_take.kp T.b__law_take (dac_own 0 (dac_cons de_int dac_nil))) da_nil))) (dg_seq rfl (dgs_cons (dg_name (i := 8) S.nd) (dgs_cons (dg_name (i := 9) S.nd) dgs_nil))))
    (dss_cons (ds_set (i := 2) (k := 0) S.nd (de_callTy (k := 0) (fun _ _ h => o_tuple rfl h) (by rfl) T.n_tuple b_tuple (da_cons (de_comp (W := false) (k := 0) [("x", 12)] rfl S.nd (di_range1 (by rfl) T.n_range (da_cons (DE.own0 ((de_var 8 (m := 0)))) da_nil)) (fun _ _ _ _ _ => (dg_name (i := 12) S.nd)) (fun _ _ _ _ _ => dts_nil) (fun _ _ _ _ _ => (dc_last (DE.fz ((de_op (fun _ _ _ h => o_add h) (de_ix (de_var 2 (m := 0)) (de_var 12 (m := 0)) (u1_ hr)) (de_tup (da_cons (de_if (dt_cmp (fun _ _ _ h => o_eq (u64_ hr) h) (de_var 9 (m := 0)) de_int) (DE.own0 ((de_var 12 (m := 0)))) (DE.own0 ((de_var 8 (m := 0))))) da_nil)))))))) da_nil)))
    (dss_one (ds_set (i := 2) (k := 0) S.nd (DE.fz ((de_op (fun _ _ _ h => o_add h) (de_var 2 (m := 0)) (de_tup (da_cons (de_if (dt_cmp (fun _ _ _ h => o_eq (u64_ hr) h) (de_var 9 (m := 0)) de_int) (DE.fz ((de_op (fun _ _ _ h => o_add h) (de_callTy (k := 0) (fun _ _ h => o_tuple rfl h) (by rfl) T.n_tuple b_tuple (da_cons (de_callTy (k := 0) (fun _ _ h => o_range h) (by rfl) T.n_range b_range (da_cons (de_var 8 (m := 0)) da_nil)) da_nil)) (de_tup (da_cons (DE.own0 ((de_var 8 (m := 0)))) da_nil))))) (DE.fz ((de_op (fun _ _ _ h => o_mul h) (de_tup (da_cons (DE.own0 ((de_var 8 (m := 0)))) da_nil)) (de_op (fun _ _ _ h => o_add h) (de_var 8 (m := 0)) de_int))))) da_nil)))))))))
    dss_nil)
    (dss_one (ds_ret (de_call (ok__law_relabelled T) (hr.mono (by decide)) T.g__law_relabelled T.F__law_relabelled.kp T.b__law_relabelled (dac_cons (DE.own0 ((de_var 2 (m := 0)))) (dac_cons (DE.fz ((de_call (ok__law_mixed T) (hr.mono (by decide)) T.g__law_mixed T.F__law_mixed.kp T.b__law_mixed (dac_own 0 (dac_cons (DE.fz ((de_callTy (fun _ _ h => o_list rfl h) (by rfl) T.n_list b_list (da_cons (de_callTy (k := 0) (fun _ _ h => o_range h) (by rfl) T.n_range b_range (da_cons (de_callB (k := 0) (fun _ _ h => o_len h) (by rfl) T.n_len b_len (da_cons (de_var 2 (m := 0)) da_nil)) da_nil)) da_nil)))) dac_nil))))) dac_nil)))))))))
theorem sc__law_spoilt : FnScope ["box", "table", "many", "x", "y", "row"] ["box", "table"] (defScope s__law_spoilt) := ⟨rfl, rfl, rfl, by decide +kernel, rfl, by decide +kernel, by decide +kernel⟩
theorem ok__law_spoilt (T : Txt K w mg) : FnOk P w K mg base CX0 2 T.f__law_spoilt T.d__law_spoilt ["box", "table"] (spG K [1, 0] 0 G__law_spoilt) := by
  have S := sc__law_spoilt
  refine dfn_ok (N := ["box", "table", "many", "x", "y", "row"]) (ws := [0]) (F := F__law_spoilt) T.F__law_spoilt S rfl (ownP _) fun cdv A outer s H E hr => ?_
  exact (dss_cons (ds_set (i := 2) (k := 0) S.nd (de_callB (k := 0) (fun _ _ h => o_len h) (by rfl) T.n_len b_len (da_cons (de_var 1 (m := 0)) da_nil)))
    (dss_cons (ds_par (i := 3) (j := 4) (ka := 0) (kb := 0) S.nd rfl (de_call (ok__law_take T) (hr.mono (by decide)) T.g__law_take T.F__law_take.kp T.b__law_take (dac_own 0 (dac_cons (DE.own0 ((de_var 2 (m := 0)))) dac_nil))) (de_call (ok__law_take T) (hr.mono (by decide)) T.g__law_take T.F__law_take.kp T.b__law_take (dac_own 0 (dac_cons (DE.own0 ((de_var 2 (m := 0)))) dac_nil))))
    (dss_cons (ds_set (i := 5) (k := 0) S.nd (DE.fz ((de_op (fun _ _ _ h => o_add h) (de_op (fun _ _ _ h => o_add h) (DE.fz ((de_slice (de_ix (de_var 1 (m := 0)) (de_var 3 (m := 0)) (u1_ hr)) do_no (do_so (de_var 4 (m := 0)))))) (de_tup (da_cons (de_call (ok__law_take T) (hr.mono (by decide)) T.g__law_take T.F__law_take.kp T.b__law_take (dac_own 0 (dac_cons (DE.own0 ((de_var 2 (m := 0)))) dac_nil))) da_nil))) (de_slice (de_ix (de_var 1 (m := 0)) (de_var 3 (m := 0)) (u1_ hr)) (do_so (de_op (fun _ _ _ h => o_add h) (de_var 4 (m := 0)) de_int)) do_no)))))
    (dss_one (ds_ret (DE.fz ((de_op (fun _ _ _ h => o_add h) (de_op (fun _ _ _ h => o_add h) (de_slice (de_var 1 (m := 0)) do_no (do_so (de_var 3 (m := 0)))) (de_tup (da_cons (DE.own0 ((de_var 5 (m := 0)))) da_nil))) (de_slice (de_var 1 (m := 0)) (do_so (de_op (fun _ _ _ h => o_add h) (de_var 3 (m := 0)) de_int)) do_no)))))))))
theorem sc__law_base : FnScope ["word", "zero", "rows"] ["word"] (defScope s__law_base) := ⟨rfl, rfl, rfl, by decide +kernel, rfl, by decide +kernel, by decide +kernel⟩
theorem ok__law_base (T : Txt K w mg) : FnOk P w K mg base CX0 1 T.f__law_base T.d__law_base ["word"] (spG K [0] 0 G__law_base) := by
  have S := sc__law_base
  refine dfn_ok (N := ["word", "zero", "rows"]) (ws := []) (F := F__law_base) T.F__law_base S rfl (ownP _) fun cdv A outer s H E hr => ?_
  exact (dss_cons (ds_set (i := 1) (k := 0) S.nd (de_tup (da_cons de_int (da_cons de_int (da_cons de_int (da_cons de_int da_nil))))))
    (dss_cons (ds_set (i := 2) (k := 1) S.nd (de_disp (W := false) (dpp_cons de_str (DE.fz ((de_lst (da_cons (de_tup (da_cons de_int (da_cons de_int (da_cons de_int da_nil)))) (da_cons (de_tup (da_cons (DE.own0 ((de_var 1 (m := 0)))) (da_cons (de_tup (da_cons de_int (da_cons de_int (da_cons de_int (da_cons de_int da_nil))))) (da_cons (de_tup (da_cons de_int (da_cons de_int (da_cons de_int (da_cons de_int da_nil))))) (da_cons (DE.own0 ((de_var 1 (m := 0)))) da_nil))))) da_nil))))) (dpp_cons de_str (DE.fz ((de_lst (da_cons (de_tup (da_cons de_int (da_cons de_int (da_cons de_int da_nil)))) (da_cons (de_tup (da_cons (de_tup (da_cons de_int (da_cons de_int (da_cons de_int (da_cons de_int da_nil))))) (da_cons (DE.own0 ((de_var 1 (m := 0)))) (da_cons (DE.own0 ((de_var 1 (m := 0)))) (da_cons (DE.own0 ((de_var 1 (m := 0)))) da_nil))))) da_nil))))) dpp_nil))))
    (dss_cons (ds_dset 2 (DE.fz ((de_lst (da_cons (de_tup (da_cons de_int (da_cons de_int (da_cons de_int da_nil)))) (da_cons (de_tup (da_cons (de_tup (da_cons de_int (da_cons de_int (da_cons de_int (da_cons de_int da_nil))))) (da_cons (de_tup (da_cons de_int (da_cons de_int (da_cons de_int (da_cons de_int da_nil))))) (da_cons (DE.own0 ((de_var 1 (m := 0)))) (da_cons (DE.own0 ((de_var 1 (m := 0)))) da_nil))))) da_nil))))) de_str (u1_ hr))
    (dss_cons (ds_dset 2 (DE.fz ((de_lst (da_cons (de_tup (da_cons de_int (da_cons de_int (da_cons de_int da_nil)))) (da_cons (de_tup (da_cons (de_tup (da_cons de_int (da_cons de_int (da_cons de_int (da_cons de_int da_nil))))) (da_cons (DE.own0 ((de_var 1 (m := 0)))) (da_cons (DE.own0 ((de_var 1 (m := 0)))) (da_cons (DE.own0 ((de_var 1 (m := 0)))) da_nil))))) da_nil))))) de_str (u1_ hr))
    (dss_cons (ds_dset 2 (DE.fz ((de_lst (da_cons (de_tup (da_cons de_int (da_cons de_int (da_cons de_int da_nil)))) (da_cons (de_tup (da_cons (de_tup (da_cons de_int (da_cons de_int (da_cons de_int (da_cons de_int da_nil))))) (da_cons (de_tup (da_cons de_int (da_cons de_int (da_cons de_int (da_cons de_int da_nil))))) (da_cons (de_tup (da_cons de_int (da_cons de_int (da_cons de_int (da_cons de_int da_nil))))) (da_cons (DE.own0 ((de_var 1 (m := 0)))) da_nil))))) da_nil))))) de_str (u1_ hr))
    (dss_one (ds_ret (DE.own0 ((de_ix (de_var 2 (m := 1)) (de_var 0 (m := 0)) (u1_ hr)))))))))))
theorem sc__law_planted : FnScope ["box", "many", "count", "rows", "triples", "k", "triple", "base", "place", "x", "y", "names", "table", "row"] ["box", "many"] (defScope s__law_planted) := ⟨rfl, rfl, rfl, by decide +kernel, rfl, by decide +kernel, by decide +kernel⟩
theorem ok__law_planted (T : Txt K w mg) : FnOk P w K mg base CX0 3 T.f__law_planted T.d__law_planted ["box", "many"] (spG K [1, 0] 0 G__law_planted) := by
  have S := sc__law_planted
  refine dfn_ok (N := ["box", "many", "count", "rows", "triples", "k", "triple", "base", "place", "x", "y", "names", "table", "row"]) (ws := [0]) (F := F__law_planted) T.F__law_planted S rfl (ownP _) fun cdv A outer s H E hr => ?_
  exact (dss_cons (ds_set (i := 2) (k := 0) S.nd (DE.fz ((de_op (fun _ _ _ h => o_add h) de_int (de_call (ok__law_take T) (hr.mono (by decide)) T.g__law_take T.F__law_take.kp T.b__law_take (dac_own 0 (dac_cons (de_op (k := 0) (fun _ _ _ h => o_div h) (de_op (k := 0) (fun _ _ _ h => o_sub h) (de_var 1 (m := 0)) de_int) de_int) dac_nil)))))))
    (dss_cons (ds_par (i := 3) (j := 4) (ka := 2) (kb := 1) S.nd rfl (de_comp (W := false) (k := 1) [("x", 9)] rfl S.nd (di_range1 (by rfl) T.n_range (da_cons (DE.own0 ((de_var 1 (m := 0)))) da_nil)) (fun _ _ _ _ _ => (dg_name (i := 9) S.nd)) (fun _ _ _ _ _ => dts_nil) (fun _ _ _ _ _ => (dc_last (de_op (fun _ _ _ h => o_mul h) (de_lst (da_cons (de_op (k := 0) (fun _ _ _ h => o_sub h) (de_var 1 (m := 0)) de_int) da_nil)) (de_var 1 (m := 0)))))) (de_nil 0))
    (dss_cons (ds_for PassesOwn.never rfl (di_range1 (by rfl) T.n_range (da_cons (DE.own0 ((de_var 2 (m := 0)))) da_nil)) (dg_name (i := 5) S.nd)
    (dss_cons (ds_asg (de_call (ok__law_base T) (hr.mono (by decide)) T.g__law_base T.F__law_base.kp T.b__law_base (dac_cons (DE.own0 ((de_ix (DE.fz ((de_lst (da_cons de_str (da_cons de_str (da_cons de_str (da_cons de_str (da_cons de_str da_nil)))))))) (de_call (ok__law_take T) (hr.mono (by decide)) T.g__law_take T.F__law_take.kp T.b__law_take (dac_own 0 (dac_cons de_int dac_nil))) (u1_ hr)))) dac_nil)) (dg_seq rfl (dgs_cons (dg_name (i := 6) S.nd) (dgs_cons (dg_name (i := 7) S.nd) dgs_nil))))
    (dss_cons (ds_set (i := 8) (k := 0) S.nd (DE.fz ((de_lst (da_cons (DE.fz ((de_op (fun _ _ _ h => o_mul h) de_int (de_var 5 (m := 0))))) (da_cons (DE.fz ((de_op (fun _ _ _ h => o_add h) (de_op (fun _ _ _ h => o_mul h) de_int (de_var 5 (m := 0))) de_int))) (da_cons (DE.fz ((de_op (fun _ _ _ h => o_add h) (de_op (fun _ _ _ h => o_mul h) de_int (de_var 5 (m := 0))) de_int))) (da_cons (de_op (k := 0) (fun _ _ _ h => o_sub h) (de_var 1 (m := 0)) de_int) da_nil))))))))
    (dss_cons (ds_for PassesOwn.never rfl (di_range1 (by rfl) T.n_range (da_cons de_int da_nil)) (dg_name (i := 9) S.nd)
    (dss_one (ds_for PassesOwn.never rfl (di_range1 (by rfl) T.n_range (da_cons de_int da_nil)) (dg_name (i := 10) S.nd)
    (dss_one (ds_setll 3 (DE.own0 ((de_ix (de_var 8 (m := 0)) (de_ix (de_ix (de_var 7 (m := 0)) (de_var 9 (m := 0)) (u1_ hr)) (de_var 10 (m := 0)) (u1_ hr)) (u1_ hr)))) (de_ix (de_var 8 (m := 0)) (de_var 9 (m := 0)) (u1_ hr)) (de_ix (de_var 8 (m := 0)) (de_var 10 (m := 0)) (u1_ hr)))))))
    (dss_one (ds_expr (de_meth (g := gAppend) 4 PySem.F.slot_list_append PySem.F.type_list_append (fun _ _ _ _ h => m_append _ _ _ _ h) (da_cons (de_callTy (k := 0) (fun _ _ h => o_tuple rfl h) (by rfl) T.n_tuple b_tuple (da_cons (de_comp (W := false) (k := 0) [("x", 9)] rfl S.nd (di_seq (DE.own0 ((de_var 6 (m := 0))))) (fun _ _ _ _ _ => (dg_name (i := 9) S.nd)) (fun _ _ _ _ _ => dts_nil) (fun _ _ _ _ _ => (dc_last (DE.own0 ((de_ix (de_var 8 (m := 0)) (de_var 9 (m := 0)) (u1_ hr))))))) da_nil)) da_nil))))))))
    (dss_cons (ds_set (i := 11) (k := 0) S.nd (DE.fz ((de_call (ok__law_mixed T) (hr.mono (by decide)) T.g__law_mixed T.F__law_mixed.kp T.b__law_mixed (dac_own 0 (dac_cons (DE.fz ((de_callTy (fun _ _ h => o_list rfl h) (by rfl) T.n_list b_list (da_cons (de_callTy (k := 0) (fun _ _ h => o_range h) (by rfl) T.n_range b_range (da_cons (de_var 1 (m := 0)) da_nil)) da_nil)))) dac_nil))))))
    (dss_frz 3 (dss_cons (ds_set (i := 12) (k := 0) S.nd (de_call (ok__law_relabelled T) (hr.mono (by decide)) T.g__law_relabelled T.F__law_relabelled.kp T.b__law_relabelled (dac_cons (de_callTy (k := 0) (fun _ _ h => o_tuple rfl h) (by rfl) T.n_tuple b_tuple (da_cons (de_comp (W := false) (k := 0) [("row", 13)] rfl S.nd (di_seq (DE.own0 ((de_var 3 (m := 0))))) (fun _ _ _ _ _ => (dg_name (i := 13) S.nd)) (fun _ _ _ _ _ => dts_nil) (fun _ _ _ _ _ => (dc_last (de_callTy (k := 0) (fun _ _ h => o_tuple rfl h) (by rfl) T.n_tuple b_tuple (da_cons (de_var 13 (m := 0)) da_nil))))) da_nil)) (dac_cons (DE.own0 ((de_var 11 (m := 0)))) dac_nil))))
    (dss_frz 4 (dss_one (ds_ret (DE.fz ((de_lst (da_cons (DE.own0 ((de_var 12 (m := 0)))) (da_cons (DE.fz ((de_callB (fun _ _ h => o_sorted rfl h) (by rfl) T.n_sorted b_sorted (da_cons (de_comp (W := false) (k := 0) [("triple", 6)] rfl S.nd (di_seq (DE.own0 ((de_var 4 (m := 0))))) (fun _ _ _ _ _ => (dg_name (i := 6) S.nd)) (fun _ _ _ _ _ => dts_nil) (fun _ _ _ _ _ => (dc_last (de_callTy (k := 0) (fun _ _ h => o_tuple rfl h) (by rfl) T.n_tuple b_tuple (da_cons (de_comp (W := false) (k := 0) [("x", 9)] rfl S.nd (di_seq (DE.own0 ((de_var 6 (m := 0))))) (fun _ _ _ _ _ => (dg_name (i := 9) S.nd)) (fun _ _ _ _ _ => dts_nil) (fun _ _ _ _ _ => (dc_last (DE.own0 ((de_ix (de_var 11 (m := 0)) (de_var 9 (m := 0)) (u1_ hr))))))) da_nil))))) da_nil)))) da_nil))))))))))))))
theorem sc__law_made_of : FnScope ["table", "members", "found", "turn", "more", "x", "y"] ["table", "members"] (defScope s__law_made_of) := ⟨rfl, rfl, rfl, by decide +kernel, rfl, by decide +kernel, by decide +kernel⟩
theorem ok__law_made_of (T : Txt K w mg) : FnOk P w K mg base CX0 1 T.f__law_made_of T.d__law_made_of ["table", "members"] (spG K [0, 0] 0 G__law_made_of) := by
  have S := sc__law_made_of
  refine dfn_ok (N := ["table", "members", "found", "turn", "more", "x", "y"]) (ws := []) (F := F__law_made_of) T.F__law_made_of S rfl (ownP _) fun cdv A outer s H E hr => ?_
  exact (dss_cons (ds_set (i := 2) (k := 0) S.nd (DE.fz ((de_callB (fun _ _ h => o_sorted rfl h) (by rfl) T.n_sorted b_sorted (da_cons (de_callTy (fun _ _ h => o_dict rfl (u3_ hr) h) (by rfl) T.n_dict b_dict (da_cons (de_comp (W := false) (k := 0) [("x", 5)] rfl S.nd (di_seq (DE.own0 ((de_var 1 (m := 0))))) (fun _ _ _ _ _ => (dg_name (i := 5) S.nd)) (fun _ _ _ _ _ => dts_nil) (fun _ _ _ _ _ => (dc_last (de_tup (da_cons (DE.own0 ((de_var 5 (m := 0)))) (da_cons de_bl da_nil)))))) da_nil)) da_nil)))))
    (dss_cons (ds_for PassesOwn.never rfl (di_range1 (by rfl) T.n_range (da_cons (de_callB (k := 0) (fun _ _ h => o_len h) (by rfl) T.n_len b_len (da_cons (de_var 0 (m := 0)) da_nil)) da_nil)) (dg_name (i := 3) S.nd)
    (dss_cons (ds_set (i := 4) (k := 1) S.nd (de_callTy (fun _ _ h => o_dict rfl (u3_ hr) h) (by rfl) T.n_dict b_dict (da_cons (de_comp (W := false) (k := 0) [("x", 5)] rfl S.nd (di_seq (DE.own0 ((de_var 2 (m := 0))))) (fun _ _ _ _ _ => (dg_name (i := 5) S.nd)) (fun _ _ _ _ _ => dts_nil) (fun _ _ _ _ _ => (dc_last (de_tup (da_cons (DE.own0 ((de_var 5 (m := 0)))) (da_cons de_bl da_nil)))))) da_nil)))
    (dss_cons (ds_for PassesOwn.never rfl (di_seq (DE.own0 ((de_var 2 (m := 0))))) (dg_name (i := 5) S.nd)
    (dss_one (ds_for PassesOwn.never rfl (di_seq (DE.own0 ((de_var 2 (m := 0))))) (dg_name (i := 6) S.nd)
    (dss_one (ds_dset 4 de_bl (DE.own0 ((de_ix (de_ix (de_var 0 (m := 0)) (de_var 5 (m := 0)) (u1_ hr)) (de_var 6 (m := 0)) (u1_ hr)))) (u1_ hr))))))
    (dss_one (ds_set (i := 2) (k := 0) S.nd (DE.fz ((de_callB (fun _ _ h => o_sorted rfl h) (by rfl) T.n_sorted b_sorted (da_cons (de_var 4 (m := 1)) da_nil)))))))))
    (dss_one (ds_ret (DE.own0 ((de_var 2 (m := 0))))))))
theorem sc_are_different : FnScope ["value", "many"] ["value", "many"] (defScope s_are_different) := ⟨rfl, rfl, rfl, by decide +kernel, rfl, by decide +kernel, by decide +kernel⟩
theorem ok_are_different (T : Txt K w mg) : FnOk P w K mg base CX0 5 T.f_are_different T.d_are_different ["value", "many"] (spG K [0, 0] 0 G_are_different) := by
  have S := sc_are_different
  refine dfn_ok (N := ["value", "many"]) (ws := []) (F := F_are_different) T.F_are_different S rfl (ownP _) fun cdv A outer s H E hr => ?_
  exact (dss_one (ds_ret (de_and (de_call (ok_are_elements T) (hr.mono (by decide)) T.g_are_elements T.F_are_elements.kp T.b_are_elements (dac_cons (DE.own0 ((de_var 0 (m := 0)))) (dac_cons (DE.own0 ((de_var 1 (m := 0)))) dac_nil))) (de_one (de_cmp (k := 0) (fun _ _ _ h => o_eq (u64_ hr) h) (de_lenSet (by rfl) T.n_len (by rfl) T.n_set (de_var 0 (m := 0))) (de_callB (k := 0) (fun _ _ h => o_len h) (by rfl) T.n_len b_len (da_cons (de_var 0 (m := 0)) da_nil)))))))
theorem sc_light : FnScope ["table", "members"] ["table", "members"] (defScope s_light) := ⟨rfl, rfl, rfl, by decide +kernel, rfl, by decide +kernel, by decide +kernel⟩
theorem ok_light (T : Txt K w mg) : FnOk P w K mg base CX0 7 T.f_light T.d_light ["table", "members"] (spG K [0, 0] 1 G_light) := by
  have S := sc_light
  refine dfn_ok (N := ["table", "members"]) (ws := []) (F := F_light) T.F_light S rfl (ownP _) fun cdv A outer s H E hr => ?_
  exact (dss_cons (ds_expr (de_call (ok_check_table T) (hr.mono (by decide)) T.g_check_table T.F_check_table.kp T.b_check_table (dac_cons (DE.own0 ((de_var 0 (m := 0)))) dac_nil)))
    (dss_cons (ds_if (dt_not (dt_val (de_call (ok_are_different T) (hr.mono (by decide)) T.g_are_different T.F_are_different.kp T.b_are_different (dac_cons (DE.own0 ((de_var 1 (m := 0)))) (dac_cons (de_callB (k := 0) (fun _ _ h => o_len h) (by rfl) T.n_len b_len (da_cons (de_var 0 (m := 0)) da_nil)) dac_nil)))))
    (dss_one ds_never)
    dss_nil)
    (dss_one (ds_ret (de_call (ok_broken_with T) (hr.mono (by decide)) T.g_broken_with T.F_broken_with.kp T.b_broken_with (dac_cons (DE.own0 ((de_var 0 (m := 0)))) (dac_cons (DE.fz ((de_callTy (fun _ _ h => o_list rfl h) (by rfl) T.n_list b_list (da_cons (de_var 1 (m := 0)) da_nil)))) dac_nil)))))))
theorem sc__law_told : FnScope ["table", "members", "named"] ["table", "members", "named"] (defScope s__law_told) := ⟨rfl, rfl, rfl, by decide +kernel, rfl, by decide +kernel, by decide +kernel⟩
theorem ok__law_told (T : Txt K w mg) : FnOk P w K mg base CX0 8 T.f__law_told T.d__law_told ["table", "members", "named"] (spG K [0, 0, 0] 1 G__law_told) := by
  have S := sc__law_told
  refine dfn_ok (N := ["table", "members", "named"]) (ws := []) (F := F__law_told) T.F__law_told S rfl (ownP _) fun cdv A outer s H E hr => ?_
  exact (dss_one (ds_ret (de_if (dt_val (de_var 2 (m := 0))) (de_callK0 [1, 0] (ok_light T) (hr.mono (by decide)) T.g_light T.F_light.kp (T.kb_light_0_members_table) (dak_cons (de_callTy (k := 0) (fun _ _ h => o_tuple rfl h) (by rfl) T.n_tuple b_tuple (da_cons (de_var 1 (m := 0)) da_nil)) (dak_cons (DE.own0 ((de_var 0 (m := 0)))) dak_nil))) (de_call (ok_light T) (hr.mono (by decide)) T.g_light T.F_light.kp T.b_light (dac_cons (DE.own0 ((de_var 0 (m := 0)))) (dac_cons (DE.fz ((de_callTy (fun _ _ h => o_list rfl h) (by rfl) T.n_list b_list (da_cons (de_var 1 (m := 0)) da_nil)))) dac_nil))))))
theorem sc__law_middles_right : FnScope ["box", "table", "due", "named", "many", "order", "lists", "members", "own", "told", "rest", "x", "turn", "triple"] ["box", "table", "due", "named"] (defScope s__law_middles_right) := ⟨rfl, rfl, rfl, by decide +kernel, rfl, by decide +kernel, by decide +kernel⟩
theorem ok__law_middles_right (T : Txt K w mg) : FnOk P w K mg base CX0 13 T.f__law_middles_right T.d__law_middles_right ["box", "table", "due", "named"] (spG K [1, 0, 0, 0] 0 G__law_middles_right) := by
  have S := sc__law_middles_right
  refine dfn_ok (N := ["box", "table", "due", "named", "many", "order", "lists", "members", "own", "told", "rest", "x", "turn", "triple"]) (ws := [0]) (F := F__law_middles_right) T.F__law_middles_right S rfl (ownP _) fun cdv A outer s H E hr => ?_
  exact (dss_cons (ds_set (i := 4) (k := 0) S.nd (de_callB (k := 0) (fun _ _ h => o_len h) (by rfl) T.n_len b_len (da_cons (de_var 1 (m := 0)) da_nil)))
    (dss_cons (ds_set (i := 5) (k := 0) S.nd (DE.fz ((de_call (ok__law_mixed T) (hr.mono (by decide)) T.g__law_mixed T.F__law_mixed.kp T.b__law_mixed (dac_own 0 (dac_cons (DE.fz ((de_callTy (fun _ _ h => o_list rfl h) (by rfl) T.n_list b_list (da_cons (de_callTy (k := 0) (fun _ _ h => o_range h) (by rfl) T.n_range b_range (da_cons (de_var 4 (m := 0)) da_nil)) da_nil)))) dac_nil))))))
    (dss_cons (ds_set (i := 6) (k := 0) S.nd (DE.fz ((de_op (fun _ _ _ h => o_add h) (de_comp (W := false) (k := 0) [("x", 11)] rfl S.nd (di_seq (DE.own0 ((de_var 5 (m := 0))))) (fun _ _ _ _ _ => (dg_name (i := 11) S.nd)) (fun _ _ _ _ _ => dts_nil) (fun _ _ _ _ _ => (dc_last (DE.fz ((de_lst (da_cons (DE.own0 ((de_var 11 (m := 0)))) da_nil))))))) (de_lst (da_cons (DE.fz ((de_slice (de_var 5 (m := 0)) do_no (do_so de_int)))) (da_cons (DE.fz ((de_slM (de_var 5 (m := 0)) (do_so de_int) (do_so de_int)))) (da_cons (DE.fz ((de_slice (de_var 5 (m := 0)) do_no (do_so (de_neg de_int))))) (da_cons (DE.fz ((de_slice (de_var 5 (m := 0)) (do_so de_int) do_no))) (da_cons (DE.own0 ((de_var 5 (m := 0)))) (da_cons (DE.fz ((de_revL (de_var 5 (m := 0))))) (da_cons (DE.fz ((de_nil 0))) da_nil))))))))))))
    (dss_cons (ds_set (i := 6) (k := 0) S.nd (DE.fz ((de_op (fun _ _ _ h => o_add h) (de_var 6 (m := 0)) (de_comp (W := true) (k := 0) [("turn", 12)] rfl S.nd (DI.up (di_range1 (by rfl) T.n_range (da_cons de_int da_nil))) (fun _ _ _ _ _ => (dg_name (i := 12) S.nd)) (fun _ _ _ _ _ => dts_nil) (fun _ _ _ _ _ => (dc_last (DE.fz ((de_sliceW (DE.own0 ((de_var 5 (m := 0)))) do_no (do_so (de_call (ok__law_take T) (hr.mono (by decide)) T.g__law_take T.F__law_take.kp T.b__law_take (dac_own 0 (dac_cons (DE.fz ((de_op (fun _ _ _ h => o_add h) (de_var 4 (m := 0)) de_int))) dac_nil))))))))))))))
    (dss_cons (ds_for PassesOwn.never rfl (di_seq (DE.own0 ((de_var 6 (m := 0))))) (dg_name (i := 7) S.nd)
    (dss_cons (ds_setLc0 (W := false) (i := 8) (k := 0) [("triple", 13)] rfl S.nd (di_seq (DE.own0 ((de_var 2 (m := 0))))) (fun _ _ _ _ _ => (dg_name (i := 13) S.nd)) (fun _ _ _ _ _ => (dts_one (dt_cmp (fun _ _ _ h => o_in (u65_ hr) h) (de_ix (de_var 13 (m := 0)) de_int (u1_ hr)) (de_var 7 (m := 0)) (hm := by rfl)))) (fun _ _ _ _ _ => (dc_last (DE.own0 ((de_var 13 (m := 0)))))))
    (dss_cons (ds_set (i := 9) (k := 1) S.nd (de_call (ok__law_told T) (hr.mono (by decide)) T.g__law_told T.F__law_told.kp T.b__law_told (dac_cons (DE.own0 ((de_var 1 (m := 0)))) (dac_cons (DE.own0 ((de_var 7 (m := 0)))) (dac_cons (DE.own0 ((de_var 3 (m := 0)))) dac_nil)))))
    (dss_cons (ds_if (dt_not (dt_val (de_call (ok__law_same_v0 T) (hr.mono (by decide)) T.g__law_same T.F__law_same.kp T.b__law_same (dac_own 9 (dac_cons (DE.own0 ((de_var 8 (m := 0)))) dac_nil)))))
    (dss_one (ds_ret de_bl))
    dss_nil)
    (dss_cons (ds_expr (de_meth (g := gAppend) 9 PySem.F.slot_list_append PySem.F.type_list_append (fun _ _ _ _ h => m_append _ _ _ _ h) (da_cons (de_tup (da_cons de_int (da_cons de_int (da_cons de_int da_nil)))) da_nil)))
    (dss_cons (ds_setLc0 (W := false) (i := 10) (k := 0) [("x", 11)] rfl S.nd (di_seq (DE.own0 ((de_var 5 (m := 0))))) (fun _ _ _ _ _ => (dg_name (i := 11) S.nd)) (fun _ _ _ _ _ => (dts_one (dt_cmp (fun _ _ _ h => o_notin (u65_ hr) h) (de_var 11 (m := 0)) (de_var 7 (m := 0)) (hm := by rfl)))) (fun _ _ _ _ _ => (dc_last (DE.own0 ((de_var 11 (m := 0)))))))
    (dss_cons (ds_if (dt_not (dt_val (de_call (ok__law_same T) (hr.mono (by decide)) T.g__law_same T.F__law_same.kp T.b__law_same (dac_cons (DE.fz ((de_callB (fun _ _ h => o_sorted rfl h) (by rfl) T.n_sorted b_sorted (da_cons (de_op (fun _ _ _ h => o_add h) (de_var 8 (m := 0)) (de_call (ok__law_told T) (hr.mono (by decide)) T.g__law_told T.F__law_told.kp T.b__law_told (dac_cons (DE.own0 ((de_var 1 (m := 0)))) (dac_cons (DE.own0 ((de_var 10 (m := 0)))) (dac_cons (de_not (de_var 3 (m := 0))) dac_nil))))) da_nil)))) (dac_cons (DE.own0 ((de_var 2 (m := 0)))) dac_nil)))))
    (dss_one (ds_ret de_bl))
    dss_nil)
    (dss_cons (ds_if (dt_bool (dw_and (dt_cmp (fun _ _ _ h => o_eq (u64_ hr) h) (de_callB (k := 0) (fun _ _ h => o_len h) (by rfl) T.n_len b_len (da_cons (de_call (ok__law_made_of T) (hr.mono (by decide)) T.g__law_made_of T.F__law_made_of.kp T.b__law_made_of (dac_cons (DE.own0 ((de_var 1 (m := 0)))) (dac_cons (DE.own0 ((de_var 7 (m := 0)))) dac_nil))) da_nil)) (de_var 4 (m := 0))) (dw_and1 (dt_cmp (fun _ _ _ h => o_ne (u64_ hr) h) (de_cmp (k := 0) (fun _ _ _ h => o_eq (u64_ hr) h) (de_var 8 (m := 0)) (de_nil 0)) (de_cmp (k := 0) (fun _ _ _ h => o_eq (u64_ hr) h) (de_var 2 (m := 0)) (de_nil 0))))))
    (dss_one (ds_ret de_bl))
    dss_nil)
    (dss_one (ds_set (i := 3) (k := 0) S.nd (de_not (de_var 3 (m := 0)))))))))))))
    (dss_one (ds_ret de_bl)))))))
theorem sc_law : FnScope ["script", "k", "box", "named", "many", "turn", "table", "due", "other", "whole"] ["script"] (defScope s_law) := ⟨rfl, rfl, rfl, by decide +kernel, rfl, by decide +kernel, by decide +kernel⟩
theorem ok_law (T : Txt K w mg) : FnOk P w K mg base CX0 14 T.f_law T.d_law ["script"] (spG K [0] 0 G_law) := by
  have S := sc_law
  refine dfn_ok (N := ["script", "k", "box", "named", "many", "turn", "table", "due", "other", "whole"]) (ws := []) (F := F_law) T.F_law S rfl (ownP _) fun cdv A outer s H E hr => ?_
  exact (dss_cons (ds_for PassesOwn.never rfl (di_range1 (by rfl) T.n_range (da_cons (de_callB (k := 0) (fun _ _ h => o_max2 rfl h) (by rfl) T.n_max b_max (da_cons de_int (da_cons (de_callB (k := 0) (fun _ _ h => o_min2 rfl h) (by rfl) T.n_min b_min (da_cons de_int (da_cons (de_callB (k := 0) (fun _ _ h => o_len h) (by rfl) T.n_len b_len (da_cons (de_var 0 (m := 0)) da_nil)) da_nil))) da_nil))) da_nil)) (dg_name (i := 1) S.nd)
    (dss_cons (ds_set (i := 2) (k := 1) S.nd (de_call (ok__law_box T) (hr.mono (by decide)) T.g__law_box T.F__law_box.kp T.b__law_box (dac_cons (de_call (ok__law_cell T) (hr.mono (by decide)) T.g__law_cell T.F__law_cell.kp T.b__law_cell (dac_cons (DE.own0 ((de_var 0 (m := 0)))) (dac_cons (DE.own0 ((de_var 1 (m := 0)))) dac_nil))) dac_nil)))
    (dss_cons (ds_par (i := 3) (j := 4) (ka := 0) (kb := 0) S.nd rfl (de_cmp (k := 0) (fun _ _ _ h => o_eq (u64_ hr) h) (de_call (ok__law_take T) (hr.mono (by decide)) T.g__law_take T.F__law_take.kp T.b__law_take (dac_own 2 (dac_cons de_int dac_nil))) de_int) (DE.own0 ((de_ix (DE.fz ((de_lst (da_cons de_int (da_cons de_int (da_cons de_int (da_cons de_int (da_cons (DE.fz ((de_op (fun _ _ _ h => o_add h) de_int (de_call (ok__law_take T) (hr.mono (by decide)) T.g__law_take T.F__law_take.kp T.b__law_take (dac_own 2 (dac_cons de_int dac_nil)))))) da_nil)))))))) (de_call (ok__law_take T) (hr.mono (by decide)) T.g__law_take T.F__law_take.kp T.b__law_take (dac_own 2 (dac_cons de_int dac_nil))) (u1_ hr)))))
    (dss_one (ds_for PassesOwn.never rfl (di_range1 (by rfl) T.n_range (da_cons de_int da_nil)) (dg_name (i := 5) S.nd)
    (dss_cons (ds_asg (de_call (ok__law_planted T) (hr.mono (by decide)) T.g__law_planted T.F__law_planted.kp T.b__law_planted (dac_own 2 (dac_cons (DE.own0 ((de_var 4 (m := 0)))) dac_nil))) (dg_seq rfl (dgs_cons (dg_name (i := 6) S.nd) (dgs_cons (dg_name (i := 7) S.nd) dgs_nil))))
    (dss_cons (ds_if (dt_cmp (fun _ _ _ h => o_ne (u64_ hr) h) (de_call (ok__law_broken T) (hr.mono (by decide)) T.g__law_broken T.F__law_broken.kp T.b__law_broken (dac_cons (DE.own0 ((de_var 6 (m := 0)))) dac_nil)) (de_var 7 (m := 0)))
    (dss_one (ds_ret de_bl))
    dss_nil)
    (dss_cons (ds_if (dt_bool (dw_or (dt_not (dt_val (de_call (ok__law_same T) (hr.mono (by decide)) T.g__law_same T.F__law_same.kp T.b__law_same (dac_cons (de_if (dt_val (de_var 3 (m := 0))) (de_callK0 [0] (ok_broken T) (hr.mono (by decide)) T.g_broken T.F_broken.kp (T.kb_broken_0_table) (dak_cons (DE.own0 ((de_var 6 (m := 0)))) dak_nil)) (de_call (ok_broken T) (hr.mono (by decide)) T.g_broken T.F_broken.kp T.b_broken (dac_cons (DE.own0 ((de_var 6 (m := 0)))) dac_nil))) (dac_cons (DE.own0 ((de_var 7 (m := 0)))) dac_nil))))) (dw_or1 (dt_cmp (fun _ _ _ h => o_isnot h) (de_call (ok_is_semigroup T) (hr.mono (by decide)) T.g_is_semigroup T.F_is_semigroup.kp T.b_is_semigroup (dac_cons (DE.own0 ((de_var 6 (m := 0)))) dac_nil)) de_bl))))
    (dss_one (ds_ret de_bl))
    dss_nil)
    (dss_cons (ds_if (dt_not (dt_val (de_call (ok__law_middles_right T) (hr.mono (by decide)) T.g__law_middles_right T.F__law_middles_right.kp T.b__law_middles_right (dac_own 2 (dac_cons (DE.own0 ((de_var 6 (m := 0)))) (dac_cons (DE.own0 ((de_var 7 (m := 0)))) (dac_cons (DE.own0 ((de_var 3 (m := 0)))) dac_nil)))))))
    (dss_one (ds_ret de_bl))
    dss_nil)
    (dss_cons (ds_set (i := 8) (k := 0) S.nd (de_call (ok__law_spoilt T) (hr.mono (by decide)) T.g__law_spoilt T.F__law_spoilt.kp T.b__law_spoilt (dac_own 2 (dac_cons (DE.own0 ((de_var 6 (m := 0)))) dac_nil))))
    (dss_cons (ds_if (dt_not (dt_val (de_call (ok__law_middles_right T) (hr.mono (by decide)) T.g__law_middles_right T.F__law_middles_right.kp T.b__law_middles_right (dac_own 2 (dac_cons (DE.own0 ((de_var 8 (m := 0)))) (dac_cons (de_call (ok__law_broken T) (hr.mono (by decide)) T.g__law_broken T.F__law_broken.kp T.b__law_broken (dac_cons (DE.own0 ((de_var 8 (m := 0)))) dac_nil)) (dac_cons (de_not (de_var 3 (m := 0))) dac_nil)))))))
    (dss_one (ds_ret de_bl))
    dss_nil)
    (dss_cons (ds_set (i := 9) (k := 0) S.nd (de_call (ok__law_drawn T) (hr.mono (by decide)) T.g__law_drawn T.F__law_drawn.kp T.b__law_drawn (dac_own 2 (dac_cons de_int dac_nil))))
    (dss_cons (ds_if (dt_not (dt_val (de_call (ok__law_middles_right T) (hr.mono (by decide)) T.g__law_middles_right T.F__law_middles_right.kp T.b__law_middles_right (dac_own 2 (dac_cons (DE.own0 ((de_var 9 (m := 0)))) (dac_cons (DE.fz ((de_nil 0))) (dac_cons (DE.own0 ((de_var 3 (m := 0)))) dac_nil)))))))
    (dss_one (ds_ret de_bl))
    dss_nil)
    (dss_one (ds_set (i := 3) (k := 0) S.nd (de_not (de_var 3 (m := 0))))))))))))))))))
    (dss_one (ds_ret de_bl)))
end
/-! ### the head -/
def D_is_tuple : He.DefD := ⟨("is_tuple", none), "is_tuple", "is_tuple", defArgs s_is_tuple, defBody s_is_tuple, defScope s_is_tuple, [], []⟩
def D_is_integer : He.DefD := ⟨("is_integer", none), "is_integer", "is_integer", defArgs s_is_integer, defBody s_is_integer, defScope s_is_integer, [], []⟩
def D_is_within : He.DefD := ⟨("is_within", none), "is_within", "is_within", defArgs s_is_within, defBody s_is_within, defScope s_is_within, [], []⟩
def D_is_index : He.DefD := ⟨("is_index", none), "is_index", "is_index", defArgs s_is_index, defBody s_is_index, defScope s_is_index, [], []⟩
def D_is_list : He.DefD := ⟨("is_list", none), "is_list", "is_list", defArgs s_is_list, defBody s_is_list, defScope s_is_list, [], []⟩
def D_are_elements : He.DefD := ⟨("are_elements", none), "are_elements", "are_elements", defArgs s_are_elements, defBody s_are_elements, defScope s_are_elements, [], []⟩
def D_is_table : He.DefD := ⟨("is_table", none), "is_table", "is_table", defArgs s_is_table, defBody s_is_table, defScope s_is_table, [], []⟩
def D_is_broken : He.DefD := ⟨("is_broken", none), "is_broken", "is_broken", defArgs s_is_broken, defBody s_is_broken, defScope s_is_broken, [], []⟩
def D_broken_with : He.DefD := ⟨("broken_with", none), "broken_with", "broken_with", defArgs s_broken_with, defBody s_broken_with, defScope s_broken_with, [], []⟩
def D_is_semigroup : He.DefD := ⟨("is_semigroup", none), "is_semigroup", "is_semigroup", defArgs s_is_semigroup, defBody s_is_semigroup, defScope s_is_semigroup, [], []⟩
def D_check_table : He.DefD := ⟨("check_table", none), "check_table", "check_table", defArgs s_check_table, defBody s_check_table, defScope s_check_table, [], []⟩
def D_broken : He.DefD := ⟨("broken", none), "broken", "broken", defArgs s_broken, defBody s_broken, defScope s_broken, [], []⟩
def D__law_cell : He.DefD := ⟨("_law_cell", none), "_law_cell", "_law_cell", defArgs s__law_cell, defBody s__law_cell, defScope s__law_cell, [], []⟩
def D__law_box : He.DefD := ⟨("_law_box", none), "_law_box", "_law_box", defArgs s__law_box, defBody s__law_box, defScope s__law_box, [], []⟩
def D__law_take : He.DefD := ⟨("_law_take", none), "_law_take", "_law_take", defArgs s__law_take, defBody s__law_take, defScope s__law_take, [], []⟩
def D__law_same : He.DefD := ⟨("_law_same", none), "_law_same", "_law_same", defArgs s__law_same, defBody s__law_same, defScope s__law_same, [], []⟩
def D__law_broken : He.DefD := ⟨("_law_broken", none), "_law_broken", "_law_broken", defArgs s__law_broken, defBody s__law_broken, defScope s__law_broken, [], []⟩
def D__law_mixed : He.DefD := ⟨("_law_mixed", none), "_law_mixed", "_law_mixed", defArgs s__law_mixed, defBody s__law_mixed, defScope s__law_mixed, [], []⟩
def D__law_followed : He.DefD := ⟨("_law_followed", none), "_law_followed", "_law_followed", defArgs s__law_followed, defBody s__law_followed, defScope s__law_followed, [], []⟩
def D__law_from_moves : He.DefD := ⟨("_law_from_moves", none), "_law_from_moves", "_law_from_moves", defArgs s__law_from_moves, defBody s__law_from_moves, defScope s__law_from_moves, [], []⟩
def D__law_relabelled : He.DefD := ⟨("_law_relabelled", none), "_law_relabelled", "_law_relabelled", defArgs s__law_relabelled, defBody s__law_relabelled, defScope s__law_relabelled, [], []⟩
def D__law_plain : He.DefD := ⟨("_law_plain", none), "_law_plain", "_law_plain", defArgs s__law_plain, defBody s__law_plain, defScope s__law_plain, [], []⟩
def D__law_drawn : He.DefD := ⟨("_law_drawn", none), "_law_drawn", "_law_drawn", defArgs s__law_drawn, defBody s__law_drawn, defScope s__law_drawn, [], []⟩
def D__law_spoilt : He.DefD := ⟨("_law_spoilt", none), "_law_spoilt", "_law_spoilt", defArgs s__law_spoilt, defBody s__law_spoilt, defScope s__law_spoilt, [], []⟩
def D__law_base : He.DefD := ⟨("_law_base", none), "_law_base", "_law_base", defArgs s__law_base, defBody s__law_base, defScope s__law_base, [], []⟩
def D__law_planted : He.DefD := ⟨("_law_planted", none), "_law_planted", "_law_planted", defArgs s__law_planted, defBody s__law_planted, defScope s__law_planted, [], []⟩
def D__law_made_of : He.DefD := ⟨("_law_made_of", none), "_law_made_of", "_law_made_of", defArgs s__law_made_of, defBody s__law_made_of, defScope s__law_made_of, [], []⟩
def D_are_different : He.DefD := ⟨("are_different", none), "are_different", "are_different", defArgs s_are_different, defBody s_are_different, defScope s_are_different, [], []⟩
def D_light : He.DefD := ⟨("light", none), "light", "light", defArgs s_light, defBody s_light, defScope s_light, [], []⟩
def D__law_told : He.DefD := ⟨("_law_told", none), "_law_told", "_law_told", defArgs s__law_told, defBody s__law_told, defScope s__law_told, [], []⟩
def D__law_middles_right : He.DefD := ⟨("_law_middles_right", none), "_law_middles_right", "_law_middles_right", defArgs s__law_middles_right, defBody s__law_middles_right, defScope s__law_middles_right, [], []⟩
def D_law : He.DefD := ⟨("law", none), "law", "law", defArgs s_law, defBody s_law, defScope s_law, [], []⟩
def defs : List He.DefD := [D_is_tuple, D_is_integer, D_is_within, D_is_index, D_is_list, D_are_elements, D_is_table, D_is_broken, D_broken_with, D_is_semigroup, D_check_table, D_broken, D__law_cell, D__law_box, D__law_take, D__law_same, D__law_broken, D__law_mixed, D__law_followed, D__law_from_moves, D__law_relabelled, D__law_plain, D__law_drawn, D__law_spoilt, D__law_base, D__law_planted, D__law_made_of, D_are_different, D_light, D__law_told, D__law_middles_right, D_law]
def facts : List He.Fa := [.glo "is_tuple", .glo "is_integer", .glo "is_within", .glo "is_index", .glo "is_list", .glo "are_elements", .glo "is_table", .glo "is_broken", .glo "broken_with", .glo "is_semigroup", .glo "check_table", .glo "broken", .glo "_law_cell", .glo "_law_box", .glo "_law_take", .glo "_law_same", .glo "_law_broken", .glo "_law_mixed", .glo "_law_followed", .glo "_law_from_moves", .glo "_law_relabelled", .glo "_law_plain", .glo "_law_drawn", .glo "_law_spoilt", .glo "_law_base", .glo "_law_planted", .glo "_law_made_of", .glo "are_different", .glo "light", .glo "_law_told", .glo "_law_middles_right", .glo "law", .free "abs", .free "all", .free "bool", .free "dict", .free "int", .free "isinstance", .free "len", .free "list", .free "max", .free "min", .free "range", .free "set", .free "sorted", .free "str", .free "sum", .free "tuple"]
def tabs : List He.Tab := []
def exB (K : PySem.W.Frag) : Bool := gloB K "MOST_ELEMENTS" c_MOST_ELEMENTS && true
theorem txt {K : PySem.W.Frag} {h : Heap} {w : World} {mg : Str → Option Value} (X : K.In h) (G : h.Ns mainGlobals mg) (c : He.SaysT facts defs tabs w K) (e : exB K = true) : Nonempty (Txt K w mg) := by
  simp only [exB, Bool.and_eq_true] at e
  obtain ⟨e0, _⟩ := e
  obtain ⟨d0, F0⟩ := c.d.def_ 0 (d := D_is_tuple) rfl
  obtain ⟨d1, F1⟩ := c.d.def_ 1 (d := D_is_integer) rfl
  obtain ⟨d2, F2⟩ := c.d.def_ 2 (d := D_is_within) rfl
  obtain ⟨d3, F3⟩ := c.d.def_ 3 (d := D_is_index) rfl
  obtain ⟨d4, F4⟩ := c.d.def_ 4 (d := D_is_list) rfl
  obtain ⟨d5, F5⟩ := c.d.def_ 5 (d := D_are_elements) rfl
  obtain ⟨d6, F6⟩ := c.d.def_ 6 (d := D_is_table) rfl
  obtain ⟨d7, F7⟩ := c.d.def_ 7 (d := D_is_broken) rfl
  obtain ⟨d8, F8⟩ := c.d.def_ 8 (d := D_broken_with) rfl
  obtain ⟨d9, F9⟩ := c.d.def_ 9 (d := D_is_semigroup) rfl
  obtain ⟨d10, F10⟩ := c.d.def_ 10 (d := D_check_table) rfl
  obtain ⟨d11, F11⟩ := c.d.def_ 11 (d := D_broken) rfl
  obtain ⟨d12, F12⟩ := c.d.def_ 12 (d := D__law_cell) rfl
  obtain ⟨d13, F13⟩ := c.d.def_ 13 (d := D__law_box) rfl
  obtain ⟨d14, F14⟩ := c.d.def_ 14 (d := D__law_take) rfl
  obtain ⟨d15, F15⟩ := c.d.def_ 15 (d := D__law_same) rfl
  obtain ⟨d16, F16⟩ := c.d.def_ 16 (d := D__law_broken) rfl
  obtain ⟨d17, F17⟩ := c.d.def_ 17 (d := D__law_mixed) rfl
  obtain ⟨d18, F18⟩ := c.d.def_ 18 (d := D__law_followed) rfl
  obtain ⟨d19, F19⟩ := c.d.def_ 19 (d := D__law_from_moves) rfl
  obtain ⟨d20, F20⟩ := c.d.def_ 20 (d := D__law_relabelled) rfl
  obtain ⟨d21, F21⟩ := c.d.def_ 21 (d := D__law_plain) rfl
  obtain ⟨d22, F22⟩ := c.d.def_ 22 (d := D__law_drawn) rfl
  obtain ⟨d23, F23⟩ := c.d.def_ 23 (d := D__law_spoilt) rfl
  obtain ⟨d24, F24⟩ := c.d.def_ 24 (d := D__law_base) rfl
  obtain ⟨d25, F25⟩ := c.d.def_ 25 (d := D__law_planted) rfl
  obtain ⟨d26, F26⟩ := c.d.def_ 26 (d := D__law_made_of) rfl
  obtain ⟨d27, F27⟩ := c.d.def_ 27 (d := D_are_different) rfl
  obtain ⟨d28, F28⟩ := c.d.def_ 28 (d := D_light) rfl
  obtain ⟨d29, F29⟩ := c.d.def_ 29 (d := D__law_told) rfl
  obtain ⟨d30, F30⟩ := c.d.def_ 30 (d := D__law_middles_right) rfl
  obtain ⟨d31, F31⟩ := c.d.def_ 31 (d := D_law) rfl
  exact ⟨{
    v_MOST_ELEMENTS := gloB_ok X G e0
    n_abs := He.free_ok X G (c.d.fact 32 (f := .free "abs") rfl)
    n_all := He.free_ok X G (c.d.fact 33 (f := .free "all") rfl)
    n_bool := He.free_ok X G (c.d.fact 34 (f := .free "bool") rfl)
    n_dict := He.free_ok X G (c.d.fact 35 (f := .free "dict") rfl)
    n_int := He.free_ok X G (c.d.fact 36 (f := .free "int") rfl)
    n_isinstance := He.free_ok X G (c.d.fact 37 (f := .free "isinstance") rfl)
    n_len := He.free_ok X G (c.d.fact 38 (f := .free "len") rfl)
    n_list := He.free_ok X G (c.d.fact 39 (f := .free "list") rfl)
    n_max := He.free_ok X G (c.d.fact 40 (f := .free "max") rfl)
    n_min := He.free_ok X G (c.d.fact 41 (f := .free "min") rfl)
    n_range := He.free_ok X G (c.d.fact 42 (f := .free "range") rfl)
    n_set := He.free_ok X G (c.d.fact 43 (f := .free "set") rfl)
    n_sorted := He.free_ok X G (c.d.fact 44 (f := .free "sorted") rfl)
    n_str := He.free_ok X G (c.d.fact 45 (f := .free "str") rfl)
    n_sum := He.free_ok X G (c.d.fact 46 (f := .free "sum") rfl)
    n_tuple := He.free_ok X G (c.d.fact 47 (f := .free "tuple") rfl)
    f_is_tuple := He.ga K "is_tuple"
    d_is_tuple := d0
    F_is_tuple := F0
    g_is_tuple := He.glo_ok X G (c.d.fact 0 (f := .glo "is_tuple") rfl)
    f_is_integer := He.ga K "is_integer"
    d_is_integer := d1
    F_is_integer := F1
    g_is_integer := He.glo_ok X G (c.d.fact 1 (f := .glo "is_integer") rfl)
    f_is_within := He.ga K "is_within"
    d_is_within := d2
    F_is_within := F2
    g_is_within := He.glo_ok X G (c.d.fact 2 (f := .glo "is_within") rfl)
    f_is_index := He.ga K "is_index"
    d_is_index := d3
    F_is_index := F3
    g_is_index := He.glo_ok X G (c.d.fact 3 (f := .glo "is_index") rfl)
    f_is_list := He.ga K "is_list"
    d_is_list := d4
    F_is_list := F4
    g_is_list := He.glo_ok X G (c.d.fact 4 (f := .glo "is_list") rfl)
    f_are_elements := He.ga K "are_elements"
    d_are_elements := d5
    F_are_elements := F5
    g_are_elements := He.glo_ok X G (c.d.fact 5 (f := .glo "are_elements") rfl)
    f_is_table := He.ga K "is_table"
    d_is_table := d6
    F_is_table := F6
    g_is_table := He.glo_ok X G (c.d.fact 6 (f := .glo "is_table") rfl)
    f_is_broken := He.ga K "is_broken"
    d_is_broken := d7
    F_is_broken := F7
    g_is_broken := He.glo_ok X G (c.d.fact 7 (f := .glo "is_broken") rfl)
    f_broken_with := He.ga K "broken_with"
    d_broken_with := d8
    F_broken_with := F8
    g_broken_with := He.glo_ok X G (c.d.fact 8 (f := .glo "broken_with") rfl)
    f_is_semigroup := He.ga K "is_semigroup"
    d_is_semigroup := d9
    F_is_semigroup := F9
    g_is_semigroup := He.glo_ok X G (c.d.fact 9 (f := .glo "is_semigroup") rfl)
    f_check_table := He.ga K "check_table"
    d_check_table := d10
    F_check_table := F10
    g_check_table := He.glo_ok X G (c.d.fact 10 (f := .glo "check_table") rfl)
    f_broken := He.ga K "broken"
    d_broken := d11
    F_broken := F11
    g_broken := He.glo_ok X G (c.d.fact 11 (f := .glo "broken") rfl)
    f__law_cell := He.ga K "_law_cell"
    d__law_cell := d12
    F__law_cell := F12
    g__law_cell := He.glo_ok X G (c.d.fact 12 (f := .glo "_law_cell") rfl)
    f__law_box := He.ga K "_law_box"
    d__law_box := d13
    F__law_box := F13
    g__law_box := He.glo_ok X G (c.d.fact 13 (f := .glo "_law_box") rfl)
    f__law_take := He.ga K "_law_take"
    d__law_take := d14
    F__law_take := F14
    g__law_take := He.glo_ok X G (c.d.fact 14 (f := .glo "_law_take") rfl)
    f__law_same := He.ga K "_law_same"
    d__law_same := d15
    F__law_same := F15
    g__law_same := He.glo_ok X G (c.d.fact 15 (f := .glo "_law_same") rfl)
    f__law_broken := He.ga K "_law_broken"
    d__law_broken := d16
    F__law_broken := F16
    g__law_broken := He.glo_ok X G (c.d.fact 16 (f := .glo "_law_broken") rfl)
    f__law_mixed := He.ga K "_law_mixed"
    d__law_mixed := d17
    F__law_mixed := F17
    g__law_mixed := He.glo_ok X G (c.d.fact 17 (f := .glo "_law_mixed") rfl)
    f__law_followed := He.ga K "_law_followed"
    d__law_followed := d18
    F__law_followed := F18
    g__law_followed := He.glo_ok X G (c.d.fact 18 (f := .glo "_law_followed") rfl)
    f__law_from_moves := He.ga K "_law_from_moves"
    d__law_from_moves := d19
    F__law_from_moves := F19
    g__law_from_moves := He.glo_ok X G (c.d.fact 19 (f := .glo "_law_from_moves") rfl)
    f__law_relabelled := He.ga K "_law_relabelled"
    d__law_relabelled := d20
    F__law_relabelled := F20
    g__law_relabelled := He.glo_ok X G (c.d.fact 20 (f := .glo "_law_relabelled") rfl)
    f__law_plain := He.ga K "_law_plain"
    d__law_plain := d21
    F__law_plain := F21
    g__law_plain := He.glo_ok X G (c.d.fact 21 (f := .glo "_law_plain") rfl)
    f__law_drawn := He.ga K "_law_drawn"
    d__law_drawn := d22
    F__law_drawn := F22
    g__law_drawn := He.glo_ok X G (c.d.fact 22 (f := .glo "_law_drawn") rfl)
    f__law_spoilt := He.ga K "_law_spoilt"
    d__law_spoilt := d23
    F__law_spoilt := F23
    g__law_spoilt := He.glo_ok X G (c.d.fact 23 (f := .glo "_law_spoilt") rfl)
    f__law_base := He.ga K "_law_base"
    d__law_base := d24
    F__law_base := F24
    g__law_base := He.glo_ok X G (c.d.fact 24 (f := .glo "_law_base") rfl)
    f__law_planted := He.ga K "_law_planted"
    d__law_planted := d25
    F__law_planted := F25
    g__law_planted := He.glo_ok X G (c.d.fact 25 (f := .glo "_law_planted") rfl)
    f__law_made_of := He.ga K "_law_made_of"
    d__law_made_of := d26
    F__law_made_of := F26
    g__law_made_of := He.glo_ok X G (c.d.fact 26 (f := .glo "_law_made_of") rfl)
    f_are_different := He.ga K "are_different"
    d_are_different := d27
    F_are_different := F27
    g_are_different := He.glo_ok X G (c.d.fact 27 (f := .glo "are_different") rfl)
    f_light := He.ga K "light"
    d_light := d28
    F_light := F28
    g_light := He.glo_ok X G (c.d.fact 28 (f := .glo "light") rfl)
    f__law_told := He.ga K "_law_told"
    d__law_told := d29
    F__law_told := F29
    g__law_told := He.glo_ok X G (c.d.fact 29 (f := .glo "_law_told") rfl)
    f__law_middles_right := He.ga K "_law_middles_right"
    d__law_middles_right := d30
    F__law_middles_right := F30
    g__law_middles_right := He.glo_ok X G (c.d.fact 30 (f := .glo "_law_middles_right") rfl)
    f_law := He.ga K "law"
    d_law := d31
    F_law := F31
    g_law := He.glo_ok X G (c.d.fact 31 (f := .glo "law") rfl)
  }⟩
abbrev R : PySem.W.OpenRow := PySem.W.OpenLaw.row PySem.Challenge.rw_semigroupbench_k02_lights_of_few_broken
abbrev hk : PySem.W.Hook := hookL 4 facts defs tabs exB
def ob (s : PySem.W.SharedT) : AlL := obsL 4 facts defs tabs exB (HandSHeadRun.getT s)
theorem ob_eq (s : PySem.W.SharedT) : ob s = hk.obs s.abs := obsL_eq (HandSHeadRun.getT_eq s)
def loose0 : List Str := ["__name__", "SemigroupError", "InvalidTable", "InvalidElements", "is_integer", "is_within", "is_index", "is_list", "is_tuple", "are_elements", "are_different", "MOST_ELEMENTS", "is_table", "is_broken", "broken_with", "is_semigroup", "check_table", "broken", "light", "_law_cell"]
def loose1 : List Str := ["_law_box", "_law_take", "_law_mixed", "_law_same", "_law_broken", "_law_followed", "_law_from_moves", "_law_relabelled", "_law_plain", "_law_drawn", "_law_base", "_law_spoilt", "_law_planted", "_law_made_of", "_law_told", "_law_middles_right"]
def loose : List Str := loose0 ++ loose1
theorem run (w : World) : HandSHeadRun.RunEq R (PySem.W.view R.prog [39]) hk ob 8000 loose w := by
  intro os
  kernel_rfl
end K02
/-! PL: the plain law's tools: what the combinators compute -/
namespace DL
open PySem L2

@[simp] theorem bindS {α β : Type} (a : α) (f : α → Option β) : (some a).bind f = f a := rfl
@[simp] theorem bindN {α β : Type} (f : α → Option β) : (none : Option α).bind f = none := rfl
@[simp] theorem mapS {α β : Type} (a : α) (f : α → β) : (some a).map f = some (f a) := rfl
theorem sizeLine_big : 16777216 ≤ sizeLine := by rw [sizeLine_eq]; decide

/-! ### loops -/
theorem forM_nil (g : GM) (F : SM) (ρ : Env) : forM g F [] ρ = some (.nx ρ) := rfl
theorem forM_cons (g : GM) (F : SM) (d : D) (ds : List D) (ρ : Env) : forM g F (d :: ds) ρ = (g d ρ).bind fun ρ1 => (F ρ1).bind fun o => match o with
      | .nx ρ' => forM g F ds ρ'
      | .ct ρ' => forM g F ds ρ'
      | .br ρ' => some (.nx ρ')
      | .rt d ρ' => some (.rt d ρ') := rfl
/-- a loop that keeps a word of the state: P by what is still to come -/
theorem forM_inv {g : GM} {F : SM} (P : List D → Env → Prop) (hs : ∀ d ds ρ, P (d :: ds) ρ → ∃ ρ1 ρ', g d ρ = some ρ1 ∧ (F ρ1 = some (.nx ρ') ∨ F ρ1 = some (.ct ρ')) ∧ P ds ρ') :
    ∀ ds ρ, P ds ρ → ∃ ρ', forM g F ds ρ = some (.nx ρ') ∧ P [] ρ'
  | [], ρ, h => ⟨ρ, rfl, h⟩
  | d :: ds, ρ, h => by
    obtain ⟨ρ1, ρ2, e1, e2, h2⟩ := hs d ds ρ h
    obtain ⟨ρ', e3, h3⟩ := forM_inv P hs ds ρ2 h2
    refine ⟨ρ', ?_, h3⟩
    rw [forM_cons, e1, bindS]
    rcases e2 with e2 | e2 <;> rw [e2, bindS] <;> exact e3
/-- the same, but it may return -/
theorem forM_ret {g : GM} {F : SM} (P : List D → Env → Prop) (R : D → Env → Prop) (hs : ∀ d ds ρ, P (d :: ds) ρ → ∃ ρ1, g d ρ = some ρ1 ∧ ((∃ ρ', (F ρ1 = some (.nx ρ') ∨ F ρ1 = some (.ct ρ')) ∧ P ds ρ') ∨ ∃ r ρ', F ρ1 = some (.rt r ρ') ∧ R r ρ')) :
    ∀ ds ρ, P ds ρ → (∃ ρ', forM g F ds ρ = some (.nx ρ') ∧ P [] ρ') ∨ ∃ r ρ', forM g F ds ρ = some (.rt r ρ') ∧ R r ρ'
  | [], ρ, h => .inl ⟨ρ, rfl, h⟩
  | d :: ds, ρ, h => by
    obtain ⟨ρ1, e1, h2⟩ := hs d ds ρ h
    rcases h2 with ⟨ρ2, e2, h2⟩ | ⟨r, ρ2, e2, h2⟩
    · have q := forM_ret P R hs ds ρ2 h2
      have e : forM g F (d :: ds) ρ = forM g F ds ρ2 := by
        rw [forM_cons, e1, bindS]
        rcases e2 with e2 | e2 <;> rw [e2, bindS]
      rw [e]
      exact q
    · refine .inr ⟨r, ρ2, ?_, h2⟩
      rw [forM_cons, e1, bindS, e2, bindS]
/-! ### comprehensions -/
def lStep (g : GM) (t : TM) (tail : LM) (d : D) (ρ : Env) : Option (List D × Env) := (g d ρ).bind fun ρ1 => (t ρ1).bind fun p => if p.1 = true then tail p.2 else some ([], p.2)
theorem lLoop_cons (g : GM) (t : TM) (tail : LM) (vs : List Nat) (d : D) (ds : List D) (ρ : Env) : lLoop g t tail vs (d :: ds) ρ = (lStep g t tail d ρ).bind fun q => (lLoop g t tail vs ds (wipeE q.2 vs)).map fun r => (q.1 ++ r.1, r.2) := by
  show ((g d ρ).bind fun ρ1 => (t ρ1).bind fun p => (if p.1 = true then tail p.2 else some ([], p.2)).bind fun q => _) = _
  unfold lStep
  cases g d ρ with
  | none => rfl
  | some ρ1 =>
    simp only [bindS]
    cases t ρ1 with
    | none => rfl
    | some p => rfl
/-- nothing changes but the block's own names -/
theorem lLoop_flat {g : GM} {t : TM} {tail : LM} {vs : List Nat} {ρ : Env} (f : D → List D) : ∀ {ds : List D}, (∀ d ∈ ds, ∃ ρ', lStep g t tail d ρ = some (f d, ρ') ∧ wipeE ρ' vs = ρ) → lLoop g t tail vs ds ρ = some (ds.flatMap f, ρ)
  | [], h => rfl
  | d :: ds, h => by
    obtain ⟨ρ', e1, e2⟩ := h d List.mem_cons_self
    rw [lLoop_cons, e1, bindS, e2, lLoop_flat f fun d hd => h d (List.mem_cons_of_mem _ hd)]
    rfl
/-- a word of what changes -/
theorem lLoop_inv {g : GM} {t : TM} {tail : LM} {vs : List Nat} (P : List D → List D → Env → Prop) (hs : ∀ d ds acc ρ, P (d :: ds) acc ρ → ∃ r ρ', lStep g t tail d ρ = some (r, ρ') ∧ P ds (acc ++ r) (wipeE ρ' vs)) :
    ∀ ds acc ρ, P ds acc ρ → ∃ r ρ', lLoop g t tail vs ds ρ = some (r, ρ') ∧ P [] (acc ++ r) ρ'
  | [], acc, ρ, h => ⟨[], ρ, rfl, by rw [List.append_nil]; exact h⟩
  | d :: ds, acc, ρ, h => by
    obtain ⟨r1, ρ1, e1, h1⟩ := hs d ds acc ρ h
    obtain ⟨r2, ρ2, e2, h2⟩ := lLoop_inv P hs ds (acc ++ r1) (wipeE ρ1 vs) h1
    refine ⟨r1 ++ r2, ρ2, ?_, by rw [← List.append_assoc]; exact h2⟩
    rw [lLoop_cons, e1, bindS, e2]
    rfl
/-! ### indices -/
theorem atI_nat {α : Type} (xs : List α) (n : Nat) : atI xs (n : Int) = xs[n]? := by
  unfold atI ixN
  by_cases h : n < xs.length
  · rw [if_pos (by omega), if_pos (by omega)]
    simp
  · rw [if_pos (by omega), if_neg (by omega), List.getElem?_eq_none (by omega)]
    rfl
end DL
/-! PL2: the combinators' equations, for simp -/
namespace DL
open PySem L2
section
variable (ρ : Env) (F G : SM) (f g h fa fb fc fi fk fv : EM) (t u : TM) (fs gs : AM) (i j k m n s : Nat) (d x y : D) (ds es : List D) (vs : List Nat) (a b : Int)
@[simp] theorem sSeq_ : sSeq F G ρ = (F ρ).bind fun o => match o with | .nx ρ' => G ρ' | o => some o := rfl
@[simp] theorem sNil_ : sNil ρ = some (.nx ρ) := rfl
@[simp] theorem sPass_ : sPass ρ = some (.nx ρ) := rfl
@[simp] theorem sRetN_ : sRetN ρ = some (.rt .non ρ) := rfl
@[simp] theorem sNever_ : sNever ρ = none := rfl
@[simp] theorem sExpr_ : sExpr f ρ = (f ρ).map fun p => .nx p.2 := rfl
@[simp] theorem sRet_ : sRet f ρ = (f ρ).map fun p => .rt p.1 p.2 := rfl
@[simp] theorem sIf_ : sIf t F G ρ = (t ρ).bind fun p => if p.1 = true then F p.2 else G p.2 := rfl
@[simp] theorem sSet_ : sSet i k f ρ = (f ρ).map fun p => .nx (p.2.set i (some (k, p.1))) := rfl
@[simp] theorem sPar_ (ka kb : Nat) : sPar i j ka kb fa fb ρ = (fa ρ).bind fun p => (fb p.2).map fun q => .nx ((q.2.set i (some (ka, p.1))).set j (some (kb, q.1))) := rfl
@[simp] theorem sAsg_ (g : GM) : sAsg f g ρ = (f ρ).bind fun p => (g p.1 p.2).map .nx := rfl
@[simp] theorem sFgt_ : sFgt i F ρ = F (ρ.set i none) := rfl
@[simp] theorem sFor_ (f : IM) (g : GM) : sFor f g F ρ = (f ρ).bind fun p => forM g F p.1 p.2 := rfl
@[simp] theorem eC_ : eC d ρ = some (d, ρ) := rfl
@[simp] theorem eOp2_ (g : D → D → Option D) : eOp2 g fa fb ρ = (fa ρ).bind fun p => (fb p.2).bind fun q => (g p.1 q.1).map fun d => (d, q.2) := rfl
@[simp] theorem tCmpM_ (g : D → D → Option D) : tCmpM g fa fb ρ = (eOp2 g fa fb ρ).bind fun p => match p.1 with | .bl b => some (b, p.2) | _ => none := rfl
@[simp] theorem tChainM_ (g g' : D → D → Option D) : tChainM g g' fa fb fc ρ = (eChain g g' fa fb fc ρ).bind fun p => match p.1 with | .bl b => some (b, p.2) | _ => none := rfl
@[simp] theorem eChain_ (g g' : D → D → Option D) : eChain g g' fa fb fc ρ = (fa ρ).bind fun p => (fb p.2).bind fun q => (g p.1 q.1).bind fun d => match d with
  | .bl true => (fc q.2).bind fun s => (g' q.1 s.1).map fun d' => (d', s.2)
  | .bl false => some (.bl false, q.2)
  | _ => none := rfl
@[simp] theorem sSetIx_ : sSetIx s f fi ρ = (f ρ).bind fun p => (getL s p.2).bind fun _ => (fi p.2).bind fun q => (getL s q.2).bind fun ds => match q.1 with
  | .int j => (ixN ds.length j).map fun m => .nx (q.2.set s (some (1, .lst (ds.set m p.1))))
  | _ => none := rfl
@[simp] theorem tVal_ : tVal f ρ = (f ρ).bind fun p => (truth p.1).map fun b => (b, p.2) := rfl
@[simp] theorem tNotM_ : tNotM t ρ = (t ρ).map fun p => (!p.1, p.2) := rfl
@[simp] theorem tAndM_ : tAndM t u ρ = (t ρ).bind fun p => if p.1 = true then u p.2 else some (false, p.2) := rfl
@[simp] theorem tOrM_ : tOrM t u ρ = (t ρ).bind fun p => if p.1 = true then some (true, p.2) else u p.2 := rfl
@[simp] theorem eAndM_ : eAndM f g ρ = (f ρ).bind fun p => (truth p.1).bind fun b => if b = true then g p.2 else some p := rfl
@[simp] theorem eOrM_ : eOrM f g ρ = (f ρ).bind fun p => (truth p.1).bind fun b => if b = true then some p else g p.2 := rfl
@[simp] theorem eNotM_ : eNotM f ρ = (f ρ).bind fun p => (truth p.1).map fun b => (.bl (!b), p.2) := rfl
@[simp] theorem eIfM_ : eIfM t f g ρ = (t ρ).bind fun p => if p.1 = true then f p.2 else g p.2 := rfl
@[simp] theorem aNil_ : aNil ρ = some ([], ρ) := rfl
@[simp] theorem aCons_ : aCons f fs ρ = (f ρ).bind fun p => (fs p.2).map fun q => (p.1 :: q.1, q.2) := rfl
@[simp] theorem eTup_ : eTup fs ρ = (fs ρ).map fun p => (.tup p.1, p.2) := rfl
@[simp] theorem eLst_ : eLst fs ρ = (fs ρ).map fun p => (.lst p.1, p.2) := rfl
@[simp] theorem eCall_ (g : List D → Option D) : eCall g fs ρ = (fs ρ).bind fun p => (g p.1).map fun d => (d, p.2) := rfl
@[simp] theorem eIx_ : eIx k fa fb ρ = (fa ρ).bind fun p => (fb p.2).bind fun q => (dIx k p.1 q.1).map fun d => (d, q.2) := rfl
@[simp] theorem eSl_ (l h : OM) : eSl f l h ρ = (f ρ).bind fun p => (l p.2).bind fun q => (h q.2).bind fun r => (dSl q.1 r.1 p.1).map fun d => (d, r.2) := rfl
@[simp] theorem oNo_ : oNo ρ = some (none, ρ) := rfl
@[simp] theorem acNil_ : acNil ρ = some ([], ρ) := rfl
@[simp] theorem acCons_ : acCons f fs ρ = (f ρ).bind fun p => (fs p.2).map fun q => (p.1 :: q.1, q.2) := rfl
@[simp] theorem eCallD_ (os : List (Option Nat)) (ms : List Nat) (G : GMap) : eCallD os ms fs G ρ = (fs ρ).bind fun p => (fillA p.2 os ms p.1).bind fun ds => (G ds).map fun q => (q.1, putB os q.2 p.2) := rfl
@[simp] theorem eCallK_ (os : List (Option Nat)) (ms p : List Nat) (G : GMap) : eCallK os ms p fs gs G ρ = (fs ρ).bind fun a => (gs a.2).bind fun b => (fillA b.2 (pick p os) ms (pick p (a.1 ++ b.1))).bind fun ds => (G ds).map fun q => (q.1, putB (pick p os) q.2 b.2) := rfl
@[simp] theorem eMeth_ (g : List D → List D → Option (List D × D)) : eMeth s g fs ρ = (getL s ρ).bind fun _ => (fs ρ).bind fun p => (getL s p.2).bind fun ds => (g ds p.1).map fun q => (q.2, p.2.set s (some (1, .lst q.1))) := rfl
@[simp] theorem sDSet_ (fy : EM) : sDSet s f fy ρ = (f ρ).bind fun p => (getD s p.2).bind fun _ => (fy p.2).bind fun q => (getD s q.2).bind fun r =>
  if r.2.1.length < sizeLine then (dput r.1 r.2.1 r.2.2 q.1 p.1).map fun z => .nx (q.2.set s (some (1, .dct r.1 z.1 z.2))) else none := rfl
@[simp] theorem sSetLL_ : sSetLL s f fa fb ρ = (f ρ).bind fun p => (getLL s p.2).bind fun _ => (fa p.2).bind fun q => (getLL s q.2).bind fun ds1 => (ixD ds1.length q.1).bind fun _ => (fb q.2).bind fun r => (getLL s r.2).bind fun ds => (setLL ds q.1 r.1 p.1).map fun es => .nx (r.2.set s (some (2, .lst es))) := rfl
@[simp] theorem gNm_ : gNm i d ρ = some (ρ.set i (some (0, d))) := rfl
@[simp] theorem gsNil_ : gsNil [] ρ = some ρ := rfl
@[simp] theorem gsCons_ (g : GM) (gs : GMs) : gsCons g gs (d :: ds) ρ = (g d ρ).bind fun ρ1 => gs ds ρ1 := rfl
@[simp] theorem gTq_lst (gs : GMs) : gTq n gs (.lst ds) ρ = if ds.length = n then gs ds ρ else none := rfl
@[simp] theorem gTq_tup (gs : GMs) : gTq n gs (.tup ds) ρ = if ds.length = n then gs ds ρ else none := rfl
@[simp] theorem gTq_ktp (gs : GMs) : gTq n gs (.ktp ds) ρ = if ds.length = n then gs ds ρ else none := rfl
@[simp] theorem tYesM_ : tYesM ρ = some (true, ρ) := rfl
@[simp] theorem lOne_ : lOne f ρ = (f ρ).map fun p => ([p.1], p.2) := rfl
@[simp] theorem lFor_ (fi : IM) (g : GM) (tl : LM) : lFor fi g t tl vs ρ = (fi ρ).bind fun p => lLoop g t tl vs p.1 (wipeE p.2 vs) := rfl
@[simp] theorem lStep_ (g : GM) (tl : LM) : lStep g t tl d ρ = (g d ρ).bind fun ρ1 => (t ρ1).bind fun p => if p.1 = true then tl p.2 else some ([], p.2) := rfl
@[simp] theorem eComp_ (fi : IM) (g : GM) (fl : LM) : eComp fi g t fl vs ρ = (fi ρ).bind fun p => (lLoop g t fl vs p.1 (wipeE p.2 vs)).bind fun r => (backE p.2 r.2 vs).bind fun ρ' => if r.1.length ≤ sizeLine then some (.lst r.1, ρ') else none := rfl
@[simp] theorem iLst'_ : iLst' f ρ = (f ρ).bind fun p => match p.1 with
  | .lst ds => some (ds, p.2)
  | .tup ds => some (ds, p.2)
  | .ktp ds => some (ds, p.2)
  | .rng lo hi => some (rngL lo (hi - lo).toNat, p.2)
  | _ => none := rfl
@[simp] theorem iRg1_ : iRg1 fs ρ = (fs ρ).bind fun p => match p.1 with | [.int j] => if -(2 ^ 62) ≤ j ∧ j < 2 ^ 62 then some (rngL 0 j.toNat, p.2) else none | _ => none := rfl
@[simp] theorem iRg2_ : iRg2 fs ρ = (fs ρ).bind fun p => match p.1 with | [.int i, .int j] => if -(2 ^ 62) ≤ i ∧ i < 2 ^ 62 ∧ -(2 ^ 62) ≤ j ∧ j < 2 ^ 62 then some (rngL i (j - i).toNat, p.2) else none | _ => none := rfl
@[simp] theorem defG_ (ms : List Nat) : defG n ms F ds = (F (envOf ms ds ++ List.replicate (n - ms.length) none)).bind fun o => match o with
  | .rt d ρ' => some (d, outE ms ρ')
  | .nx ρ' => some (.non, outE ms ρ')
  | _ => none := rfl
@[simp] theorem dSub_ : dSub (.int a) (.int b) = some (.int (a - b)) := rfl
@[simp] theorem dAdd_ : dAdd (.int a) (.int b) = some (.int (a + b)) := rfl
@[simp] theorem dAddL_ : dAdd (.lst ds) (.lst es) = if ds.length + es.length ≤ sizeLine then some (.lst (ds ++ es)) else none := rfl
@[simp] theorem dMod_ : dMod (.int a) (.int b) = if b ≠ 0 then some (.int (a.fmod b)) else none := rfl
@[simp] theorem dDiv_ : dDiv (.int a) (.int b) = if b ≠ 0 ∧ b.natAbs < 1073741824 then some (.int (a.fdiv b)) else none := rfl
@[simp] theorem dPow_ : dPow (.int a) (.int b) = if 0 ≤ b ∧ b ≤ 1000000 ∧ a.natAbs < 2 ^ 64 then some (.int (a ^ b.toNat)) else none := rfl
@[simp] theorem dMul_ : dMul (.int a) (.int b) = if (-(2 ^ 64) < a ∧ a < 2 ^ 64) ∨ (-(2 ^ 64) < b ∧ b < 2 ^ 64) then some (.int (a * b)) else none := rfl
@[simp] theorem dCmp_ (p : Int → Int → Bool) : dCmp p (.int a) (.int b) = some (.bl (p a b)) := rfl
@[simp] theorem dLen_lst : dLen [.lst ds] = some (.int ds.length) := rfl
@[simp] theorem dLen_tup : dLen [.tup ds] = some (.int ds.length) := rfl
@[simp] theorem dLen_ktp : dLen [.ktp ds] = some (.int ds.length) := rfl
@[simp] theorem dAbs_ : dAbs [.int a] = some (.int (if a < 0 then -a else a)) := rfl
@[simp] theorem dIntC_ : dIntC [.int a] = some (.int a) := rfl
@[simp] theorem dMax2_ : dMax2 [.int a, .int b] = some (.int (if b > a then b else a)) := rfl
@[simp] theorem dMin2_ : dMin2 [.int a, .int b] = some (.int (if b < a then b else a)) := rfl
@[simp] theorem dIx_lst : dIx k (.lst ds) (.int a) = atI ds a := rfl
@[simp] theorem dIx0_tup : dIx 0 (.tup ds) (.int a) = atI ds a := rfl
@[simp] theorem dIx0_ktp : dIx 0 (.ktp ds) (.int a) = atI ds a := rfl
@[simp] theorem truth_bl (b : Bool) : truth (.bl b) = some b := rfl
@[simp] theorem truth_int : truth (.int a) = some (a != 0) := rfl
@[simp] theorem dList_lst : dList [.lst ds] = some (.lst ds) := rfl
@[simp] theorem dTuple_lst : dTuple [.lst ds] = some (.tup ds) := rfl
end
/-! ### slots on a written environment -/
theorem eVar_at {ρ : Env} {i m : Nat} {d : D} (h : ρ[i]? = some (some (m, d))) : eVar i m ρ = some (d, ρ) := by
  unfold eVar
  rw [h]
  simp
@[simp] theorem eVar0 (m : Nat) (d : D) (ρ : Env) : eVar 0 m (some (m, d) :: ρ) = some (d, some (m, d) :: ρ) := eVar_at rfl
@[simp] theorem eVar1 (m : Nat) (d : D) (x0) (ρ : Env) : eVar 1 m (x0 :: some (m, d) :: ρ) = some (d, x0 :: some (m, d) :: ρ) := eVar_at rfl
@[simp] theorem eVar2 (m : Nat) (d : D) (x0 x1) (ρ : Env) : eVar 2 m (x0 :: x1 :: some (m, d) :: ρ) = some (d, x0 :: x1 :: some (m, d) :: ρ) := eVar_at rfl
@[simp] theorem eVar3 (m : Nat) (d : D) (x0 x1 x2) (ρ : Env) : eVar 3 m (x0 :: x1 :: x2 :: some (m, d) :: ρ) = some (d, x0 :: x1 :: x2 :: some (m, d) :: ρ) := eVar_at rfl
@[simp] theorem eVar4 (m : Nat) (d : D) (x0 x1 x2 x3) (ρ : Env) : eVar 4 m (x0 :: x1 :: x2 :: x3 :: some (m, d) :: ρ) = some (d, x0 :: x1 :: x2 :: x3 :: some (m, d) :: ρ) := eVar_at rfl
@[simp] theorem eVar5 (m : Nat) (d : D) (x0 x1 x2 x3 x4) (ρ : Env) : eVar 5 m (x0 :: x1 :: x2 :: x3 :: x4 :: some (m, d) :: ρ) = some (d, x0 :: x1 :: x2 :: x3 :: x4 :: some (m, d) :: ρ) := eVar_at rfl
@[simp] theorem eVar6 (m : Nat) (d : D) (x0 x1 x2 x3 x4 x5) (ρ : Env) : eVar 6 m (x0 :: x1 :: x2 :: x3 :: x4 :: x5 :: some (m, d) :: ρ) = some (d, x0 :: x1 :: x2 :: x3 :: x4 :: x5 :: some (m, d) :: ρ) := eVar_at rfl
@[simp] theorem eVar7 (m : Nat) (d : D) (x0 x1 x2 x3 x4 x5 x6) (ρ : Env) : eVar 7 m (x0 :: x1 :: x2 :: x3 :: x4 :: x5 :: x6 :: some (m, d) :: ρ) = some (d, x0 :: x1 :: x2 :: x3 :: x4 :: x5 :: x6 :: some (m, d) :: ρ) := eVar_at rfl
theorem getL_at {ρ : Env} {s : Nat} {ds : List D} (h : ρ[s]? = some (some (1, .lst ds))) : getL s ρ = some ds := by
  unfold getL
  rw [h]
  all_goals rfl
@[simp] theorem getL0 (ds : List D) (ρ : Env) : getL 0 (some (1, .lst ds) :: ρ) = some ds := getL_at rfl
@[simp] theorem getL1 (ds : List D) (x0) (ρ : Env) : getL 1 (x0 :: some (1, .lst ds) :: ρ) = some ds := getL_at rfl
@[simp] theorem getL2 (ds : List D) (x0 x1) (ρ : Env) : getL 2 (x0 :: x1 :: some (1, .lst ds) :: ρ) = some ds := getL_at rfl
@[simp] theorem getL3 (ds : List D) (x0 x1 x2) (ρ : Env) : getL 3 (x0 :: x1 :: x2 :: some (1, .lst ds) :: ρ) = some ds := getL_at rfl
@[simp] theorem getL4 (ds : List D) (x0 x1 x2 x3) (ρ : Env) : getL 4 (x0 :: x1 :: x2 :: x3 :: some (1, .lst ds) :: ρ) = some ds := getL_at rfl
end DL
/-! PL3: typed data, == on them -/
namespace DL
open PySem L2
/-- data of a type: how it is written, how the library's == sees it -/
class Dat (α : Type) [DecidableEq α] where
  enc : α → D
  py : α → PyData
  toPy_ : ∀ a, toPy (enc a) = some (py a)
  eqv_ : ∀ a b, PyData.eqv (py a) (py b) = decide (a = b)
  dep : Nat
  dep_le : ∀ a, (py a).depth ≤ dep
theorem beqD {α : Type} [BEq α] [LawfulBEq α] [DecidableEq α] (a b : α) : (a == b) = decide (a = b) := by
  rw [Bool.eq_iff_iff, beq_iff_eq, decide_eq_true_eq]
instance : Dat Int where
  enc := .int
  py := .int
  toPy_ _ := rfl
  eqv_ a b := by simp only [PyData.eqv]; exact beqD a b
  dep := 0
  dep_le _ := Nat.le_refl _
instance : Dat Nat where
  enc n := .int n
  py n := .int n
  toPy_ _ := rfl
  eqv_ a b := by
    simp only [PyData.eqv]
    rw [beqD]
    exact decide_eq_decide.mpr (by omega)
  dep := 0
  dep_le _ := Nat.le_refl _
section
variable {α : Type} [DecidableEq α] [Dat α]
theorem toPys_map : ∀ xs : List α, toPys (xs.map Dat.enc) = some (xs.map Dat.py)
  | [] => rfl
  | x :: xs => by
    rw [List.map_cons, toPys, Dat.toPy_, toPys_map xs]
    rfl
theorem eqvAll_of : ∀ xs ys : List α, PyData.eqvAll (xs.map Dat.py) (ys.map Dat.py) = decide (xs = ys)
  | [], [] => by simp [PyData.eqvAll]
  | [], _ :: _ => by simp [PyData.eqvAll]
  | _ :: _, [] => by simp [PyData.eqvAll]
  | x :: xs, y :: ys => by
    rw [List.map_cons, List.map_cons, PyData.eqvAll, Dat.eqv_ x y, eqvAll_of xs ys, ← Bool.decide_and]
    exact decide_eq_decide.mpr (by rw [List.cons.injEq])
theorem depAll : ∀ xs : List α, PyData.depthAll (xs.map Dat.py) ≤ Dat.dep α
  | [] => Nat.zero_le _
  | x :: xs => by
    rw [List.map_cons, PyData.depthAll]
    exact Nat.max_le.mpr ⟨Dat.dep_le x, depAll xs⟩
instance : Dat (List α) where
  enc xs := .lst (xs.map Dat.enc)
  py xs := .list (xs.map Dat.py)
  toPy_ xs := by
    unfold toPy
    rw [toPys_map]
    rfl
  eqv_ a b := by
    simp only [PyData.eqv]
    exact eqvAll_of a b
  dep := Dat.dep α + 1
  dep_le xs := by
    rw [PyData.depth]
    exact Nat.succ_le_succ (depAll xs)
theorem dEqB_dat (a b : α) (h : Dat.dep α ≤ 64 := by decide) : dEqB (Dat.enc a) (Dat.enc b) = some (decide (a = b)) := by
  unfold dEqB
  rw [Dat.toPy_, bindS, Dat.toPy_, bindS, if_pos, Dat.eqv_]
  unfold pyOk
  exact ⟨decide_eq_true (Nat.le_trans (Dat.dep_le a) h), decide_eq_true (Nat.le_trans (Dat.dep_le b) h)⟩
end
/-- a list that is written as a tuple -/
structure Tup (α : Type) where
  l : List α
deriving DecidableEq
instance {α : Type} [DecidableEq α] [Dat α] : Dat (Tup α) where
  enc xs := .tup (xs.l.map Dat.enc)
  py xs := .tuple (xs.l.map Dat.py)
  toPy_ xs := by
    unfold toPy
    rw [toPys_map]
    rfl
  eqv_ a b := by
    simp only [PyData.eqv]
    rw [eqvAll_of]
    exact decide_eq_decide.mpr (by cases a; cases b; simp)
  dep := Dat.dep α + 1
  dep_le xs := by
    rw [PyData.depth]
    exact Nat.succ_le_succ (depAll xs.l)
section
variable {α : Type} [DecidableEq α] [Dat α]
theorem any_dat (x : α) : ∀ ys : List α, ((ys.map Dat.py).any fun z => PyData.eqv z (Dat.py x)) = decide (x ∈ ys)
  | [] => by simp
  | y :: ys => by
    rw [List.map_cons, List.any_cons, any_dat x ys, Dat.eqv_]
    by_cases h : y = x
    · subst h; simp
    · have h' : ¬ x = y := fun e => h e.symm
      simp [h, h']
theorem dIn_lst (x : α) (ys : List α) (h : Dat.dep α + 1 ≤ 64 := by decide) : dIn (Dat.enc x) (.lst (ys.map Dat.enc)) = some (.bl (decide (x ∈ ys))) := by
  have e : dInB false (Dat.enc x) (.lst (ys.map Dat.enc)) = some (decide (x ∈ ys)) := by
    show (toPy (Dat.enc x)).bind _ = _
    rw [Dat.toPy_, bindS, toPys_map, bindS, if_pos, any_dat]
    unfold pyOk
    refine ⟨decide_eq_true (Nat.le_trans (Dat.dep_le x) (by omega)), decide_eq_true ?_⟩
    rw [PyData.depth]
    exact Nat.le_trans (Nat.succ_le_succ (depAll ys)) h
  unfold dIn
  rw [e]
  rfl
theorem dIn_tup (x : α) (ys : List α) (h : Dat.dep α + 1 ≤ 64 := by decide) : dIn (Dat.enc x) (.tup (ys.map Dat.enc)) = some (.bl (decide (x ∈ ys))) := by
  have e : dInB false (Dat.enc x) (.tup (ys.map Dat.enc)) = some (decide (x ∈ ys)) := by
    have e0 : dInB false (Dat.enc x) (.tup (ys.map Dat.enc)) = (toPy (Dat.enc x)).bind fun p => (toPys (ys.map Dat.enc)).bind fun qs => if pyOk p = true ∧ pyOk (.tuple qs) = true then some (qs.any fun z => PyData.eqv z p) else none := rfl
    rw [e0, Dat.toPy_, bindS, toPys_map, bindS, if_pos, any_dat]
    unfold pyOk
    refine ⟨decide_eq_true (Nat.le_trans (Dat.dep_le x) (by omega)), decide_eq_true ?_⟩
    rw [PyData.depth]
    exact Nat.le_trans (Nat.succ_le_succ (depAll ys)) h
  unfold dIn
  rw [e]
  rfl
end
end DL
/-! M1: tables as functions, broken triples, tables filled from a base of four -/
namespace TB
abbrev Tr := Nat × Nat × Nat
def tri (m : Nat) : List Tr := (List.range m).flatMap fun x => (List.range m).flatMap fun y => (List.range m).map fun z => (x, y, z)
def brk (T : Nat → Nat → Nat) (t : Tr) : Bool := decide (T (T t.1 t.2.1) t.2.2 ≠ T t.1 (T t.2.1 t.2.2))
def brs (m : Nat) (T : Nat → Nat → Nat) : List Tr := (tri m).filter (brk T)
def updT (T : Nat → Nat → Nat) (a b v : Nat) : Nat → Nat → Nat := fun x y => if x = a ∧ y = b then v else T x y
theorem mem_tri {m : Nat} {t : Tr} : t ∈ tri m ↔ t.1 < m ∧ t.2.1 < m ∧ t.2.2 < m := by
  obtain ⟨x, y, z⟩ := t
  simp [tri]
  constructor
  · rintro ⟨a, h1, b, h2, c, h3, rfl, rfl, rfl⟩
    exact ⟨h1, h2, h3⟩
  · rintro ⟨h1, h2, h3⟩
    exact ⟨x, h1, y, h2, z, h3, rfl, rfl, rfl⟩
theorem nodup_flatMap {α β : Type} {f : α → List β} : ∀ {l : List α}, l.Nodup → (∀ x ∈ l, (f x).Nodup) → (∀ x ∈ l, ∀ y ∈ l, x ≠ y → ∀ z ∈ f x, z ∉ f y) → (l.flatMap f).Nodup
  | [], _, _, _ => by simp
  | x :: l, h, h1, h2 => by
    rw [List.flatMap_cons, List.nodup_append]
    obtain ⟨h3, h4⟩ := List.nodup_cons.mp h
    refine ⟨h1 x List.mem_cons_self, nodup_flatMap h4 (fun y hy => h1 y (List.mem_cons_of_mem _ hy)) (fun a ha b hb => h2 a (List.mem_cons_of_mem _ ha) b (List.mem_cons_of_mem _ hb)), ?_⟩
    intro a ha b hb e
    subst e
    obtain ⟨y, hy, hz⟩ := List.mem_flatMap.mp hb
    exact h2 x List.mem_cons_self y (List.mem_cons_of_mem _ hy) (fun e => h3 (e ▸ hy)) a ha hz
theorem nodup_map {α β : Type} {f : α → β} : ∀ {l : List α}, l.Nodup → (∀ x ∈ l, ∀ y ∈ l, f x = f y → x = y) → (l.map f).Nodup
  | [], _, _ => by simp
  | x :: l, h, h2 => by
    obtain ⟨h3, h4⟩ := List.nodup_cons.mp h
    rw [List.map_cons, List.nodup_cons]
    refine ⟨fun hm => ?_, nodup_map h4 fun a ha b hb => h2 a (List.mem_cons_of_mem _ ha) b (List.mem_cons_of_mem _ hb)⟩
    obtain ⟨y, hy, e⟩ := List.mem_map.mp hm
    have := h2 y (List.mem_cons_of_mem _ hy) x List.mem_cons_self e
    exact h3 (this ▸ hy)
theorem tri_nodup (m : Nat) : (tri m).Nodup := by
  unfold tri
  refine nodup_flatMap List.nodup_range (fun x _ => nodup_flatMap List.nodup_range (fun y _ => nodup_map List.nodup_range fun a _ b _ e => by simpa using e) ?_) ?_
  · intro a _ b _ hne c hc hd
    simp at hc hd
    obtain ⟨_, _, rfl⟩ := hc
    obtain ⟨_, _, e⟩ := hd
    exact hne (by simpa using (congrArg (fun t => t.2.1) e).symm)
  · intro a _ b _ hne c hc hd
    simp at hc hd
    obtain ⟨_, _, _, _, rfl⟩ := hc
    obtain ⟨_, _, _, _, e⟩ := hd
    exact hne (by simpa using (congrArg (fun t => t.1) e).symm)
theorem filter_nil_of {α : Type} {p : α → Bool} {l : List α} (h : ∀ x ∈ l, p x = false) : l.filter p = [] := List.filter_eq_nil_iff.mpr fun x hx => by rw [h x hx]; decide
theorem filter_one {α : Type} {p : α → Bool} {t : α} : ∀ {l : List α}, l.Nodup → t ∈ l → (∀ u ∈ l, p u = true ↔ u = t) → l.filter p = [t]
  | [], _, h, _ => by cases h
  | x :: l, hn, h, hp => by
    obtain ⟨h3, h4⟩ := List.nodup_cons.mp hn
    by_cases e : x = t
    · subst e
      rw [List.filter_cons_of_pos ((hp x List.mem_cons_self).mpr rfl), filter_nil_of]
      intro y hy
      cases hq : p y with
      | false => rfl
      | true => exact absurd ((hp y (List.mem_cons_of_mem _ hy)).mp hq ▸ hy) h3
    · rw [List.filter_cons_of_neg (fun hq => e ((hp x List.mem_cons_self).mp hq))]
      exact filter_one h4 (by rcases List.mem_cons.mp h with h | h; exact absurd h.symm e; exact h) fun u hu => hp u (List.mem_cons_of_mem _ hu)
/-- what is put in, pair by pair, over a zero -/
def fill (n : Nat → Nat) (B : Nat → Nat → Nat) (z : Nat) (l : List (Nat × Nat)) : Nat → Nat → Nat :=
  l.foldl (fun T p => updT T (n p.1) (n p.2) (n (B p.1 p.2))) fun _ _ => z
theorem fill_nil (n B z) : fill n B z [] = fun _ _ => z := rfl
theorem fill_snoc (n B z) (l : List (Nat × Nat)) (p : Nat × Nat) : fill n B z (l ++ [p]) = updT (fill n B z l) (n p.1) (n p.2) (n (B p.1 p.2)) := by
  unfold fill
  rw [List.foldl_append]
  rfl
theorem fill_out {n B z} {a b : Nat} : ∀ {l : List (Nat × Nat)}, (∀ p ∈ l, ¬ (a = n p.1 ∧ b = n p.2)) → fill n B z l a b = z := by
  intro l
  unfold fill
  suffices h : ∀ (l : List (Nat × Nat)) (T : Nat → Nat → Nat), T a b = z → (∀ p ∈ l, ¬ (a = n p.1 ∧ b = n p.2)) → l.foldl (fun T p => updT T (n p.1) (n p.2) (n (B p.1 p.2))) T a b = z from fun q => h l _ rfl q
  intro l
  induction l with
  | nil => intro T e _; exact e
  | cons p l ih =>
    intro T e q
    rw [List.foldl_cons]
    refine ih _ ?_ fun p' hp => q p' (List.mem_cons_of_mem _ hp)
    unfold updT
    rw [if_neg (q p List.mem_cons_self), e]
theorem fill_in {n B z} {x y : Nat} {l : List (Nat × Nat)} (inj : ∀ p ∈ l, n p.1 = n x → n p.2 = n y → p = (x, y)) (h : (x, y) ∈ l) : fill n B z l (n x) (n y) = n (B x y) := by
  unfold fill
  suffices hh : ∀ (l : List (Nat × Nat)) (T : Nat → Nat → Nat), (T (n x) (n y) = n (B x y) ∨ (x, y) ∈ l) → (∀ p ∈ l, n p.1 = n x → n p.2 = n y → p = (x, y)) → l.foldl (fun T p => updT T (n p.1) (n p.2) (n (B p.1 p.2))) T (n x) (n y) = n (B x y) from hh l _ (.inr h) inj
  intro l
  induction l with
  | nil => intro T e _; exact e.resolve_right (by simp)
  | cons p l ih =>
    intro T e q
    rw [List.foldl_cons]
    refine ih _ ?_ fun p' hp => q p' (List.mem_cons_of_mem _ hp)
    by_cases hp : n x = n p.1 ∧ n y = n p.2
    · have := q p List.mem_cons_self hp.1.symm hp.2.symm
      subst this
      left
      unfold updT
      rw [if_pos ⟨rfl, rfl⟩]
    · rcases e with e | e
      · left
        unfold updT
        rw [if_neg hp, e]
      · rcases List.mem_cons.mp e with e | e
        · subst e
          exact absurd ⟨rfl, rfl⟩ hp
        · exact .inr e
def pr4 : List (Nat × Nat) := (List.range 4).flatMap fun x => (List.range 4).map fun y => (x, y)
theorem mem_pr4 {p : Nat × Nat} : p ∈ pr4 ↔ p.1 < 4 ∧ p.2 < 4 := by
  obtain ⟨x, y⟩ := p
  simp [pr4]
theorem led_one {n : Nat → Nat} {B : Nat → Nat → Nat} {w m : Nat} {t : Tr} (inj : ∀ i, i < 4 → ∀ j, j < 4 → n i = n j → i = j) (hn : ∀ i, i < 4 → n i < m) (hB : ∀ x, x < 4 → ∀ y, y < 4 → B x y < 4) (hw : w < 4) (hz : ∀ x, x < 4 → B w x = w ∧ B x w = w) (hb : brs 4 B = [t]) :
    (∀ x y, fill n B (n w) pr4 x y < m) ∧ brs m (fill n B (n w) pr4) = [(n t.1, n t.2.1, n t.2.2)] := by
  have F1 : ∀ i, i < 4 → ∀ j, j < 4 → fill n B (n w) pr4 (n i) (n j) = n (B i j) := fun i hi j hj => fill_in (fun p hp e1 e2 => by
    obtain ⟨h1, h2⟩ := mem_pr4.mp hp
    exact Prod.ext (inj _ h1 _ hi e1) (inj _ h2 _ hj e2)) (mem_pr4.mpr ⟨hi, hj⟩)
  have F2 : ∀ a b, (∀ i, i < 4 → a ≠ n i) → fill n B (n w) pr4 a b = n w := fun a b h => fill_out fun p hp e => h _ (mem_pr4.mp hp).1 e.1
  have F3 : ∀ a b, (∀ i, i < 4 → b ≠ n i) → fill n B (n w) pr4 a b = n w := fun a b h => fill_out fun p hp e => h _ (mem_pr4.mp hp).2 e.2
  have hd : ∀ a, (∃ i, i < 4 ∧ a = n i) ∨ (∀ i, i < 4 → a ≠ n i) := fun a => by
    by_cases h : ∃ i, i < 4 ∧ a = n i
    · exact .inl h
    · exact .inr fun i hi e => h ⟨i, hi, e⟩
  have F4 : ∀ c, fill n B (n w) pr4 (n w) c = n w := fun c => by
    rcases hd c with ⟨i, hi, rfl⟩ | h
    · rw [F1 w hw i hi, (hz i hi).1]
    · exact F3 _ _ h
  have F5 : ∀ c, fill n B (n w) pr4 c (n w) = n w := fun c => by
    rcases hd c with ⟨i, hi, rfl⟩ | h
    · rw [F1 i hi w hw, (hz i hi).2]
    · exact F2 _ _ h
  have ht : t ∈ brs 4 B := by rw [hb]; exact List.mem_singleton.mpr rfl
  obtain ⟨ht1, ht2⟩ := List.mem_filter.mp ht
  obtain ⟨t1, t2, t3⟩ := mem_tri.mp ht1
  refine ⟨fun x y => ?_, ?_⟩
  · rcases hd x with ⟨i, hi, rfl⟩ | h
    · rcases hd y with ⟨j, hj, rfl⟩ | h
      · rw [F1 i hi j hj]; exact hn _ (hB i hi j hj)
      · rw [F3 _ _ h]; exact hn _ hw
    · rw [F2 _ _ h]; exact hn _ hw
  · refine filter_one (tri_nodup m) (mem_tri.mpr ⟨hn _ t1, hn _ t2, hn _ t3⟩) fun u hu => ?_
    obtain ⟨a, b, c⟩ := u
    have no : fill n B (n w) pr4 (fill n B (n w) pr4 a b) c = fill n B (n w) pr4 a (fill n B (n w) pr4 b c) → (∀ i j k, i < 4 → j < 4 → k < 4 → a = n i → b = n j → c = n k → False) → (brk (fill n B (n w) pr4) (a, b, c) = true ↔ (a, b, c) = (n t.1, n t.2.1, n t.2.2)) := by
      intro e q
      constructor
      · intro z
        exact absurd e (of_decide_eq_true z)
      · intro z
        injection z with z1 z2
        injection z2 with z2 z3
        exact (q _ _ _ t1 t2 t3 z1 z2 z3).elim
    rcases hd a with ⟨i, hi, rfl⟩ | h
    · rcases hd b with ⟨j, hj, rfl⟩ | h
      · rcases hd c with ⟨k, hk, rfl⟩ | h
        · have e : brk (fill n B (n w) pr4) (n i, n j, n k) = brk B (i, j, k) := by
            unfold brk
            show decide (fill n B (n w) pr4 (fill n B (n w) pr4 (n i) (n j)) (n k) ≠ fill n B (n w) pr4 (n i) (fill n B (n w) pr4 (n j) (n k))) = decide (B (B i j) k ≠ B i (B j k))
            rw [F1 i hi j hj, F1 j hj k hk, F1 _ (hB i hi j hj) k hk, F1 i hi _ (hB j hj k hk)]
            refine decide_eq_decide.mpr ⟨fun z e => z (by rw [e]), fun z e => z (inj _ (hB _ (hB i hi j hj) k hk) _ (hB i hi _ (hB j hj k hk)) e)⟩
          rw [e]
          constructor
          · intro z
            have : (i, j, k) ∈ brs 4 B := List.mem_filter.mpr ⟨mem_tri.mpr ⟨hi, hj, hk⟩, z⟩
            rw [hb, List.mem_singleton] at this
            rw [← this]
          · intro z
            injection z with z1 z2
            injection z2 with z2 z3
            have : (i, j, k) = t := by
              rw [inj _ hi _ t1 z1, inj _ hj _ t2 z2, inj _ hk _ t3 z3]
            rw [this]
            exact ht2
        · refine no ?_ fun _ _ k _ _ hk _ _ e => h k hk e
          rw [F3 _ _ h, F3 _ _ h, F5]
      · refine no ?_ fun _ j _ _ hj _ _ e _ => h j hj e
        rw [F3 _ _ h, F2 _ _ h, F4, F5]
    · refine no ?_ fun i _ _ hi _ _ e _ _ => h i hi e
      rw [F2 _ _ h, F2 _ _ h, F4]
end TB
/-! M2: the bases of k03 -/
namespace TB
def shp (t : Tr) : Nat := if t.1 = t.2.1 then (if t.2.1 = t.2.2 then 0 else 1) else if t.1 = t.2.2 then 2 else if t.2.1 = t.2.2 then 3 else 4
theorem shp_lt (t : Tr) : shp t < 5 := by
  unfold shp
  split <;> split <;> (try split) <;> decide
def bsF (L : List (List Nat)) : Nat → Nat → Nat := fun x y => (L.getD x []).getD y 0
def pB : Nat → List (List Nat)
  | 0 => [[0, 0, 0, 0], [0, 2, 3, 0], [0, 0, 0, 0], [0, 0, 0, 0]]
  | 1 => [[0, 0, 0, 0], [0, 0, 2, 0], [0, 0, 0, 0], [0, 0, 0, 0]]
  | 2 => [[0, 0, 0, 0], [0, 1, 2, 2], [0, 2, 0, 0], [0, 0, 0, 0]]
  | 3 => [[0, 0, 0, 0], [0, 0, 1, 0], [0, 0, 0, 0], [0, 0, 0, 0]]
  | _ => [[0, 0, 0, 0], [0, 1, 2, 3], [0, 1, 2, 0], [0, 0, 0, 0]]
def pT : Nat → Tr
  | 0 => (1, 1, 1)
  | 1 => (1, 1, 2)
  | 2 => (1, 3, 1)
  | 3 => (1, 2, 2)
  | _ => (2, 1, 3)
def lB : Nat → List (List Nat)
  | 0 => [[3, 3, 3, 3], [3, 3, 0, 3], [3, 3, 1, 3], [3, 3, 3, 3]]
  | 1 => [[3, 1, 3, 3], [3, 3, 3, 3], [3, 3, 3, 3], [3, 3, 3, 3]]
  | 2 => [[0, 1, 2, 3], [3, 2, 3, 3], [3, 3, 3, 3], [3, 3, 3, 3]]
  | 3 => [[3, 3, 0, 3], [3, 3, 3, 3], [3, 3, 3, 3], [3, 3, 3, 3]]
  | _ => [[0, 1, 3, 3], [0, 1, 2, 3], [2, 2, 3, 3], [3, 3, 3, 3]]
def lT : Nat → Tr
  | 0 => (2, 2, 2)
  | 1 => (0, 0, 1)
  | 2 => (1, 0, 1)
  | 3 => (0, 2, 2)
  | _ => (0, 1, 2)
theorem pB_ok : ∀ s, s < 5 → (∀ x, x < 4 → ∀ y, y < 4 → bsF (pB s) x y < 4) ∧ (∀ x, x < 4 → bsF (pB s) 0 x = 0 ∧ bsF (pB s) x 0 = 0) ∧ brs 4 (bsF (pB s)) = [pT s] := by decide +kernel
theorem lB_ok : ∀ s, s < 5 → (∀ x, x < 4 → ∀ y, y < 4 → bsF (lB s) x y < 4) ∧ (∀ x, x < 4 → bsF (lB s) 3 x = 3 ∧ bsF (lB s) x 3 = 3) ∧ brs 4 (bsF (lB s)) = [lT s] := by decide +kernel
def nmF (L : List Nat) : Nat → Nat := fun k => L.getD k 0
theorem nm_eq {L : List Nat} {i : Nat} (h : i < L.length) : nmF L i = L[i] := by
  unfold nmF
  simp [h]
theorem nm_inj {L : List Nat} (h : L.Nodup) (hl : L.length = 4) : ∀ i, i < 4 → ∀ j, j < 4 → nmF L i = nmF L j → i = j := by
  intro i hi j hj e
  rw [nm_eq (by omega), nm_eq (by omega)] at e
  exact (List.getElem_inj h).mp e
theorem nm_lt {L : List Nat} {m : Nat} (h : ∀ x ∈ L, x < m) (hl : L.length = 4) : ∀ i, i < 4 → nmF L i < m := by
  intro i hi
  rw [nm_eq (by omega)]
  exact h _ (List.getElem_mem _)
end TB
/-! M3: semigroups as functions: plain ones, powers, relabelled, with an identity or a zero, of transformations -/
namespace TB
structure Sg (m : Nat) (T : Nat → Nat → Nat) : Prop where
  pos : 1 ≤ m
  cl : ∀ x, x < m → ∀ y, y < m → T x y < m
  as : ∀ x, x < m → ∀ y, y < m → ∀ z, z < m → T (T x y) z = T x (T y z)
theorem Sg.brs {m : Nat} {T : Nat → Nat → Nat} (h : Sg m T) : brs m T = [] := filter_nil_of fun t ht => by
  obtain ⟨h1, h2, h3⟩ := mem_tri.mp ht
  unfold brk
  rw [h.as _ h1 _ h2 _ h3]
  simp
theorem sg_left {m : Nat} (h : 1 ≤ m) : Sg m fun x _ => x := ⟨h, fun x hx _ _ => hx, fun _ _ _ _ _ _ => rfl⟩
theorem sg_right {m : Nat} (h : 1 ≤ m) : Sg m fun _ y => y := ⟨h, fun _ _ y hy => hy, fun _ _ _ _ _ _ => rfl⟩
theorem sg_zero {m : Nat} (h : 1 ≤ m) : Sg m fun _ _ => 0 := ⟨h, fun _ _ _ _ => h, fun _ _ _ _ _ _ => rfl⟩
theorem sg_min {m : Nat} (h : 1 ≤ m) : Sg m fun x y => min x y := ⟨h, fun x hx y _ => by omega, fun x _ y _ z _ => by omega⟩
theorem sg_clock {m : Nat} (h : 1 ≤ m) : Sg m fun x y => (x + y) % m := ⟨h, fun _ _ _ _ => Nat.mod_lt _ h, fun x _ y _ z _ => by
  show ((x + y) % m + z) % m = (x + (y + z) % m) % m
  rw [Nat.mod_add_mod, Nat.add_mod_mod, Nat.add_assoc]⟩
/-- powers of one element: steps k -/
def stp (i p k : Nat) : Nat := if k < i + p then k else i + (k - i) % p
theorem stp_lt {i p : Nat} (hp : 1 ≤ p) (k : Nat) : stp i p k < i + p := by
  unfold stp
  split
  · assumption
  · have := Nat.mod_lt (k - i) hp
    omega
theorem stp_stp {i p : Nat} (hp : 1 ≤ p) (k l : Nat) : stp i p (stp i p k + l) = stp i p (k + l) := by
  by_cases h : k < i + p
  · rw [show stp i p k = k from if_pos h]
  · have e1 : stp i p k = i + (k - i) % p := if_neg h
    have e2 : stp i p (k + l) = i + (k + l - i) % p := if_neg (by omega)
    have e3 : k + l - i = (k - i) + l := by omega
    rw [e1, e2, e3, ← Nat.mod_add_mod]
    have hm := Nat.mod_lt (k - i) hp
    generalize (k - i) % p = r at hm
    by_cases h2 : i + r + l < i + p
    · rw [show stp i p (i + r + l) = i + r + l from if_pos h2, Nat.mod_eq_of_lt (by omega)]
      omega
    · rw [show stp i p (i + r + l) = i + (i + r + l - i) % p from if_neg h2]
      congr 2
      omega
theorem sg_mono {m i p : Nat} (hp : 1 ≤ p) (h : i + p = m) : Sg m fun x y => stp i p (x + y + 1) := by
  refine ⟨by omega, fun x _ y _ => by rw [← h]; exact stp_lt hp _, fun x _ y _ z _ => ?_⟩
  show stp i p (stp i p (x + y + 1) + z + 1) = stp i p (x + stp i p (y + z + 1) + 1)
  rw [Nat.add_assoc (stp i p (x + y + 1)), stp_stp hp, show x + stp i p (y + z + 1) + 1 = stp i p (y + z + 1) + (x + 1) by omega, stp_stp hp]
  congr 1
  omega
theorem sg_rect {l r : Nat} (hl : 1 ≤ l) (hr : 1 ≤ r) : Sg (l * r) fun x y => x / r * r + y % r := by
  have key : ∀ a b, (a / r * r + b % r) / r = a / r := fun a b => by
    rw [Nat.mul_comm, Nat.mul_add_div hr, Nat.div_eq_of_lt (Nat.mod_lt b hr), Nat.add_zero]
  have key2 : ∀ a b, (a / r * r + b % r) % r = b % r := fun a b => by
    rw [Nat.mul_comm, Nat.mul_add_mod, Nat.mod_mod]
  refine ⟨Nat.mul_le_mul hl hr, fun x hx y _ => ?_, fun x _ y _ z _ => ?_⟩
  · have h1 : x / r < l := Nat.div_lt_of_lt_mul (by rw [Nat.mul_comm]; exact hx)
    have h2 := Nat.mod_lt y hr
    have h3 : (x / r + 1) * r ≤ l * r := Nat.mul_le_mul_right r h1
    rw [Nat.add_mul, Nat.one_mul] at h3
    show x / r * r + y % r < l * r
    omega
  · show (x / r * r + y % r) / r * r + z % r = x / r * r + (y / r * r + z % r) % r
    rw [key, key2]
/-- an identity, or a zero, put to it -/
def adj (w m : Nat) (T : Nat → Nat → Nat) : Nat → Nat → Nat := fun x y => if w = 0 then (if x = m then y else if y = m then x else T x y) else (if x = m ∨ y = m then m else T x y)
theorem sg_adj {m : Nat} {T : Nat → Nat → Nat} (h : Sg m T) (w : Nat) : Sg (m + 1) (adj w m T) := by
  have lt : ∀ x, x < m + 1 → x ≠ m → x < m := fun x hx hn => by omega
  by_cases hw : w = 0
  · subst hw
    refine ⟨by omega, fun x hx y hy => ?_, fun x hx y hy z hz => ?_⟩
    · simp only [adj, if_true]
      split
      · exact hy
      · split
        · exact hx
        · have := h.cl x (lt x hx ‹_›) y (lt y hy ‹_›)
          omega
    · simp only [adj, if_true]
      by_cases h1 : x = m
      · simp [h1]
      · by_cases h2 : y = m
        · simp [h1, h2]
        · by_cases h3 : z = m
          · have := h.cl x (lt x hx h1) y (lt y hy h2)
            have n1 : ¬ T x y = m := by omega
            simp [h1, h2, h3, n1]
          · have c1 := h.cl x (lt x hx h1) y (lt y hy h2)
            have c2 := h.cl y (lt y hy h2) z (lt z hz h3)
            have n1 : ¬ T x y = m := by omega
            have n2 : ¬ T y z = m := by omega
            simp only [h1, h2, h3, n1, n2, if_false]
            exact h.as x (lt x hx h1) y (lt y hy h2) z (lt z hz h3)
  · refine ⟨by omega, fun x hx y hy => ?_, fun x hx y hy z hz => ?_⟩
    · simp only [adj, hw, if_false]
      split
      · omega
      · rename_i hn
        have h1 : x ≠ m := fun e => hn (.inl e)
        have h2 : y ≠ m := fun e => hn (.inr e)
        have := h.cl x (lt x hx h1) y (lt y hy h2)
        omega
    · simp only [adj, hw, if_false]
      by_cases h1 : x = m
      · simp [h1]
      · by_cases h2 : y = m
        · simp [h2]
        · by_cases h3 : z = m
          · simp [h3]
          · have c1 := h.cl x (lt x hx h1) y (lt y hy h2)
            have c2 := h.cl y (lt y hy h2) z (lt z hz h3)
            have n1 : ¬ T x y = m := by omega
            have n2 : ¬ T y z = m := by omega
            simp only [h1, h2, h3, n1, n2, or_self, if_false]
            exact h.as x (lt x hx h1) y (lt y hy h2) z (lt z hz h3)
/-- other names -/
structure Nm (m : Nat) (n b : Nat → Nat) : Prop where
  n_lt : ∀ x, x < m → n x < m
  b_lt : ∀ x, x < m → b x < m
  nb : ∀ x, x < m → n (b x) = x
  bn : ∀ x, x < m → b (n x) = x
def rel (n b : Nat → Nat) (T : Nat → Nat → Nat) : Nat → Nat → Nat := fun x y => n (T (b x) (b y))
theorem rel_cl {m : Nat} {n b : Nat → Nat} {T : Nat → Nat → Nat} (h : Nm m n b) (hT : ∀ x, x < m → ∀ y, y < m → T x y < m) : ∀ x, x < m → ∀ y, y < m → rel n b T x y < m := fun x hx y hy => h.n_lt _ (hT _ (h.b_lt x hx) _ (h.b_lt y hy))
theorem rel_brk {m : Nat} {n b : Nat → Nat} {T : Nat → Nat → Nat} (h : Nm m n b) (hT : ∀ x, x < m → ∀ y, y < m → T x y < m) {x y z : Nat} (hx : x < m) (hy : y < m) (hz : z < m) : brk (rel n b T) (x, y, z) = brk T (b x, b y, b z) := by
  unfold brk rel
  have c1 := hT _ (h.b_lt x hx) _ (h.b_lt y hy)
  have c2 := hT _ (h.b_lt y hy) _ (h.b_lt z hz)
  show decide (n (T (b (n (T (b x) (b y)))) (b z)) ≠ n (T (b x) (b (n (T (b y) (b z)))))) = decide (T (T (b x) (b y)) (b z) ≠ T (b x) (T (b y) (b z)))
  rw [h.bn _ c1, h.bn _ c2]
  refine decide_eq_decide.mpr ⟨fun q e => q (by rw [e]), fun q e => q ?_⟩
  have := congrArg b e
  rw [h.bn _ (hT _ c1 _ (h.b_lt z hz)), h.bn _ (hT _ (h.b_lt x hx) _ c2)] at this
  exact this
theorem sg_rel {m : Nat} {n b : Nat → Nat} {T : Nat → Nat → Nat} (h : Nm m n b) (s : Sg m T) : Sg m (rel n b T) := by
  refine ⟨s.pos, rel_cl h s.cl, fun x hx y hy z hz => ?_⟩
  have q := rel_brk h s.cl hx hy hz
  have q2 : brk T (b x, b y, b z) = false := by
    unfold brk
    rw [s.as _ (h.b_lt x hx) _ (h.b_lt y hy) _ (h.b_lt z hz)]
    simp
  rw [q2] at q
  have := of_decide_eq_false q
  exact Classical.byContradiction this
/-! transformations -/
def flw (a b : List Nat) : List Nat := a.map fun x => b.getD x 0
def Tf (p : Nat) (a : List Nat) : Prop := a.length = p ∧ ∀ x ∈ a, x < p
theorem flw_tf {p : Nat} {a b : List Nat} (ha : Tf p a) (hb : Tf p b) : Tf p (flw a b) := by
  refine ⟨by unfold flw; rw [List.length_map]; exact ha.1, fun x hx => ?_⟩
  obtain ⟨y, hy, rfl⟩ := List.mem_map.mp hx
  have h1 := ha.2 y hy
  have h2 : y < b.length := by rw [hb.1]; exact h1
  have e : b.getD y 0 = b[y] := by simp [h2]
  rw [e]
  exact hb.2 _ (List.getElem_mem h2)
theorem flw_as {p : Nat} {a b c : List Nat} (ha : Tf p a) (hb : Tf p b) : flw (flw a b) c = flw a (flw b c) := by
  unfold flw
  rw [List.map_map]
  refine List.map_congr_left fun x hx => ?_
  have h1 := ha.2 x hx
  have h2 : x < b.length := by rw [hb.1]; exact h1
  show c.getD (b.getD x 0) 0 = (b.map fun x => c.getD x 0).getD x 0
  simp [h2]
/-- made by some -/
inductive Mk (gs : List (List Nat)) : List Nat → Prop
  | gen {g : List Nat} (h : g ∈ gs) : Mk gs g
  | mul {f g : List Nat} (h : Mk gs f) (hg : g ∈ gs) : Mk gs (flw f g)
theorem Mk.tf {p : Nat} {gs : List (List Nat)} (hg : ∀ g ∈ gs, Tf p g) {f : List Nat} (h : Mk gs f) : Tf p f := by
  induction h with
  | gen h => exact hg _ h
  | mul h h2 ih => exact flw_tf ih (hg _ h2)
theorem mk_closed {p : Nat} {gs found : List (List Nat)} (hg : ∀ g ∈ gs, Tf p g) (hf : ∀ f ∈ found, Tf p f) (hc : ∀ f ∈ found, ∀ g ∈ gs, flw f g ∈ found) {h : List Nat} (hm : Mk gs h) : ∀ f ∈ found, flw f h ∈ found := by
  induction hm with
  | gen h => exact fun f hf' => hc f hf' _ h
  | mul h h2 ih =>
    intro f hf'
    rw [← flw_as (hf f hf') (h.tf hg)]
    exact hc _ (ih f hf') _ h2
end TB
/-! M4: what generates; tables of blocks with one zero -/
namespace TB
/-- made of the given ones by products -/
inductive Gn (T : Nat → Nat → Nat) (ms : List Nat) : Nat → Prop
  | gen {x : Nat} : x ∈ ms → Gn T ms x
  | mul {x y : Nat} : Gn T ms x → Gn T ms y → Gn T ms (T x y)
theorem Gn.mono {T : Nat → Nat → Nat} {ms ns : List Nat} (h : ∀ x ∈ ms, Gn T ns x) {y : Nat} (g : Gn T ms y) : Gn T ns y := by
  induction g with
  | gen q => exact h _ q
  | mul _ _ i j => exact .mul i j
theorem Gn.lt {m : Nat} {T : Nat → Nat → Nat} {ms : List Nat} (hT : ∀ x, x < m → ∀ y, y < m → T x y < m) (hm : ∀ x ∈ ms, x < m) {y : Nat} (g : Gn T ms y) : y < m := by
  induction g with
  | gen q => exact hm _ q
  | mul _ _ i j => exact hT _ i _ j
theorem mem_brs {m : Nat} {T : Nat → Nat → Nat} {x y z : Nat} : (x, y, z) ∈ brs m T ↔ x < m ∧ y < m ∧ z < m ∧ T (T x y) z ≠ T x (T y z) := by
  unfold brs
  rw [List.mem_filter, mem_tri]
  unfold brk
  rw [decide_eq_true_iff]
  exact ⟨fun h => ⟨h.1.1, h.1.2.1, h.1.2.2, h.2⟩, fun h => ⟨⟨h.1, h.2.1, h.2.2.1⟩, h.2.2.2⟩⟩
theorem brs_nodup (m : Nat) (T : Nat → Nat → Nat) : (brs m T).Nodup := (tri_nodup m).filter _
/-- only the middles of a generating set need be tried -/
theorem light {m : Nat} {T : Nat → Nat → Nat} {ms : List Nat} (hT : ∀ x, x < m → ∀ y, y < m → T x y < m) (hms : ∀ x ∈ ms, x < m) (hg : ∀ y, y < m → Gn T ms y) (h0 : (brs m T).filter (fun t => decide (t.2.1 ∈ ms)) = []) : brs m T = [] := by
  have key : ∀ y, Gn T ms y → ∀ x, x < m → ∀ z, z < m → T (T x y) z = T x (T y z) := by
    intro y g
    induction g with
    | gen q =>
      rename_i y
      intro x hx z hz
      by_cases h : T (T x y) z = T x (T y z)
      · exact h
      · have hh : (x, y, z) ∈ (brs m T).filter (fun t => decide (t.2.1 ∈ ms)) := List.mem_filter.mpr ⟨mem_brs.mpr ⟨hx, hms _ q, hz, h⟩, decide_eq_true q⟩
        rw [h0] at hh
        exact absurd hh (by simp)
    | mul g1 g2 i j =>
      rename_i a b
      intro x hx z hz
      have ha := g1.lt hT hms
      have hb := g2.lt hT hms
      rw [← i x hx b hb, j (T x a) (hT x hx a ha) z hz, i x hx (T b z) (hT b hb z hz), j a ha z hz]
  rw [List.eq_nil_iff_forall_not_mem]
  rintro ⟨x, y, z⟩ h
  obtain ⟨h1, h2, h3, h4⟩ := mem_brs.mp h
  exact h4 (key y (hg y h2) x h1 z h3)
/-! ### fills over any table -/
def fillT (T0 : Nat → Nat → Nat) (n : Nat → Nat) (B : Nat → Nat → Nat) (l : List (Nat × Nat)) : Nat → Nat → Nat :=
  l.foldl (fun T p => updT T (n p.1) (n p.2) (n (B p.1 p.2))) T0
theorem fillT_snoc (T0 n B) (l : List (Nat × Nat)) (p : Nat × Nat) : fillT T0 n B (l ++ [p]) = updT (fillT T0 n B l) (n p.1) (n p.2) (n (B p.1 p.2)) := by
  unfold fillT
  rw [List.foldl_append]
  rfl
theorem fillT_out {n B} {a b : Nat} : ∀ {l : List (Nat × Nat)} {T0 : Nat → Nat → Nat}, (∀ p ∈ l, ¬ (a = n p.1 ∧ b = n p.2)) → fillT T0 n B l a b = T0 a b := by
  intro l
  induction l with
  | nil => intro T0 _; rfl
  | cons p l ih =>
    intro T0 q
    show fillT (updT T0 (n p.1) (n p.2) (n (B p.1 p.2))) n B l a b = _
    rw [ih fun p' hp => q p' (List.mem_cons_of_mem _ hp)]
    unfold updT
    rw [if_neg (q p List.mem_cons_self)]
theorem fillT_in {n B} {x y : Nat} : ∀ {l : List (Nat × Nat)} {T0 : Nat → Nat → Nat}, (∀ p ∈ l, n p.1 = n x → n p.2 = n y → p = (x, y)) → (T0 (n x) (n y) = n (B x y) ∨ (x, y) ∈ l) → fillT T0 n B l (n x) (n y) = n (B x y) := by
  intro l
  induction l with
  | nil => intro T0 _ e; exact e.resolve_right (by simp)
  | cons p l ih =>
    intro T0 q e
    show fillT (updT T0 (n p.1) (n p.2) (n (B p.1 p.2))) n B l (n x) (n y) = _
    refine ih (fun p' hp => q p' (List.mem_cons_of_mem _ hp)) ?_
    by_cases hp : n x = n p.1 ∧ n y = n p.2
    · have := q p List.mem_cons_self hp.1.symm hp.2.symm
      subst this
      left
      unfold updT
      rw [if_pos ⟨rfl, rfl⟩]
    · rcases e with e | e
      · left
        unfold updT
        rw [if_neg hp, e]
      · rcases List.mem_cons.mp e with e | e
        · subst e
          exact absurd ⟨rfl, rfl⟩ hp
        · exact .inr e
/-! ### blocks -/
def plc (z k i : Nat) : Nat := if i = 3 then z else 3 * k + i
def blk (z : Nat) (ss : List Nat) : Nat → Nat → Nat := fun x y => if x / 3 = y / 3 ∧ x / 3 < ss.length then plc z (x / 3) (bsF (lB (ss.getD (x / 3) 0)) (x % 3) (y % 3)) else z
def plT (z k : Nat) (t : Tr) : Tr := (plc z k t.1, plc z k t.2.1, plc z k t.2.2)
def blT (z : Nat) (ss : List Nat) : List Tr := (List.range ss.length).map fun k => plT z k (lT (ss.getD k 0))
theorem lT_lt : ∀ s, s < 5 → (lT s).1 < 3 ∧ (lT s).2.1 < 3 ∧ (lT s).2.2 < 3 := by decide
theorem plc_3 (z k : Nat) : plc z k 3 = z := rfl
theorem plc_lt {z k i : Nat} (h : i < 3) : plc z k i = 3 * k + i := by
  unfold plc
  rw [if_neg (by omega)]
theorem plc_self {z x : Nat} : plc z (x / 3) (x % 3) = x := by
  rw [plc_lt (Nat.mod_lt _ (by decide))]
  omega
theorem plc_inj {z k i j : Nat} (hz : 3 * k + 3 ≤ z) (hi : i < 4) (hj : j < 4) (h : plc z k i = plc z k j) : i = j := by
  unfold plc at h
  split at h <;> split at h <;> omega
theorem plc_le {z k i : Nat} (hz : 3 * k + 3 ≤ z) (hi : i < 4) : plc z k i ≤ z := by
  unfold plc
  split <;> omega
theorem getD_lt5 {ss : List Nat} (hs : ∀ s ∈ ss, s < 5) (k : Nat) : ss.getD k 0 < 5 := by
  rw [List.getD_eq_getElem?_getD]
  cases h : ss[k]? with
  | none => decide
  | some s => exact hs s (List.mem_of_getElem? h)
section
variable {z : Nat} {ss : List Nat} (hz : 3 * ss.length ≤ z) (hs : ∀ s ∈ ss, s < 5)
include hz in
theorem blk_z (c : Nat) : blk z ss z c = z ∧ blk z ss c z = z := by
  unfold blk
  constructor
  · rw [if_neg (by omega)]
  · rw [if_neg (by omega)]
theorem blk_out {a b : Nat} (h : ¬ (a / 3 = b / 3 ∧ a / 3 < ss.length)) : blk z ss a b = z := by
  unfold blk
  rw [if_neg h]
include hs hz in
theorem blk_at {k i j : Nat} (hk : k < ss.length) (hi : i < 4) (hj : j < 4) : blk z ss (plc z k i) (plc z k j) = plc z k (bsF (lB (ss.getD k 0)) i j) := by
  obtain ⟨q1, q2, q3⟩ := lB_ok _ (getD_lt5 hs k)
  by_cases h3 : i = 3
  · subst h3
    rw [plc_3, (blk_z hz _).1, (q2 j hj).1, plc_3]
  · by_cases h4 : j = 3
    · subst h4
      rw [plc_3, (blk_z hz _).2, (q2 i hi).2, plc_3]
    · rw [plc_lt (show i < 3 by omega), plc_lt (show j < 3 by omega)]
      unfold blk
      have e1 : (3 * k + i) / 3 = k := by omega
      have e2 : (3 * k + j) / 3 = k := by omega
      have e3 : (3 * k + i) % 3 = i := by omega
      have e4 : (3 * k + j) % 3 = j := by omega
      rw [e1, e2, e3, e4, if_pos ⟨rfl, hk⟩]
include hs in
theorem blk_in {a b : Nat} (h : a / 3 = b / 3 ∧ a / 3 < ss.length) : ∃ q, q < 4 ∧ blk z ss a b = plc z (a / 3) q := by
  obtain ⟨q1, q2, q3⟩ := lB_ok _ (getD_lt5 hs (a / 3))
  unfold blk
  rw [if_pos h]
  exact ⟨_, q1 _ (by omega) _ (by omega), rfl⟩
include hz hs in
theorem blk_cl : ∀ x, x < z + 1 → ∀ y, y < z + 1 → blk z ss x y < z + 1 := fun x hx y hy => by
  by_cases h : x / 3 = y / 3 ∧ x / 3 < ss.length
  · obtain ⟨q, hq, e⟩ := blk_in hs h
    rw [e]
    have := plc_le (z := z) (k := x / 3) (by omega) hq
    omega
  · rw [blk_out h]
    omega
theorem brk_4 {s : Nat} (h : s < 5) {i j l : Nat} (hi : i < 4) (hj : j < 4) (hl : l < 4) : bsF (lB s) (bsF (lB s) i j) l ≠ bsF (lB s) i (bsF (lB s) j l) ↔ (i, j, l) = lT s := by
  have q := (lB_ok s h).2.2
  have : (i, j, l) ∈ brs 4 (bsF (lB s)) ↔ (i, j, l) ∈ [lT s] := by rw [q]
  rw [mem_brs, List.mem_singleton] at this
  exact ⟨fun e => this.mp ⟨hi, hj, hl, e⟩, fun e => (this.mpr e).2.2.2⟩
include hz hs in
theorem blk_brs {t : Tr} : t ∈ brs (z + 1) (blk z ss) ↔ t ∈ blT z ss := by
  obtain ⟨a, b, c⟩ := t
  rw [mem_brs]
  unfold blT
  rw [List.mem_map]
  constructor
  · rintro ⟨ha, hb, hc, h⟩
    by_cases h1 : a / 3 = b / 3 ∧ a / 3 < ss.length
    · by_cases h2 : c / 3 = a / 3
      · refine ⟨a / 3, List.mem_range.mpr h1.2, ?_⟩
        obtain ⟨k, hk⟩ : ∃ k, k = a / 3 := ⟨_, rfl⟩
        have ea : a = plc z k (a % 3) := by rw [hk]; exact plc_self.symm
        have eb : b = plc z k (b % 3) := by rw [hk, h1.1]; exact plc_self.symm
        have ec : c = plc z k (c % 3) := by rw [hk, ← h2]; exact plc_self.symm
        have ma : a % 3 < 4 := by omega
        have mb : b % 3 < 4 := by omega
        have mc : c % 3 < 4 := by omega
        have hk2 : k < ss.length := by omega
        rw [← hk]
        obtain ⟨i, hi⟩ : ∃ i, i = a % 3 := ⟨_, rfl⟩
        obtain ⟨j, hj⟩ : ∃ j, j = b % 3 := ⟨_, rfl⟩
        obtain ⟨l, hl⟩ : ∃ l, l = c % 3 := ⟨_, rfl⟩
        rw [← hi] at ea ma
        rw [← hj] at eb mb
        rw [← hl] at ec mc
        obtain ⟨q1, q2, q3⟩ := lB_ok _ (getD_lt5 hs k)
        rw [ea, eb, ec, blk_at hz hs hk2 ma mb, blk_at hz hs hk2 mb mc, blk_at hz hs hk2 (q1 i ma j mb) mc, blk_at hz hs hk2 ma (q1 j mb l mc)] at h
        have e := (brk_4 (getD_lt5 hs k) ma mb mc).mp fun e => h (by rw [e])
        unfold plT
        rw [← e, ← ea, ← eb, ← ec]
      · exfalso
        apply h
        obtain ⟨q, hq, e⟩ := blk_in (z := z) hs h1
        rw [e, blk_out (a := b) (b := c) (by omega), (blk_z hz a).2]
        by_cases hq3 : q = 3
        · rw [hq3, plc_3, (blk_z hz c).1]
        · rw [plc_lt (by omega), blk_out (by omega)]
    · exfalso
      apply h
      rw [blk_out h1, (blk_z hz c).1]
      by_cases h2 : b / 3 = c / 3 ∧ b / 3 < ss.length
      · obtain ⟨q, hq, e⟩ := blk_in (z := z) hs h2
        rw [e]
        by_cases hq3 : q = 3
        · rw [hq3, plc_3, (blk_z hz a).2]
        · rw [plc_lt (by omega), blk_out (by omega)]
      · rw [blk_out h2, (blk_z hz a).2]
  · rintro ⟨k, hk, e⟩
    have hk := List.mem_range.mp hk
    have s5 := getD_lt5 hs k
    obtain ⟨l1, l2, l3⟩ := lT_lt _ s5
    obtain ⟨q1, q2, q3⟩ := lB_ok _ s5
    unfold plT at e
    injection e with ea e
    injection e with eb ec
    have p1 := plc_le (z := z) (k := k) (i := (lT (ss.getD k 0)).1) (by omega) (by omega)
    have p2 := plc_le (z := z) (k := k) (i := (lT (ss.getD k 0)).2.1) (by omega) (by omega)
    have p3 := plc_le (z := z) (k := k) (i := (lT (ss.getD k 0)).2.2) (by omega) (by omega)
    refine ⟨by omega, by omega, by omega, fun h => ?_⟩
    have m1 : (lT (ss.getD k 0)).1 < 4 := by omega
    have m2 : (lT (ss.getD k 0)).2.1 < 4 := by omega
    have m3 : (lT (ss.getD k 0)).2.2 < 4 := by omega
    rw [← ea, ← eb, ← ec, blk_at hz hs hk m1 m2, blk_at hz hs hk m2 m3, blk_at hz hs hk (q1 _ m1 _ m2) m3, blk_at hz hs hk m1 (q1 _ m2 _ m3)] at h
    have := plc_inj (by omega) (q1 _ (q1 _ m1 _ m2) _ m3) (q1 _ m1 _ (q1 _ m2 _ m3)) h
    exact (brk_4 s5 m1 m2 m3).mpr rfl this
include hs in
theorem blT_nodup : (blT z ss).Nodup := by
  refine nodup_map List.nodup_range fun k _ l _ e => ?_
  obtain ⟨a1, a2, a3⟩ := lT_lt _ (getD_lt5 hs k)
  obtain ⟨b1, b2, b3⟩ := lT_lt _ (getD_lt5 hs l)
  unfold plT at e
  injection e with e _
  rw [plc_lt a1, plc_lt b1] at e
  omega
theorem blk_step {s : Nat} (hz' : 3 * (ss.length + 1) ≤ z) (h5 : s < 5) : fillT (blk z ss) (plc z ss.length) (bsF (lB s)) pr4 = blk z (ss ++ [s]) := by
  funext a b
  obtain ⟨q1, q2, q3⟩ := lB_ok s h5
  have gl : (ss ++ [s]).getD ss.length 0 = s := by simp
  by_cases h : a / 3 = ss.length ∧ b / 3 = ss.length
  · have ea : a = plc z ss.length (a % 3) := by rw [← h.1]; exact plc_self.symm
    have eb : b = plc z ss.length (b % 3) := by rw [← h.2]; exact plc_self.symm
    have e1 := fillT_in (T0 := blk z ss) (n := plc z ss.length) (B := bsF (lB s)) (x := a % 3) (y := b % 3) (l := pr4) (fun p hp e1 e2 => by
      obtain ⟨h1, h2⟩ := mem_pr4.mp hp
      exact Prod.ext (plc_inj (by omega) h1 (by omega) e1) (plc_inj (by omega) h2 (by omega) e2)) (.inr (mem_pr4.mpr ⟨by show a % 3 < 4; omega, by show b % 3 < 4; omega⟩))
    rw [← ea, ← eb] at e1
    rw [e1]
    unfold blk
    rw [if_pos ⟨by omega, by rw [List.length_append, List.length_singleton]; omega⟩, h.1, gl]
  · by_cases h1 : ∃ p ∈ pr4, a = plc z ss.length p.1 ∧ b = plc z ss.length p.2
    · obtain ⟨⟨x, y⟩, hp, ea, eb⟩ := h1
      obtain ⟨hx, hy⟩ := mem_pr4.mp hp
      simp only at ea eb hx hy
      have e1 := fillT_in (T0 := blk z ss) (n := plc z ss.length) (B := bsF (lB s)) (x := x) (y := y) (l := pr4) (fun p hp e1 e2 => by
        obtain ⟨h1, h2⟩ := mem_pr4.mp hp
        exact Prod.ext (plc_inj (by omega) h1 hx e1) (plc_inj (by omega) h2 hy e2)) (.inr hp)
      rw [← ea, ← eb] at e1
      have h3 : x = 3 ∨ y = 3 := by
        by_cases q : x = 3
        · exact .inl q
        · by_cases q' : y = 3
          · exact .inr q'
          · rw [plc_lt (by omega)] at ea eb
            exact absurd ⟨by omega, by omega⟩ h
      have hz2 : 3 * (ss ++ [s]).length ≤ z := by rw [List.length_append, List.length_singleton]; omega
      rw [e1]
      rcases h3 with rfl | rfl
      · rw [(q2 y hy).1, plc_3]
        rw [plc_3] at ea
        rw [ea, (blk_z hz2 b).1]
      · rw [(q2 x hx).2, plc_3]
        rw [plc_3] at eb
        rw [eb, (blk_z hz2 a).2]
    · rw [fillT_out fun p hp e => h1 ⟨p, hp, e⟩]
      unfold blk
      by_cases q : a / 3 = b / 3 ∧ a / 3 < ss.length
      · rw [if_pos q, if_pos ⟨q.1, by rw [List.length_append, List.length_singleton]; omega⟩]
        congr 3
        rw [List.getD_eq_getElem?_getD, List.getD_eq_getElem?_getD, List.getElem?_append_left q.2]
      · rw [if_neg q, if_neg]
        rw [List.length_append, List.length_singleton]
        intro q'
        apply q
        refine ⟨q'.1, ?_⟩
        by_cases e : a / 3 = ss.length
        · exact absurd ⟨e, by omega⟩ h
        · omega
end
/-- names carry the broken triples over -/
def nmT (n : Nat → Nat) (t : Tr) : Tr := (n t.1, n t.2.1, n t.2.2)
theorem rel_brs_perm {m : Nat} {n b : Nat → Nat} {T : Nat → Nat → Nat} (h : Nm m n b) (hT : ∀ x, x < m → ∀ y, y < m → T x y < m) {l : List Tr} (hl : l.Nodup) (hm : ∀ t, t ∈ brs m T ↔ t ∈ l) : (l.map (nmT n)).Perm (brs m (rel n b T)) := by
  have inj : ∀ x ∈ l, ∀ y ∈ l, nmT n x = nmT n y → x = y := fun x hx y hy e => by
    obtain ⟨x1, x2, x3⟩ := x
    obtain ⟨y1, y2, y3⟩ := y
    obtain ⟨a1, a2, a3, _⟩ := mem_brs.mp ((hm _).mpr hx)
    obtain ⟨b1, b2, b3, _⟩ := mem_brs.mp ((hm _).mpr hy)
    unfold nmT at e
    injection e with e1 e
    injection e with e2 e3
    have g : ∀ u v, u < m → v < m → n u = n v → u = v := fun u v hu hv e => by rw [← h.bn u hu, ← h.bn v hv, e]
    simp only at e1 e2 e3
    rw [g _ _ a1 b1 e1, g _ _ a2 b2 e2, g _ _ a3 b3 e3]
  refine (List.perm_ext_iff_of_nodup (nodup_map hl inj) (brs_nodup _ _)).mpr fun t => ?_
  obtain ⟨x, y, z⟩ := t
  constructor
  · intro q
    obtain ⟨⟨a, b', c⟩, q1, e⟩ := List.mem_map.mp q
    obtain ⟨h1, h2, h3, h4⟩ := mem_brs.mp ((hm _).mpr q1)
    unfold nmT at e
    injection e with e1 e
    injection e with e2 e3
    simp only at e1 e2 e3
    subst e1 e2 e3
    have : brk (rel n b T) (n a, n b', n c) = true := by
      rw [rel_brk h hT (h.n_lt _ h1) (h.n_lt _ h2) (h.n_lt _ h3), h.bn _ h1, h.bn _ h2, h.bn _ h3]
      exact decide_eq_true h4
    exact List.mem_filter.mpr ⟨mem_tri.mpr ⟨h.n_lt _ h1, h.n_lt _ h2, h.n_lt _ h3⟩, this⟩
  · intro q
    obtain ⟨q1, q2⟩ := List.mem_filter.mp q
    obtain ⟨h1, h2, h3⟩ := mem_tri.mp q1
    simp only at h1 h2 h3
    rw [rel_brk h hT h1 h2 h3] at q2
    refine List.mem_map.mpr ⟨(b x, b y, b z), (hm _).mp (List.mem_filter.mpr ⟨mem_tri.mpr ⟨h.b_lt _ h1, h.b_lt _ h2, h.b_lt _ h3⟩, q2⟩), ?_⟩
    show (n (b x), n (b y), n (b z)) = _
    rw [h.nb _ h1, h.nb _ h2, h.nb _ h3]
end TB
/-! PL4: loops and comprehensions over written lists; numbers, triples, tables -/
namespace DL
open PySem L2 TB
abbrev dN (n : Nat) : D := .int (n : Int)
@[simp] theorem wipeE_nil (ρ : Env) : wipeE ρ [] = ρ := rfl
@[simp] theorem wipeE_cons (ρ : Env) (v : Nat) (vs : List Nat) : wipeE ρ (v :: vs) = (wipeE ρ vs).set v none := rfl
@[simp] theorem fillA_nil (ρ : Env) : fillA ρ [] [] [] = some [] := rfl
@[simp] theorem fillA_none (ρ : Env) (os : List (Option Nat)) (ms : List Nat) (d : D) (ds : List D) : fillA ρ (none :: os) (0 :: ms) (d :: ds) = (fillA ρ os ms ds).map fun r => d :: r := rfl
@[simp] theorem putB_nil (ρp ρ : Env) : putB [] ρp ρ = ρ := rfl
@[simp] theorem putB_none (os : List (Option Nat)) (ρp ρ : Env) : putB (none :: os) ρp ρ = putB os ρp.tail ρ := rfl
@[simp] theorem putB_some (s : Nat) (os : List (Option Nat)) (ρp ρ : Env) : putB (some s :: os) ρp ρ = (putB os ρp.tail ρ).set s ρp.head?.join := rfl
@[simp] theorem outE_nil (ρ : Env) : outE [] ρ = [] := rfl
@[simp] theorem outE_zero (ms : List Nat) (ρ : Env) : outE (0 :: ms) ρ = none :: outE ms ρ.tail := rfl
@[simp] theorem outE_one (ms : List Nat) (ρ : Env) : outE (1 :: ms) ρ = ρ.head?.join :: outE ms ρ.tail := rfl
theorem rng0 (n : Nat) : rngL 0 n = (List.range n).map dN := by
  unfold rngL
  refine List.map_congr_left fun i _ => ?_
  show D.int (0 + (i : Int)) = D.int (i : Int)
  rw [Int.zero_add]
theorem lLoop_en {α : Type} (en : α → D) {g : GM} {t : TM} {tail : LM} {vs : List Nat} {ρ : Env} (f : α → List D) : ∀ {xs : List α}, (∀ x ∈ xs, (lStep g t tail (en x) ρ).map (fun r => (r.1, wipeE r.2 vs)) = some (f x, ρ)) → lLoop g t tail vs (xs.map en) ρ = some (xs.flatMap f, ρ)
  | [], h => rfl
  | x :: xs, h => by
    obtain ⟨⟨r, ρ'⟩, e1, e2⟩ := Option.map_eq_some_iff.mp (h x List.mem_cons_self)
    have e3 : r = f x := congrArg Prod.fst e2
    have e5 : wipeE ρ' vs = ρ := congrArg Prod.snd e2
    clear e2
    subst e3
    rw [List.map_cons, lLoop_cons, e1, bindS]
    show Option.map _ (lLoop g t tail vs (xs.map en) (wipeE ρ' vs)) = _
    rw [e5, lLoop_en en f fun d hd => h d (List.mem_cons_of_mem _ hd)]
    rfl
theorem eComp_en {α : Type} (en : α → D) {fi : IM} {g : GM} {t : TM} {fl : LM} {vs : List Nat} {ρ ρ0 ρ1 ρ2 : Env} {xs : List α} (f : α → List D) (hi : fi ρ = some (xs.map en, ρ0)) (hw : wipeE ρ0 vs = ρ1)
    (hs : ∀ x ∈ xs, (lStep g t fl (en x) ρ1).map (fun r => (r.1, wipeE r.2 vs)) = some (f x, ρ1)) (hb : backE ρ0 ρ1 vs = some ρ2) (hl : (xs.flatMap f).length ≤ sizeLine) :
    eComp fi g t fl vs ρ = some (.lst (xs.flatMap f), ρ2) := by
  rw [eComp_, hi, bindS]
  show Option.bind (lLoop g t fl vs (xs.map en) (wipeE ρ0 vs)) _ = _
  rw [hw, lLoop_en en f hs, bindS]
  show Option.bind (backE ρ0 ρ1 vs) _ = _
  rw [hb, bindS, if_pos hl]
theorem flatMap_one {α β : Type} (f : α → β) : ∀ xs : List α, xs.flatMap (fun x => [f x]) = xs.map f
  | [] => rfl
  | x :: xs => by rw [List.flatMap_cons, flatMap_one f xs]; rfl
/-- one item each -/
theorem eComp_map {α : Type} (en : α → D) {fi : IM} {g : GM} {t : TM} {fl : LM} {vs : List Nat} {ρ ρ0 ρ1 ρ2 : Env} {xs : List α} (f : α → D) (hi : fi ρ = some (xs.map en, ρ0)) (hw : wipeE ρ0 vs = ρ1)
    (hs : ∀ x ∈ xs, (lStep g t fl (en x) ρ1).map (fun r => (r.1, wipeE r.2 vs)) = some ([f x], ρ1)) (hb : backE ρ0 ρ1 vs = some ρ2) (hl : xs.length ≤ sizeLine) :
    eComp fi g t fl vs ρ = some (.lst (xs.map f), ρ2) := by
  have e : xs.flatMap (fun x => [f x]) = xs.map f := flatMap_one f xs
  rw [← e]
  exact eComp_en en (fun x => [f x]) hi hw hs hb (by rw [e, List.length_map]; exact hl)
theorem flatMap_if {α β : Type} (p : α → Bool) (f : α → β) (xs : List α) : xs.flatMap (fun x => if p x = true then [f x] else []) = (xs.filter p).map f := by
  induction xs with
  | nil => rfl
  | cons x xs ih =>
    rw [List.flatMap_cons, ih]
    cases h : p x <;> simp [h]
/-- those that pass -/
theorem eComp_flt {α : Type} (en : α → D) {fi : IM} {g : GM} {t : TM} {fl : LM} {vs : List Nat} {ρ ρ0 ρ1 ρ2 : Env} {xs : List α} (p : α → Bool) (f : α → D) (hi : fi ρ = some (xs.map en, ρ0)) (hw : wipeE ρ0 vs = ρ1)
    (hs : ∀ x ∈ xs, (lStep g t fl (en x) ρ1).map (fun r => (r.1, wipeE r.2 vs)) = some (if p x = true then [f x] else [], ρ1)) (hb : backE ρ0 ρ1 vs = some ρ2) (hl : xs.length ≤ sizeLine) :
    eComp fi g t fl vs ρ = some (.lst ((xs.filter p).map f), ρ2) := by
  rw [← flatMap_if]
  refine eComp_en en _ hi hw hs hb ?_
  rw [flatMap_if, List.length_map]
  exact Nat.le_trans (List.length_filter_le _ _) hl
/-- a loop told by what is behind it -/
theorem forM_pre {α : Type} (en : α → D) {g : GM} {F : SM} (st : List α → Env → Prop) (xs : List α)
    (hs : ∀ pre x post ρ, xs = pre ++ x :: post → st pre ρ → ∃ ρ1 ρ', g (en x) ρ = some ρ1 ∧ F ρ1 = some (.nx ρ') ∧ st (pre ++ [x]) ρ') {ρ : Env} (h0 : st [] ρ) :
    ∃ ρ', forM g F (xs.map en) ρ = some (.nx ρ') ∧ st xs ρ' := by
  suffices h : ∀ post pre ρ, xs = pre ++ post → st pre ρ → ∃ ρ', forM g F (post.map en) ρ = some (.nx ρ') ∧ st xs ρ' from h xs [] ρ rfl h0
  intro post
  induction post with
  | nil =>
    intro pre ρ e h
    rw [List.append_nil] at e
    exact ⟨ρ, rfl, e ▸ h⟩
  | cons x post ih =>
    intro pre ρ e h
    obtain ⟨ρ1, ρ2, e1, e2, h2⟩ := hs pre x post ρ e h
    obtain ⟨ρ3, e3, h3⟩ := ih (pre ++ [x]) ρ2 (by rw [e, List.append_assoc]; rfl) h2
    refine ⟨ρ3, ?_, h3⟩
    rw [List.map_cons, forM_cons, e1, bindS, e2, bindS]
    exact e3
theorem atI_map {α : Type} {m a : Nat} (f : Nat → α) (h : a < m) : atI ((List.range m).map f) (a : Int) = some (f a) := by
  rw [atI_nat, List.getElem?_map, List.getElem?_range h]
  rfl
theorem dEqB_nat (a b : Nat) : dEqB (dN a) (dN b) = some (decide (a = b)) := dEqB_dat a b
@[simp] theorem dEq_nat (a b : Nat) : dEq (.int (a : Int)) (.int (b : Int)) = some (.bl (decide (a = b))) := by
  unfold dEq
  rw [dEqB_nat]
  rfl
@[simp] theorem dNe_nat (a b : Nat) : dNe (.int (a : Int)) (.int (b : Int)) = some (.bl (!decide (a = b))) := by
  unfold dNe
  rw [dEqB_nat]
  rfl
theorem dEq_int' (a b : Int) : dEq (.int a) (.int b) = some (.bl (decide (a = b))) := by
  have e : dEqB (.int a) (.int b) = some (decide (a = b)) := dEqB_dat a b
  unfold dEq
  rw [e]
  rfl
theorem dNe_int' (a b : Int) : dNe (.int a) (.int b) = some (.bl (!decide (a = b))) := by
  have e : dEqB (.int a) (.int b) = some (decide (a = b)) := dEqB_dat a b
  unfold dNe
  rw [e]
  rfl
theorem dEqB_bl (a b : Bool) : dEqB (.bl a) (.bl b) = some (decide (a = b)) := by
  cases a <;> cases b <;> rfl
@[simp] theorem dEq_bl (a b : Bool) : dEq (.bl a) (.bl b) = some (.bl (decide (a = b))) := by
  unfold dEq
  rw [dEqB_bl]
  rfl
@[simp] theorem dNe_bl (a b : Bool) : dNe (.bl a) (.bl b) = some (.bl (!decide (a = b))) := by
  unfold dNe
  rw [dEqB_bl]
  rfl
/-! triples -/
def eTr (t : Tr) : D := .tup [dN t.1, dN t.2.1, dN t.2.2]
instance : Dat Tr where
  enc := eTr
  py t := .tuple [.int t.1, .int t.2.1, .int t.2.2]
  toPy_ t := rfl
  eqv_ a b := by
    obtain ⟨a1, a2, a3⟩ := a
    obtain ⟨b1, b2, b3⟩ := b
    simp only [PyData.eqv, PyData.eqvAll, beqD, Bool.and_true]
    rw [← Bool.decide_and, ← Bool.decide_and]
    refine decide_eq_decide.mpr ?_
    rw [Prod.mk.injEq, Prod.mk.injEq]
    omega
  dep := 1
  dep_le a := by simp [PyData.depth, PyData.depthAll]
theorem dEqB_tr (a b : Tr) : dEqB (eTr a) (eTr b) = some (decide (a = b)) := dEqB_dat a b
@[simp] theorem dEq_tr (a b : Tr) : dEq (eTr a) (eTr b) = some (.bl (decide (a = b))) := by
  unfold dEq
  rw [dEqB_tr]
  rfl
@[simp] theorem dNe_tr (a b : Tr) : dNe (eTr a) (eTr b) = some (.bl (!decide (a = b))) := by
  unfold dNe
  rw [dEqB_tr]
  rfl
theorem dEqB_trs (a b : List Tr) : dEqB (.lst (a.map eTr)) (.lst (b.map eTr)) = some (decide (a = b)) := dEqB_dat a b
@[simp] theorem dEq_trs (a b : List Tr) : dEq (.lst (a.map eTr)) (.lst (b.map eTr)) = some (.bl (decide (a = b))) := by
  unfold dEq
  rw [dEqB_trs]
  rfl
@[simp] theorem dNe_trs (a b : List Tr) : dNe (.lst (a.map eTr)) (.lst (b.map eTr)) = some (.bl (!decide (a = b))) := by
  unfold dNe
  rw [dEqB_trs]
  rfl
@[simp] theorem dEq_trs0 (a : List Tr) : dEq (.lst (a.map eTr)) (.lst []) = some (.bl (decide (a = []))) := dEq_trs a []
@[simp] theorem dNe_trs0 (a : List Tr) : dNe (.lst (a.map eTr)) (.lst []) = some (.bl (!decide (a = []))) := dNe_trs a []
@[simp] theorem dNe_trs1 (a : List Tr) (t : Tr) : dNe (.lst (a.map eTr)) (.lst [eTr t]) = some (.bl (!decide (a = [t]))) := dNe_trs a [t]
theorem dIn_trs_lst (t : Tr) (l : List Tr) : dIn (eTr t) (.lst (l.map eTr)) = some (.bl (decide (t ∈ l))) := (dIn_lst t l).trans (by congr)
theorem dIn_trs_tup (t : Tr) (l : List Tr) : dIn (eTr t) (.tup (l.map eTr)) = some (.bl (decide (t ∈ l))) := (dIn_tup t l).trans (by congr)
/-! tables -/
def eRow (m : Nat) (r : Nat → Nat) : D := .tup ((List.range m).map fun b => dN (r b))
def eT (m : Nat) (T : Nat → Nat → Nat) : D := .tup ((List.range m).map fun a => eRow m (T a))
def eRowL (m : Nat) (r : Nat → Nat) : D := .lst ((List.range m).map fun b => dN (r b))
def eTL (m : Nat) (T : Nat → Nat → Nat) : D := .lst ((List.range m).map fun a => eRowL m (T a))
theorem eT_at {m a b : Nat} (T : Nat → Nat → Nat) (ha : a < m) : dIx 0 (eT m T) (.int (a : Int)) = some (eRow m (T a)) := by
  unfold eT
  rw [dIx0_tup, atI_map _ ha]
theorem eRow_at {m b : Nat} (r : Nat → Nat) (hb : b < m) : dIx 0 (eRow m r) (.int (b : Int)) = some (dN (r b)) := by
  unfold eRow
  rw [dIx0_tup, atI_map _ hb]
theorem ixN_nat {n a : Nat} (h : a < n) : ixN n (a : Int) = some a := by
  unfold ixN
  rw [if_pos (by omega), if_pos (by omega)]
  rfl
theorem set_range {α : Type} {m a : Nat} (f g : Nat → α) (h : ∀ i, i < m → g i = if i = a then g a else f i) : ((List.range m).map f).set a (g a) = (List.range m).map g := by
  apply List.ext_getElem
  · simp
  · intro i h1 h2
    have hi : i < m := by simpa using h2
    rw [List.getElem_set, List.getElem_map, List.getElem_map, List.getElem_range]
    by_cases e : a = i
    · subst e; simp
    · rw [if_neg e, h i hi, if_neg (Ne.symm e)]
theorem setLL_fn {m a b v : Nat} (T : Nat → Nat → Nat) (ha : a < m) (hb : b < m) : setLL ((List.range m).map fun a => eRowL m (T a)) (.int (a : Int)) (.int (b : Int)) (.int (v : Int)) = some ((List.range m).map fun i => eRowL m (updT T a b v i)) := by
  unfold setLL
  show Option.bind (ixN ((List.range m).map fun a => eRowL m (T a)).length (a : Int)) _ = _
  rw [List.length_map, List.length_range, ixN_nat ha, bindS, List.getElem?_map, List.getElem?_range ha]
  show Option.map _ (ixN ((List.range m).map fun b => dN (T a b)).length (b : Int)) = _
  rw [List.length_map, List.length_range, ixN_nat hb, mapS]
  have e1 : ((List.range m).map fun c => dN (T a c)).set b (.int (v : Int)) = (List.range m).map fun c => dN (updT T a b v a c) := by
    have := set_range (a := b) (m := m) (fun c => dN (T a c)) (fun c => dN (updT T a b v a c)) (fun i _ => by
      by_cases e : i = b
      · subst e; simp
      · rw [if_neg e]; simp [updT, e])
    rw [← this]
    congr 1
    simp [updT]
  rw [e1]
  have e2 := set_range (a := a) (m := m) (fun i => eRowL m (T i)) (fun i => eRowL m (updT T a b v i)) (fun i _ => by
      by_cases e : i = a
      · subst e; simp
      · rw [if_neg e]
        have : updT T a b v i = T i := funext fun c => by simp [updT, e]
        rw [this])
  rw [← e2]
  rfl
/-! a dict whose keys are triples -/
theorem keysD_tr (t : Tr) : keysD (eTr t) = some [.inl (t.1 : Int), .inl (t.2.1 : Int), .inl (t.2.2 : Int)] := rfl
theorem kfind_trs (t : Tr) (ks : List Tr) : (kfind keysD (ks.map eTr) [.inl (t.1 : Int), .inl (t.2.1 : Int), .inl (t.2.2 : Int)]).isSome = decide (t ∈ ks) := by
  unfold kfind
  rw [List.findIdx?_isSome, List.any_map]
  rw [Bool.eq_iff_iff, List.any_eq_true, decide_eq_true_eq]
  constructor
  · rintro ⟨u, hu, e⟩
    have e := of_decide_eq_true e
    rw [keysD_tr] at e
    have : u = t := by
      obtain ⟨a, b, c⟩ := u
      obtain ⟨x, y, z⟩ := t
      simp at e
      obtain ⟨e1, e2, e3⟩ := e
      rw [show a = x by omega, show b = y by omega, show c = z by omega]
    exact this ▸ hu
  · intro h
    exact ⟨t, h, by simp [keysD_tr]⟩
theorem dctOf_trs : ∀ (l : List Tr) (ks : List Tr) (vs : List D), ∃ (ks' : List Tr) (vs' : List D), dctOf true (l.map fun t => .tup [eTr t, .bl true]) (ks.map eTr, vs) = some (ks'.map eTr, vs') ∧ ∀ t, t ∈ ks' ↔ t ∈ ks ∨ t ∈ l
  | [], ks, vs => ⟨ks, vs, rfl, fun t => by simp⟩
  | u :: l, ks, vs => by
    rw [List.map_cons]
    show ∃ (ks' : List Tr) (vs' : List D), ((dput true (ks.map eTr) vs (eTr u) (.bl true)).bind fun a => dctOf true (l.map fun t => .tup [eTr t, .bl true]) a) = some (ks'.map eTr, vs') ∧ _
    show ∃ (ks' : List Tr) (vs' : List D), (((keysD (eTr u)).map fun k => dputK keysD (ks.map eTr) vs k (eTr u) (.bl true)).bind fun a => dctOf true (l.map fun t => .tup [eTr t, .bl true]) a) = some (ks'.map eTr, vs') ∧ _
    rw [keysD_tr, mapS, bindS]
    unfold dputK
    rw [kfind_trs]
    by_cases h : u ∈ ks
    · rw [if_pos (decide_eq_true h)]
      obtain ⟨ks', vs', e, q⟩ := dctOf_trs l ks _
      refine ⟨ks', vs', e, fun t => ?_⟩
      rw [q t, List.mem_cons]
      constructor
      · rintro (h1 | h1)
        · exact .inl h1
        · exact .inr (.inr h1)
      · rintro (h1 | h1 | h1)
        · exact .inl h1
        · exact .inl (h1 ▸ h)
        · exact .inr h1
    · rw [if_neg (by simpa using h)]
      have e0 : ks.map eTr ++ [eTr u] = (ks ++ [u]).map eTr := by simp
      rw [e0]
      obtain ⟨ks', vs', e, q⟩ := dctOf_trs l (ks ++ [u]) _
      refine ⟨ks', vs', e, fun t => ?_⟩
      rw [q t, List.mem_cons, List.mem_append, List.mem_singleton, or_assoc]
theorem dIn_trs_dct (t : Tr) (ks : List Tr) (vs : List D) : dIn (eTr t) (.dct true (ks.map eTr) vs) = some (.bl (decide (t ∈ ks))) := by
  rw [← kfind_trs]
  rfl
theorem allBools_map {α : Type} (f : α → Bool) : ∀ xs : List α, allBools (xs.map fun x => .bl (f x)) = some (xs.map f)
  | [] => rfl
  | x :: xs => by
    rw [List.map_cons]
    show (allBools (xs.map fun x => .bl (f x))).map (f x :: ·) = _
    rw [allBools_map f xs]
    rfl
@[simp] theorem dAll_map {α : Type} (f : α → Bool) (xs : List α) : dAll [.lst (xs.map fun x => .bl (f x))] = some (.bl (xs.all f)) := by
  show (allBools (xs.map fun x => .bl (f x))).map _ = _
  rw [allBools_map]
  simp
@[simp] theorem dAny_map {α : Type} (f : α → Bool) (xs : List α) : dAny [.lst (xs.map fun x => .bl (f x))] = some (.bl (xs.any f)) := by
  show (allBools (xs.map fun x => .bl (f x))).map _ = _
  rw [allBools_map]
  simp
end DL
/-! PL5: dicts from numbers to numbers; in and not in -/
namespace DL
open PySem L2 TB
def eDct (l : List (Nat × Nat)) : D := .dct false (l.map fun p => dN p.1) (l.map fun p => dN p.2)
theorem keyD_nat (n : Nat) : keyD (dN n) = some (.inl (n : Int)) := rfl
theorem kfind_nat (i : Nat) : ∀ l : List (Nat × Nat), (kfind keyD (l.map fun p => dN p.1) (.inl (i : Int))).bind (fun j => (l.map fun p => dN p.2)[j]?) = (l.lookup i).map dN
  | [] => rfl
  | p :: l => by
    have ih := kfind_nat i l
    unfold kfind at ih ⊢
    rw [List.map_cons, List.findIdx?_cons]
    by_cases h : p.1 = i
    · have : decide (keyD (dN p.1) = some (.inl (i : Int))) = true := decide_eq_true (by rw [h, keyD_nat])
      rw [if_pos this, List.lookup_cons]
      have e : (i == p.1) = true := by rw [h]; exact beq_self_eq_true i
      rw [e]
      rfl
    · have : decide (keyD (dN p.1) = some (.inl (i : Int))) = false := decide_eq_false (by
        rw [keyD_nat]
        intro z
        injection z with z
        injection z with z
        omega)
      rw [if_neg (by rw [this]; decide), List.lookup_cons]
      have e : (i == p.1) = false := by
        rw [beq_eq_false_iff_ne]
        exact fun z => h z.symm
      rw [e]
      show _ = (l.lookup i).map dN
      rw [← ih]
      cases List.findIdx? (fun z => decide (keyD z = some (.inl (i : Int)))) (l.map fun p => dN p.1) with
      | none => rfl
      | some j => simp
theorem dIx_eDct {k : Nat} {l : List (Nat × Nat)} {i v : Nat} (h : l.lookup i = some v) : dIx k (eDct l) (.int (i : Int)) = some (dN v) := by
  unfold eDct
  show Option.bind (dlook false _ _ (dN i)) id = _
  unfold dlook dplace
  show Option.bind (Option.map _ (Option.map (kfind keyD (l.map fun p => dN p.1)) (keyD (dN i)))) id = _
  rw [keyD_nat, mapS, mapS]
  show (kfind keyD (l.map fun p => dN p.1) (.inl (i : Int))).bind (fun j => (l.map fun p => dN p.2)[j]?) = _
  rw [kfind_nat, h]
  rfl
theorem kfind_nat_some (i : Nat) (l : List (Nat × Nat)) : (kfind keyD (l.map fun p => dN p.1) (.inl (i : Int))).isSome = decide (i ∈ l.map (·.1)) := by
  unfold kfind
  rw [List.findIdx?_isSome, List.any_map]
  rw [Bool.eq_iff_iff, List.any_eq_true, decide_eq_true_eq, List.mem_map]
  constructor
  · rintro ⟨u, hu, e⟩
    have e := of_decide_eq_true e
    rw [keyD_nat] at e
    injection e with e
    injection e with e
    exact ⟨u, hu, by omega⟩
  · rintro ⟨u, hu, e⟩
    exact ⟨u, hu, decide_eq_true (by rw [keyD_nat, e])⟩
theorem dIn_eDct (i : Nat) (l : List (Nat × Nat)) : dIn (.int (i : Int)) (eDct l) = some (.bl (decide (i ∈ l.map (·.1)))) := by
  rw [← kfind_nat_some]
  rfl
theorem dNotIn_eDct (i : Nat) (l : List (Nat × Nat)) : dNotIn (.int (i : Int)) (eDct l) = some (.bl (!decide (i ∈ l.map (·.1)))) := by
  rw [← kfind_nat_some]
  rfl
theorem dput_eDct {i v : Nat} {l : List (Nat × Nat)} (h : ¬ i ∈ l.map (·.1)) : dput false (l.map fun p => dN p.1) (l.map fun p => dN p.2) (dN i) (dN v) = some ((l ++ [(i, v)]).map fun p => dN p.1, (l ++ [(i, v)]).map fun p => dN p.2) := by
  have e0 : ∀ (ks xs : List D) (y d : D), dput false ks xs y d = (keyD y).map fun k => dputK keyD ks xs k y d := fun _ _ _ _ => rfl
  rw [e0, keyD_nat, mapS]
  unfold dputK
  rw [kfind_nat_some, if_neg (by simpa using h)]
  simp
section
variable {α : Type} [DecidableEq α] [Dat α]
theorem dNotIn_lst (x : α) (ys : List α) (h : Dat.dep α + 1 ≤ 64 := by decide) : dNotIn (Dat.enc x) (.lst (ys.map Dat.enc)) = some (.bl (!decide (x ∈ ys))) := by
  have e : dInB true (Dat.enc x) (.lst (ys.map Dat.enc)) = some (decide (x ∈ ys)) := by
    show (toPy (Dat.enc x)).bind _ = _
    rw [Dat.toPy_, bindS, toPys_map, bindS, if_pos, any_dat]
    unfold pyOk
    refine ⟨decide_eq_true (Nat.le_trans (Dat.dep_le x) (by omega)), decide_eq_true ?_⟩
    rw [PyData.depth]
    exact Nat.le_trans (Nat.succ_le_succ (depAll ys)) h
  unfold dNotIn
  rw [e]
  rfl
theorem dNotIn_tup (x : α) (ys : List α) (h : Dat.dep α + 1 ≤ 64 := by decide) : dNotIn (Dat.enc x) (.tup (ys.map Dat.enc)) = some (.bl (!decide (x ∈ ys))) := by
  have e : dInB true (Dat.enc x) (.tup (ys.map Dat.enc)) = some (decide (x ∈ ys)) := by
    have e0 : dInB true (Dat.enc x) (.tup (ys.map Dat.enc)) = (toPy (Dat.enc x)).bind fun p => (toPys (ys.map Dat.enc)).bind fun qs => if pyOk p = true ∧ pyOk (.tuple qs) = true then some (qs.any fun z => PyData.eqv z p) else none := rfl
    rw [e0, Dat.toPy_, bindS, toPys_map, bindS, if_pos, any_dat]
    unfold pyOk
    refine ⟨decide_eq_true (Nat.le_trans (Dat.dep_le x) (by omega)), decide_eq_true ?_⟩
    rw [PyData.depth]
    exact Nat.le_trans (Nat.succ_le_succ (depAll ys)) h
  unfold dNotIn
  rw [e]
  rfl
end
theorem dNotIn_nat_tr (u : Nat) (t : Tr) : dNotIn (.int (u : Int)) (eTr t) = some (.bl (!decide (u ∈ [t.1, t.2.1, t.2.2]))) := (dNotIn_tup u [t.1, t.2.1, t.2.2]).trans (by congr)
theorem dNotIn_tr_tup (u : Tr) (l : List Tr) : dNotIn (eTr u) (.tup (l.map eTr)) = some (.bl (!decide (u ∈ l))) := (dNotIn_tup u l).trans (by congr)
theorem gPop0 (d : D) (l : List D) : gPop (d :: l) [.int 0] = some (l, d) := by
  have e : seqIndex? (0 : Int) (d :: l).length = some 0 := by
    unfold seqIndex?
    simp
  unfold gPop
  split
  · rename_i q; cases q
  · rename_i q
    cases q
    rw [if_pos (by decide), e, bindS]
    rfl
  · rename_i q
    exact absurd rfl (q _)
theorem gPopE (d : D) (l : List D) : gPop (l ++ [d]) [] = some (l, d) := by
  unfold gPop
  simp
end DL
/-! PL6: one rule for each combinator: what it comes to, once its parts are known -/
namespace DL
open PySem L2 TB
section
variable {ρ ρ0 ρ1 ρ2 ρ3 ρp : Env} {F G : SM} {f g fa fb fc fi : EM} {t u : TM} {fs gs : AM} {i j k m n s : Nat} {d x y z : D} {ds es as : List D} {a b c : Bool} {o : Out}
theorem tVal_of (h : f ρ = some (d, ρ1)) (ht : truth d = some b) : tVal f ρ = some (b, ρ1) := by
  rw [tVal_, h, bindS]
  show Option.map _ (truth d) = _
  rw [ht]
  rfl
theorem tValB (h : f ρ = some (.bl b, ρ1)) : tVal f ρ = some (b, ρ1) := tVal_of h rfl
theorem tNot_of (h : t ρ = some (b, ρ1)) : tNotM t ρ = some (!b, ρ1) := by
  rw [tNotM_, h]
  rfl
theorem tAnd_t (h : t ρ = some (true, ρ1)) : tAndM t u ρ = u ρ1 := by
  rw [tAndM_, h]
  rfl
theorem tAnd_f (h : t ρ = some (false, ρ1)) : tAndM t u ρ = some (false, ρ1) := by
  rw [tAndM_, h]
  rfl
theorem tOr_t (h : t ρ = some (true, ρ1)) : tOrM t u ρ = some (true, ρ1) := by
  rw [tOrM_, h]
  rfl
theorem tOr_f (h : t ρ = some (false, ρ1)) : tOrM t u ρ = u ρ1 := by
  rw [tOrM_, h]
  rfl
theorem eOp2_of {g : D → D → Option D} (h1 : fa ρ = some (x, ρ1)) (h2 : fb ρ1 = some (y, ρ2)) (h3 : g x y = some d) : eOp2 g fa fb ρ = some (d, ρ2) := by
  rw [eOp2_, h1, bindS, h2, bindS]
  show Option.map _ (g x y) = _
  rw [h3]
  rfl
theorem tCmp_of {g : D → D → Option D} (h1 : fa ρ = some (x, ρ1)) (h2 : fb ρ1 = some (y, ρ2)) (h3 : g x y = some (.bl b)) : tCmpM g fa fb ρ = some (b, ρ2) := by
  rw [tCmpM_, eOp2_of h1 h2 h3]
  rfl
theorem tCmpE {g : D → D → Option D} (h : eOp2 g fa fb ρ = some (.bl b, ρ1)) : tCmpM g fa fb ρ = some (b, ρ1) := by
  rw [tCmpM_, h]
  rfl
theorem eIf_t (h : t ρ = some (true, ρ1)) : eIfM t f g ρ = f ρ1 := by
  rw [eIfM_, h]
  rfl
theorem eIf_f (h : t ρ = some (false, ρ1)) : eIfM t f g ρ = g ρ1 := by
  rw [eIfM_, h]
  rfl
theorem sIf_t (h : t ρ = some (true, ρ1)) : sIf t F G ρ = F ρ1 := by
  rw [sIf_, h]
  rfl
theorem sIf_f (h : t ρ = some (false, ρ1)) : sIf t F G ρ = G ρ1 := by
  rw [sIf_, h]
  rfl
theorem eAnd_t (h : f ρ = some (d, ρ1)) (ht : truth d = some true) : eAndM f g ρ = g ρ1 := by
  rw [eAndM_, h, bindS]
  show Option.bind (truth d) _ = _
  rw [ht]
  rfl
theorem eAnd_f (h : f ρ = some (d, ρ1)) (ht : truth d = some false) : eAndM f g ρ = some (d, ρ1) := by
  rw [eAndM_, h, bindS]
  show Option.bind (truth d) _ = _
  rw [ht]
  rfl
theorem eOr_t (h : f ρ = some (d, ρ1)) (ht : truth d = some true) : eOrM f g ρ = some (d, ρ1) := by
  rw [eOrM_, h, bindS]
  show Option.bind (truth d) _ = _
  rw [ht]
  rfl
theorem eOr_f (h : f ρ = some (d, ρ1)) (ht : truth d = some false) : eOrM f g ρ = g ρ1 := by
  rw [eOrM_, h, bindS]
  show Option.bind (truth d) _ = _
  rw [ht]
  rfl
theorem eNot_of (h : f ρ = some (d, ρ1)) (ht : truth d = some b) : eNotM f ρ = some (.bl (!b), ρ1) := by
  rw [eNotM_, h, bindS]
  show Option.map _ (truth d) = _
  rw [ht]
  rfl
theorem aCons_of (h1 : f ρ = some (d, ρ1)) (h2 : fs ρ1 = some (ds, ρ2)) : aCons f fs ρ = some (d :: ds, ρ2) := by
  rw [aCons_, h1, bindS, h2]
  rfl
theorem acCons_of (h1 : f ρ = some (d, ρ1)) (h2 : fs ρ1 = some (ds, ρ2)) : acCons f fs ρ = some (d :: ds, ρ2) := by
  rw [acCons_, h1, bindS, h2]
  rfl
theorem acOwn_of (h0 : ∃ x, ρ[s]? = some (some x)) (h2 : fs ρ = some (ds, ρ2)) : acOwn s fs ρ = some (.non :: ds, ρ2) := by
  obtain ⟨x, h0⟩ := h0
  unfold acOwn
  rw [h0]
  show Option.map _ (fs ρ) = _
  rw [h2]
  rfl
theorem a1_of (h : f ρ = some (d, ρ1)) : aCons f aNil ρ = some ([d], ρ1) := aCons_of h rfl
theorem a2_of (h : f ρ = some (d, ρ1)) (h2 : g ρ1 = some (x, ρ2)) : aCons f (aCons g aNil) ρ = some ([d, x], ρ2) := aCons_of h (aCons_of h2 rfl)
theorem eTup_of (h : fs ρ = some (ds, ρ1)) : eTup fs ρ = some (.tup ds, ρ1) := by
  rw [eTup_, h]
  rfl
theorem eLst_of (h : fs ρ = some (ds, ρ1)) : eLst fs ρ = some (.lst ds, ρ1) := by
  rw [eLst_, h]
  rfl
theorem eCall_of {g : List D → Option D} (h1 : fs ρ = some (ds, ρ1)) (h2 : g ds = some d) : eCall g fs ρ = some (d, ρ1) := by
  rw [eCall_, h1, bindS]
  show Option.map _ (g ds) = _
  rw [h2]
  rfl
theorem eCallD_of {os : List (Option Nat)} {ms : List Nat} {G : GMap} (h1 : fs ρ = some (as, ρ1)) (h2 : fillA ρ1 os ms as = some ds) (h3 : G ds = some (d, ρp)) : eCallD os ms fs G ρ = some (d, putB os ρp ρ1) := by
  unfold eCallD
  rw [h1, bindS, h2, bindS, h3]
  rfl
theorem eCallD0 {os : List (Option Nat)} {ms : List Nat} {G : GMap} (h1 : fs ρ = some (as, ρ)) (h2 : fillA ρ os ms as = some ds) (h3 : G ds = some (d, ρp)) (h4 : putB os ρp ρ = ρ) : eCallD os ms fs G ρ = some (d, ρ) := by
  rw [eCallD_of h1 h2 h3, h4]
theorem eCallK_of {os : List (Option Nat)} {ms p : List Nat} {G : GMap} {bs : List D} (h1 : fs ρ = some (as, ρ1)) (h2 : gs ρ1 = some (bs, ρ2)) (h3 : fillA ρ2 (pick p os) ms (pick p (as ++ bs)) = some ds) (h4 : G ds = some (d, ρp)) : eCallK os ms p fs gs G ρ = some (d, putB (pick p os) ρp ρ2) := by
  rw [eCallK_, h1, bindS]
  show Option.bind (gs ρ1) _ = _
  rw [h2, bindS]
  show Option.bind (fillA ρ2 (pick p os) ms (pick p (as ++ bs))) _ = _
  rw [h3, bindS, h4]
  rfl
theorem eIx_of (h1 : fa ρ = some (x, ρ1)) (h2 : fb ρ1 = some (y, ρ2)) (h3 : dIx k x y = some d) : eIx k fa fb ρ = some (d, ρ2) := by
  rw [eIx_, h1, bindS, h2, bindS]
  show Option.map _ (dIx k x y) = _
  rw [h3]
  rfl
theorem eMeth_of {g : List D → List D → Option (List D × D)} {ds0 ds' : List D} (h0 : getL s ρ = some ds0) (h1 : fs ρ = some (as, ρ1)) (h2 : getL s ρ1 = some ds) (h3 : g ds as = some (ds', d)) :
    eMeth s g fs ρ = some (d, ρ1.set s (some (1, .lst ds'))) := by
  unfold eMeth
  rw [h0, bindS, h1, bindS, h2, bindS, h3]
  rfl
theorem sSet_of (h : f ρ = some (d, ρ1)) : sSet i k f ρ = some (.nx (ρ1.set i (some (k, d)))) := by
  rw [sSet_, h]
  rfl
theorem sExpr_of (h : f ρ = some (d, ρ1)) : sExpr f ρ = some (.nx ρ1) := by
  rw [sExpr_, h]
  rfl
theorem sRet_of (h : f ρ = some (d, ρ1)) : sRet f ρ = some (.rt d ρ1) := by
  rw [sRet_, h]
  rfl
theorem sSeq_of (h : F ρ = some (.nx ρ1)) : sSeq F G ρ = G ρ1 := by
  rw [sSeq_, h]
  rfl
theorem sSeq_rt (h : F ρ = some (.rt d ρ1)) : sSeq F G ρ = some (.rt d ρ1) := by
  rw [sSeq_, h]
  rfl
theorem sAsg_of {g : GM} (h : f ρ = some (d, ρ1)) (h2 : g d ρ1 = some ρ2) : sAsg f g ρ = some (.nx ρ2) := by
  rw [sAsg_, h, bindS]
  show Option.map _ (g d ρ1) = _
  rw [h2]
  rfl
theorem sFor_of {fi : IM} {g : GM} (hi : fi ρ = some (ds, ρ1)) (h : forM g F ds ρ1 = some o) : sFor fi g F ρ = some o := by
  rw [sFor_, hi, bindS]
  exact h
theorem sPar_of {ka kb : Nat} (h1 : fa ρ = some (x, ρ1)) (h2 : fb ρ1 = some (y, ρ2)) : sPar i j ka kb fa fb ρ = some (.nx ((ρ2.set i (some (ka, x))).set j (some (kb, y)))) := by
  rw [sPar_, h1, bindS]
  show Option.map _ (fb ρ1) = _
  rw [h2]
  rfl
theorem defG_rt {ms : List Nat} (h : F (envOf ms ds ++ List.replicate (n - ms.length) none) = some (.rt d ρ1)) : defG n ms F ds = some (d, outE ms ρ1) := by
  rw [defG_, h]
  rfl
theorem defG_nx {ms : List Nat} (h : F (envOf ms ds ++ List.replicate (n - ms.length) none) = some (.nx ρ1)) : defG n ms F ds = some (.non, outE ms ρ1) := by
  rw [defG_, h]
  rfl
theorem lStep_t {gg : GM} {tl : LM} {r : List D} (h1 : gg d ρ = some ρ1) (h2 : t ρ1 = some (true, ρ2)) (h3 : tl ρ2 = some (r, ρ3)) : lStep gg t tl d ρ = some (r, ρ3) := by
  rw [lStep_, h1, bindS, h2, bindS]
  exact h3
theorem lStep_f {gg : GM} {tl : LM} (h1 : gg d ρ = some ρ1) (h2 : t ρ1 = some (false, ρ2)) : lStep gg t tl d ρ = some ([], ρ2) := by
  rw [lStep_, h1, bindS, h2, bindS]
  rfl
theorem lOne_of (h : f ρ = some (d, ρ1)) : lOne f ρ = some ([d], ρ1) := by
  rw [lOne_, h]
  rfl
theorem lFor_en {α : Type} (en : α → D) {fi : IM} {g : GM} {t : TM} {tl : LM} {vs : List Nat} {ρ ρ0 ρ1 : Env} {xs : List α} (f : α → List D) (hi : fi ρ = some (xs.map en, ρ0)) (hw : wipeE ρ0 vs = ρ1)
    (hs : ∀ x ∈ xs, (lStep g t tl (en x) ρ1).map (fun r => (r.1, wipeE r.2 vs)) = some (f x, ρ1)) : lFor fi g t tl vs ρ = some (xs.flatMap f, ρ1) := by
  rw [lFor_, hi, bindS]
  show lLoop g t tl vs (xs.map en) (wipeE ρ0 vs) = _
  rw [hw, lLoop_en en f hs]
theorem iLst_rng (h : f ρ = some (.rng 0 m, ρ)) : iLst' f ρ = some ((List.range m).map dN, ρ) := by
  rw [iLst'_, h, bindS]
  show some (rngL 0 ((m : Int) - 0).toNat, ρ) = _
  rw [Int.sub_zero, Int.toNat_natCast, rng0]
theorem iLst_lst (h : f ρ = some (.lst ds, ρ1)) : iLst' f ρ = some (ds, ρ1) := by
  rw [iLst'_, h]
  rfl
theorem iLst_tup (h : f ρ = some (.tup ds, ρ1)) : iLst' f ρ = some (ds, ρ1) := by
  rw [iLst'_, h]
  rfl
/-- what is mapped, and wiped -/
theorem lMap {vs : List Nat} {q : Option (List D × Env)} {r : List D} (h : q = some (r, ρ1)) (hw : wipeE ρ1 vs = ρ2) : q.map (fun r => (r.1, wipeE r.2 vs)) = some (r, ρ2) := by
  rw [h, mapS, hw]
theorem V {ρ : Env} {i m : Nat} {d : D} (h : ρ[i]? = some (some (m, d)) := by rfl) : eVar i m ρ = some (d, ρ) := eVar_at h
theorem take_of {ρ : Env} {i m : Nat} {d : D} (h : ρ[i]? = some (some (m, d)) := by rfl) : eTake i m ρ = some (d, ρ.set i none) := by
  unfold eTake
  rw [h]
  simp
theorem eC_of (d : D) : eC d ρ = some (d, ρ) := rfl
end
end DL
/-! PL7: calls that hand a list over; slices; quotients -/
namespace DL
open PySem L2 TB
section
variable {ρ ρ0 ρ1 ρ2 ρ3 : Env} {F G : SM} {f g fa fb fc fi : EM} {fs gs : AM} {d x y z b b' : D} {ds es as as' : List D}
theorem callB {s : Nat} {os : List (Option Nat)} {ms : List Nat} {G : GMap} {rest : Env} (h1 : fs ρ = some (as, ρ1)) (h0 : ρ[s]? = some (some (1, b))) (h0' : ρ1[s]? = some (some (1, b))) (h2 : fillA ρ1 os ms as = some as') (h3 : G (b :: as') = some (d, some (1, b') :: rest)) (h4 : putB os rest ρ1 = ρ1) (h5 : ρ1.set s (some (1, b')) = ρ2) :
    eCallD (some s :: os) (1 :: ms) (acOwn s fs) G ρ = some (d, ρ2) := by
  have e1 : acOwn s fs ρ = some (.non :: as, ρ1) := acOwn_of ⟨_, h0⟩ h1
  have e2 : fillA ρ1 (some s :: os) (1 :: ms) (.non :: as) = some (b :: as') := by
    show (match ρ1[s]? with
      | some (some (m', d)) => if m' = 0 + 1 then (fillA ρ1 os ms as).map fun r => d :: r else none
      | _ => none) = _
    rw [h0']
    show (if 1 = 0 + 1 then (fillA ρ1 os ms as).map fun r => b :: r else none) = _
    rw [if_pos rfl, h2]
    rfl
  rw [eCallD_of e1 e2 h3]
  show some (d, (putB os rest ρ1).set s (some (1, b'))) = _
  rw [h4, h5]
theorem oSo_of {i : Int} (h : f ρ = some (.int i, ρ1)) : oSo f ρ = some (some i, ρ1) := by
  unfold oSo
  rw [h]
  rfl
theorem oNo_of : oNo ρ = some (none, ρ) := rfl
theorem eSl_of {l h : OM} {lo hi : Option Int} (h1 : f ρ = some (x, ρ1)) (h2 : l ρ1 = some (lo, ρ2)) (h3 : h ρ2 = some (hi, ρ3)) (h4 : dSl lo hi x = some d) : eSl f l h ρ = some (d, ρ3) := by
  rw [eSl_, h1, bindS]
  show Option.bind (l ρ1) _ = _
  rw [h2, bindS]
  show Option.bind (h ρ2) _ = _
  rw [h3, bindS]
  show Option.map _ (dSl lo hi x) = _
  rw [h4]
  rfl
theorem dIx_hd {k : Nat} : dIx k (.lst (d :: ds)) (.int 0) = some d := by
  rw [dIx_lst]
  exact DL.atI_nat (d :: ds) 0
theorem dDiv_nat {a c : Nat} (h : 0 < c) (h2 : c < 1000000) : dDiv (.int (a : Int)) (.int (c : Int)) = some (.int ((a / c : Nat) : Int)) := by
  rw [dDiv_, if_pos ⟨by omega, by omega⟩]
  rw [Int.fdiv_eq_ediv_of_nonneg _ (by omega)]
  rfl
theorem cutD_take {α : Type} (xs : List α) (k : Nat) : cutD xs none (some (k : Int)) = xs.take k := by
  unfold cutD
  rw [HT.sIx_nat, HT.sIx_none, Nat.sub_zero]
  simp
theorem dSl_take {k : Nat} : dSl none (some (k : Int)) (.lst ds) = some (.lst (ds.take k)) := by
  show some (D.lst (cutD ds none (some (k : Int)))) = _
  rw [cutD_take]
theorem dCmp_of {p : Int → Int → Bool} {a b : Int} {c : Bool} (h : p a b = c) : dCmp p (.int a) (.int b) = some (.bl c) := by rw [dCmp_, h]
end
end DL
/-! PL8: more rules, for any law: lists that are drawn from, numbers, tables -/
namespace DL
open PySem L2 TB
theorem rngL_length (lo : Int) (n : Nat) : (rngL lo n).length = n := by simp [rngL]
theorem lt63 {d : Nat} (h : d < 1073741824) : -(2 ^ 63) ≤ (d : Int) ∧ (d : Int) < 2 ^ 63 := by
  have hp : (2 : Int) ^ 63 = 9223372036854775808 := by decide
  rw [hp]
  omega
theorem pop_ok {l : List D} {d : Nat} (h : d < l.length) (hl : l.length < 1073741824) : gPop l [.int d] = some (l.eraseIdx d, l[d]) := by
  have hc := lt63 (d := d) (by omega)
  have e : seqIndex? (d : Int) l.length = some d := by
    rw [seqIndex_of (by omega) (by omega)]
    simp
  unfold gPop
  split
  · rename_i q; cases q
  · rename_i q
    cases q
    rw [if_pos hc, e, bindS, List.getElem?_eq_getElem h]
    rfl
  · rename_i q
    exact absurd rfl (q _)
theorem iRg1_of {fs : AM} {ρ : Env} {ρ' : Env} {n : Nat} (h : fs ρ = some ([.int n], ρ')) (hn : n < 1073741824) : iRg1 fs ρ = some (rngL 0 n, ρ') := by
  have hp : (2 : Int) ^ 62 = 4611686018427387904 := by decide
  have hc : -(2 ^ 62) ≤ (n : Int) ∧ (n : Int) < 2 ^ 62 := by
    rw [hp]
    omega
  rw [iRg1_, h, bindS]
  show (if -(2 ^ 62) ≤ (n : Int) ∧ (n : Int) < 2 ^ 62 then some (rngL 0 (n : Int).toNat, ρ') else none) = _
  rw [if_pos hc]
  rfl
theorem perm_erase : ∀ (l : List D) (k : Nat) (h : k < l.length), ([l[k]'h] ++ l.eraseIdx k).Perm l
  | [], k, h => absurd h (Nat.not_lt_zero _)
  | x :: l, 0, h => List.Perm.refl _
  | x :: l, k + 1, h => by
    have h' : k < l.length := by simpa using h
    have q := perm_erase l k h'
    show (l[k] :: x :: l.eraseIdx k).Perm (x :: l)
    exact (List.Perm.swap _ _ _).trans (List.Perm.cons x q)
theorem gAppend_ok {ds : List D} {d : D} (h : ds.length < sizeLine) : gAppend ds [d] = some (ds ++ [d], .non) := by
  unfold gAppend
  split
  · rename_i q
    cases q
    rw [if_pos h]
  · rename_i q
    exact absurd rfl (q _)
theorem sl20 : (20 : Nat) < sizeLine := by have := sizeLine_big; omega
/-- a name that owns nothing, or none -/
def S0 (x : Option (Nat × D)) : Prop := x = none ∨ ∃ d, x = some (0, d)
theorem S0.some (d : D) : S0 (Option.some (0, d)) := .inr ⟨d, rfl⟩
theorem setLL_run {s : Nat} {f fa fb : EM} {ρ : Env} {m a c v : Nat} {T : Nat → Nat → Nat} (e0 : getLL s ρ = some ((List.range m).map fun a => eRowL m (T a))) (ef : f ρ = some (dN v, ρ)) (ea : fa ρ = some (dN a, ρ)) (ec : fb ρ = some (dN c, ρ)) (ha : a < m) (hc : c < m) :
    sSetLL s f fa fb ρ = some (.nx (ρ.set s (some (2, .lst ((List.range m).map fun i => eRowL m (updT T a c v i)))))) := by
  rw [sSetLL_, ef, bindS]
  show Option.bind (getLL s ρ) _ = _
  rw [e0, bindS, ea, bindS]
  show Option.bind (getLL s ρ) _ = _
  rw [e0, bindS]
  show Option.bind (ixN ((List.range m).map fun a => eRowL m (T a)).length (a : Int)) _ = _
  rw [List.length_map, List.length_range, ixN_nat ha, bindS, ec, bindS]
  show Option.bind (getLL s ρ) _ = _
  rw [e0, bindS]
  show Option.map _ (setLL ((List.range m).map fun a => eRowL m (T a)) (.int (a : Int)) (.int (c : Int)) (.int (v : Int))) = _
  rw [setLL_fn T ha hc]
  rfl
theorem hp62 : (2 : Int) ^ 62 = 4611686018427387904 := by decide
theorem hp63 : (2 : Int) ^ 63 = 9223372036854775808 := by decide
theorem flat_rep (d : D) : ∀ n : Nat, (List.replicate n [d]).flatten = (List.range n).map fun _ => d := by
  intro n
  rw [List.map_const', List.length_range]
  induction n with
  | zero => rfl
  | succ n ih => rw [List.replicate_succ, List.flatten_cons, ih]; rfl
theorem dMul_row {z m : Nat} (h : m < 1000) : dMul (.lst [dN z]) (.int (m : Int)) = some (eRowL m fun _ => z) := by
  have hs := sizeLine_big
  have hc : -(2 ^ 63) ≤ (m : Int) ∧ (m : Int) < 2 ^ 63 ∧ [dN z].length * (m : Int).toNat ≤ sizeLine := by
    rw [hp63]
    exact ⟨by omega, by omega, by rw [List.length_singleton]; omega⟩
  simp only [dMul]
  rw [if_pos hc, Int.toNat_natCast, flat_rep]
  rfl
theorem iRg1_var {e : EM} {ρ : Env} {n : Nat} (h : e ρ = some (dN n, ρ)) (hn : n < 1073741824) : iRg1 (aCons e aNil) ρ = some ((List.range n).map dN, ρ) := by
  rw [← rng0]
  exact iRg1_of (a1_of h) hn
/-- a list of lists becomes a tuple of tuples -/
theorem tupT {i v : Nat} {ρ : Env} {m : Nat} {T : Nat → Nat → Nat} (hi : eVar i 0 ρ = some (.lst ((List.range m).map fun a => eRowL m (T a)), ρ)) (hm : m < 1000) (hw : wipeE ρ [v] = ρ) (hb : backE ρ ρ [v] = some ρ) (hv : v < ρ.length) :
    eCall dTuple (aCons (eComp (iLst' (eVar i 0)) (gNm v) tYesM (lOne (eCall dTuple (aCons (eVar v 0) aNil))) [v]) aNil) ρ = some (eT m T, ρ) := by
  have hs := sizeLine_big
  have hw1 : ρ.set v none = ρ := hw
  refine eCall_of (a1_of (eComp_map (fun a => eRowL m (T a)) (fun a => eRow m (T a)) (xs := List.range m) (ρ0 := ρ) ?_ hw ?_ hb (by rw [List.length_range]; omega))) rfl
  · rw [iLst'_, hi]
    rfl
  · intro a _
    have e : eVar v 0 (ρ.set v (some (0, eRowL m (T a)))) = some (eRowL m (T a), ρ.set v (some (0, eRowL m (T a)))) := eVar_at (by rw [List.getElem?_set_self hv])
    have e2 : eCall dTuple (aCons (eVar v 0) aNil) (ρ.set v (some (0, eRowL m (T a)))) = some (eRow m (T a), ρ.set v (some (0, eRowL m (T a)))) := eCall_of (a1_of e) rfl
    rw [lStep_, gNm_, bindS, tYesM_, bindS]
    simp only [if_true]
    rw [lOne_, e2]
    show some ([eRow m (T a)], wipeE (ρ.set v (some (0, eRowL m (T a)))) [v]) = _
    show some ([eRow m (T a)], (ρ.set v (some (0, eRowL m (T a)))).set v none) = _
    rw [List.set_set, hw1]
theorem iRg1_len {e : EM} {ρ : Env} {b : D} {n : Nat} (h : e ρ = some (b, ρ)) (hl : dLen [b] = some (.int n)) (hn : n < 1073741824) : iRg1 (aCons (eCall dLen (aCons e aNil)) aNil) ρ = some ((List.range n).map dN, ρ) := by
  rw [← rng0]
  refine iRg1_of ?_ hn
  simp only [aCons_, eCall_, h, bindS, aNil_, mapS, hl]
theorem tri_len (m : Nat) : (tri m).length = m * (m * m) := by
  simp [tri, List.length_flatMap, List.map_const']
theorem tri_le {m : Nat} (h : m < 11) : (tri m).length ≤ 1000 := by
  rw [tri_len]
  have h' : m ≤ 10 := by omega
  exact Nat.mul_le_mul h' (Nat.mul_le_mul h' h')
theorem dRange_nat {m : Nat} (h : m < 1000) : dRange [.int m] = some (.rng 0 m) := by
  have : rngOk 0 m = true := by
    unfold rngOk
    exact decide_eq_true (by rw [hp62]; omega)
  simp only [dRange]
  rw [if_pos this]
/-- a list, or a tuple -/
def Sq (ds : List D) (d : D) : Prop := d = .lst ds ∨ d = .tup ds
theorem iLst_sq {e : EM} {ρ : Env} {ds : List D} {d : D} (s : Sq ds d) (h : e ρ = some (d, ρ)) : iLst' e ρ = some (ds, ρ) := by
  rcases s with rfl | rfl
  · exact iLst_lst h
  · exact iLst_tup h
theorem dIn_sq {l : List Tr} {d : D} (sq : Sq (l.map eTr) d) (t : Tr) : dIn (eTr t) d = some (.bl (decide (t ∈ l))) := by
  rcases sq with rfl | rfl
  · exact dIn_trs_lst t l
  · exact dIn_trs_tup t l
theorem at2_of {ρ : Env} {f g h : EM} {m a b : Nat} {T : Nat → Nat → Nat} (h0 : f ρ = some (eT m T, ρ)) (h1 : g ρ = some (dN a, ρ)) (h2 : h ρ = some (dN b, ρ)) (ha : a < m) (hb : b < m) : eIx (0 - 1) (eIx (0 - 1) f g) h ρ = some (dN (T a b), ρ) :=
  eIx_of (eIx_of h0 h1 (eT_at (b := b) T ha)) h2 (eRow_at _ hb)
theorem broken_expr {ρ : Env} {i x y z : Nat} {m a b c : Nat} {T : Nat → Nat → Nat} (hT : ∀ x, x < m → ∀ y, y < m → T x y < m) (hi : ρ[i]? = some (some (0, eT m T))) (hx : ρ[x]? = some (some (0, dN a))) (hy : ρ[y]? = some (some (0, dN b))) (hz : ρ[z]? = some (some (0, dN c))) (ha : a < m) (hb : b < m) (hc : c < m) :
    eOp2 dNe (eIx (0 - 1) (eIx (0 - 1) (eVar i 0) (eIx (0 - 1) (eIx (0 - 1) (eVar i 0) (eVar x 0)) (eVar y 0))) (eVar z 0)) (eIx (0 - 1) (eIx (0 - 1) (eVar i 0) (eVar x 0)) (eIx (0 - 1) (eIx (0 - 1) (eVar i 0) (eVar y 0)) (eVar z 0))) ρ = some (.bl (brk T (a, b, c)), ρ) := by
  have e1 : eIx (0 - 1) (eIx (0 - 1) (eVar i 0) (eVar x 0)) (eVar y 0) ρ = some (dN (T a b), ρ) := at2_of (V hi) (V hx) (V hy) ha hb
  have e2 : eIx (0 - 1) (eIx (0 - 1) (eVar i 0) (eVar y 0)) (eVar z 0) ρ = some (dN (T b c), ρ) := at2_of (V hi) (V hy) (V hz) hb hc
  refine eOp2_of (at2_of (V hi) e1 (V hz) (hT _ ha _ hb) hc) (at2_of (V hi) (V hx) e2 ha (hT _ hb _ hc)) ?_
  rw [dNe_nat]
  unfold brk
  simp
theorem flt3 (m : Nat) (p : Tr → Bool) : ((List.range m).flatMap fun x => (List.range m).flatMap fun y => (List.range m).flatMap fun z => if p (x, y, z) = true then [eTr (x, y, z)] else []) = ((tri m).filter p).map eTr := by
  unfold tri
  rw [List.filter_flatMap, List.map_flatMap]
  congr 1
  funext x
  rw [List.filter_flatMap, List.map_flatMap]
  congr 1
  funext y
  rw [flatMap_if (fun z => p (x, y, z)) (fun z => eTr (x, y, z)), List.filter_map, List.map_map]
  rfl
theorem nats_mem {m y : Nat} (h : y < m) : dIn (dN y) (.lst ((List.range m).map dN)) = some (.bl true) := by
  have := dIn_lst y (List.range m)
  refine this.trans ?_
  rw [decide_eq_true (List.mem_range.mpr h)]
theorem eT_len (m : Nat) (T : Nat → Nat → Nat) : dLen [eT m T] = some (dN m) := by unfold eT; simp
theorem dAddL_of {xs ys : List D} (h : xs.length + ys.length ≤ 100000) : dAdd (.lst xs) (.lst ys) = some (.lst (xs ++ ys)) := by
  have hs := sizeLine_big
  rw [dAddL_, if_pos (by omega)]
theorem eRow_eq (m : Nat) (r : Nat → Nat) : eRow m r = .tup (((List.range m).map r).map dN) := by
  unfold eRow
  rw [List.map_map]
  rfl
theorem tChain_of {g g' : D → D → Option D} {fa fb fc : EM} {ρ ρ1 ρ2 ρ3 : Env} {x y z : D} {b : Bool} (h1 : fa ρ = some (x, ρ1)) (h2 : fb ρ1 = some (y, ρ2)) (h3 : g x y = some (.bl true)) (h4 : fc ρ2 = some (z, ρ3)) (h5 : g' y z = some (.bl b)) : tChainM g g' fa fb fc ρ = some (b, ρ3) := by
  rw [tChainM_, eChain_, h1, bindS]
  show Option.bind (Option.bind (fb ρ1) _) _ = _
  rw [h2, bindS]
  show Option.bind (Option.bind (g x y) _) _ = _
  rw [h3, bindS]
  show Option.bind (Option.bind (fc ρ2) _) _ = _
  rw [h4, bindS]
  show Option.bind (Option.map _ (g' y z)) _ = _
  rw [h5]
  rfl
/-- closed within its elements -/
def Cl (m : Nat) (T : Nat → Nat → Nat) : Prop := ∀ x, x < m → ∀ y, y < m → T x y < m
theorem perm_map {α β : Type} (f : α → β) {A B : List β} (h : A.Perm B) : ∀ {l : List α}, B = l.map f → ∃ l' : List α, A = l'.map f ∧ l'.Perm l := by
  induction h with
  | nil =>
    intro l e
    have : l = [] := by simpa using e.symm
    subst this
    exact ⟨[], rfl, List.Perm.refl _⟩
  | cons x h ih =>
    intro l e
    cases l with
    | nil => cases e
    | cons y l =>
      injection e with e1 e2
      obtain ⟨l', q1, q2⟩ := ih e2
      exact ⟨y :: l', by rw [e1, q1]; rfl, q2.cons y⟩
  | swap x y r =>
    intro l e
    cases l with
    | nil => cases e
    | cons a l =>
      cases l with
      | nil => cases e
      | cons b l =>
        injection e with e1 e2
        injection e2 with e2 e3
        exact ⟨b :: a :: l, by rw [e1, e2, e3]; rfl, List.Perm.swap _ _ _⟩
  | trans h1 h2 ih1 ih2 =>
    intro l e
    obtain ⟨l1, q1, q2⟩ := ih2 e
    obtain ⟨l2, q3, q4⟩ := ih1 q1
    exact ⟨l2, q3, q4.trans q2⟩
theorem isi1 {e : EM} {ρ : Env} {d : D} {ty : String} {b : Bool} (h : e ρ = some (d, ρ)) (q : dIsi [d, .ty ty] = some (.bl b)) : eCall dIsi (aCons e (aCons (eC (.ty ty)) aNil)) ρ = some (.bl b, ρ) := eCall_of (a2_of h (eC_of _)) q
theorem six {α : Type} {l : List α} (h : 6 ≤ l.length) : ∃ p0 p1 p2 p3 p4 p5 r, l = p0 :: p1 :: p2 :: p3 :: p4 :: p5 :: r := by
  match l, h with
  | p0 :: p1 :: p2 :: p3 :: p4 :: p5 :: r, _ => exact ⟨p0, p1, p2, p3, p4, p5, r, rfl⟩
theorem dLen_trs (l : List Tr) : dLen [.lst (l.map eTr)] = some (dN l.length) := by rw [dLen_lst, List.length_map]
end DL
/-! PL9: while, comprehensions that change the state, index, sorted, dicts whose keys are tuples -/
namespace DL
open PySem L2 TB
theorem whileM_of {t : TM} {F : SM} (P : Nat → Env → Prop) (Q : Env → Prop) (R : D → Env → Prop)
    (hs : ∀ k ρ, P k ρ → (∃ ρ1, t ρ = some (false, ρ1) ∧ Q ρ1) ∨ ∃ ρ1, t ρ = some (true, ρ1) ∧ ((∃ ρ' k', F ρ1 = some (.nx ρ') ∧ k' < k ∧ P k' ρ') ∨ ∃ d ρ', F ρ1 = some (.rt d ρ') ∧ R d ρ')) :
    ∀ (n k : Nat) (ρ : Env), k < n → P k ρ → (∃ ρ', whileM t F n ρ = some (.nx ρ') ∧ Q ρ') ∨ ∃ d ρ', whileM t F n ρ = some (.rt d ρ') ∧ R d ρ'
  | 0, k, ρ, h, _ => absurd h (Nat.not_lt_zero _)
  | n + 1, k, ρ, h, hp => by
    have e0 : whileM t F (n + 1) ρ = (t ρ).bind fun p => if p.1 = true then (F p.2).bind fun o => match o with
      | .nx ρ' => whileM t F n ρ'
      | .ct ρ' => whileM t F n ρ'
      | .br ρ' => some (.nx ρ')
      | .rt d ρ' => some (.rt d ρ')
    else some (.nx p.2) := rfl
    rcases hs k ρ hp with ⟨ρ1, e1, q⟩ | ⟨ρ1, e1, h2⟩
    · left
      refine ⟨ρ1, ?_, q⟩
      rw [e0, e1]
      rfl
    · rcases h2 with ⟨ρ', k', e2, hk, hp'⟩ | ⟨d, ρ', e2, r⟩
      · have ih := whileM_of P Q R hs n k' ρ' (by omega) hp'
        have e : whileM t F (n + 1) ρ = whileM t F n ρ' := by
          rw [e0, e1, bindS]
          show Option.bind (F ρ1) _ = _
          rw [e2]
          rfl
        rw [e]
        exact ih
      · right
        refine ⟨d, ρ', ?_, r⟩
        rw [e0, e1, bindS]
        show Option.bind (F ρ1) _ = _
        rw [e2]
        rfl
/-- a block that changes the state -/
theorem lLoop_pre {α : Type} (en : α → D) {g : GM} {t : TM} {tail : LM} {vs : List Nat} (P : List α → List D → Env → Prop) (xs : List α)
    (hs : ∀ pre x post acc ρ, xs = pre ++ x :: post → P pre acc ρ → ∃ r ρ', lStep g t tail (en x) ρ = some (r, ρ') ∧ P (pre ++ [x]) (acc ++ r) (wipeE ρ' vs)) {ρ : Env} (h0 : P [] [] ρ) :
    ∃ r ρ', lLoop g t tail vs (xs.map en) ρ = some (r, ρ') ∧ P xs r ρ' := by
  suffices h : ∀ post pre acc ρ, xs = pre ++ post → P pre acc ρ → ∃ r ρ', lLoop g t tail vs (post.map en) ρ = some (r, ρ') ∧ P xs (acc ++ r) ρ' by
    obtain ⟨r, ρ', e, q⟩ := h xs [] [] ρ rfl h0
    exact ⟨r, ρ', e, by simpa using q⟩
  intro post
  induction post with
  | nil =>
    intro pre acc ρ e h
    rw [List.append_nil] at e
    exact ⟨[], ρ, rfl, by rw [List.append_nil]; exact e ▸ h⟩
  | cons x post ih =>
    intro pre acc ρ e h
    obtain ⟨r, ρ1, e1, h1⟩ := hs pre x post acc ρ e h
    obtain ⟨r2, ρ2, e2, h2⟩ := ih (pre ++ [x]) (acc ++ r) (wipeE ρ1 vs) (by rw [e, List.append_assoc]; rfl) h1
    refine ⟨r ++ r2, ρ2, ?_, by rw [← List.append_assoc]; exact h2⟩
    rw [List.map_cons, lLoop_cons, e1, bindS]
    show Option.map _ (lLoop g t tail vs (post.map en) (wipeE ρ1 vs)) = _
    rw [e2]
    rfl
theorem eComp_pre {α : Type} (en : α → D) {fi : IM} {g : GM} {t : TM} {fl : LM} {vs : List Nat} {ρ ρ0 : Env} {xs : List α} (P : List α → List D → Env → Prop) (hi : fi ρ = some (xs.map en, ρ0)) (h0 : P [] [] (wipeE ρ0 vs))
    (hs : ∀ pre x post acc ρ, xs = pre ++ x :: post → P pre acc ρ → ∃ r ρ', lStep g t fl (en x) ρ = some (r, ρ') ∧ P (pre ++ [x]) (acc ++ r) (wipeE ρ' vs))
    (hb : ∀ r ρ', P xs r ρ' → r.length ≤ sizeLine ∧ ∃ ρ2, backE ρ0 ρ' vs = some ρ2) :
    ∃ r ρ' ρ2, eComp fi g t fl vs ρ = some (.lst r, ρ2) ∧ P xs r ρ' ∧ backE ρ0 ρ' vs = some ρ2 := by
  obtain ⟨r, ρ', e, q⟩ := lLoop_pre en P xs hs h0
  obtain ⟨hl, ρ2, e2⟩ := hb r ρ' q
  refine ⟨r, ρ', ρ2, ?_, q, e2⟩
  rw [eComp_, hi, bindS]
  show Option.bind (lLoop g t fl vs (xs.map en) (wipeE ρ0 vs)) _ = _
  rw [e, bindS]
  show Option.bind (backE ρ0 ρ' vs) _ = _
  rw [e2, bindS, if_pos hl]
/-! ### index -/
section
variable {α : Type} [DecidableEq α] [Dat α]
def fidx (xs : List α) (x : α) : Nat := (xs.findIdx? fun z => decide (z = x)).getD 0
theorem fidx_of {xs : List α} {x : α} (h : x ∈ xs) : (xs.findIdx? fun z => decide (z = x)) = some (fidx xs x) ∧ xs[fidx xs x]? = some x := by
  have h1 : (xs.findIdx? fun z => decide (z = x)).isSome = true := by
    rw [List.findIdx?_isSome, List.any_eq_true]
    exact ⟨x, h, decide_eq_true rfl⟩
  obtain ⟨j, hj⟩ := Option.isSome_iff_exists.mp h1
  obtain ⟨hl, h2, _⟩ := List.findIdx?_eq_some_iff_getElem.mp hj
  have e : fidx xs x = j := by unfold fidx; rw [hj]; rfl
  rw [e]
  exact ⟨hj, by rw [List.getElem?_eq_getElem hl, of_decide_eq_true h2]⟩
theorem gIndex_dat {xs : List α} {x : α} (h : x ∈ xs) (hd : Dat.dep α + 1 ≤ 64 := by decide) : gIndex (xs.map Dat.enc) [Dat.enc x] = some (.int ((fidx xs x : Nat) : Int)) := by
  have e0 : gIndex (xs.map Dat.enc) [Dat.enc x] = (toPy (Dat.enc x)).bind fun p => (toPys (xs.map Dat.enc)).bind fun qs => if pyOk p = true ∧ pyOk (.list qs) = true then (qs.findIdx? fun z => PyData.eqv z p).map fun (j : Nat) => D.int (j : Int) else none := rfl
  rw [e0, Dat.toPy_, bindS, toPys_map, bindS, if_pos]
  · rw [List.findIdx?_map]
    have e1 : ((fun z => PyData.eqv z (Dat.py x)) ∘ Dat.py) = fun z : α => decide (z = x) := funext fun z => Dat.eqv_ z x
    rw [e1, (fidx_of h).1]
    rfl
  · unfold pyOk
    refine ⟨decide_eq_true (Nat.le_trans (Dat.dep_le x) (by omega)), decide_eq_true ?_⟩
    rw [PyData.depth]
    exact Nat.le_trans (Nat.succ_le_succ (depAll xs)) hd
end
theorem eMq_of {g : List D → List D → Option D} {fo : EM} {fs : AM} {ρ ρ1 ρ2 : Env} {ds as : List D} {d : D} (h1 : fo ρ = some (.lst ds, ρ1)) (h2 : fs ρ1 = some (as, ρ2)) (h3 : g ds as = some d) : eMq g fo fs ρ = some (d, ρ2) := by
  unfold eMq
  rw [h1, bindS]
  show Option.bind (fs ρ1) _ = _
  rw [h2, bindS]
  show Option.map _ (g ds as) = _
  rw [h3]
  rfl
/-! ### tuples of numbers -/
def eM (l : List Nat) : D := .tup (l.map dN)
theorem eM_enc (l : List Nat) : eM l = Dat.enc (⟨l⟩ : Tup Nat) := rfl
theorem gIndex_nat {xs : List Nat} {x : Nat} (h : x ∈ xs) : gIndex (xs.map dN) [.int (x : Int)] = some (.int ((fidx xs x : Nat) : Int)) := gIndex_dat h
theorem eMs_enc (ls : List (List Nat)) : ls.map eM = (ls.map fun l => (⟨l⟩ : Tup Nat)).map Dat.enc := by
  rw [List.map_map]
  rfl
def tN (l : List Nat) : Tup Nat := ⟨l⟩
theorem tN_inj {a b : List Nat} (h : tN a = tN b) : a = b := by injection h
theorem findIdx_tN (ls : List (List Nat)) (l : List Nat) : ((ls.map tN).findIdx? fun z => decide (z = tN l)) = ls.findIdx? fun z => decide (z = l) := by
  rw [List.findIdx?_map]
  congr 1
  funext z
  exact decide_eq_decide.mpr ⟨tN_inj, fun e => by rw [e]⟩
theorem gIndex_eM {ls : List (List Nat)} {l : List Nat} (h : l ∈ ls) : gIndex (ls.map eM) [eM l] = some (.int ((fidx ls l : Nat) : Int)) := by
  have h2 : tN l ∈ ls.map tN := List.mem_map.mpr ⟨l, h, rfl⟩
  have := gIndex_dat h2
  have e : fidx (ls.map tN) (tN l) = fidx ls l := by unfold fidx; rw [findIdx_tN]
  rw [e] at this
  rw [List.map_map] at this
  exact this
theorem dNotIn_eM (l : List Nat) (ls : List (List Nat)) : dNotIn (eM l) (.lst (ls.map eM)) = some (.bl (!decide (l ∈ ls))) := by
  have := dNotIn_lst (tN l) (ls.map tN)
  rw [List.map_map] at this
  refine this.trans ?_
  have e : decide (tN l ∈ ls.map tN) = decide (l ∈ ls) := decide_eq_decide.mpr (by
    rw [List.mem_map]
    exact ⟨fun ⟨a, h, e⟩ => tN_inj e ▸ h, fun h => ⟨l, h, rfl⟩⟩)
  rw [e]
/-! ### dicts whose keys are tuples of numbers -/
def kM (l : List Nat) : List Key := l.map fun (n : Nat) => (Sum.inl (n : Int) : Key)
theorem kM_inj : ∀ {a b : List Nat}, kM a = kM b → a = b
  | [], [], _ => rfl
  | [], _ :: _, h => by cases h
  | _ :: _, [], h => by cases h
  | x :: a, y :: b, h => by
    injection h with h1 h2
    injection h1 with h1
    rw [kM_inj h2, show x = y by omega]
theorem mapM_keys : ∀ l : List Nat, (l.map dN).mapM keyD = some (kM l)
  | [] => rfl
  | x :: l => by
    rw [List.map_cons, List.mapM_cons, mapM_keys l]
    rfl
theorem keysD_eM {l : List Nat} (h : l.length ≤ 1000) : keysD (eM l) = some (kM l) := by
  show (if (l.map dN).length ≤ 1000 then (l.map dN).mapM keyD else none) = _
  rw [List.length_map, if_pos h, mapM_keys]
theorem kfind_eM {l : List Nat} {ks : List (List Nat)} (hl : ∀ k ∈ ks, k.length ≤ 1000) : (kfind keysD (ks.map eM) (kM l)).isSome = decide (l ∈ ks) := by
  unfold kfind
  rw [List.findIdx?_isSome, List.any_map]
  rw [Bool.eq_iff_iff, List.any_eq_true, decide_eq_true_eq]
  constructor
  · rintro ⟨u, hu, e⟩
    have e := of_decide_eq_true e
    rw [keysD_eM (hl u hu)] at e
    have : u = l := kM_inj (Option.some.inj e)
    exact this ▸ hu
  · intro h
    exact ⟨l, h, decide_eq_true (keysD_eM (hl l h))⟩
theorem dctOf_eM : ∀ (ls ks : List (List Nat)) (vs : List D), (∀ l ∈ ls, l.length ≤ 1000) → (∀ l ∈ ks, l.length ≤ 1000) → ks.Nodup → ∃ (ks' : List (List Nat)) (vs' : List D), dctOf true (ls.map fun l => .tup [eM l, .bl true]) (ks.map eM, vs) = some (ks'.map eM, vs') ∧ ks'.Nodup ∧ ks'.length ≤ ks.length + ls.length ∧ ∀ l, l ∈ ks' ↔ l ∈ ks ∨ l ∈ ls
  | [], ks, vs, _, _, hn => ⟨ks, vs, rfl, hn, Nat.le_refl _, fun l => by simp⟩
  | u :: ls, ks, vs, hl, hk, hn => by
    have hu := hl u List.mem_cons_self
    have hl' : ∀ l ∈ ls, l.length ≤ 1000 := fun l h => hl l (List.mem_cons_of_mem _ h)
    rw [List.map_cons]
    show ∃ (ks' : List (List Nat)) (vs' : List D), (((keysD (eM u)).map fun k => dputK keysD (ks.map eM) vs k (eM u) (.bl true)).bind fun a => dctOf true (ls.map fun l => .tup [eM l, .bl true]) a) = some (ks'.map eM, vs') ∧ _
    rw [keysD_eM hu, mapS, bindS]
    unfold dputK
    rw [kfind_eM hk]
    by_cases h : u ∈ ks
    · rw [if_pos (decide_eq_true h)]
      obtain ⟨ks', vs', e, n, le, q⟩ := dctOf_eM ls ks _ hl' hk hn
      refine ⟨ks', vs', e, n, by rw [List.length_cons]; omega, fun l => ?_⟩
      rw [q l, List.mem_cons]
      exact ⟨fun z => z.elim .inl fun z => .inr (.inr z), fun z => z.elim .inl fun z => z.elim (fun z => .inl (z ▸ h)) .inr⟩
    · rw [if_neg (by simpa using h)]
      have e0 : ks.map eM ++ [eM u] = (ks ++ [u]).map eM := by simp
      rw [e0]
      obtain ⟨ks', vs', e, n, le, q⟩ := dctOf_eM ls (ks ++ [u]) _ hl' (fun l hm => by
        rcases List.mem_append.mp hm with hm | hm
        · exact hk l hm
        · rw [List.mem_singleton.mp hm]; exact hu) (by
        rw [List.nodup_append]
        refine ⟨hn, by simp, fun a ha b hb e => ?_⟩
        rw [List.mem_singleton] at hb
        exact h (hb ▸ e ▸ ha))
      refine ⟨ks', vs', e, n, by rw [List.length_append, List.length_singleton] at le; rw [List.length_cons]; omega, fun l => ?_⟩
      rw [q l, List.mem_cons, List.mem_append, List.mem_singleton, or_assoc]
/-! ### sorted -/
theorem allInts_nat (l : List Nat) : allInts (l.map dN) = some (l.map fun (n : Nat) => (n : Int)) := by
  induction l with
  | nil => rfl
  | cons x l ih =>
    show (allInts (l.map dN)).map ((x : Int) :: ·) = _
    rw [ih]
    rfl
def trI (t : Tr) : List Int := [(t.1 : Int), (t.2.1 : Int), (t.2.2 : Int)]
theorem trI_inj {a b : Tr} (h : trI a = trI b) : a = b := by
  obtain ⟨a1, a2, a3⟩ := a
  obtain ⟨b1, b2, b3⟩ := b
  injection h with h1 h
  injection h with h2 h
  injection h with h3 h
  simp only at h1 h2 h3
  rw [show a1 = b1 by omega, show a2 = b2 by omega, show a3 = b3 by omega]
theorem allTI_trs (l : List Tr) : allTI (l.map eTr) = some (l.map trI) := by
  induction l with
  | nil => rfl
  | cons x l ih =>
    show (tupIs (eTr x)).bind (fun ns => if ns = [] then none else (allTI (l.map eTr)).map fun r => ns :: r) = _
    rw [ih]
    rfl
/-- sorted of triples: the one ascending rearrangement -/
theorem dSorted_trs {l m : List Tr} (hp : l.Perm m) (ha : Asc ltL (m.map trI)) : dSorted [.lst (l.map eTr)] = some (.lst (m.map eTr)) := by
  cases l with
  | nil =>
    have : m = [] := (List.Perm.nil_eq hp).symm
    subst this
    rfl
  | cons t l =>
    have e1 : allInts ((t :: l).map eTr) = none := rfl
    have e2 : dSorted [.lst ((t :: l).map eTr)] = (allTI ((t :: l).map eTr)).map fun nss => .lst ((isG ltL nss).map fun ns => .tup (ns.map .int)) := by simp only [dSorted, e1]
    rw [e2, allTI_trs, mapS]
    have e3 : isG ltL ((t :: l).map trI) = m.map trI := asc_uniq ltL_anti ((isG_perm _).trans (hp.map trI)) (isG_asc ltL_swo _) ha
    rw [e3, List.map_map]
    rfl
theorem asc_filter {l : List Tr} (p : Tr → Bool) (h : Asc ltL (l.map trI)) : Asc ltL ((l.filter p).map trI) := by
  exact List.pairwise_map.mpr ((List.pairwise_map.mp h).filter p)
theorem tri_asc (m : Nat) : Asc ltL ((tri m).map trI) := by
  refine List.pairwise_map.mpr ?_
  unfold tri
  have key : ∀ a b c x y z : Nat, (a < x ∨ (a = x ∧ (b < y ∨ (b = y ∧ c ≤ z)))) → ltL (trI (x, y, z)) (trI (a, b, c)) = false := by
    intro a b c x y z h
    show (if (x : Int) = a then (if (y : Int) = b then (if (z : Int) = c then false else decide ((z : Int) < c)) else decide ((y : Int) < b)) else decide ((x : Int) < a)) = false
    by_cases h1 : (x : Int) = a
    · rw [if_pos h1]
      by_cases h2 : (y : Int) = b
      · rw [if_pos h2]
        split
        · rfl
        · exact decide_eq_false (by omega)
      · rw [if_neg h2]
        exact decide_eq_false (by omega)
    · rw [if_neg h1]
      exact decide_eq_false (by omega)
  have hr : (List.range m).Pairwise (· < ·) := List.pairwise_lt_range
  rw [List.pairwise_flatMap]
  refine ⟨fun x _ => ?_, hr.imp fun {x y} hxy t ht u hu => ?_⟩
  · rw [List.pairwise_flatMap]
    refine ⟨fun y _ => ?_, hr.imp fun {y y'} hyy t ht u hu => ?_⟩
    · rw [List.pairwise_map]
      exact hr.imp fun {z z'} hz => key _ _ _ _ _ _ (.inr ⟨rfl, .inr ⟨rfl, by omega⟩⟩)
    · obtain ⟨z, _, rfl⟩ := List.mem_map.mp ht
      obtain ⟨z', _, rfl⟩ := List.mem_map.mp hu
      exact key _ _ _ _ _ _ (.inr ⟨rfl, .inl hyy⟩)
  · obtain ⟨b, _, ht⟩ := List.mem_flatMap.mp ht
    obtain ⟨c, _, rfl⟩ := List.mem_map.mp ht
    obtain ⟨b', _, hu⟩ := List.mem_flatMap.mp hu
    obtain ⟨c', _, rfl⟩ := List.mem_map.mp hu
    exact key _ _ _ _ _ _ (.inl hxy)
end DL
/-! PL10: tables by two comprehensions; tables of transformations -/
namespace DL
open PySem L2 TB
theorem tabR {ρ : Env} {i m : Nat} {e row : EM} {f : Nat → Nat → Nat} (hm : m < 1000) (he : e ρ = some (dN m, ρ)) (hb : ∀ x, x < m → row (ρ.set i (some (0, dN x))) = some (eRow m (f x), ρ.set i (some (0, dN x)))) (w1 : ρ.set i none = ρ) (b1 : backE ρ ρ [i] = some ρ) :
    eCall dTuple (aCons (eComp (iRg1 (aCons e aNil)) (gNm i) tYesM (lOne row) [i]) aNil) ρ = some (eT m f, ρ) := by
  have hs := sizeLine_big
  refine eCall_of (a1_of (eComp_map dN (fun x => eRow m (f x)) (iRg1_var he (by omega)) w1 (fun x hx => ?_) b1 (by rw [List.length_range]; omega))) rfl
  refine lMap (lStep_t (gNm_ _ _ _) (tYesM_ _) (lOne_of (hb x (List.mem_range.mp hx)))) ?_
  show (ρ.set i (some (0, dN x))).set i none = ρ
  rw [List.set_set, w1]
theorem rowE {ρ : Env} {j m : Nat} {e body : EM} {f : Nat → Nat} (hm : m < 1000) (he : e ρ = some (dN m, ρ)) (hb : ∀ y, y < m → body (ρ.set j (some (0, dN y))) = some (dN (f y), ρ.set j (some (0, dN y)))) (w1 : ρ.set j none = ρ) (b1 : backE ρ ρ [j] = some ρ) :
    eCall dTuple (aCons (eComp (iRg1 (aCons e aNil)) (gNm j) tYesM (lOne body) [j]) aNil) ρ = some (eRow m f, ρ) := by
  have hs := sizeLine_big
  refine eCall_of (a1_of (eComp_map dN (fun y => dN (f y)) (iRg1_var he (by omega)) w1 (fun y hy => ?_) b1 (by rw [List.length_range]; omega))) rfl
  refine lMap (lStep_t (gNm_ _ _ _) (tYesM_ _) (lOne_of (hb y (List.mem_range.mp hy)))) ?_
  show (ρ.set j (some (0, dN y))).set j none = ρ
  rw [List.set_set, w1]
theorem dTuple_row {m : Nat} (r : Nat → Nat) : dTuple [eRowL m r] = some (eRow m r) := rfl
theorem dTuple_rng {m : Nat} (hm : m < 1000) : dTuple [.rng 0 m] = some (eRow m fun y => y) := by
  show (if ((m : Int) - 0).toNat ≤ 16777216 then some (D.tup (rngD 0 m)) else none) = _
  rw [Int.sub_zero, Int.toNat_natCast, if_pos (by omega)]
  show some (D.tup (rngD 0 m)) = some (D.tup ((List.range m).map dN))
  congr 2
  exact rng0 m
theorem dList_rng {m : Nat} (hm : m < 1000) : dList [.rng 0 m] = some (.lst ((List.range m).map dN)) := by
  show Option.map _ (if ((m : Int) - 0).toNat ≤ 16777216 then some (rngD 0 m) else none) = _
  rw [Int.sub_zero, Int.toNat_natCast, if_pos (by omega)]
  show some (D.lst (rngD 0 m)) = _
  congr 2
  exact rng0 m
/-- the table of a closed list of transformations -/
def mvT (found : List (List Nat)) : Nat → Nat → Nat := fun x y => fidx found (flw (found.getD x []) (found.getD y []))
theorem sg_moves {p : Nat} {gs found : List (List Nat)} (hg : ∀ g ∈ gs, Tf p g) (hm : ∀ f ∈ found, Mk gs f) (hc : ∀ f ∈ found, ∀ g ∈ gs, flw f g ∈ found) (hn : found.Nodup) (h1 : 1 ≤ found.length) : Sg found.length (mvT found) ∧ ∀ x, x < found.length → ∀ y, y < found.length → flw (found.getD x []) (found.getD y []) ∈ found := by
  have hf : ∀ f ∈ found, Tf p f := fun f h => (hm f h).tf hg
  have at_ : ∀ x, x < found.length → found.getD x [] ∈ found := fun x hx => by
    have e : found.getD x [] = found[x] := by simp [hx]
    rw [e]
    exact List.getElem_mem hx
  have cl : ∀ x, x < found.length → ∀ y, y < found.length → flw (found.getD x []) (found.getD y []) ∈ found := fun x hx y hy => mk_closed hg hf hc (hm _ (at_ y hy)) _ (at_ x hx)
  have val : ∀ x, x < found.length → ∀ y, y < found.length → mvT found x y < found.length ∧ found.getD (mvT found x y) [] = flw (found.getD x []) (found.getD y []) := fun x hx y hy => by
    have q := (fidx_of (cl x hx y hy)).2
    obtain ⟨h2, e⟩ := List.getElem?_eq_some_iff.mp q
    refine ⟨h2, ?_⟩
    have gd : ∀ i (h : i < found.length), found.getD i [] = found[i] := fun i h => by simp [h]
    exact (gd _ h2).trans e
  have uniq : ∀ x, x < found.length → ∀ y, y < found.length → found.getD x [] = found.getD y [] → x = y := fun x hx y hy e => by
    have e1 : found.getD x [] = found[x] := by simp [hx]
    have e2 : found.getD y [] = found[y] := by simp [hy]
    rw [e1, e2] at e
    exact (List.getElem_inj hn).mp e
  refine ⟨⟨h1, fun x hx y hy => (val x hx y hy).1, fun x hx y hy z hz => ?_⟩, cl⟩
  obtain ⟨a1, a2⟩ := val x hx y hy
  obtain ⟨b1, b2⟩ := val y hy z hz
  obtain ⟨c1, c2⟩ := val _ a1 z hz
  obtain ⟨d1, d2⟩ := val x hx _ b1
  refine uniq _ c1 _ d1 ?_
  rw [c2, d2, a2, b2, flw_as (hf _ (at_ x hx)) (hf _ (at_ y hy))]
/-- names, from a list that has each number once -/
theorem nm_of {m : Nat} {ns : List Nat} (hp : ns.Perm (List.range m)) : Nm m (fun x => ns.getD x 0) (fun x => fidx ns x) := by
  have hl : ns.length = m := by rw [hp.length_eq, List.length_range]
  have hn : ns.Nodup := hp.nodup_iff.mpr List.nodup_range
  have mem : ∀ x, x < m → x ∈ ns := fun x hx => hp.mem_iff.mpr (List.mem_range.mpr hx)
  have gd : ∀ x (h : x < ns.length), ns.getD x 0 = ns[x] := fun x h => by simp [h]
  have bx : ∀ x, x < m → ∃ h : fidx ns x < ns.length, ns[fidx ns x] = x := fun x hx => List.getElem?_eq_some_iff.mp (fidx_of (mem x hx)).2
  refine ⟨fun x hx => ?_, fun x hx => ?_, fun x hx => ?_, fun x hx => ?_⟩
  · show ns.getD x 0 < m
    rw [gd x (by omega)]
    exact List.mem_range.mp (hp.mem_iff.mp (List.getElem_mem _))
  · have := (bx x hx).1
    show fidx ns x < m
    omega
  · obtain ⟨h, e⟩ := bx x hx
    show ns.getD (fidx ns x) 0 = x
    rw [gd _ h, e]
  · show fidx ns (ns.getD x 0) = x
    have hx' : x < ns.length := by omega
    have hlt : ns.getD x 0 < m := by
      rw [gd x hx']
      exact List.mem_range.mp (hp.mem_iff.mp (List.getElem_mem _))
    obtain ⟨h, e⟩ := bx _ hlt
    exact (List.getElem_inj hn).mp (e.trans (gd x hx'))
end DL
/-! PL11: dicts of numbers as sets; slices of numbers; len(set(..)) -/
namespace DL
open PySem L2 TB
theorem kfind_ks (i : Nat) (ks : List Nat) : (kfind keyD (ks.map dN) (.inl (i : Int))).isSome = decide (i ∈ ks) := by
  have := kfind_nat_some i (ks.map fun k => (k, 0))
  rw [List.map_map, List.map_map, show ((fun p : Nat × Nat => dN p.1) ∘ fun k => (k, 0)) = dN from rfl, show ((fun p : Nat × Nat => p.1) ∘ fun k => (k, 0)) = id from rfl, List.map_id] at this
  exact this
theorem dput_ks (i : Nat) (ks : List Nat) (vs : List D) (d : D) : ∃ (ks' : List Nat) (vs' : List D), dput false (ks.map dN) vs (.int (i : Int)) d = some (ks'.map dN, vs') ∧ (ks.Nodup → ks'.Nodup) ∧ ks'.length ≤ ks.length + 1 ∧ ∀ l, l ∈ ks' ↔ l ∈ ks ∨ l = i := by
  show ∃ (ks' : List Nat) (vs' : List D), ((keyD (dN i)).map fun k => dputK keyD (ks.map dN) vs k (dN i) d) = _ ∧ _
  rw [keyD_nat, mapS]
  unfold dputK
  rw [kfind_ks]
  by_cases h : i ∈ ks
  · rw [if_pos (decide_eq_true h)]
    exact ⟨ks, _, rfl, id, Nat.le_succ _, fun l => ⟨.inl, fun q => q.elim id fun e => e ▸ h⟩⟩
  · rw [if_neg (by simpa using h)]
    refine ⟨ks ++ [i], vs ++ [d], by simp, fun n => ?_, by simp, fun l => by simp⟩
    rw [List.nodup_append]
    refine ⟨n, by simp, fun a ha b hb e => ?_⟩
    rw [List.mem_singleton] at hb
    exact h (hb ▸ e ▸ ha)
theorem dctOf_ks : ∀ (ls ks : List Nat) (vs : List D), ∃ (ks' : List Nat) (vs' : List D), dctOf false (ls.map fun l => .tup [dN l, .bl true]) (ks.map dN, vs) = some (ks'.map dN, vs') ∧ (ks.Nodup → ks'.Nodup) ∧ ks'.length ≤ ks.length + ls.length ∧ ∀ l, l ∈ ks' ↔ l ∈ ks ∨ l ∈ ls
  | [], ks, vs => ⟨ks, vs, rfl, id, Nat.le_refl _, fun l => by simp⟩
  | u :: ls, ks, vs => by
    obtain ⟨k1, v1, e1, n1, l1, m1⟩ := dput_ks u ks vs (.bl true)
    obtain ⟨k2, v2, e2, n2, l2, m2⟩ := dctOf_ks ls k1 v1
    refine ⟨k2, v2, ?_, fun h => n2 (n1 h), by rw [List.length_cons]; omega, fun l => ?_⟩
    · rw [List.map_cons]
      show ((dput false (ks.map dN) vs (dN u) (.bl true)).bind fun a => dctOf false (ls.map fun l => .tup [dN l, .bl true]) a) = _
      rw [e1]
      exact e2
    · rw [m2, m1, List.mem_cons, or_assoc]
theorem dDict_ks {ls : List Nat} (hl : ls.length ≤ 1000) : ∃ (ks : List Nat) (vs : List D), dDict false [.lst (ls.map fun l => .tup [dN l, .bl true])] = some (.dct false (ks.map dN) vs) ∧ ks.Nodup ∧ ks.length ≤ ls.length ∧ ∀ l, l ∈ ks ↔ l ∈ ls := by
  have hs := sizeLine_big
  obtain ⟨ks, vs, e, n, l, m⟩ := dctOf_ks ls [] []
  refine ⟨ks, vs, ?_, n List.nodup_nil, by simpa using l, fun x => by rw [m]; simp⟩
  simp only [dDict]
  rw [if_pos (by rw [List.length_map]; omega)]
  show Option.map _ (dctOf false (ls.map fun l => .tup [dN l, .bl true]) (([] : List Nat).map dN, [])) = _
  rw [e]
  rfl
theorem dSorted_ks {ks : List Nat} {vs : List D} (h : ks.length < 64) : ∃ ss : List Nat, dSorted [.dct false (ks.map dN) vs] = some (.lst (ss.map dN)) ∧ ss.Perm ks := by
  show ∃ ss : List Nat, ((allInts (ks.map dN)).bind fun is => if is.length < 64 then some (D.lst ((isG ltI is).map .int)) else none) = _ ∧ _
  rw [allInts_nat, bindS, if_pos (by rw [List.length_map]; exact h)]
  obtain ⟨ss, e, p⟩ := perm_map (fun (n : Nat) => (n : Int)) (isG_perm (lt := ltI) (ks.map fun (n : Nat) => (n : Int))) rfl
  refine ⟨ss, ?_, p⟩
  rw [e, List.map_map]
  rfl
theorem sDSet_of {s : Nat} {f fy : EM} {ρ ρ1 ρ2 : Env} {d y : D} {r0 : Bool × List D × List D} {t : Bool} {ks xs ks' xs' : List D} (h1 : f ρ = some (d, ρ1)) (h0 : DL.getD s ρ1 = some r0) (h2 : fy ρ1 = some (y, ρ2)) (h3 : DL.getD s ρ2 = some (t, ks, xs)) (hl : ks.length < sizeLine) (h4 : dput t ks xs y d = some (ks', xs')) :
    sDSet s f fy ρ = some (.nx (ρ2.set s (some (1, .dct t ks' xs')))) := by
  rw [sDSet_, h1, bindS]
  show Option.bind (DL.getD s ρ1) _ = _
  rw [h0, bindS]
  show Option.bind (fy ρ1) _ = _
  rw [h2, bindS]
  show Option.bind (DL.getD s ρ2) _ = _
  rw [h3, bindS]
  show (if ks.length < sizeLine then _ else none) = _
  rw [if_pos hl]
  show Option.map _ (dput t ks xs y d) = _
  rw [h4]
  rfl
theorem iLst_dct {f : EM} {ρ ρ1 : Env} {t : Bool} {ks vs : List D} (h : f ρ = some (.dct t ks vs, ρ1)) (hk : iLst' (fun r => some (.dct t ks vs, r)) ρ1 = some (ks, ρ1)) : iLst' f ρ = some (ks, ρ1) := by
  rw [iLst'_] at hk ⊢
  rw [h]
  exact hk
theorem eLenSet_nat {f : EM} {ρ ρ1 : Env} {ms : List Nat} {d : D} (h : f ρ = some (d, ρ1)) (sq : Sq (ms.map dN) d) (hn : ms.Nodup) (hl : ms.length ≤ 1000) : eLenSet f ρ = some (dN ms.length, ρ1) := by
  have hn' : (ms.map fun (n : Nat) => (n : Int)).Nodup := nodup_map hn fun x _ y _ e => by omega
  unfold eLenSet
  rw [h, bindS]
  rcases sq with rfl | rfl
  · show ((allInts (ms.map dN)).bind fun ns => if ns.Nodup ∧ ns.length ≤ 4000 then some (D.int ((dedupI ns).length : Nat), ρ1) else none) = _
    rw [allInts_nat, bindS, if_pos ⟨hn', by rw [List.length_map]; omega⟩, dedupI_of hn', List.length_map]
  · show ((allInts (ms.map dN)).bind fun ns => if ns.length ≤ 4000 then some (D.int ((dedupI ns).length : Nat), ρ1) else none) = _
    rw [allInts_nat, bindS, if_pos (by rw [List.length_map]; omega), dedupI_of hn', List.length_map]
theorem cutD_map {α β : Type} (f : α → β) (xs : List α) (lo hi : Option Int) : cutD (xs.map f) lo hi = (cutD xs lo hi).map f := by
  unfold cutD
  rw [List.length_map, List.map_take, List.map_drop]
theorem cutD_sub {α : Type} (xs : List α) (lo hi : Option Int) : (cutD xs lo hi).Sublist xs := (List.take_sublist _ _).trans (List.drop_sublist _ _)
theorem dSl_cut {lo hi : Option Int} {ns : List Nat} : dSl lo hi (.lst (ns.map dN)) = some (.lst ((cutD ns lo hi).map dN)) := by
  show some (D.lst (cutD (ns.map dN) lo hi)) = _
  rw [cutD_map]
theorem stepL_map {α β : Type} (f : α → β) (xs : List α) (lo hi : Option Int) : stepL (xs.map f) lo hi = (stepL xs lo hi).map f := by
  unfold stepL
  rw [List.length_map, List.map_filterMap]
  congr 1
  funext i
  rw [List.getElem?_map]
theorem stepL_mem {α : Type} {xs : List α} {lo hi : Option Int} {x : α} (h : x ∈ stepL xs lo hi) : x ∈ xs := by
  unfold stepL at h
  obtain ⟨i, _, e⟩ := List.mem_filterMap.mp h
  exact List.mem_of_getElem? e
theorem picks_nodup {α : Type} {xs : List α} (hx : xs.Nodup) : ∀ {is : List Nat}, is.Nodup → (is.filterMap fun i => xs[i]?).Nodup
  | [], _ => List.nodup_nil
  | i :: is, h => by
    obtain ⟨h1, h2⟩ := List.nodup_cons.mp h
    rw [List.filterMap_cons]
    cases e : xs[i]? with
    | none => exact picks_nodup hx h2
    | some x =>
      refine List.nodup_cons.mpr ⟨fun q => ?_, picks_nodup hx h2⟩
      obtain ⟨j, hj, e2⟩ := List.mem_filterMap.mp q
      obtain ⟨a1, a2⟩ := List.getElem?_eq_some_iff.mp e
      obtain ⟨b1, b2⟩ := List.getElem?_eq_some_iff.mp e2
      have : i = j := (List.getElem_inj hx).mp (a2.trans b2.symm)
      exact h1 (this ▸ hj)
theorem stepIx_20 : ∀ n, n < 11 → (stepIx n (some 2) (some 0)).Nodup ∧ (stepIx n (some 2) (some 0)).length ≤ n := by decide +kernel
theorem eSlM_of {f : EM} {l h : OM} {ρ ρ1 ρ2 ρ3 : Env} {lo hi : Option Int} {ns : List Nat} (h1 : f ρ = some (.lst (ns.map dN), ρ1)) (h2 : l ρ1 = some (lo, ρ2)) (h3 : h ρ2 = some (hi, ρ3)) (hl : (stepIx ns.length lo hi).length ≤ ns.length) : eSlM f l h ρ = some (.lst ((stepL ns lo hi).map dN), ρ3) := by
  unfold eSlM
  rw [h1, bindS]
  show Option.bind (l ρ1) _ = _
  rw [h2, bindS]
  show Option.bind (h ρ2) _ = _
  rw [h3, bindS]
  show (if (stepL (ns.map dN) lo hi).length ≤ (ns.map dN).length then some (D.lst (stepL (ns.map dN) lo hi), ρ3) else none) = _
  rw [stepL_map, if_pos]
  rw [List.length_map, List.length_map]
  exact Nat.le_trans (stepL_length ns lo hi) hl
theorem eRevL_of {f : EM} {ρ ρ1 : Env} {ns : List Nat} (h1 : f ρ = some (.lst (ns.map dN), ρ1)) : eRevL f ρ = some (.lst (ns.reverse.map dN), ρ1) := by
  unfold eRevL
  rw [h1, bindS]
  show some (D.lst (ns.map dN).reverse, ρ1) = _
  rw [List.map_reverse]
/-- numbers below m, each once -/
def Ms (m : Nat) (ms : List Nat) : Prop := ms.Nodup ∧ ∀ x ∈ ms, x < m
theorem Ms.sub {m : Nat} {ms ns : List Nat} (h : Ms m ns) (s : ms.Sublist ns) : Ms m ms := ⟨s.nodup h.1, fun x hx => h.2 x (s.subset hx)⟩
theorem Ms.len {m : Nat} {ms : List Nat} (h : Ms m ms) : ms.length ≤ m := by
  have p : ((List.range m).filter fun x => decide (x ∈ ms)).Perm ms := (List.perm_ext_iff_of_nodup (List.nodup_range.filter _) h.1).mpr fun x => by
    rw [List.mem_filter, List.mem_range, decide_eq_true_iff]
    exact ⟨fun q => q.2, fun q => ⟨h.2 x q, q⟩⟩
  rw [← p.length_eq]
  exact Nat.le_trans (List.length_filter_le _ _) (by rw [List.length_range]; exact Nat.le_refl _)
theorem Ms.full {m : Nat} {ms : List Nat} (h : Ms m ms) (hl : ms.length = m) : ∀ x, x < m → x ∈ ms := by
  have p : ((List.range m).filter fun x => decide (x ∈ ms)).Perm ms := (List.perm_ext_iff_of_nodup (List.nodup_range.filter _) h.1).mpr fun x => by
    rw [List.mem_filter, List.mem_range, decide_eq_true_iff]
    exact ⟨fun q => q.2, fun q => ⟨h.2 x q, q⟩⟩
  have e := p.length_eq
  rw [hl] at e
  have e2 : ((List.range m).filter fun x => decide (x ∈ ms)).length = (List.range m).length := by rw [e, List.length_range]
  intro x hx
  exact of_decide_eq_true ((List.length_filter_eq_length_iff.mp e2) x (List.mem_range.mpr hx))
theorem Ms.perm {m : Nat} {ns : List Nat} (h : ns.Perm (List.range m)) : Ms m ns := ⟨h.nodup_iff.mpr List.nodup_range, fun x hx => List.mem_range.mp (h.mem_iff.mp hx)⟩
end DL
namespace K02
open PySem L2 DL TB
/-- a box: what is left, whether it is great, its rest, how often it was asked -/
def Bx (N : Nat) (b : D) : Prop := ∃ (a : Int) (f : Bool) (c : Int) (n : Nat), b = .lst [.int a, .bl f, .int c, .int n] ∧ 0 ≤ c ∧ c < 2147483629 ∧ n ≤ N
theorem Bx.mono {N M : Nat} {b : D} (h : Bx N b) (l : N ≤ M) : Bx M b := by
  obtain ⟨a, f, c, n, e, h1, h2, h3⟩ := h
  exact ⟨a, f, c, n, e, h1, h2, Nat.le_trans h3 l⟩
theorem fmod_pos {a m : Int} (h : 0 < m) : 0 ≤ a.fmod m ∧ a.fmod m < m := by
  rw [Int.fmod_eq_emod_of_nonneg a (Int.le_of_lt h)]
  exact ⟨Int.emod_nonneg a (by omega), Int.emod_lt_of_pos a h⟩
theorem ix0 (x : D) (l : List D) : atI (x :: l) 0 = some x := atI_nat (x :: l) 0
theorem ix1 (x y : D) (l : List D) : atI (x :: y :: l) 1 = some y := atI_nat (x :: y :: l) 1
theorem ix2 (x y z : D) (l : List D) : atI (x :: y :: z :: l) 2 = some z := atI_nat (x :: y :: z :: l) 2
theorem ix3 (x y z w : D) (l : List D) : atI (x :: y :: z :: w :: l) 3 = some w := atI_nat (x :: y :: z :: w :: l) 3
theorem take_ok {N : Nat} {b : D} (hb : Bx N b) (hN : N < 2 ^ 30) {m : Nat} (h1 : 1 ≤ m) (h2 : m < 1073741824) :
    ∃ (d : Nat) (b' : D), G__law_take [b, .int m] = some (.int d, [some (1, b'), none]) ∧ d < m ∧ Bx (N + 1) b' := by
  obtain ⟨a, f, c, n, rfl, c1, c2, hn⟩ := hb
  have hm : (0 : Int) < (m : Int) := by omega
  have hm0 : ¬ (m : Int) = 0 := by omega
  have hm1 : ((m : Int)).natAbs < 1073741824 := by omega
  have hmn : ¬ m = 0 := by omega
  by_cases hbig : f = true ∧ 0 < a
  · obtain ⟨rfl, ha⟩ := hbig
    obtain ⟨q1, q2⟩ := fmod_pos (a := a) hm
    refine ⟨(a.fmod m).toNat, .lst [.int (a.fdiv m), .bl true, .int c, .int n], ?_, by omega, ⟨_, _, _, _, rfl, c1, c2, by omega⟩⟩
    rw [Int.toNat_of_nonneg q1]
    simp [G__law_take, F__law_take, envOf, ix0, ix1, ix2, ix3, ha, hm0, hm1, hmn, h2, ixN, outE]
  · have hs : (f && decide (0 < a)) = false := by
      cases f with
      | false => rfl
      | true => simpa using fun z => hbig ⟨rfl, z⟩
    have e1 : (c + 15486059 * ((n : Int) + 1) + 179424971).natAbs < 2 ^ 64 := by omega
    generalize hx : ((c + 15486059 * ((n : Int) + 1) + 179424971) ^ 5).fmod 2147483647 = x
    have hx2 : 0 ≤ x ∧ x < 2147483647 := by rw [← hx]; exact fmod_pos (by decide)
    have e2 : (x * 48271 + 104947 * ((n : Int) + 1)).natAbs < 2 ^ 64 := by omega
    have hp : (2 : Int) ^ 64 = 18446744073709551616 := by decide
    generalize hy : (((x * 48271 + 104947 * ((n : Int) + 1)) ^ 3).fmod 2147483587).fdiv 64 = y
    obtain ⟨q1, q2⟩ := fmod_pos (a := y) hm
    refine ⟨(y.fmod m).toNat, .lst [.int a, .bl f, .int c, .int ((n + 1 : Nat) : Int)], ?_, by omega, ⟨_, _, _, _, rfl, c1, c2, by omega⟩⟩
    rw [Int.toNat_of_nonneg q1, ← hy, ← hx]
    cases f with
    | false => simp [G__law_take, F__law_take, envOf, ix0, ix1, ix2, ix3, hm0, hm1, hmn, h2, ixN, outE, e1, hx, e2]
    | true => 
      have ha : ¬ 0 < a := fun z => hbig ⟨rfl, z⟩
      simp [G__law_take, F__law_take, envOf, ix0, ix1, ix2, ix3, ha, hm0, hm1, hmn, h2, ixN, outE, e1, hx, e2]
def MP (N : Nat) (xs : List D) (ds : List D) (ρ : DL.Env) : Prop := ∃ b left found t, ρ = [some (1, b), some (0, .lst xs), some (1, .lst left), some (1, .lst found), t] ∧ left.length = ds.length ∧ (found ++ left).Perm xs ∧ Bx (N + found.length) b
theorem mixed_run {b b2 : D} {xs left found : List D} {d : D} {k : Nat} (hk : k < left.length) (hl : left.length < 1073741824) (hf : found.length < sizeLine) (e : G__law_take [b, .int left.length] = some (.int k, [some (1, b2), none])) :
    sExpr (eMeth 3 gAppend (aCons (eMeth 2 gPop (aCons (eCallD [some 0, none] [1, 0] (acOwn 0 (acCons (eCall dLen (aCons (eVar 2 1) aNil)) acNil)) G__law_take) aNil)) aNil)) [some (1, b), some (0, .lst xs), some (1, .lst left), some (1, .lst found), some (0, d)] =
      some (.nx [some (1, b2), some (0, .lst xs), some (1, .lst (left.eraseIdx k)), some (1, .lst (found ++ [left[k]])), some (0, d)]) := by
  have e1 : eCallD [some 0, none] [1, 0] (acOwn 0 (acCons (eCall dLen (aCons (eVar 2 1) aNil)) acNil)) G__law_take [some (1, b), some (0, .lst xs), some (1, .lst left), some (1, .lst found), some (0, d)] = some (.int k, [some (1, b2), some (0, .lst xs), some (1, .lst left), some (1, .lst found), some (0, d)]) := (eCallD_of (ρ1 := [some (1, b), some (0, .lst xs), some (1, .lst left), some (1, .lst found), some (0, d)]) (as := [.non, .int left.length]) rfl rfl e).trans rfl
  have e2 := eMeth_of (s := 2) (g := gPop) (getL2 _ _ _ _) (a1_of e1) (getL2 _ _ _ _) (pop_ok hk hl)
  have e3 := eMeth_of (s := 3) (g := gAppend) (getL3 _ _ _ _ _) (a1_of e2) (getL3 _ _ _ _ _) (gAppend_ok hf)
  unfold sExpr
  rw [e3]
  rfl
theorem mixed_ok {N : Nat} {b : D} {xs : List D} (hb : Bx N b) (hN : N + xs.length < 2 ^ 20) : ∃ (ys : List D) (b' : D), G__law_mixed [b, .lst xs] = some (.lst ys, [some (1, b'), none]) ∧ ys.Perm xs ∧ Bx (N + xs.length) b' := by
  have hs : sizeLine = 16777216 := by rw [sizeLine_eq]
  have loop := forM_inv (g := gNm 4) (F := sExpr (eMeth 3 gAppend (aCons (eMeth 2 gPop (aCons (eCallD [some 0, none] [1, 0] (acOwn 0 (acCons (eCall dLen (aCons (eVar 2 1) aNil)) acNil)) G__law_take) aNil)) aNil)))
    (MP N xs) (fun d ds ρ h => by
      obtain ⟨b, left, found, t, rfl, h1, h2, h3⟩ := h
      have hlen := h2.length_eq
      rw [List.length_append] at hlen
      rw [List.length_cons] at h1
      obtain ⟨k, b2, e, hk, hb2⟩ := take_ok h3 (by omega) (m := left.length) (by omega) (by omega)
      refine ⟨[some (1, b), some (0, .lst xs), some (1, .lst left), some (1, .lst found), some (0, d)], [some (1, b2), some (0, .lst xs), some (1, .lst (left.eraseIdx k)), some (1, .lst (found ++ [left[k]])), some (0, d)], rfl, .inl ?_, _, _, _, _, rfl, ?_, ?_, ?_⟩
      · exact mixed_run hk (by omega) (by rw [hs]; omega) e
      · rw [List.length_eraseIdx_of_lt hk]; omega
      · refine List.Perm.trans ?_ h2
        rw [List.append_assoc]
        exact List.Perm.append_left found (perm_erase left k hk)
      · rw [List.length_append, List.length_singleton, ← Nat.add_assoc]
        exact hb2)
  obtain ⟨ρ', e, b', left, found, t, rfl, h1, h2, h3⟩ := loop (rngL 0 xs.length) [some (1, b), some (0, .lst xs), some (1, .lst xs), some (1, .lst []), none] ⟨b, xs, [], none, rfl, by rw [rngL_length], List.Perm.refl _, by simpa using hb⟩
  have hl0 : left = [] := List.length_eq_zero_iff.mp h1
  subst hl0
  rw [List.append_nil] at h2
  refine ⟨found, b', ?_, h2, by rw [← h2.length_eq]; exact h3⟩
  have er : iRg1 (aCons (eCall dLen (aCons (eVar 1 0) aNil)) aNil) [some (1, b), some (0, .lst xs), some (1, .lst xs), some (1, .lst []), none] = some (rngL 0 xs.length, [some (1, b), some (0, .lst xs), some (1, .lst xs), some (1, .lst []), none]) := iRg1_of (by simp) (by omega)
  have e0 : F__law_mixed [some (1, b), some (0, .lst xs), none, none, none] = some (.rt (.lst found) [some (1, b'), some (0, .lst xs), some (1, .lst []), none, t]) := by
    unfold F__law_mixed
    rw [sSeq_]
    have e1 : sPar 2 3 1 1 (eCall dList (aCons (eVar 1 0) aNil)) (eC (.lst [])) [some (1, b), some (0, .lst xs), none, none, none] = some (.nx [some (1, b), some (0, .lst xs), some (1, .lst xs), some (1, .lst []), none]) := rfl
    rw [e1, bindS]
    show sSeq _ _ _ = _
    rw [sSeq_, sFor_, er, bindS]
    show Option.bind (forM _ _ (rngL 0 xs.length) _) _ = _
    rw [e]
    rfl
  unfold G__law_mixed
  rw [defG_]
  have e3 : envOf [1, 0] [b, .lst xs] ++ List.replicate (5 - [1, 0].length) none = [some (1, b), some (0, .lst xs), none, none, none] := rfl
  rw [e3, e0]
  rfl
end K02
namespace K02
open PySem L2 DL TB
theorem is_integer_ok (a : Int) : G_is_integer [.int a] = some (.bl true, [none]) := rfl
theorem is_within_ok (a lo hi : Int) : G_is_within [.int a, .int lo, .int hi] = some (.bl (decide (lo ≤ a) && decide (a ≤ hi)), [none, none, none]) := by
  have e : G_is_integer [.int a] = some (.bl true, [none]) := rfl
  simp [G_is_within, F_is_within, envOf, fillA, e, putB, outE]
  by_cases h : lo ≤ a <;> simp [h, outE]
theorem is_index_ok (a : Int) (m : Nat) : G_is_index [.int a, .int m] = some (.bl (decide (0 ≤ a) && decide (a < m)), [none, none]) := by
  have e : G_is_within [.int a, .int 0, .int ((m : Int) - 1)] = some (.bl (decide (0 ≤ a) && decide (a < m)), [none, none, none]) := by
    rw [is_within_ok]
    have : decide (a ≤ (m : Int) - 1) = decide (a < m) := by
      by_cases h : a < m
      · rw [decide_eq_true h, decide_eq_true (by omega)]
      · rw [decide_eq_false h, decide_eq_false (by omega)]
    rw [this]
  simp [G_is_index, F_is_index, envOf, fillA, e, putB, outE]
theorem dEq_int (a b : Int) : dEq (.int a) (.int b) = some (.bl (decide (a = b))) := by
  have e : dEqB (.int a) (.int b) = some (decide (a = b)) := dEqB_dat a b
  unfold dEq
  rw [e]
  rfl
theorem dNe_int (a b : Int) : dNe (.int a) (.int b) = some (.bl (!decide (a = b))) := by
  have e : dEqB (.int a) (.int b) = some (decide (a = b)) := dEqB_dat a b
  unfold dNe
  rw [e]
  rfl
theorem isi_tup (ds : List D) : dIsi [.tup ds, .ty "tuple"] = some (.bl true) := rfl
theorem is_tuple_ok (ds : List D) (m : Nat) : G_is_tuple [.tup ds, .int m] = some (.bl (decide (ds.length = m)), [none, none]) := by
  have e : dEq (.int (ds.length : Nat)) (.int m) = some (.bl (decide (ds.length = m))) := by
    rw [dEq_int]
    have q : decide (((ds.length : Nat) : Int) = (m : Int)) = decide (ds.length = m) := decide_eq_decide.mpr (by omega)
    rw [q]
  simp [G_is_tuple, F_is_tuple, envOf, isi_tup, e, outE]
theorem is_index_nat (a m : Nat) : G_is_index [.int a, .int m] = some (.bl (decide (a < m)), [none, none]) := by
  rw [is_index_ok]
  have : (decide ((0 : Int) ≤ (a : Int)) && decide ((a : Int) < (m : Int))) = decide (a < m) := by
    rw [← Bool.decide_and]
    exact decide_eq_decide.mpr (by omega)
  rw [this]
theorem is_list_tup (ds : List D) : G_is_list [.tup ds] = some (.bl true, [none]) := rfl
theorem is_list_lst (ds : List D) : G_is_list [.lst ds] = some (.bl true, [none]) := rfl
theorem are_elements_ok (xs : List Nat) (m : Nat) (hl : xs.length ≤ sizeLine) : G_are_elements [.tup (xs.map dN), .int m] = some (.bl (xs.all fun x => decide (x < m)), [none, none]) := by
  have c : eComp (iLst' (eVar 0 0)) (gNm 2) tYesM (lOne (eCallD [none, none] [0, 0] (acCons (eVar 2 0) (acCons (eVar 1 0) acNil)) G_is_index)) [2] [some (0, .tup (xs.map dN)), some (0, .int m), none] = some (.lst (xs.map fun x => .bl (decide (x < m))), [some (0, .tup (xs.map dN)), some (0, .int m), none]) :=
    eComp_map dN _ rfl rfl (fun x hx => by simp [is_index_nat]) rfl hl
  simp only [G_are_elements, F_are_elements]
  rw [defG_]
  show Option.bind (sRet _ [some (0, .tup (xs.map dN)), some (0, .int m), none]) _ = _
  have e1 : eCallD [none] [0] (acCons (eVar 0 0) acNil) G_is_list [some (0, .tup (xs.map dN)), some (0, .int m), none] = some (.bl true, [some (0, .tup (xs.map dN)), some (0, .int m), none]) := rfl
  rw [sRet_, eAndM_, e1]
  simp only [bindS, truth_bl, if_true, eCall_, aCons_, aNil_, c, mapS, dAll_map]
  rfl
end K02
namespace K02
open PySem L2 DL TB
theorem cell_ok (ns : List Int) (k : Nat) : ∃ c : Int, G__law_cell [.lst (ns.map .int), .int k] = some (.int c, [none, none]) := by
  simp only [G__law_cell, F__law_cell]
  let σ : DL.Env := [some (0, .lst (ns.map .int)), some (0, dN k)]
  have hl : eCall dLen (aCons (eVar 0 0) aNil) σ = some (dN ns.length, σ) := eCall_of (a1_of V) (by rw [dLen_lst, List.length_map])
  by_cases h : k < ns.length
  · refine ⟨ns[k], defG_rt (sRet_of (ρ1 := σ) ((eIf_t (ρ1 := σ) (tCmp_of (b := true) V hl (dCmp_of (decide_eq_true (by omega))))).trans (eIx_of V V ?_)))⟩
    show dIx 0 _ _ = _
    rw [dIx_lst, DL.atI_nat, List.getElem?_map, List.getElem?_eq_getElem h]
    rfl
  · have e1 : dSum [.lst ((ns.map .int).take 1)] = some (.int (ns.take 1).sum) := by
      cases ns with
      | nil => rfl
      | cons a r =>
        simp [dSum, allInts]
    refine ⟨6143 * k + ((ns.take 1).sum.fmod 1000171), defG_rt (sRet_of (ρ1 := σ) ((eIf_f (ρ1 := σ) (tCmp_of (b := false) V hl (dCmp_of (decide_eq_false (by omega))))).trans (eOp2_of (eOp2_of (eC_of _) V ?_) (eOp2_of (eCall_of (a1_of (eCall_of (a1_of (eSl_of V oNo_of (oSo_of (eC_of _)) (dSl_take (k := 1)))) e1)) (dIntC_ _)) (eC_of _) ((dMod_ _ _).trans (if_pos (by decide)))) (dAdd_ _ _))))⟩
    rw [dMul_, if_pos (.inl (by decide))]
theorem box_ok (c : Int) : ∃ b, G__law_box [.int c] = some (b, [none]) ∧ Bx 0 b := by
  simp only [G__law_box, F__law_box]
  let σ : DL.Env := [some (0, .int c)]
  let a : Int := if c < 0 then -c else c
  have e1 : eCall dAbs (aCons (eVar 0 0) aNil) σ = some (.int a, σ) := eCall_of (a1_of V) (dAbs_ c)
  obtain ⟨q1, q2⟩ := fmod_pos (a := a) (m := 2147483629) (by decide)
  refine ⟨.lst [.int a, .bl (decide (1000000000000000000 ≤ a)), .int (a.fmod 2147483629), .int (0 : Nat)], defG_rt (sRet_of (ρ1 := σ) (eLst_of (aCons_of e1 (aCons_of (eOp2_of e1 (eOp2_of (eC_of _) (eC_of _) ?_) (dCmp_ _ _ _)) (a2_of (eOp2_of (eCall_of (a1_of e1) (dIntC_ _)) (eC_of _) ((dMod_ _ _).trans (if_pos (by decide)))) (eC_of _)))))), ⟨_, _, _, 0, rfl, q1, q2, Nat.le_refl _⟩⟩
  rw [dPow_, if_pos (by decide)]
  rfl
end K02
namespace K02
open PySem L2 DL TB
theorem same_bl (n : Nat) (a b : Bool) : G__law_same_n (n + 1) [.bl a, .bl b] = some (.bl (decide (a = b)), [none, none]) := by
  cases a <;> cases b <;> rfl
theorem same_non (n : Nat) : G__law_same_n (n + 1) [.non, .non] = some (.bl true, [none, none]) := rfl
theorem same_int (n : Nat) (a : Int) : G__law_same_n (n + 1) [.int a, .int a] = some (.bl true, [none, none]) := by
  show defG 4 [0, 0] (F__law_same (G__law_same_n n)) [.int a, .int a] = _
  refine defG_rt (ρ1 := [some (0, .int a), some (0, .int a), none, none]) ?_
  show F__law_same _ ([some (0, .int a), some (0, .int a), none, none] : DL.Env) = _
  simp only [F__law_same]
  rw [sSeq_of (sIf_f ((tOr_f (tCmp_of V (eC_of _) rfl)).trans (tValB (isi1 V rfl))))]
  refine sSeq_rt ((sIf_t (tValB (isi1 V rfl))).trans (sRet_of ?_))
  refine (eAnd_t (isi1 V (b := true) rfl) rfl).trans ((eAnd_t (eNot_of (b := false) (isi1 V rfl) rfl) rfl).trans ?_)
  refine eOp2_of (eOp2_of (eCall_of (a1_of V) (dIntC_ a)) V (dSub_ _ _)) (eC_of _) ?_
  rw [Int.sub_self]
  rfl
theorem same_tup {n : Nat} {ds : List D} (hl : ds.length ≤ 1000) (h : ∀ d ∈ ds, G__law_same_n n [d, d] = some (.bl true, [none, none])) : G__law_same_n (n + 1) [.tup ds, .tup ds] = some (.bl true, [none, none]) := by
  have hs := sizeLine_big
  show defG 4 [0, 0] (F__law_same (G__law_same_n n)) [.tup ds, .tup ds] = _
  refine defG_rt (ρ1 := [some (0, .tup ds), some (0, .tup ds), none, none]) ?_
  show F__law_same _ ([some (0, .tup ds), some (0, .tup ds), none, none] : DL.Env) = _
  simp only [F__law_same]
  rw [sSeq_of (sIf_f ((tOr_f (tCmp_of V (eC_of _) rfl)).trans (tValB (isi1 V rfl))))]
  rw [sSeq_of (sIf_f (tValB (isi1 V rfl)))]
  rw [sSeq_of (sIf_f (tValB (isi1 V rfl)))]
  rw [sSeq_of (sIf_f (tValB (isi1 V rfl)))]
  rw [sSeq_of (ρ1 := [some (0, .tup ds), some (0, .tup ds), none, none]) (sIf_f ((tOr_f (tNot_of (b := true) (tValB (eCall_of (a2_of V (eTup_of (a2_of (eC_of _) (eC_of _)))) rfl)))).trans (tNot_of (b := true) (tValB (eCall_of (a2_of V (eTup_of (a2_of (eC_of _) (eC_of _)))) rfl)))))]
  rw [sSeq_of (ρ1 := [some (0, .tup ds), some (0, .tup ds), none, none]) (sIf_f ((tOr_f (tCmp_of (isi1 V (b := false) rfl) (isi1 V (b := false) rfl) ((dNe_bl _ _).trans rfl))).trans (tCmp_of (eCall_of (a1_of V) (dLen_tup ds)) (eCall_of (a1_of V) (dLen_tup ds)) ((dNe_nat ds.length ds.length).trans (by simp)))))]
  refine sRet_of (eOp2_of (x := .lst (((List.range ds.length).filter fun _ => false).map dN)) (y := .lst []) (ρ1 := [some (0, .tup ds), some (0, .tup ds), none, none]) ?_ (eC_of _) ?_)
  · refine eComp_flt dN (fun _ => false) dN (iRg1_len V (dLen_tup ds) (by omega)) rfl (fun i hi => ?_) rfl (by rw [List.length_range]; omega)
    have hi := List.mem_range.mp hi
    have e : dIx (0 - 1) (.tup ds) (.int (i : Int)) = some ds[i] := by
      show dIx 0 (.tup ds) (.int (i : Int)) = some ds[i]
      rw [dIx0_tup, DL.atI_nat, List.getElem?_eq_getElem hi]
    have hq := h ds[i] (List.getElem_mem hi)
    exact lMap (lStep_f (gNm_ _ _ _) (tNot_of (b := true) (tValB (eCallD0 (acCons_of (eIx_of V V e) (acCons_of (eIx_of V V e) rfl)) rfl hq rfl)))) rfl
  · rw [filter_nil_of (fun _ _ => rfl)]
    rfl
theorem same_eT {m : Nat} (hm : m < 11) (T : Nat → Nat → Nat) (n : Nat) : G__law_same_n (n + 3) [eT m T, eT m T] = some (.bl true, [none, none]) := by
  unfold eT
  refine same_tup (by simp; omega) fun d hd => ?_
  obtain ⟨a, _, rfl⟩ := List.mem_map.mp hd
  unfold eRow
  refine same_tup (by simp; omega) fun d hd => ?_
  obtain ⟨b, _, rfl⟩ := List.mem_map.mp hd
  exact same_int n _
end K02
namespace K02
open PySem L2 DL TB
theorem broken_ok {m : Nat} (hm : m < 11) {T : Nat → Nat → Nat} (hT : ∀ x, x < m → ∀ y, y < m → T x y < m) : G__law_broken [eT m T] = some (.lst ((brs m T).map eTr), [none]) := by
  have hs := sizeLine_big
  let row : Nat → Nat → List Tr := fun x y => ((List.range m).filter fun z => brk T (x, y, z)).map fun z => (x, y, z)
  have hrow : ∀ x y, (row x y).length ≤ m := fun x y => by
    show (((List.range m).filter fun z => brk T (x, y, z)).map fun z => (x, y, z)).length ≤ m
    rw [List.length_map]
    exact Nat.le_trans (List.length_filter_le _ _) (by rw [List.length_range]; exact Nat.le_refl _)
  let st : List Tr → Option (Nat × D) → Option (Nat × D) → DL.Env := fun acc x y => [some (0, eT m T), some (0, dN m), some (0, .lst (acc.map eTr)), x, y, none]
  have body : ∀ acc x y, x < m → y < m → acc.length ≤ 90000 → sSet 2 0 (eOp2 dAdd (eVar 2 0) (eComp (iRg1 (aCons (eVar 1 0) aNil)) (gNm 5) (tCmpM dNe (eIx (0 - 1) (eIx (0 - 1) (eVar 0 0) (eIx (0 - 1) (eIx (0 - 1) (eVar 0 0) (eVar 3 0)) (eVar 4 0))) (eVar 5 0)) (eIx (0 - 1) (eIx (0 - 1) (eVar 0 0) (eVar 3 0)) (eIx (0 - 1) (eIx (0 - 1) (eVar 0 0) (eVar 4 0)) (eVar 5 0)))) (lOne (eTup (aCons (eVar 3 0) (aCons (eVar 4 0) (aCons (eVar 5 0) aNil))))) [5])) (st acc (some (0, dN x)) (some (0, dN y))) = some (.nx (st (acc ++ row x y) (some (0, dN x)) (some (0, dN y)))) := by
    intro acc x y hx hy ha
    have c : eComp (iRg1 (aCons (eVar 1 0) aNil)) (gNm 5) (tCmpM dNe (eIx (0 - 1) (eIx (0 - 1) (eVar 0 0) (eIx (0 - 1) (eIx (0 - 1) (eVar 0 0) (eVar 3 0)) (eVar 4 0))) (eVar 5 0)) (eIx (0 - 1) (eIx (0 - 1) (eVar 0 0) (eVar 3 0)) (eIx (0 - 1) (eIx (0 - 1) (eVar 0 0) (eVar 4 0)) (eVar 5 0)))) (lOne (eTup (aCons (eVar 3 0) (aCons (eVar 4 0) (aCons (eVar 5 0) aNil))))) [5] (st acc (some (0, dN x)) (some (0, dN y))) = some (.lst ((row x y).map eTr), st acc (some (0, dN x)) (some (0, dN y))) := by
      show _ = some (D.lst ((((List.range m).filter fun z => brk T (x, y, z)).map fun z => (x, y, z)).map eTr), _)
      rw [List.map_map]
      refine eComp_flt dN (fun z => brk T (x, y, z)) _ (iRg1_var V (by omega)) rfl (fun z hz => ?_) rfl (by rw [List.length_range]; omega)
      have hz := List.mem_range.mp hz
      have e := broken_expr (ρ := [some (0, eT m T), some (0, dN m), some (0, .lst (acc.map eTr)), some (0, dN x), some (0, dN y), some (0, dN z)]) (i := 0) (x := 3) (y := 4) (z := 5) hT rfl rfl rfl rfl hx hy hz
      cases hb : brk T (x, y, z) with
      | true =>
        rw [hb] at e
        exact lMap (lStep_t (gNm_ _ _ _) (tCmpE e) (lOne_of (eTup_of (aCons_of V (aCons_of V (aCons_of V rfl)))))) rfl
      | false =>
        rw [hb] at e
        exact lMap (lStep_f (gNm_ _ _ _) (tCmpE e)) rfl
    refine (sSet_of (eOp2_of V c (dAddL_of (by rw [List.length_map, List.length_map]; have := hrow x y; omega)))).trans ?_
    rw [← List.map_append]
    rfl
  have outer := forM_pre dN (g := gNm 3) (F := sFor (iRg1 (aCons (eVar 1 0) aNil)) (gNm 4) (sSet 2 0 (eOp2 dAdd (eVar 2 0) (eComp (iRg1 (aCons (eVar 1 0) aNil)) (gNm 5) (tCmpM dNe (eIx (0 - 1) (eIx (0 - 1) (eVar 0 0) (eIx (0 - 1) (eIx (0 - 1) (eVar 0 0) (eVar 3 0)) (eVar 4 0))) (eVar 5 0)) (eIx (0 - 1) (eIx (0 - 1) (eVar 0 0) (eVar 3 0)) (eIx (0 - 1) (eIx (0 - 1) (eVar 0 0) (eVar 4 0)) (eVar 5 0)))) (lOne (eTup (aCons (eVar 3 0) (aCons (eVar 4 0) (aCons (eVar 5 0) aNil))))) [5])))) (fun pre ρ => (pre.flatMap fun x => (List.range m).flatMap (row x)).length ≤ pre.length * (m * m) ∧ ∃ x y, ρ = st (pre.flatMap fun x => (List.range m).flatMap (row x)) x y) (List.range m) (fun pre x post ρ e h => by
    obtain ⟨hl, x0, y0, rfl⟩ := h
    have hx : x < m := List.mem_range.mp (by rw [e]; simp)
    have hp : pre.length + 1 ≤ m := by
      have := congrArg List.length e
      simp at this
      omega
    have hmm : m * m ≤ 100 := Nat.mul_le_mul (show m ≤ 10 by omega) (show m ≤ 10 by omega)
    have hpl : pre.length * (m * m) ≤ 10 * 100 := Nat.mul_le_mul (by omega) hmm
    have inner := forM_pre dN (g := gNm 4) (F := sSet 2 0 (eOp2 dAdd (eVar 2 0) (eComp (iRg1 (aCons (eVar 1 0) aNil)) (gNm 5) (tCmpM dNe (eIx (0 - 1) (eIx (0 - 1) (eVar 0 0) (eIx (0 - 1) (eIx (0 - 1) (eVar 0 0) (eVar 3 0)) (eVar 4 0))) (eVar 5 0)) (eIx (0 - 1) (eIx (0 - 1) (eVar 0 0) (eVar 3 0)) (eIx (0 - 1) (eIx (0 - 1) (eVar 0 0) (eVar 4 0)) (eVar 5 0)))) (lOne (eTup (aCons (eVar 3 0) (aCons (eVar 4 0) (aCons (eVar 5 0) aNil))))) [5]))) (fun pre2 ρ => (pre2.flatMap (row x)).length ≤ pre2.length * m ∧ ∃ y, ρ = st ((pre.flatMap fun x => (List.range m).flatMap (row x)) ++ pre2.flatMap (row x)) (some (0, dN x)) y) (List.range m) (fun pre2 y post2 ρ e2 h => by
      obtain ⟨hl2, y1, rfl⟩ := h
      have hy : y < m := List.mem_range.mp (by rw [e2]; simp)
      have hp2 : pre2.length + 1 ≤ m := by
        have := congrArg List.length e2
        simp at this
        omega
      have hpl2 : pre2.length * m ≤ 10 * 10 := Nat.mul_le_mul (by omega) (by omega)
      refine ⟨_, _, rfl, body _ x y hx hy (by rw [List.length_append]; omega), ?_, some (0, dN y), ?_⟩
      · rw [List.flatMap_append, List.length_append, List.flatMap_singleton, List.length_append, List.length_singleton, Nat.add_mul, Nat.one_mul]
        have := hrow x y
        omega
      · rw [List.flatMap_append, List.flatMap_singleton, List.append_assoc]) (ρ := st (pre.flatMap fun x => (List.range m).flatMap (row x)) (some (0, dN x)) y0) ⟨by simp, y0, by rw [List.flatMap_nil, List.append_nil]⟩
    obtain ⟨ρ', e3, hl3, y1, rfl⟩ := inner
    refine ⟨_, _, rfl, sFor_of (iRg1_var V (by omega)) e3, ?_, some (0, dN x), y1, ?_⟩
    · rw [List.flatMap_append, List.length_append, List.flatMap_singleton, List.length_append, List.length_singleton, Nat.add_mul, Nat.one_mul]
      rw [List.length_range] at hl3
      omega
    · rw [List.flatMap_append, List.flatMap_singleton]) (ρ := st [] none none) ⟨by simp, none, none, rfl⟩
  obtain ⟨ρ', e, _, x1, y1, rfl⟩ := outer
  have e9 : ((List.range m).flatMap fun x => (List.range m).flatMap (row x)) = brs m T := by
    unfold brs tri
    rw [List.filter_flatMap]
    congr 1
    funext x
    rw [List.filter_flatMap]
    congr 1
    funext y
    rw [List.filter_map]
    rfl
  rw [e9] at e
  simp only [G__law_broken, F__law_broken]
  refine defG_rt (ρ1 := st (brs m T) x1 y1) ?_
  show sSeq _ _ ([some (0, eT m T), none, none, none, none, none] : DL.Env) = _
  rw [sSeq_of (sPar_of (eCall_of (a1_of V) (eT_len m T)) (eC_of (.lst [])))]
  refine (sSeq_of (sFor_of (ds := (List.range m).map dN) (iRg1_var (ρ := st [] none none) V (by omega)) e)).trans (sRet_of V)
end K02
namespace K02
open PySem L2 DL TB
theorem is_broken_ok {m : Nat} {T : Nat → Nat → Nat} (hT : ∀ x, x < m → ∀ y, y < m → T x y < m) {t : Tr} (ht : t ∈ tri m) : G_is_broken [eT m T, dN t.1, dN t.2.1, dN t.2.2] = some (.bl (brk T t), [none, none, none, none]) := by
  obtain ⟨a, b, c⟩ := t
  obtain ⟨h1, h2, h3⟩ := mem_tri.mp ht
  simp only [G_is_broken, F_is_broken]
  exact defG_rt (sRet_of (broken_expr hT rfl rfl rfl rfl h1 h2 h3))
theorem broken_with_ok {m : Nat} (hm : m < 11) {T : Nat → Nat → Nat} (hT : ∀ x, x < m → ∀ y, y < m → T x y < m) : G_broken_with [eT m T, .lst ((List.range m).map dN)] = some (.lst ((brs m T).map eTr), [none, none]) := by
  have hs := sizeLine_big
  have e3 : eCall dRange (aCons (eCall dLen (aCons (eVar 0 0) aNil)) aNil) ([some (0, eT m T), some (0, .lst ((List.range m).map dN)), none, none, none, none] : DL.Env) = some (.rng 0 m, _) :=
    eCall_of (a1_of (eCall_of (a1_of V) (show dLen [eT m T] = some (dN m) by unfold eT; simp))) (dRange_nat (by omega))
  simp only [G_broken_with, F_broken_with]
  refine defG_rt (ρ1 := [some (0, eT m T), some (0, .lst ((List.range m).map dN)), some (0, .rng 0 m), none, none, none]) ?_
  show sSeq _ _ ([some (0, eT m T), some (0, .lst ((List.range m).map dN)), none, none, none, none] : DL.Env) = _
  rw [sSeq_of (sSet_of e3)]
  refine sRet_of ?_
  show eComp _ _ _ _ _ ([some (0, eT m T), some (0, .lst ((List.range m).map dN)), some (0, .rng 0 m), none, none, none] : DL.Env) = _
  have e9 := flt3 m (brk T)
  show _ = some (D.lst (((tri m).filter (brk T)).map eTr), _)
  rw [← e9]
  refine eComp_en dN _ (iLst_rng V) rfl (fun x hx => ?_) rfl (by
    rw [e9, List.length_map]
    exact Nat.le_trans (List.length_filter_le _ _) (by have := tri_le hm; omega))
  have hx := List.mem_range.mp hx
  refine lMap (lStep_t (gNm_ _ _ _) (tYesM_ _) (lFor_en dN _ (ρ0 := [some (0, eT m T), some (0, .lst ((List.range m).map dN)), some (0, .rng 0 m), some (0, dN x), none, none]) (iLst_rng V) rfl fun y hy => ?_)) rfl
  have hy := List.mem_range.mp hy
  refine lMap (lStep_t (gNm_ _ _ _) (tYesM_ _) (lFor_en dN _ (ρ0 := [some (0, eT m T), some (0, .lst ((List.range m).map dN)), some (0, .rng 0 m), some (0, dN x), some (0, dN y), none]) (iLst_rng V) rfl fun z hz => ?_)) rfl
  have hz := List.mem_range.mp hz
  have e5 : tAndM (tCmpM dIn (eVar 4 0) (eVar 1 0)) (tVal (eCallD [none, none, none, none] [0, 0, 0, 0] (acCons (eVar 0 0) (acCons (eVar 3 0) (acCons (eVar 4 0) (acCons (eVar 5 0) acNil)))) G_is_broken)) ([some (0, eT m T), some (0, .lst ((List.range m).map dN)), some (0, .rng 0 m), some (0, dN x), some (0, dN y), some (0, dN z)] : DL.Env) = some (brk T (x, y, z), _) :=
    (tAnd_t (tCmp_of V V (nats_mem hy))).trans (tValB (eCallD0 rfl rfl (is_broken_ok hT (t := (x, y, z)) (mem_tri.mpr ⟨hx, hy, hz⟩)) rfl))
  cases hb : brk T (x, y, z) with
  | true =>
    rw [hb] at e5
    exact lMap (lStep_t (gNm_ _ _ _) e5 (lOne_of (eTup_of (aCons_of V (aCons_of V (aCons_of V rfl)))))) rfl
  | false =>
    rw [hb] at e5
    exact lMap (lStep_f (gNm_ _ _ _) e5) rfl
theorem is_table_ok {k : Nat} (h1 : 1 ≤ k) (h2 : k ≤ 10) {T : Nat → Nat → Nat} (hT : ∀ x, x < k → ∀ y, y < k → T x y < k) : G_is_table [eT k T] = some (.bl true, [none]) := by
  have hs := sizeLine_big
  have q1 : decide ((1 : Int) ≤ k) = true := decide_eq_true (by omega)
  have q2 : decide ((k : Int) ≤ 10) = true := decide_eq_true (by omega)
  have k1 : sIf (tOrM (tNotM (tVal (eCall dIsi (aCons (eVar 0 0) (aCons (eC (.ty "tuple")) aNil))))) (tNotM (tChainM dLe dLe (eC (.int 1)) (eCall dLen (aCons (eVar 0 0) aNil)) (eC c_MOST_ELEMENTS)))) (sRet (eC (.bl false))) sNil ([some (0, eT k T), none, none] : DL.Env) = some (.nx [some (0, eT k T), none, none]) :=
    (sIf_f ((tOr_f (tNot_of (b := true) (tValB (eCall_of (a2_of V (eC_of _)) rfl)))).trans (tNot_of (b := true) (tChain_of (eC_of _) (eCall_of (a1_of V) (eT_len k T)) (dCmp_of q1) (eC_of _) (dCmp_of q2)))))
  simp only [G_is_table, F_is_table]
  refine defG_rt (ρ1 := [some (0, eT k T), some (0, dN k), none]) ?_
  show sSeq _ _ ([some (0, eT k T), none, none] : DL.Env) = _
  rw [sSeq_of k1, sSeq_of (sSet_of (eCall_of (a1_of V) (eT_len k T)))]
  refine sRet_of (eCall_of (ds := [.lst ((List.range k).map fun _ => .bl true)]) (a1_of ?_) ?_)
  · refine eComp_map (fun a => eRow k (T a)) (fun _ => .bl true) (iLst_tup (ρ := [some (0, eT k T), some (0, dN k), none]) V) rfl (fun a ha => ?_) rfl (by rw [List.length_range]; omega)
    have ha := List.mem_range.mp ha
    have e1 : G_is_tuple [eRow k (T a), .int k] = some (.bl true, [none, none]) := by
      unfold eRow
      rw [is_tuple_ok]
      simp
    have e2 : G_are_elements [eRow k (T a), .int k] = some (.bl true, [none, none]) := by
      rw [eRow_eq, are_elements_ok _ _ (by simp; omega)]
      have : (((List.range k).map (T a)).all fun x => decide (x < k)) = true := by
        rw [List.all_eq_true]
        intro x hx
        obtain ⟨b, hb, rfl⟩ := List.mem_map.mp hx
        exact decide_eq_true (hT a ha b (List.mem_range.mp hb))
      rw [this]
    exact lMap (lStep_t (gNm_ _ _ _) (tYesM_ _) (lOne_of ((eAnd_t (eCallD0 rfl rfl e1 rfl) rfl).trans (eCallD0 rfl rfl e2 rfl)))) rfl
  · rw [dAll_map (fun _ => true)]
    simp
theorem is_table_lst (ds : List D) : G_is_table [.lst ds] = some (.bl false, [none]) := rfl
theorem is_table_non : G_is_table [.non] = some (.bl false, [none]) := rfl
end K02
namespace K02
open PySem L2 DL TB
theorem followed_ok {a b : List Nat} (h : ∀ x ∈ a, x < b.length) (hl : a.length ≤ 1000) : G__law_followed [eM a, eM b] = some (eM (flw a b), [none, none]) := by
  have hs := sizeLine_big
  simp only [G__law_followed, F__law_followed]
  have c : eComp (iLst' (eVar 0 0)) (gNm 2) tYesM (lOne (eIx (0 - 1) (eVar 1 0) (eVar 2 0))) [2] ([some (0, eM a), some (0, eM b), none] : DL.Env) = some (.lst (a.map fun x => dN (b.getD x 0)), [some (0, eM a), some (0, eM b), none]) := by
    refine eComp_map dN (fun x => dN (b.getD x 0)) (iLst_tup V) rfl (fun x hx => ?_) rfl (by omega)
    have hb := h x hx
    refine lMap (lStep_t (gNm_ _ _ _) (tYesM_ _) (lOne_of (eIx_of V V ?_))) rfl
    show dIx 0 (.tup (b.map dN)) (.int (x : Int)) = _
    rw [dIx0_tup, DL.atI_nat, List.getElem?_map, List.getElem?_eq_getElem hb]
    simp [hb]
  refine defG_rt (ρ1 := [some (0, eM a), some (0, eM b), none]) (sRet_of (eCall_of (a1_of c) ?_))
  show some (D.tup (a.map fun x => dN (b.getD x 0))) = some (D.tup ((a.map fun x => b.getD x 0).map dN))
  rw [List.map_map]
  rfl
theorem map_getD {β : Type} (g : List Nat → β) (xs : List (List Nat)) : xs.map g = (List.range xs.length).map fun i => g (xs.getD i []) := by
  apply List.ext_getElem
  · simp
  · intro i h1 h2
    have : i < xs.length := by simpa using h1
    simp [this]
abbrev MvF : SM := (sSeq (sSet 5 0 (eCallD [none, none] [0, 0] (acCons (eIx (1 - 1) (eVar 2 1) (eVar 3 0)) (acCons (eVar 4 0) acNil)) G__law_followed))
    (sIf (tCmpM dNotIn (eVar 5 0) (eVar 2 1))
    (sExpr (eMeth 2 gAppend (aCons (eVar 5 0) aNil)))
    sNil))
abbrev MvB : SM := (sSeq (sFor (iLst' (eVar 0 0)) (gNm 4) MvF)
    (sSeq (sIf (tCmpM dGt (eCall dLen (aCons (eVar 2 1) aNil)) (eVar 1 0))
    (sRet (eC .non))
    sNil)
    (sSet 3 0 (eOp2 dAdd (eVar 3 0) (eC (.int 1))))))
def stM (gs : List (List Nat)) (most : Nat) (found : List (List Nat)) (at_ : Nat) (u v : Option (Nat × D)) : DL.Env := [some (0, .lst (gs.map eM)), some (0, dN most), some (1, .lst (found.map eM)), some (0, dN at_), u, v, none, none]
theorem dLen_eMs (l : List (List Nat)) : dLen [.lst (l.map eM)] = some (dN l.length) := by rw [dLen_lst, List.length_map]
theorem mv_for {p : Nat} {gs : List (List Nat)} (hp : p ≤ 1000) (hg : ∀ g ∈ gs, Tf p g) {most at_ : Nat} {found : List (List Nat)} {u v : Option (Nat × D)} (ha : at_ < found.length) (hn : found.Nodup) (hm : ∀ f ∈ found, TB.Mk gs f) (hl : found.length + gs.length ≤ 1000) :
    ∃ ext u' v', sFor (iLst' (eVar 0 0)) (gNm 4) MvF (stM gs most found at_ u v) = some (.nx (stM gs most (found ++ ext) at_ u' v')) ∧ (found ++ ext).Nodup ∧ (∀ f ∈ found ++ ext, TB.Mk gs f) ∧ ext.length ≤ gs.length ∧ ∀ g ∈ gs, flw found[at_] g ∈ found ++ ext := by
  have hs := sizeLine_big
  have hfa : found[at_] ∈ found := List.getElem_mem ha
  have ta := (hm _ hfa).tf hg
  obtain ⟨ρ', e, ext, u', v', h1, h2, h3, h4, rfl⟩ := forM_pre eM (g := gNm 4) (F := MvF) (fun pre ρ => ∃ ext u v, (found ++ ext).Nodup ∧ (∀ f ∈ found ++ ext, TB.Mk gs f) ∧ ext.length ≤ pre.length ∧ (∀ g ∈ pre, flw found[at_] g ∈ found ++ ext) ∧ ρ = stM gs most (found ++ ext) at_ u v) gs (fun pre g post ρ e h => by
    obtain ⟨ext, u, v, h1, h2, h3, h4, rfl⟩ := h
    have hgm : g ∈ gs := by rw [e]; simp
    have tg := hg g hgm
    have hpl : pre.length < gs.length := by rw [e]; simp
    refine ⟨stM gs most (found ++ ext) at_ (some (0, eM g)) v, ?_⟩
    have ei : dIx (1 - 1) (.lst ((found ++ ext).map eM)) (.int (at_ : Int)) = some (eM found[at_]) := by
      rw [dIx_lst, DL.atI_nat, List.getElem?_map, List.getElem?_append_left ha, List.getElem?_eq_getElem ha]
      rfl
    have ec : eCallD [none, none] [0, 0] (acCons (eIx (1 - 1) (eVar 2 1) (eVar 3 0)) (acCons (eVar 4 0) acNil)) G__law_followed (stM gs most (found ++ ext) at_ (some (0, eM g)) v) = some (eM (flw found[at_] g), stM gs most (found ++ ext) at_ (some (0, eM g)) v) :=
      eCallD0 (acCons_of (eIx_of V V ei) (acCons_of V rfl)) rfl (followed_ok (fun x hx => by rw [tg.1]; exact ta.2 x hx) (by rw [ta.1]; exact hp)) rfl
    have eq1 : MvF (stM gs most (found ++ ext) at_ (some (0, eM g)) v) = sIf (tCmpM dNotIn (eVar 5 0) (eVar 2 1)) (sExpr (eMeth 2 gAppend (aCons (eVar 5 0) aNil))) sNil (stM gs most (found ++ ext) at_ (some (0, eM g)) (some (0, eM (flw found[at_] g)))) := (sSeq_of (sSet_of ec)).trans rfl
    by_cases hin : flw found[at_] g ∈ found ++ ext
    · refine ⟨_, rfl, eq1.trans (sIf_f (tCmp_of (b := false) V V ((dNotIn_eM _ _).trans (by rw [decide_eq_true hin]; rfl)))), ext, _, _, h1, h2, by rw [List.length_append]; omega, fun g' hg' => ?_, rfl⟩
      rcases List.mem_append.mp hg' with hg' | hg'
      · exact h4 g' hg'
      · rw [List.mem_singleton.mp hg']; exact hin
    · refine ⟨stM gs most (found ++ (ext ++ [flw found[at_] g])) at_ (some (0, eM g)) (some (0, eM (flw found[at_] g))), rfl, eq1.trans ((sIf_t (tCmp_of (b := true) V V ((dNotIn_eM _ _).trans (by rw [decide_eq_false hin]; rfl)))).trans ((sExpr_of (eMeth_of rfl (a1_of V) rfl (gAppend_ok (by rw [List.length_map, List.length_append]; omega)))).trans ?_)), ext ++ [flw found[at_] g], _, _, ?_, ?_, by rw [List.length_append, List.length_append]; simp; omega, fun g' hg' => ?_, rfl⟩
      · rw [← List.append_assoc, show (found ++ ext).map eM ++ [eM (flw found[at_] g)] = (found ++ ext ++ [flw found[at_] g]).map eM by simp]
        rfl
      · rw [← List.append_assoc, List.nodup_append]
        refine ⟨h1, by simp, fun a ha' b hb e => ?_⟩
        rw [List.mem_singleton] at hb
        exact hin (hb ▸ e ▸ ha')
      · intro f hf
        rw [← List.append_assoc] at hf
        rcases List.mem_append.mp hf with hf | hf
        · exact h2 f hf
        · rw [List.mem_singleton.mp hf]; exact .mul (hm _ hfa) hgm
      · rw [← List.append_assoc]
        rcases List.mem_append.mp hg' with hg' | hg'
        · exact List.mem_append_left _ (h4 g' hg')
        · rw [List.mem_singleton.mp hg']; simp) (ρ := stM gs most found at_ u v) ⟨[], u, v, by simpa using hn, by simpa using hm, by simp, fun g h => by simp at h, by simp⟩
  exact ⟨ext, u', v', sFor_of (iLst_lst V) e, h1, h2, h3, h4⟩
theorem moves_ok {p most : Nat} {gs : List (List Nat)} (hp : p ≤ 1000) (hg : ∀ g ∈ gs, Tf p g) (h0 : gs ≠ []) (hl : gs.length ≤ 100) (hmost : most ≤ 100) :
    G__law_from_moves [.lst (gs.map eM), .int most] = some (.non, [none, none]) ∨ ∃ m T, G__law_from_moves [.lst (gs.map eM), .int most] = some (eT m T, [none, none]) ∧ m ≤ most ∧ Sg m T := by
  have hs := sizeLine_big
  obtain ⟨ks, vs, ed, kn, kl, kq⟩ := dctOf_eM gs [] [] (fun g h => by rw [(hg g h).1]; exact hp) (by simp) List.Pairwise.nil
  have c1 : eComp (iLst' (eVar 0 0)) (gNm 4) tYesM (lOne (eTup (aCons (eVar 4 0) (aCons (eC (.bl true)) aNil)))) [4] ([some (0, .lst (gs.map eM)), some (0, dN most), none, none, none, none, none, none] : DL.Env) = some (.lst (gs.map fun g => .tup [eM g, .bl true]), _) :=
    eComp_map eM (fun g => .tup [eM g, .bl true]) (iLst_lst V) rfl (fun g _ => lMap (lStep_t (gNm_ _ _ _) (tYesM_ _) (lOne_of (eTup_of (a2_of V (eC_of _))))) rfl) rfl (by omega)
  have d1 : dDict true [.lst (gs.map fun g => .tup [eM g, .bl true])] = some (.dct true (ks.map eM) vs) := by
    simp only [dDict]
    rw [if_pos (by rw [List.length_map]; omega)]
    show Option.map _ (dctOf true (gs.map fun g => .tup [eM g, .bl true]) (([] : List (List Nat)).map eM, [])) = _
    rw [ed]
    rfl
  have k1 : sPar 2 3 1 0 (eCall dList (aCons (eCall (dDict true) (aCons (eComp (iLst' (eVar 0 0)) (gNm 4) tYesM (lOne (eTup (aCons (eVar 4 0) (aCons (eC (.bl true)) aNil)))) [4]) aNil)) aNil)) (eC (.int 0)) ([some (0, .lst (gs.map eM)), some (0, dN most), none, none, none, none, none, none] : DL.Env) = some (.nx (stM gs most ks 0 none none)) := (sPar_of (eCall_of (a1_of (eCall_of (a1_of c1) d1)) rfl) (eC_of _)).trans rfl
  have kmem : ∀ l, l ∈ ks ↔ l ∈ gs := fun l => by rw [kq l]; simp
  have k0 : 1 ≤ ks.length := by
    cases gs with
    | nil => exact absurd rfl h0
    | cons g gs => exact List.length_pos_of_mem ((kmem g).mpr List.mem_cons_self)
  have W := whileM_of (t := tCmpM dLt (eVar 3 0) (eCall dLen (aCons (eVar 2 1) aNil))) (F := MvB)
    (fun k ρ => ∃ found at_ u v, ρ = stM gs most found at_ u v ∧ found.Nodup ∧ (∀ f ∈ found, TB.Mk gs f) ∧ at_ ≤ found.length ∧ 1 ≤ found.length ∧ (found.length ≤ most ∨ at_ = 0) ∧ found.length ≤ 100 ∧ k + at_ = 1000 ∧ ∀ i (h : i < at_) (h2 : i < found.length), ∀ g ∈ gs, flw found[i] g ∈ found)
    (fun ρ => ∃ found u v, ρ = stM gs most found found.length u v ∧ found.Nodup ∧ (∀ f ∈ found, TB.Mk gs f) ∧ 1 ≤ found.length ∧ found.length ≤ most ∧ found.length ≤ 100 ∧ ∀ f ∈ found, ∀ g ∈ gs, flw f g ∈ found)
    (fun d ρ => d = .non) (fun k ρ h => by
      obtain ⟨found, at_, u, v, rfl, h1, h2, h3, h4, h5, h6, h7, h8⟩ := h
      by_cases ha : at_ < found.length
      · right
        refine ⟨stM gs most found at_ u v, tCmp_of V (eCall_of (a1_of V) (dLen_eMs found)) (dCmp_of (decide_eq_true (by omega))), ?_⟩
        obtain ⟨ext, u', v', e1, n1, n2, n3, n4⟩ := mv_for (most := most) (u := u) (v := v) hp hg ha h1 h2 (by omega)
        have hlen : (found ++ ext).length = found.length + ext.length := List.length_append
        by_cases hbig : most < (found ++ ext).length
        · right
          refine ⟨.non, _, (sSeq_of e1).trans (sSeq_rt ((sIf_t (tCmp_of (b := true) (eCall_of (a1_of V) (dLen_eMs _)) V (dCmp_of (decide_eq_true (by omega))))).trans (sRet_of (eC_of _)))), rfl⟩
        · left
          refine ⟨stM gs most (found ++ ext) (at_ + 1) u' v', k - 1, (sSeq_of e1).trans ((sSeq_of (sIf_f (tCmp_of (b := false) (eCall_of (a1_of V) (dLen_eMs _)) V (dCmp_of (decide_eq_false (by omega)))))).trans ((sSet_of (eOp2_of V (eC_of _) (dAdd_ _ _))).trans rfl)), by omega, found ++ ext, at_ + 1, u', v', rfl, n1, n2, by omega, by omega, .inl (by omega), by omega, by omega, fun i hi hi2 g hg' => ?_⟩
          by_cases hi3 : i < at_
          · have hlt : i < found.length := by omega
            rw [List.getElem_append_left hlt]
            exact List.mem_append_left _ (h8 i hi3 hlt g hg')
          · have : i = at_ := by omega
            subst this
            rw [List.getElem_append_left ha]
            exact n4 g hg'
      · left
        have e : at_ = found.length := by omega
        subst e
        refine ⟨_, tCmp_of V (eCall_of (a1_of V) (dLen_eMs found)) (dCmp_of (decide_eq_false (by omega))), found, u, v, rfl, h1, h2, h4, by omega, h6, fun f hf g hg' => ?_⟩
        obtain ⟨i, hi, e⟩ := List.getElem_of_mem hf
        rw [← e]
        exact h8 i hi hi g hg') 1000000 1000 (stM gs most ks 0 none none) (by decide) ⟨ks, 0, none, none, rfl, kn, fun f hf => .gen ((kmem f).mp hf), Nat.zero_le _, k0, .inr rfl, by simp at kl; omega, rfl, fun i h => absurd h (Nat.not_lt_zero _)⟩
  simp only [G__law_from_moves, F__law_from_moves]
  rcases W with ⟨ρ', e, found, u, v, rfl, n1, n2, n3, n4, n5, n6⟩ | ⟨d, ρ', e, rfl⟩
  · right
    obtain ⟨sg, hin⟩ := sg_moves hg n2 n6 n1 n3
    refine ⟨found.length, mvT found, ?_, n4, sg⟩
    let σ : DL.Env := [some (0, .lst (gs.map eM)), some (0, dN most), some (0, .lst (found.map eM)), some (0, dN found.length), u, v, none, none]
    refine defG_rt (ρ1 := σ) ((sSeq_of k1).trans ((sSeq_of e).trans ?_))
    show sRet _ σ = _
    have row : ∀ f ∈ found, eCall dTuple (aCons (eComp (iLst' (eVar 2 0)) (gNm 7) tYesM (lOne (eMq gIndex (eVar 2 0) (aCons (eCallD [none, none] [0, 0] (acCons (eVar 6 0) (acCons (eVar 7 0) acNil)) G__law_followed) aNil))) [7]) aNil) ([some (0, .lst (gs.map eM)), some (0, dN most), some (0, .lst (found.map eM)), some (0, dN found.length), u, v, some (0, eM f), none] : DL.Env) = some (.tup (found.map fun h => dN (fidx found (flw f h))), [some (0, .lst (gs.map eM)), some (0, dN most), some (0, .lst (found.map eM)), some (0, dN found.length), u, v, some (0, eM f), none]) := fun f hf => by
      refine eCall_of (a1_of (eComp_map eM (fun h => dN (fidx found (flw f h))) (iLst_lst V) rfl (fun h hh => ?_) rfl (by omega))) rfl
      have tf := (n2 f hf).tf hg
      have th := (n2 h hh).tf hg
      have hmem : flw f h ∈ found := mk_closed hg (fun f h => (n2 f h).tf hg) n6 (n2 h hh) f hf
      exact lMap (lStep_t (gNm_ _ _ _) (tYesM_ _) (lOne_of (eMq_of V (a1_of (eCallD0 (acCons_of V (acCons_of V rfl)) rfl (followed_ok (fun x hx => by rw [th.1]; exact tf.2 x hx) (by rw [tf.1]; exact hp)) rfl)) (gIndex_eM hmem)))) rfl
    have c2 : eComp (iLst' (eVar 2 0)) (gNm 6) tYesM (lOne (eCall dTuple (aCons (eComp (iLst' (eVar 2 0)) (gNm 7) tYesM (lOne (eMq gIndex (eVar 2 0) (aCons (eCallD [none, none] [0, 0] (acCons (eVar 6 0) (acCons (eVar 7 0) acNil)) G__law_followed) aNil))) [7]) aNil))) [6] σ = some (.lst (found.map fun f => .tup (found.map fun h => dN (fidx found (flw f h)))), σ) :=
      eComp_map eM (fun f => .tup (found.map fun h => dN (fidx found (flw f h)))) (iLst_lst V) rfl (fun f hf => lMap (lStep_t (gNm_ _ _ _) (tYesM_ _) (lOne_of (row f hf))) rfl) rfl (by omega)
    refine sRet_of (eCall_of (a1_of c2) ?_)
    show some (D.tup _) = some (eT found.length (mvT found))
    unfold eT
    rw [map_getD (fun f => D.tup (found.map fun h => dN (fidx found (flw f h))))]
    congr 2
    refine List.map_congr_left fun x _ => ?_
    show D.tup _ = eRow found.length (mvT found x)
    unfold eRow
    rw [map_getD (fun h => dN (fidx found (flw (found.getD x []) h)))]
    rfl
  · left
    exact defG_rt ((sSeq_of k1).trans (sSeq_rt e))
theorem relabelled_ok {m : Nat} {T : Nat → Nat → Nat} {ns : List Nat} (hm : m < 1000) (hp : ns.Perm (List.range m)) (hT : ∀ x, x < m → ∀ y, y < m → T x y < m) : G__law_relabelled [eT m T, .lst (ns.map dN)] = some (eT m (rel (fun x => ns.getD x 0) (fun x => fidx ns x) T), [none, none]) := by
  have hs := sizeLine_big
  have hl : ns.length = m := by rw [hp.length_eq, List.length_range]
  have hN := nm_of hp
  simp only [G__law_relabelled, F__law_relabelled]
  have c1 : eComp (iRg1 (aCons (eCall dLen (aCons (eVar 1 0) aNil)) aNil)) (gNm 3) tYesM (lOne (eMq gIndex (eVar 1 0) (aCons (eVar 3 0) aNil))) [3] ([some (0, eT m T), some (0, .lst (ns.map dN)), none, none, none, none] : DL.Env) = some (.lst ((List.range m).map fun k => dN (fidx ns k)), _) :=
    eComp_map dN (fun k => dN (fidx ns k)) (iRg1_len V (by rw [dLen_lst, List.length_map, hl]) (by omega)) rfl (fun k hk => lMap (lStep_t (gNm_ _ _ _) (tYesM_ _) (lOne_of (eMq_of V (a1_of V) (gIndex_nat (hp.mem_iff.mpr hk))))) rfl) rfl (by rw [List.length_range]; omega)
  let σ : DL.Env := [some (0, eT m T), some (0, .lst (ns.map dN)), some (0, .lst ((List.range m).map fun k => dN (fidx ns k))), none, none, none]
  have bk : ∀ k, k < m → dIx (0 - 1) (.lst ((List.range m).map fun k => dN (fidx ns k))) (.int (k : Int)) = some (dN (fidx ns k)) := fun k hk => by rw [dIx_lst, atI_map _ hk]
  have nx : ∀ k, k < m → dIx (0 - 1) (.lst (ns.map dN)) (.int (k : Int)) = some (dN (ns.getD k 0)) := fun k hk => by
    have hk' : k < ns.length := by omega
    rw [dIx_lst, DL.atI_nat, List.getElem?_map, List.getElem?_eq_getElem hk']
    simp [hk']
  refine defG_rt (ρ1 := σ) ((sSeq_of (sSet_of c1)).trans ?_)
  show sRet _ σ = _
  refine sRet_of (tabR hm (eCall_of (a1_of V) (eT_len m T)) (fun x hx => rowE hm (eCall_of (a1_of V) (eT_len m T)) (fun y hy => ?_) rfl rfl) rfl rfl)
  exact eIx_of V (at2_of V (eIx_of V V (bk x hx)) (eIx_of V V (bk y hy)) (hN.b_lt x hx) (hN.b_lt y hy)) (nx _ (hT _ (hN.b_lt x hx) _ (hN.b_lt y hy)))
end K02
namespace K02
open PySem L2 DL TB
theorem dMul_nat {a c : Nat} (h : a < 1000000) : dMul (.int (a : Int)) (.int (c : Int)) = some (.int ((a * c : Nat) : Int)) := by
  have hp : (2 : Int) ^ 64 = 18446744073709551616 := by decide
  rw [dMul_, if_pos (.inl (by rw [hp]; omega)), Int.natCast_mul]
theorem dMod_nat {a c : Nat} (h : 0 < c) : dMod (.int (a : Int)) (.int (c : Int)) = some (.int ((a % c : Nat) : Int)) := by
  rw [dMod_, if_pos (by omega), Int.fmod_eq_emod_of_nonneg _ (by omega)]
  rfl
theorem dAdd_nat (a c : Nat) : dAdd (.int (a : Int)) (.int (c : Int)) = some (.int ((a + c : Nat) : Int)) := by
  rw [dAdd_, Int.natCast_add]
theorem dIntC_nat (a : Nat) : dIntC [.int (a : Int)] = some (dN a) := dIntC_ _
theorem take1 {N m : Nat} {b : D} (hb : Bx N b) (hN : N < 2 ^ 30) (h1 : 1 ≤ m) (h2 : m < 1000000) : ∃ (d : Nat) (b' : D), G__law_take [b, .int m] = some (.int d, [some (1, b'), none]) ∧ d < m ∧ Bx (N + 1) b' := take_ok hb hN h1 (by omega)
theorem plain_ok {N most : Nat} {b : D} (hb : Bx N b) (hN : N + 100 < 2 ^ 20) (h1 : 1 ≤ most) (h2 : most ≤ 10) :
    ∃ m T b', G__law_plain [b, .int most] = some (eT m T, [some (1, b'), none]) ∧ m ≤ most ∧ Sg m T ∧ Bx (N + 4) b' := by
  have hs := sizeLine_big
  obtain ⟨z1, b1, e1, hz1, hb1⟩ := take1 hb (by omega) h1 (by omega)
  obtain ⟨z2, b2, e2, hz2, hb2⟩ := take1 hb1 (by omega) (m := 7) (by decide) (by decide)
  have e2 : G__law_take [b1, .int 7] = some (.int z2, [some (1, b2), none]) := e2
  obtain ⟨m, hm⟩ : ∃ m : Nat, m = 1 + z1 := ⟨_, rfl⟩
  have hm1 : 1 ≤ m := by omega
  have hm2 : m ≤ most := by omega
  let X : D → Option (Nat × D) → Option (Nat × D) → DL.Env := fun b w4 w5 => [some (1, b), some (0, dN most), some (0, dN m), some (0, dN z2), w4, w5, none, none, none, none, none, none]
  have k1 : eOp2 dAdd (eC (.int 1)) (eCallD [some 0, none] [1, 0] (acOwn 0 (acCons (eVar 1 0) acNil)) G__law_take) ([some (1, b), some (0, dN most), none, none, none, none, none, none, none, none, none, none] : DL.Env) = some (dN m, [some (1, b1), some (0, dN most), none, none, none, none, none, none, none, none, none, none]) :=
    eOp2_of (eC_of _) (callB (acCons_of V rfl) rfl rfl rfl e1 rfl rfl) ((dAdd_nat 1 z1).trans (by rw [hm]))
  have k2 : eCallD [some 0, none] [1, 0] (acOwn 0 (acCons (eC (.int 7)) acNil)) G__law_take ([some (1, b1), some (0, dN most), some (0, dN m), none, none, none, none, none, none, none, none, none] : DL.Env) = some (dN z2, [some (1, b2), some (0, dN most), some (0, dN m), none, none, none, none, none, none, none, none, none]) := callB (acCons_of (eC_of _) rfl) rfl rfl rfl e2 rfl rfl
  suffices hh : ∃ m T b' ρ1, F__law_plain ([some (1, b), some (0, dN most), none, none, none, none, none, none, none, none, none, none] : DL.Env) = some (.rt (eT m T) ρ1) ∧ ρ1.head? = some (some (1, b')) ∧ m ≤ most ∧ Sg m T ∧ Bx (N + 4) b' by
    obtain ⟨m, T, b', ρ1, e, eh, q⟩ := hh
    refine ⟨m, T, b', ?_, q⟩
    simp only [G__law_plain]
    refine (show defG 12 [1, 0] F__law_plain [b, dN most] = some (eT m T, outE [1, 0] ρ1) from defG_rt e).trans ?_
    simp only [outE_one, outE_zero, outE_nil, eh]
    rfl
  simp only [F__law_plain]
  rw [sSeq_of (sSet_of k1)]
  have no : ∀ (w : Nat) (wi : Int) (hw : wi = (w : Int)) (F : SM) (ρ : DL.Env) (h : ¬ z2 = w) (hρ : ρ[3]? = some (some (0, dN z2))), sIf (tCmpM dEq (eVar 3 0) (eC (.int wi))) F sNil ρ = some (.nx ρ) := fun w wi hw F ρ h hρ => by subst hw; exact sIf_f (tCmp_of (b := false) (V hρ) (eC_of _) ((dEq_nat z2 w).trans (by rw [decide_eq_false h])))
  have yes : ∀ (w : Nat) (wi : Int) (hw : wi = (w : Int)) (F : SM) (ρ : DL.Env) (h : z2 = w) (hρ : ρ[3]? = some (some (0, dN z2))), sIf (tCmpM dEq (eVar 3 0) (eC (.int wi))) F sNil ρ = F ρ := fun w wi hw F ρ h hρ => by subst hw; exact sIf_t (tCmp_of (b := true) (V hρ) (eC_of _) ((dEq_nat z2 w).trans (by rw [decide_eq_true h])))
  have k2' := sSet_of (i := 3) (k := 0) k2
  have base : ∀ G : SM, sSeq (sSet 3 0 (eCallD [some 0, none] [1, 0] (acOwn 0 (acCons (eC (.int 7)) acNil)) G__law_take)) G ([some (1, b1), some (0, dN most), some (0, dN m), none, none, none, none, none, none, none, none, none] : DL.Env) = G (X b2 none none) := fun G => (sSeq_of k2').trans rfl
  show ∃ m' T b' ρ1, sSeq _ _ ([some (1, b1), some (0, dN most), some (0, dN m), none, none, none, none, none, none, none, none, none] : DL.Env) = _ ∧ _
  rw [base]
  by_cases c0 : z2 = 0
  · refine ⟨m, fun x _ => x, b2, X b2 none none, sSeq_rt ((yes 0 0 rfl _ _ c0 rfl).trans (sRet_of (tabR (by omega) V (fun x hx => eCall_of (a1_of (eOp2_of (eLst_of (a1_of V)) V (dMul_row (by omega)))) (dTuple_row _)) rfl rfl))), rfl, hm2, sg_left hm1, hb2.mono (by omega)⟩
  rw [sSeq_of (no 0 0 rfl _ _ c0 rfl)]
  by_cases c1 : z2 = 1
  · refine ⟨m, fun _ y => y, b2, X b2 none none, sSeq_rt ((yes 1 1 rfl _ _ c1 rfl).trans (sRet_of (tabR (by omega) V (fun x hx => eCall_of (a1_of (eCall_of (a1_of V) (dRange_nat (by omega)))) (dTuple_rng (by omega))) rfl rfl))), rfl, hm2, sg_right hm1, hb2.mono (by omega)⟩
  rw [sSeq_of (no 1 1 rfl _ _ c1 rfl)]
  by_cases c2 : z2 = 2
  · refine ⟨m, fun _ _ => 0, b2, X b2 none none, sSeq_rt ((yes 2 2 rfl _ _ c2 rfl).trans (sRet_of (tabR (by omega) V (fun x hx => eCall_of (a1_of (eOp2_of (eLst_of (a1_of (eC_of _))) V (dMul_row (z := 0) (by omega)))) (dTuple_row _)) rfl rfl))), rfl, hm2, sg_zero hm1, hb2.mono (by omega)⟩
  rw [sSeq_of (no 2 2 rfl _ _ c2 rfl)]
  by_cases c3 : z2 = 3
  · refine ⟨m, fun x y => min x y, b2, X b2 none none, sSeq_rt ((yes 3 3 rfl _ _ c3 rfl).trans (sRet_of (tabR (by omega) V (fun x hx => rowE (by omega) V (fun y hy => eCall_of (a2_of V V) ((dMin2_ _ _).trans ?_)) rfl rfl) rfl rfl))), rfl, hm2, sg_min hm1, hb2.mono (by omega)⟩
    by_cases h : y < x
    · rw [if_pos (by omega), Nat.min_eq_right (by omega)]
    · rw [if_neg (by omega), Nat.min_eq_left (by omega)]
  rw [sSeq_of (no 3 3 rfl _ _ c3 rfl)]
  by_cases c4 : z2 = 4
  · refine ⟨m, fun x y => (x + y) % m, b2, X b2 none none, sSeq_rt ((yes 4 4 rfl _ _ c4 rfl).trans (sRet_of (tabR (by omega) V (fun x hx => rowE (by omega) V (fun y hy => eOp2_of (eCall_of (a1_of (eOp2_of V V (dAdd_nat x y))) (dIntC_nat _)) V (dMod_nat (by omega))) rfl rfl) rfl rfl))), rfl, hm2, sg_clock hm1, hb2.mono (by omega)⟩
  rw [sSeq_of (no 4 4 rfl _ _ c4 rfl)]
  by_cases c5 : z2 = 5
  · obtain ⟨z3, b3, e3, hz3, hb3⟩ := take1 hb2 (by omega) hm1 (by omega)
    have k3 : eOp2 dAdd (eC (.int 1)) (eCallD [some 0, none] [1, 0] (acOwn 0 (acCons (eVar 2 0) acNil)) G__law_take) (X b2 none none) = some (dN (1 + z3), X b3 none none) := eOp2_of (eC_of _) (callB (acCons_of V rfl) rfl rfl rfl e3 rfl rfl) (dAdd_nat 1 z3)
    obtain ⟨p, hp⟩ : ∃ p : Nat, p = m - z3 := ⟨_, rfl⟩
    have hip : z3 + p = m := by omega
    have k4 : eOp2 dSub (eOp2 dAdd (eVar 2 0) (eC (.int 1))) (eVar 4 0) (X b3 (some (0, dN (1 + z3))) none) = some (dN p, X b3 (some (0, dN (1 + z3))) none) := eOp2_of (eOp2_of V (eC_of _) (dAdd_nat m 1)) V ((dSub_ _ _).trans (by
      have : (((m + 1 : Nat) : Int) - ((1 + z3 : Nat) : Int)) = (p : Int) := by omega
      rw [this]))
    let Y : Option (Nat × D) → DL.Env := fun w6 => [some (1, b3), some (0, dN most), some (0, dN m), some (0, dN z2), some (0, dN (1 + z3)), some (0, dN p), w6, none, none, none, none, none]
    have k5 : eComp (iRg1 (aCons (eOp2 dAdd (eOp2 dMul (eC (.int 2)) (eVar 2 0)) (eC (.int 1))) aNil)) (gNm 11) tYesM (lOne (eIfM (tCmpM dLt (eVar 11 0) (eVar 2 0)) (eVar 11 0) (eOp2 dAdd (eOp2 dSub (eVar 4 0) (eC (.int 1))) (eOp2 dMod (eCall dIntC (aCons (eOp2 dAdd (eOp2 dSub (eVar 11 0) (eVar 4 0)) (eC (.int 1))) aNil)) (eVar 5 0))))) [11] (Y none) = some (.lst ((List.range (2 * m + 1)).map fun k => dN (stp z3 p k)), Y none) := by
      refine eComp_map dN (fun k => dN (stp z3 p k)) (iRg1_var (eOp2_of (eOp2_of (eC_of _) V (dMul_nat (a := 2) (by decide))) (eC_of _) (dAdd_nat (2 * m) 1)) (by omega)) rfl (fun k _ => ?_) rfl (by rw [List.length_range]; omega)
      let ρ : DL.Env := [some (1, b3), some (0, dN most), some (0, dN m), some (0, dN z2), some (0, dN (1 + z3)), some (0, dN p), none, none, none, none, none, some (0, dN k)]
      refine lMap (lStep_t (ρ1 := ρ) rfl (tYesM_ _) (lOne_of (ρ1 := ρ) ?_)) rfl
      unfold stp
      by_cases hk : k < z3 + p
      · rw [if_pos hk]
        exact (eIf_t (ρ1 := ρ) (tCmp_of V V (dCmp_of (decide_eq_true (by omega))))).trans V
      · rw [if_neg hk]
        refine (eIf_f (ρ1 := ρ) (tCmp_of V V (dCmp_of (decide_eq_false (by omega))))).trans (eOp2_of (y := dN ((k - z3) % p)) (eOp2_of V (eC_of _) (dSub_ _ _)) (eOp2_of (eCall_of (a1_of (eOp2_of (eOp2_of V V (dSub_ _ _)) (eC_of _) (dAdd_ _ _))) (dIntC_ _)) V ?_) ?_)
        · have e : ((k : Int) - ((1 + z3 : Nat) : Int) + 1) = ((k - z3 : Nat) : Int) := by omega
          rw [e]
          exact dMod_nat (by omega)
        · rw [dAdd_]
          congr 2
          omega
    have k6 : eCall dTuple (aCons (eComp (iRg1 (aCons (eVar 2 0) aNil)) (gNm 9) tYesM (lOne (eCall dTuple (aCons (eComp (iRg1 (aCons (eVar 2 0) aNil)) (gNm 10) tYesM (lOne (eIx (0 - 1) (eVar 6 0) (eOp2 dAdd (eOp2 dAdd (eVar 9 0) (eVar 10 0)) (eC (.int 1))))) [10]) aNil))) [9]) aNil) (Y (some (0, .lst ((List.range (2 * m + 1)).map fun k => dN (stp z3 p k))))) = some (eT m fun x y => stp z3 p (x + y + 1), _) :=
      tabR (by omega) V (fun x hx => rowE (by omega) V (fun y hy => eIx_of V (eOp2_of (eOp2_of V V (dAdd_nat x y)) (eC_of _) (dAdd_nat (x + y) 1)) (by rw [dIx_lst, atI_map _ (by omega)])) rfl rfl) rfl rfl
    refine ⟨m, fun x y => stp z3 p (x + y + 1), b3, _, sSeq_rt ((yes 5 5 rfl _ _ c5 rfl).trans ((sSeq_of (sSet_of k3)).trans ((sSeq_of (sSet_of k4)).trans ((sSeq_of (sSet_of k5)).trans (sRet_of k6))))), rfl, hm2, sg_mono (by omega) hip, hb3.mono (by omega)⟩
  rw [sSeq_of (no 5 5 rfl _ _ c5 rfl)]
  obtain ⟨z3, b3, e3, hz3, hb3⟩ := take1 hb2 (by omega) (m := 3) (by decide) (by decide)
  have e3 : G__law_take [b2, .int 3] = some (.int z3, [some (1, b3), none]) := e3
  let Z : D → Option (Nat × D) → Option (Nat × D) → DL.Env := fun b l r => [some (1, b), some (0, dN most), some (0, dN m), some (0, dN z2), none, none, none, l, r, none, none, none]
  have k3 : eOp2 dAdd (eC (.int 1)) (eCallD [some 0, none] [1, 0] (acOwn 0 (acCons (eC (.int 3)) acNil)) G__law_take) (X b2 none none) = some (dN (1 + z3), X b3 none none) := eOp2_of (eC_of _) (callB (acCons_of (eC_of _) rfl) rfl rfl rfl e3 rfl rfl) (dAdd_nat 1 z3)
  obtain ⟨q, hq⟩ : ∃ q : Nat, q = max 1 (most / (1 + z3)) := ⟨_, rfl⟩
  have k4 : eCall dMax2 (aCons (eC (.int 1)) (aCons (eOp2 dDiv (eVar 1 0) (eVar 7 0)) aNil)) (Z b3 (some (0, dN (1 + z3))) none) = some (dN q, Z b3 (some (0, dN (1 + z3))) none) := eCall_of (a2_of (eC_of _) (eOp2_of V V (dDiv_nat (by omega) (by omega)))) ((dMax2_ _ _).trans (by
    rw [hq]
    congr 2
    by_cases h : 1 < most / (1 + z3)
    · rw [if_pos (by omega), Nat.max_eq_right (by omega)]
    · rw [if_neg (by omega), Nat.max_eq_left (by omega)]
      rfl))
  obtain ⟨mn, hmn⟩ : ∃ k : Nat, k = min 3 q := ⟨_, rfl⟩
  obtain ⟨z4, b4, e4, hz4, hb4⟩ := take1 hb3 (by omega) (m := mn) (by omega) (by omega)
  have k5 : eOp2 dAdd (eC (.int 1)) (eCallD [some 0, none] [1, 0] (acOwn 0 (acCons (eCall dMin2 (aCons (eC (.int 3)) (aCons (eVar 8 0) aNil))) acNil)) G__law_take) (Z b3 (some (0, dN (1 + z3))) (some (0, dN q))) = some (dN (1 + z4), Z b4 (some (0, dN (1 + z3))) (some (0, dN q))) := by
    have em : eCall dMin2 (aCons (eC (.int 3)) (aCons (eVar 8 0) aNil)) (Z b3 (some (0, dN (1 + z3))) (some (0, dN q))) = some (dN mn, Z b3 (some (0, dN (1 + z3))) (some (0, dN q))) := eCall_of (a2_of (eC_of _) V) ((dMin2_ _ _).trans (by
      rw [hmn]
      congr 2
      by_cases h : q < 3
      · rw [if_pos (by omega), Nat.min_eq_right (by omega)]
      · rw [if_neg (by omega), Nat.min_eq_left (by omega)]
        rfl))
    exact eOp2_of (eC_of _) (callB (acCons_of em rfl) rfl rfl rfl e4 rfl rfl) (dAdd_nat 1 z4)
  have fin : ∀ l r : Nat, 1 ≤ l → 1 ≤ r → l * r ≤ most → l ≤ 10 → ∃ m T b' ρ1, sRet (eCall dTuple (aCons (eComp (iRg1 (aCons (eOp2 dMul (eVar 7 0) (eVar 8 0)) aNil)) (gNm 9) tYesM (lOne (eCall dTuple (aCons (eComp (iRg1 (aCons (eOp2 dMul (eVar 7 0) (eVar 8 0)) aNil)) (gNm 10) tYesM (lOne (eOp2 dAdd (eOp2 dMul (eOp2 dDiv (eVar 9 0) (eVar 8 0)) (eVar 8 0)) (eOp2 dMod (eCall dIntC (aCons (eVar 10 0) aNil)) (eVar 8 0)))) [10]) aNil))) [9]) aNil)) (Z b4 (some (0, dN l)) (some (0, dN r))) = some (.rt (eT m T) ρ1) ∧ ρ1.head? = some (some (1, b')) ∧ m ≤ most ∧ Sg m T ∧ Bx (N + 4) b' := by
    intro l r hl hr hlr hl10
    have hr10 : r ≤ 10 := by
      have : 1 * r ≤ l * r := Nat.mul_le_mul_right r hl
      omega
    refine ⟨l * r, fun x y => x / r * r + y % r, b4, _, sRet_of (tabR (by omega) (eOp2_of V V (dMul_nat (by omega))) (fun x hx => rowE (by omega) (eOp2_of V V (dMul_nat (by omega))) (fun y hy => eOp2_of (eOp2_of (eOp2_of V V (dDiv_nat (by omega) (by omega))) V (dMul_nat ?_)) (eOp2_of (eCall_of (a1_of V) (dIntC_nat y)) V (dMod_nat (by omega))) (dAdd_nat _ _)) rfl rfl) rfl rfl), rfl, hlr, sg_rect hl hr, hb4.mono (by omega)⟩
    have := Nat.div_le_self x r
    omega
  rw [sSeq_of (sSet_of k3)]
  show ∃ m T b' ρ1, sSeq _ _ (Z b3 (some (0, dN (1 + z3))) none) = _ ∧ _
  rw [sSeq_of (sSet_of k4)]
  show ∃ m T b' ρ1, sSeq _ _ (Z b3 (some (0, dN (1 + z3))) (some (0, dN q))) = _ ∧ _
  rw [sSeq_of (sSet_of k5)]
  show ∃ m T b' ρ1, sSeq _ _ (Z b4 (some (0, dN (1 + z3))) (some (0, dN (1 + z4)))) = _ ∧ _
  by_cases hbig : most < (1 + z3) * (1 + z4)
  · have k7 : sIf (tCmpM dGt (eOp2 dMul (eVar 7 0) (eVar 8 0)) (eVar 1 0)) (sAsg (eTup (aCons (eC (.int 1)) (aCons (eCall dMin2 (aCons (eVar 1 0) (aCons (eC (.int 2)) aNil))) aNil))) (gTq 2 (gsCons (gNm 7) (gsCons (gNm 8) gsNil)))) sNil (Z b4 (some (0, dN (1 + z3))) (some (0, dN (1 + z4)))) = some (.nx (Z b4 (some (0, dN 1)) (some (0, dN (min most 2))))) := by
      refine (sIf_t (tCmp_of (b := true) (eOp2_of V V (dMul_nat (by omega))) V (dCmp_of (decide_eq_true (by omega))))).trans (sAsg_of (d := .tup [dN 1, dN (min most 2)]) (eTup_of (a2_of (eC_of _) (eCall_of (a2_of V (eC_of _)) ((dMin2_ _ _).trans ?_)))) rfl)
      congr 2
      by_cases h : 2 < most
      · rw [if_pos (by omega), Nat.min_eq_right (by omega)]
        rfl
      · rw [if_neg (by omega), Nat.min_eq_left (by omega)]
    rw [sSeq_of k7]
    exact fin 1 (min most 2) (by decide) (by omega) (by omega) (by decide)
  · have k7 : sIf (tCmpM dGt (eOp2 dMul (eVar 7 0) (eVar 8 0)) (eVar 1 0)) (sAsg (eTup (aCons (eC (.int 1)) (aCons (eCall dMin2 (aCons (eVar 1 0) (aCons (eC (.int 2)) aNil))) aNil))) (gTq 2 (gsCons (gNm 7) (gsCons (gNm 8) gsNil)))) sNil (Z b4 (some (0, dN (1 + z3))) (some (0, dN (1 + z4)))) = some (.nx (Z b4 (some (0, dN (1 + z3))) (some (0, dN (1 + z4))))) :=
      sIf_f (tCmp_of (b := false) (eOp2_of V V (dMul_nat (by omega))) V (dCmp_of (decide_eq_false (by omega))))
    rw [sSeq_of k7]
    exact fin (1 + z3) (1 + z4) (by omega) (by omega) (by omega) (by omega)
end K02
namespace K02
open PySem L2 DL TB
theorem dAdd_tup {xs ys : List D} (hx : xs ≠ []) (hy : ys ≠ []) (hl : xs.length + ys.length ≤ 1000) : dAdd (.tup xs) (.tup ys) = some (.tup (xs ++ ys)) := by
  have hs := sizeLine_big
  show (if xs.length + ys.length ≤ sizeLine then (if xs = [] then some (D.tup ys) else if ys = [] then some (D.tup xs) else some (.tup (xs ++ ys))) else none) = _
  rw [if_pos (by omega), if_neg hx, if_neg hy]
theorem dMul_tup {z : Nat} {k : Nat} (h : 2 ≤ k) (h2 : k ≤ 1000) : dMul (.tup [dN z]) (.int (k : Int)) = some (eRow k fun _ => z) := by
  show (if [dN z] ≠ [] ∧ 2 ≤ (k : Int) ∧ (k : Int) ≤ 1000 ∧ [dN z].length ≤ 1000 then some (D.tup (List.replicate (k : Int).toNat [dN z]).flatten) else none) = _
  rw [if_pos ⟨by simp, by omega, by omega, by simp⟩, Int.toNat_natCast, flat_rep]
  rfl
def SD (most num : Nat) (b t2 : D) (t4 t5 t6 t7 t8 t9 t10 : Option (Nat × D)) : DL.Env := [some (1, b), some (0, dN most), some (0, t2), some (0, dN num), t4, t5, t6, t7, t8, t9, t10, none, none]
theorem mvline {N most num p : Nat} {b t2 : D} {t4 t6 t7 t10 : Option (Nat × D)} (hb : Bx N b) (hN : N + p < 2 ^ 20) (h1 : 1 ≤ p) (h2 : p < 1000) :
    ∃ g b', eComp (iRg1 (aCons (eVar 5 0) aNil)) (gNm 11) tYesM (lOne (eCallD [some 0, none] [1, 0] (acOwn 0 (acCons (eVar 5 0) acNil)) G__law_take)) [11] (SD most num b t2 t4 (some (0, dN p)) t6 t7 none none t10) = some (.lst (g.map dN), SD most num b' t2 t4 (some (0, dN p)) t6 t7 none none t10) ∧ Tf p g ∧ Bx (N + p) b' := by
  have hs := sizeLine_big
  obtain ⟨r, ρ', ρ2, e, ⟨g, b', rfl, rfl, hg, hx, hb'⟩, e2⟩ := eComp_pre dN (vs := [11]) (g := gNm 11) (t := tYesM) (fl := lOne (eCallD [some 0, none] [1, 0] (acOwn 0 (acCons (eVar 5 0) acNil)) G__law_take)) (xs := List.range p) (fi := iRg1 (aCons (eVar 5 0) aNil)) (ρ := SD most num b t2 t4 (some (0, dN p)) t6 t7 none none t10)
    (fun pre acc ρ => ∃ (g : List Nat) (b' : D), acc = g.map dN ∧ ρ = SD most num b' t2 t4 (some (0, dN p)) t6 t7 none none t10 ∧ g.length = pre.length ∧ (∀ x ∈ g, x < p) ∧ Bx (N + pre.length) b')
    (iRg1_var V (by omega)) ⟨[], b, rfl, rfl, rfl, by simp, hb⟩ (fun pre x post acc ρ ex h => by
      obtain ⟨g, b1, rfl, rfl, hg, hx, hb1⟩ := h
      have hpl : pre.length < p := by
        have := congrArg List.length ex
        simp at this
        omega
      obtain ⟨d, b2, e1, hd, hb2⟩ := take1 hb1 (by omega) h1 (by omega)
      refine ⟨[dN d], _, lStep_t (gNm_ _ _ _) (tYesM_ _) (lOne_of (callB (acCons_of V rfl) rfl rfl rfl e1 rfl rfl)), g ++ [d], b2, by simp, rfl, by simp [hg], fun y hy => ?_, by rw [List.length_append]; exact hb2⟩
      rcases List.mem_append.mp hy with h | h
      · exact hx y h
      · rw [List.mem_singleton.mp h]; exact hd) (fun r ρ' h => by
      obtain ⟨g, b1, rfl, rfl, hg, hx, hb1⟩ := h
      rw [List.length_range] at hg
      exact ⟨by rw [List.length_map]; omega, _, rfl⟩)
  cases e2
  rw [List.length_range] at hg hb'
  exact ⟨g, b', e, ⟨hg, hx⟩, hb'⟩
theorem mvlines {N most num p : Nat} {b t2 : D} {t4 t6 t7 : Option (Nat × D)} (hb : Bx N b) (hN : N + 100 < 2 ^ 20) (h1 : 1 ≤ p) (h2 : p ≤ 4) :
    ∃ gs b', eComp (iRg1 (aCons (eOp2 dAdd (eC (.int 1)) (eCallD [some 0, none] [1, 0] (acOwn 0 (acCons (eC (.int 2)) acNil)) G__law_take)) aNil)) (gNm 10) tYesM (lOne (eCall dTuple (aCons (eComp (iRg1 (aCons (eVar 5 0) aNil)) (gNm 11) tYesM (lOne (eCallD [some 0, none] [1, 0] (acOwn 0 (acCons (eVar 5 0) acNil)) G__law_take)) [11]) aNil))) [10] (SD most num b t2 t4 (some (0, dN p)) t6 t7 none none none) = some (.lst (gs.map eM), SD most num b' t2 t4 (some (0, dN p)) t6 t7 none none none) ∧ (∀ g ∈ gs, Tf p g) ∧ gs ≠ [] ∧ gs.length ≤ 2 ∧ Bx (N + 9) b' := by
  have hs := sizeLine_big
  obtain ⟨z, b0, e0, hz, hb0⟩ := take1 hb (by omega) (m := 2) (by decide) (by decide)
  have e0 : G__law_take [b, .int 2] = some (.int z, [some (1, b0), none]) := e0
  have ei : iRg1 (aCons (eOp2 dAdd (eC (.int 1)) (eCallD [some 0, none] [1, 0] (acOwn 0 (acCons (eC (.int 2)) acNil)) G__law_take)) aNil) (SD most num b t2 t4 (some (0, dN p)) t6 t7 none none none) = some ((List.range (1 + z)).map dN, SD most num b0 t2 t4 (some (0, dN p)) t6 t7 none none none) := by
    rw [← rng0]
    exact iRg1_of (a1_of (eOp2_of (eC_of _) (callB (acCons_of (eC_of _) rfl) rfl rfl rfl e0 rfl rfl) (dAdd_nat 1 z))) (by omega)
  obtain ⟨r, ρ', ρ2, e, ⟨gs, b', rfl, rfl, hg, hx, hb'⟩, e2⟩ := eComp_pre dN (vs := [10]) (g := gNm 10) (t := tYesM) (fl := lOne (eCall dTuple (aCons (eComp (iRg1 (aCons (eVar 5 0) aNil)) (gNm 11) tYesM (lOne (eCallD [some 0, none] [1, 0] (acOwn 0 (acCons (eVar 5 0) acNil)) G__law_take)) [11]) aNil))) (xs := List.range (1 + z))
    (fun pre acc ρ => ∃ (gs : List (List Nat)) (b' : D), acc = gs.map eM ∧ ρ = SD most num b' t2 t4 (some (0, dN p)) t6 t7 none none none ∧ gs.length = pre.length ∧ (∀ g ∈ gs, Tf p g) ∧ Bx (N + 1 + 4 * pre.length) b')
    ei ⟨[], b0, rfl, rfl, rfl, by simp, hb0⟩ (fun pre x post acc ρ ex h => by
      obtain ⟨g, b1, rfl, rfl, hg, hx, hb1⟩ := h
      have hpl : pre.length < 1 + z := by
        have := congrArg List.length ex
        simp at this
        omega
      obtain ⟨l, b2, e1, hl, hb2⟩ := mvline (most := most) (num := num) (t2 := t2) (t4 := t4) (t6 := t6) (t7 := t7) (t10 := some (0, dN x)) hb1 (by omega) h1 (by omega)
      refine ⟨[eM l], _, lStep_t (gNm_ _ _ _) (tYesM_ _) (lOne_of (eCall_of (a1_of e1) rfl)), g ++ [l], b2, by simp, rfl, by simp [hg], fun y hy => ?_, hb2.mono (by rw [List.length_append, List.length_singleton]; omega)⟩
      rcases List.mem_append.mp hy with h | h
      · exact hx y h
      · rw [List.mem_singleton.mp h]; exact hl) (fun r ρ' h => by
      obtain ⟨g, b1, rfl, rfl, hg, hx, hb1⟩ := h
      rw [List.length_range] at hg
      exact ⟨by rw [List.length_map]; omega, _, rfl⟩)
  cases e2
  rw [List.length_range] at hg hb'
  exact ⟨gs, b', e, hx, by intro h; rw [h] at hg; simp at hg; omega, by omega, hb'.mono (by omega)⟩
abbrev DrF : SM := (sSeq (sSet 5 0 (eOp2 dAdd (eC (.int 2)) (eCallD [some 0, none] [1, 0] (acOwn 0 (acCons (eC (.int 3)) acNil)) G__law_take)))
    (sSeq (sSet 6 0 (eComp (iRg1 (aCons (eOp2 dAdd (eC (.int 1)) (eCallD [some 0, none] [1, 0] (acOwn 0 (acCons (eC (.int 2)) acNil)) G__law_take)) aNil)) (gNm 10) tYesM (lOne (eCall dTuple (aCons (eComp (iRg1 (aCons (eVar 5 0) aNil)) (gNm 11) tYesM (lOne (eCallD [some 0, none] [1, 0] (acOwn 0 (acCons (eVar 5 0) acNil)) G__law_take)) [11]) aNil))) [10]))
    (sSeq (sSet 7 0 (eCallD [none, none] [0, 0] (acCons (eVar 6 0) (acCons (eVar 1 0) acNil)) G__law_from_moves))
    (sIf (tAndM (tCmpM dIsNot (eVar 7 0) (eC .non)) (tOrM (tCmpM dIs (eVar 2 0) (eC .non)) (tCmpM dGt (eCall dLen (aCons (eVar 7 0) aNil)) (eCall dLen (aCons (eVar 2 0) aNil)))))
    (sSet 2 0 (eVar 7 0))
    sNil))))
/-- no table, or a semigroup of at most most members -/
def Tb (most : Nat) (d : D) : Prop := d = .non ∨ ∃ m T, d = eT m T ∧ m ≤ most ∧ Sg m T
theorem dr_turn {N most num : Nat} {b t2 : D} {t4 t5 t6 t7 : Option (Nat × D)} (hb : Bx N b) (hN : N + 200 < 2 ^ 20) (hm : most ≤ 100) (ht : Tb most t2) :
    ∃ b' t2' t5' t6' t7', DrF (SD most num b t2 t4 t5 t6 t7 none none none) = some (.nx (SD most num b' t2' t4 t5' t6' t7' none none none)) ∧ Bx (N + 10) b' ∧ Tb most t2' := by
  obtain ⟨z, b1, e1, hz, hb1⟩ := take1 hb (by omega) (m := 3) (by decide) (by decide)
  have e1 : G__law_take [b, .int 3] = some (.int z, [some (1, b1), none]) := e1
  obtain ⟨p, hp⟩ : ∃ p : Nat, p = 2 + z := ⟨_, rfl⟩
  have k1 : eOp2 dAdd (eC (.int 2)) (eCallD [some 0, none] [1, 0] (acOwn 0 (acCons (eC (.int 3)) acNil)) G__law_take) (SD most num b t2 t4 t5 t6 t7 none none none) = some (dN p, SD most num b1 t2 t4 t5 t6 t7 none none none) :=
    eOp2_of (eC_of _) (callB (acCons_of (eC_of _) rfl) rfl rfl rfl e1 rfl rfl) ((dAdd_nat 2 z).trans (by rw [hp]))
  obtain ⟨gs, b2, e2, hg, h0, hl, hb2⟩ := mvlines (most := most) (num := num) (t2 := t2) (t4 := t4) (t6 := t6) (t7 := t7) hb1 (by omega) (p := p) (by omega) (by omega)
  have step : ∀ oth : D, G__law_from_moves [.lst (gs.map eM), .int most] = some (oth, [none, none]) → DrF (SD most num b t2 t4 t5 t6 t7 none none none) = sIf (tAndM (tCmpM dIsNot (eVar 7 0) (eC .non)) (tOrM (tCmpM dIs (eVar 2 0) (eC .non)) (tCmpM dGt (eCall dLen (aCons (eVar 7 0) aNil)) (eCall dLen (aCons (eVar 2 0) aNil)))))
    (sSet 2 0 (eVar 7 0)) sNil (SD most num b2 t2 t4 (some (0, dN p)) (some (0, .lst (gs.map eM))) (some (0, oth)) none none none) := fun oth eo => by
    refine (sSeq_of (sSet_of k1)).trans ((sSeq_of (sSet_of e2)).trans ((sSeq_of (sSet_of (eCallD_of (acCons_of V (acCons_of V rfl)) rfl eo))).trans rfl))
  have hb3 : Bx (N + 10) b2 := hb2.mono (by omega)
  rcases moves_ok (most := most) (by omega) hg h0 (by omega) hm with eo | ⟨m, T, eo, hm', sg⟩
  · exact ⟨b2, t2, _, _, _, (step _ eo).trans (sIf_f (tAnd_f (tCmp_of (b := false) V (eC_of _) rfl))), hb3, ht⟩
  · have c1 : tCmpM dIsNot (eVar 7 0) (eC .non) (SD most num b2 t2 t4 (some (0, dN p)) (some (0, .lst (gs.map eM))) (some (0, eT m T)) none none none) = some (true, _) := tCmp_of (b := true) V (eC_of _) rfl
    have good : Tb most (eT m T) := .inr ⟨m, T, rfl, hm', sg⟩
    rcases ht with rfl | ⟨m', T', rfl, q1, q2⟩
    · exact ⟨b2, eT m T, _, _, _, (step _ eo).trans ((sIf_t ((tAnd_t c1).trans (tOr_t (tCmp_of (b := true) V (eC_of _) rfl)))).trans (sSet_of V)), hb3, good⟩
    · have c2 : tCmpM dIs (eVar 2 0) (eC .non) (SD most num b2 (eT m' T') t4 (some (0, dN p)) (some (0, .lst (gs.map eM))) (some (0, eT m T)) none none none) = some (false, _) := tCmp_of (b := false) V (eC_of _) rfl
      by_cases h : m' < m
      · exact ⟨b2, eT m T, _, _, _, (step _ eo).trans ((sIf_t ((tAnd_t c1).trans ((tOr_f c2).trans (tCmp_of (b := true) (eCall_of (a1_of V) (eT_len _ _)) (eCall_of (a1_of V) (eT_len _ _)) (dCmp_of (decide_eq_true (by omega))))))).trans (sSet_of V)), hb3, good⟩
      · exact ⟨b2, eT m' T', _, _, _, (step _ eo).trans (sIf_f ((tAnd_t c1).trans ((tOr_f c2).trans (tCmp_of (b := false) (eCall_of (a1_of V) (eT_len _ _)) (eCall_of (a1_of V) (eT_len _ _)) (dCmp_of (decide_eq_false (by omega))))))), hb3, .inr ⟨m', T', rfl, q1, q2⟩⟩
theorem dr_end {N m : Nat} {T : Nat → Nat → Nat} {b : D} {ρ : DL.Env} (hb : Bx N b) (hN : N + 100 < 2 ^ 20) (h0 : ρ[0]? = some (some (1, b))) (h2 : ρ[2]? = some (some (0, eT m T))) (s : Sg m T) (hm : m ≤ 50) :
    ∃ T' b', sRet (eCallD [none, none] [0, 0] (acCons (eVar 2 0) (acCons (eCallD [some 0, none] [1, 0] (acOwn 0 (acCons (eCall dList (aCons (eCall dRange (aCons (eCall dLen (aCons (eVar 2 0) aNil)) aNil)) aNil)) acNil)) G__law_mixed) acNil)) G__law_relabelled) ρ = some (.rt (eT m T') (ρ.set 0 (some (1, b')))) ∧ Sg m T' ∧ Bx (N + 50) b' := by
  obtain ⟨ys, b', e, hp, hb'⟩ := mixed_ok (xs := (List.range m).map dN) hb (by simp; omega)
  obtain ⟨ns, rfl, hp'⟩ := perm_map dN hp rfl
  have hlen : 0 < ρ.length := by
    have := List.getElem?_eq_some_iff.mp h0
    exact this.1
  refine ⟨rel (fun x => ns.getD x 0) (fun x => fidx ns x) T, b', ?_, sg_rel (nm_of hp') s, hb'.mono (by simp; omega)⟩
  exact sRet_of (eCallD_of (acCons_of (V h2) (acCons_of (callB (acCons_of (eCall_of (a1_of (eCall_of (a1_of (eCall_of (a1_of (V h2)) (eT_len m T))) (dRange_nat (by omega)))) (dList_rng (by omega))) rfl) h0 h0 rfl e rfl rfl) rfl)) rfl (relabelled_ok (by omega) hp' s.2))
theorem eRow_snoc (m : Nat) (r : Nat → Nat) : eRow (m + 1) r = .tup (((List.range m).map fun b => dN (r b)) ++ [dN (r m)]) := by
  unfold eRow
  rw [List.range_succ, List.map_append]
  rfl
theorem dr_adj {N most num : Nat} {m : Nat} {T : Nat → Nat → Nat} {b : D} {t4 t5 t6 t7 : Option (Nat × D)} (hb : Bx N b) (hN : N + 100 < 2 ^ 20) (s : Sg m T) (hm : m < most) (hmo : most ≤ 50) :
    ∃ T' b' t8 t9, (sSeq (sAsg (eTup (aCons (eCall dLen (aCons (eVar 2 0) aNil)) (aCons (eCallD [some 0, none] [1, 0] (acOwn 0 (acCons (eC (.int 2)) acNil)) G__law_take) aNil))) (gTq 2 (gsCons (gNm 8) (gsCons (gNm 9) gsNil))))
    (sSeq (sSet 2 0 (eCall dTuple (aCons (eComp (iRg1 (aCons (eVar 8 0) aNil)) (gNm 12) tYesM (lOne (eOp2 dAdd (eIx (0 - 1) (eVar 2 0) (eVar 12 0)) (eTup (aCons (eIfM (tCmpM dEq (eVar 9 0) (eC (.int 0))) (eVar 12 0) (eVar 8 0)) aNil)))) [12]) aNil)))
    (sSet 2 0 (eOp2 dAdd (eVar 2 0) (eTup (aCons (eIfM (tCmpM dEq (eVar 9 0) (eC (.int 0))) (eOp2 dAdd (eCall dTuple (aCons (eCall dRange (aCons (eVar 8 0) aNil)) aNil)) (eTup (aCons (eVar 8 0) aNil))) (eOp2 dMul (eTup (aCons (eVar 8 0) aNil)) (eOp2 dAdd (eVar 8 0) (eC (.int 1))))) aNil)))))) (SD most num b (eT m T) t4 t5 t6 t7 none none none) = some (.nx (SD most num b' (eT (m + 1) T') t4 t5 t6 t7 t8 t9 none)) ∧ Sg (m + 1) T' ∧ Bx (N + 1) b' := by
  have hs := sizeLine_big
  have h1 := s.1
  obtain ⟨w, b1, e1, hw, hb1⟩ := take1 hb (by omega) (m := 2) (by decide) (by decide)
  have e1 : G__law_take [b, .int 2] = some (.int w, [some (1, b1), none]) := e1
  have k1 : eTup (aCons (eCall dLen (aCons (eVar 2 0) aNil)) (aCons (eCallD [some 0, none] [1, 0] (acOwn 0 (acCons (eC (.int 2)) acNil)) G__law_take) aNil)) (SD most num b (eT m T) t4 t5 t6 t7 none none none) = some (.tup [dN m, dN w], SD most num b1 (eT m T) t4 t5 t6 t7 none none none) :=
    eTup_of (a2_of (eCall_of (a1_of V) (eT_len m T)) (callB (acCons_of (eC_of _) rfl) rfl rfl rfl e1 rfl rfl))
  let σ : D → DL.Env := fun d => SD most num b1 d t4 t5 t6 t7 (some (0, dN m)) (some (0, dN w)) none
  have tw : ∀ ρ : DL.Env, ρ[9]? = some (some (0, dN w)) → tCmpM dEq (eVar 9 0) (eC (.int 0)) ρ = some (decide (w = 0), ρ) := fun ρ h => tCmp_of (V h) (eC_of _) (dEq_nat w 0)
  have c : eComp (iRg1 (aCons (eVar 8 0) aNil)) (gNm 12) tYesM (lOne (eOp2 dAdd (eIx (0 - 1) (eVar 2 0) (eVar 12 0)) (eTup (aCons (eIfM (tCmpM dEq (eVar 9 0) (eC (.int 0))) (eVar 12 0) (eVar 8 0)) aNil)))) [12] (σ (eT m T)) = some (.lst ((List.range m).map fun x => eRow (m + 1) (adj w m T x)), σ (eT m T)) := by
    refine eComp_map dN (fun x => eRow (m + 1) (adj w m T x)) (iRg1_var V (by omega)) rfl (fun x hx => ?_) rfl (by rw [List.length_range]; omega)
    have hx := List.mem_range.mp hx
    let ρ : DL.Env := [some (1, b1), some (0, dN most), some (0, eT m T), some (0, dN num), t4, t5, t6, t7, some (0, dN m), some (0, dN w), none, none, some (0, dN x)]
    have ee : eIfM (tCmpM dEq (eVar 9 0) (eC (.int 0))) (eVar 12 0) (eVar 8 0) ρ = some (dN (adj w m T x m), ρ) := by
      unfold adj
      by_cases h : w = 0
      · refine (eIf_t ((tw ρ rfl).trans (by rw [decide_eq_true h]))).trans ((DL.V).trans ?_)
        rw [if_pos h, if_neg (by omega), if_pos rfl]
      · refine (eIf_f ((tw ρ rfl).trans (by rw [decide_eq_false h]))).trans ((DL.V).trans ?_)
        rw [if_neg h, if_pos (.inr rfl)]
    refine lMap (lStep_t (ρ1 := ρ) rfl (tYesM_ _) (lOne_of (ρ1 := ρ) (eOp2_of (eIx_of V V (eT_at (b := 0) T hx)) (eTup_of (a1_of ee)) ?_))) rfl
    refine (dAdd_tup (by intro h; have := congrArg List.length h; simp at this; omega) (by simp) (by simp; omega)).trans ?_
    rw [eRow_snoc]
    congr 3
    refine List.map_congr_left fun y hy => ?_
    have hy := List.mem_range.mp hy
    unfold adj
    by_cases h : w = 0
    · rw [if_pos h, if_neg (by omega), if_neg (by omega)]
    · rw [if_neg h, if_neg (by omega)]
  have k3 : eOp2 dAdd (eVar 2 0) (eTup (aCons (eIfM (tCmpM dEq (eVar 9 0) (eC (.int 0))) (eOp2 dAdd (eCall dTuple (aCons (eCall dRange (aCons (eVar 8 0) aNil)) aNil)) (eTup (aCons (eVar 8 0) aNil))) (eOp2 dMul (eTup (aCons (eVar 8 0) aNil)) (eOp2 dAdd (eVar 8 0) (eC (.int 1))))) aNil)) (σ (.tup ((List.range m).map fun x => eRow (m + 1) (adj w m T x)))) = some (eT (m + 1) (adj w m T), σ (.tup ((List.range m).map fun x => eRow (m + 1) (adj w m T x)))) := by
    let ρ := σ (.tup ((List.range m).map fun x => eRow (m + 1) (adj w m T x)))
    have ee : eIfM (tCmpM dEq (eVar 9 0) (eC (.int 0))) (eOp2 dAdd (eCall dTuple (aCons (eCall dRange (aCons (eVar 8 0) aNil)) aNil)) (eTup (aCons (eVar 8 0) aNil))) (eOp2 dMul (eTup (aCons (eVar 8 0) aNil)) (eOp2 dAdd (eVar 8 0) (eC (.int 1)))) ρ = some (eRow (m + 1) (adj w m T m), ρ) := by
      by_cases h : w = 0
      · refine (eIf_t ((tw ρ rfl).trans (by rw [decide_eq_true h]))).trans (eOp2_of (eCall_of (a1_of (eCall_of (a1_of V) (dRange_nat (by omega)))) (dTuple_rng (by omega))) (eTup_of (a1_of V)) ?_)
        refine (dAdd_tup (by intro h; have := congrArg List.length h; simp at this; omega) (by simp) (by simp; omega)).trans ?_
        rw [eRow_snoc]
        unfold adj
        simp only [if_pos h, if_pos]
      · refine (eIf_f ((tw ρ rfl).trans (by rw [decide_eq_false h]))).trans (eOp2_of (eTup_of (a1_of V)) (eOp2_of V (eC_of _) (dAdd_nat m 1)) ((dMul_tup (by omega) (by omega)).trans ?_))
        have q : (fun _ => m) = adj w m T m := by
          funext y
          unfold adj
          rw [if_neg h, if_pos (.inl rfl)]
        rw [q]
    refine eOp2_of V (eTup_of (a1_of ee)) ((dAdd_tup (by intro h; have := congrArg List.length h; simp at this; omega) (by simp) (by simp; omega)).trans ?_)
    unfold eT
    rw [List.range_succ, List.map_append]
    rfl
  refine ⟨adj w m T, b1, some (0, dN m), some (0, dN w), ?_, sg_adj s w, hb1⟩
  exact (sSeq_of (sAsg_of k1 rfl)).trans ((sSeq_of (sSet_of (eCall_of (a1_of c) rfl))).trans (sSet_of k3))
theorem drawn_ok {N most : Nat} {b : D} (hb : Bx N b) (hN : N + 1000 < 2 ^ 20) (h1 : 1 ≤ most) (h2 : most ≤ 10) :
    ∃ m T b', G__law_drawn [b, .int most] = some (eT m T, [some (1, b'), none]) ∧ m ≤ most ∧ Sg m T ∧ Bx (N + 200) b' := by
  have hs := sizeLine_big
  obtain ⟨num, b1, e1, hn, hb1⟩ := take1 hb (by omega) (m := 6) (by decide) (by decide)
  have e1 : G__law_take [b, .int 6] = some (.int num, [some (1, b1), none]) := e1
  have k1 : eTup (aCons (eC .non) (aCons (eCallD [some 0, none] [1, 0] (acOwn 0 (acCons (eC (.int 6)) acNil)) G__law_take) aNil)) ([some (1, b), some (0, dN most), none, none, none, none, none, none, none, none, none, none, none] : DL.Env) = some (.tup [.non, dN num], [some (1, b1), some (0, dN most), none, none, none, none, none, none, none, none, none, none, none]) :=
    eTup_of (a2_of (eC_of _) (callB (acCons_of (eC_of _) rfl) rfl rfl rfl e1 rfl rfl))
  obtain ⟨ρ', e2, b2, t2, t4, t5, t6, t7, rfl, hb2, ht2⟩ := forM_pre dN (g := gNm 4) (F := DrF) (fun pre ρ => ∃ b2 t2 t4 t5 t6 t7, ρ = SD most num b2 t2 t4 t5 t6 t7 none none none ∧ Bx (N + 1 + 10 * pre.length) b2 ∧ Tb most t2) (List.range num) (fun pre x post ρ ex h => by
    obtain ⟨b2, t2, t4, t5, t6, t7, rfl, hb2, ht⟩ := h
    have hpl : pre.length < num := by
      have := congrArg List.length ex
      simp at this
      omega
    obtain ⟨b3, t2', t5', t6', t7', e, hb3, ht'⟩ := dr_turn (num := num) (t4 := some (0, dN x)) (t5 := t5) (t6 := t6) (t7 := t7) hb2 (by omega) (by omega) ht
    exact ⟨_, _, rfl, e, b3, t2', _, t5', t6', t7', rfl, hb3.mono (by rw [List.length_append, List.length_singleton]; omega), ht'⟩) (ρ := SD most num b1 .non none none none none none none none) ⟨b1, .non, none, none, none, none, rfl, hb1, .inl rfl⟩
  rw [List.length_range] at hb2
  suffices hh : ∃ m T b' ρ1, F__law_drawn ([some (1, b), some (0, dN most), none, none, none, none, none, none, none, none, none, none, none] : DL.Env) = some (.rt (eT m T) ρ1) ∧ ρ1.head? = some (some (1, b')) ∧ m ≤ most ∧ Sg m T ∧ Bx (N + 200) b' by
    obtain ⟨m, T, b', ρ1, e, eh, q⟩ := hh
    refine ⟨m, T, b', ?_, q⟩
    simp only [G__law_drawn]
    refine (show defG 13 [1, 0] F__law_drawn [b, dN most] = some (eT m T, outE [1, 0] ρ1) from defG_rt e).trans ?_
    simp only [outE_one, outE_zero, outE_nil, eh]
    rfl
  simp only [F__law_drawn]
  rw [sSeq_of (sAsg_of k1 rfl)]
  show ∃ m T b' ρ1, sSeq _ _ (SD most num b1 .non none none none none none none none) = _ ∧ _
  rw [sSeq_of (sFor_of (iRg1_var (n := num) (V (i := 3) (m := 0)) (by omega)) e2)]
  have second : ∃ m T b3, sIf (tCmpM dIs (eVar 2 0) (eC .non)) (sSet 2 0 (eCallD [some 0, none] [1, 0] (acOwn 0 (acCons (eVar 1 0) acNil)) G__law_plain)) sNil (SD most num b2 t2 t4 t5 t6 t7 none none none) = some (.nx (SD most num b3 (eT m T) t4 t5 t6 t7 none none none)) ∧ m ≤ most ∧ Sg m T ∧ Bx (N + 100) b3 := by
    rcases ht2 with rfl | ⟨m, T, rfl, q1, q2⟩
    · obtain ⟨m, T, b3, e3, hm, sg, hb3⟩ := plain_ok hb2 (by omega) h1 h2
      have c : eCallD [some 0, none] [1, 0] (acOwn 0 (acCons (eVar 1 0) acNil)) G__law_plain (SD most num b2 .non t4 t5 t6 t7 none none none) = some (eT m T, SD most num b3 .non t4 t5 t6 t7 none none none) := callB (acCons_of V rfl) rfl rfl rfl e3 rfl rfl
      exact ⟨m, T, b3, (sIf_t (tCmp_of (b := true) V (eC_of _) rfl)).trans (sSet_of c), hm, sg, hb3.mono (by omega)⟩
    · exact ⟨m, T, b2, sIf_f (tCmp_of (b := false) V (eC_of _) rfl), q1, q2, hb2.mono (by omega)⟩
  obtain ⟨m, T, b3, e3, hm, sg, hb3⟩ := second
  rw [sSeq_of e3]
  by_cases hlt : m < most
  · obtain ⟨z, b4, e4, hz, hb4⟩ := take1 hb3 (by omega) (m := 4) (by decide) (by decide)
    have e4 : G__law_take [b3, .int 4] = some (.int z, [some (1, b4), none]) := e4
    have c1 : tCmpM dLt (eCall dLen (aCons (eVar 2 0) aNil)) (eVar 1 0) (SD most num b3 (eT m T) t4 t5 t6 t7 none none none) = some (true, _) := tCmp_of (b := true) (eCall_of (a1_of V) (eT_len m T)) V (dCmp_of (decide_eq_true (by omega)))
    have c2 : tCmpM dEq (eCallD [some 0, none] [1, 0] (acOwn 0 (acCons (eC (.int 4)) acNil)) G__law_take) (eC (.int 0)) (SD most num b3 (eT m T) t4 t5 t6 t7 none none none) = some (decide (z = 0), SD most num b4 (eT m T) t4 t5 t6 t7 none none none) := tCmp_of (callB (acCons_of (eC_of _) rfl) rfl rfl rfl e4 rfl rfl) (eC_of _) (dEq_nat z 0)
    by_cases hz0 : z = 0
    · obtain ⟨T', b5, t8, t9, e5, sg5, hb5⟩ := dr_adj (num := num) (t4 := t4) (t5 := t5) (t6 := t6) (t7 := t7) hb4 (by omega) sg hlt (by omega)
      obtain ⟨T6, b6, e6, sg6, hb6⟩ := dr_end (ρ := SD most num b5 (eT (m + 1) T') t4 t5 t6 t7 t8 t9 none) hb5 (by omega) rfl rfl sg5 (by omega)
      refine ⟨m + 1, T6, b6, _, (sSeq_of ((sIf_t ((tAnd_t c1).trans (c2.trans (by rw [decide_eq_true hz0])))).trans e5)).trans e6, rfl, by omega, sg6, hb6.mono (by omega)⟩
    · obtain ⟨T6, b6, e6, sg6, hb6⟩ := dr_end (ρ := SD most num b4 (eT m T) t4 t5 t6 t7 none none none) hb4 (by omega) rfl rfl sg (by omega)
      exact ⟨m, T6, b6, _, (sSeq_of (sIf_f ((tAnd_t c1).trans (c2.trans (by rw [decide_eq_false hz0]))))).trans e6, rfl, by omega, sg6, hb6.mono (by omega)⟩
  · have c1 : tCmpM dLt (eCall dLen (aCons (eVar 2 0) aNil)) (eVar 1 0) (SD most num b3 (eT m T) t4 t5 t6 t7 none none none) = some (false, _) := tCmp_of (b := false) (eCall_of (a1_of V) (eT_len m T)) V (dCmp_of (decide_eq_false (by omega)))
    obtain ⟨T6, b6, e6, sg6, hb6⟩ := dr_end (ρ := SD most num b3 (eT m T) t4 t5 t6 t7 none none none) hb3 (by omega) rfl rfl sg (by omega)
    exact ⟨m, T6, b6, _, (sSeq_of (sIf_f (tAnd_f c1))).trans e6, rfl, by omega, sg6, hb6.mono (by omega)⟩
end K02
namespace K02
open PySem L2 DL TB
theorem same_lst {n : Nat} {ds : List D} (hl : ds.length ≤ 1000) (h : ∀ d ∈ ds, G__law_same_n n [d, d] = some (.bl true, [none, none])) : G__law_same_n (n + 1) [.lst ds, .lst ds] = some (.bl true, [none, none]) := by
  have hs := sizeLine_big
  show defG 4 [0, 0] (F__law_same (G__law_same_n n)) [.lst ds, .lst ds] = _
  refine defG_rt (ρ1 := [some (0, .lst ds), some (0, .lst ds), none, none]) ?_
  show F__law_same _ ([some (0, .lst ds), some (0, .lst ds), none, none] : DL.Env) = _
  simp only [F__law_same]
  rw [sSeq_of (sIf_f ((tOr_f (tCmp_of V (eC_of _) rfl)).trans (tValB (isi1 V rfl))))]
  rw [sSeq_of (sIf_f (tValB (isi1 V rfl)))]
  rw [sSeq_of (sIf_f (tValB (isi1 V rfl)))]
  rw [sSeq_of (sIf_f (tValB (isi1 V rfl)))]
  rw [sSeq_of (ρ1 := [some (0, .lst ds), some (0, .lst ds), none, none]) (sIf_f ((tOr_f (tNot_of (b := true) (tValB (eCall_of (a2_of V (eTup_of (a2_of (eC_of _) (eC_of _)))) rfl)))).trans (tNot_of (b := true) (tValB (eCall_of (a2_of V (eTup_of (a2_of (eC_of _) (eC_of _)))) rfl)))))]
  rw [sSeq_of (ρ1 := [some (0, .lst ds), some (0, .lst ds), none, none]) (sIf_f ((tOr_f (tCmp_of (isi1 V (b := true) rfl) (isi1 V (b := true) rfl) ((dNe_bl _ _).trans rfl))).trans (tCmp_of (eCall_of (a1_of V) (dLen_lst ds)) (eCall_of (a1_of V) (dLen_lst ds)) ((dNe_nat ds.length ds.length).trans (by simp)))))]
  refine sRet_of (eOp2_of (x := .lst (((List.range ds.length).filter fun _ => false).map dN)) (y := .lst []) (ρ1 := [some (0, .lst ds), some (0, .lst ds), none, none]) ?_ (eC_of _) ?_)
  · refine eComp_flt dN (fun _ => false) dN (iRg1_len V (dLen_lst ds) (by omega)) rfl (fun i hi => ?_) rfl (by rw [List.length_range]; omega)
    have hi := List.mem_range.mp hi
    have e : dIx (0 - 1) (.lst ds) (.int (i : Int)) = some ds[i] := by
      show dIx 0 (.lst ds) (.int (i : Int)) = some ds[i]
      rw [dIx_lst, DL.atI_nat, List.getElem?_eq_getElem hi]
    have hq := h ds[i] (List.getElem_mem hi)
    exact lMap (lStep_f (gNm_ _ _ _) (tNot_of (b := true) (tValB (eCallD0 (acCons_of (eIx_of V V e) (acCons_of (eIx_of V V e) rfl)) rfl hq rfl)))) rfl
  · rw [filter_nil_of (fun _ _ => rfl)]
    rfl
theorem same_tr (n : Nat) (t : Tr) : G__law_same_n (n + 2) [eTr t, eTr t] = some (.bl true, [none, none]) := by
  unfold eTr
  refine same_tup (by simp) fun d hd => ?_
  simp only [List.mem_cons, List.not_mem_nil, or_false] at hd
  rcases hd with rfl | rfl | rfl <;> exact same_int n _
theorem same_trs {l : List Tr} (hl : l.length ≤ 1000) : G__law_same [.lst (l.map eTr), .lst (l.map eTr)] = some (.bl true, [none, none]) := by
  refine same_lst (n := 9) (by simpa using hl) fun d hd => ?_
  obtain ⟨t, _, rfl⟩ := List.mem_map.mp hd
  exact same_tr 7 t
theorem brs_len {m : Nat} (hm : m < 11) (T : Nat → Nat → Nat) : (brs m T).length ≤ 1000 := Nat.le_trans (List.length_filter_le _ _) (tri_le hm)
theorem dIn_nats (y : Nat) (ms : List Nat) : dIn (.int (y : Int)) (.lst (ms.map dN)) = some (.bl (decide (y ∈ ms))) := (dIn_lst y ms).trans (by congr)
theorem dNotIn_nats (y : Nat) (ms : List Nat) : dNotIn (.int (y : Int)) (.lst (ms.map dN)) = some (.bl (!decide (y ∈ ms))) := (dNotIn_lst y ms).trans (by congr)
/-- the broken triples with a middle of the list -/
def brsM (m : Nat) (T : Nat → Nat → Nat) (ms : List Nat) : List Tr := (brs m T).filter fun t => decide (t.2.1 ∈ ms)
theorem broken_mid {m : Nat} (hm : m < 11) {T : Nat → Nat → Nat} (hT : ∀ x, x < m → ∀ y, y < m → T x y < m) (ms : List Nat) : G_broken_with [eT m T, .lst (ms.map dN)] = some (.lst ((brsM m T ms).map eTr), [none, none]) := by
  have hs := sizeLine_big
  have e3 : eCall dRange (aCons (eCall dLen (aCons (eVar 0 0) aNil)) aNil) ([some (0, eT m T), some (0, .lst (ms.map dN)), none, none, none, none] : DL.Env) = some (.rng 0 m, _) :=
    eCall_of (a1_of (eCall_of (a1_of V) (eT_len m T))) (dRange_nat (by omega))
  simp only [G_broken_with, F_broken_with]
  refine defG_rt (ρ1 := [some (0, eT m T), some (0, .lst (ms.map dN)), some (0, .rng 0 m), none, none, none]) ?_
  show sSeq _ _ ([some (0, eT m T), some (0, .lst (ms.map dN)), none, none, none, none] : DL.Env) = _
  rw [sSeq_of (sSet_of e3)]
  refine sRet_of ?_
  show eComp _ _ _ _ _ ([some (0, eT m T), some (0, .lst (ms.map dN)), some (0, .rng 0 m), none, none, none] : DL.Env) = _
  have e8 : brsM m T ms = (tri m).filter fun t => decide (t.2.1 ∈ ms) && brk T t := by
    unfold brsM brs
    rw [List.filter_filter]
  have e9 := flt3 m fun t => decide (t.2.1 ∈ ms) && brk T t
  rw [e8, ← e9]
  refine eComp_en dN _ (iLst_rng V) rfl (fun x hx => ?_) rfl (by
    rw [e9, List.length_map]
    exact Nat.le_trans (List.length_filter_le _ _) (by have := tri_le hm; omega))
  have hx := List.mem_range.mp hx
  refine lMap (lStep_t (gNm_ _ _ _) (tYesM_ _) (lFor_en dN _ (ρ0 := [some (0, eT m T), some (0, .lst (ms.map dN)), some (0, .rng 0 m), some (0, dN x), none, none]) (iLst_rng V) rfl fun y hy => ?_)) rfl
  have hy := List.mem_range.mp hy
  refine lMap (lStep_t (gNm_ _ _ _) (tYesM_ _) (lFor_en dN _ (ρ0 := [some (0, eT m T), some (0, .lst (ms.map dN)), some (0, .rng 0 m), some (0, dN x), some (0, dN y), none]) (iLst_rng V) rfl fun z hz => ?_)) rfl
  have hz := List.mem_range.mp hz
  let ρ : DL.Env := [some (0, eT m T), some (0, .lst (ms.map dN)), some (0, .rng 0 m), some (0, dN x), some (0, dN y), some (0, dN z)]
  have e4 : tCmpM dIn (eVar 4 0) (eVar 1 0) ρ = some (decide (y ∈ ms), ρ) := tCmp_of V V (dIn_nats y ms)
  have e5 : tAndM (tCmpM dIn (eVar 4 0) (eVar 1 0)) (tVal (eCallD [none, none, none, none] [0, 0, 0, 0] (acCons (eVar 0 0) (acCons (eVar 3 0) (acCons (eVar 4 0) (acCons (eVar 5 0) acNil)))) G_is_broken)) ρ = some (decide (y ∈ ms) && brk T (x, y, z), ρ) := by
    by_cases h : y ∈ ms
    · rw [decide_eq_true h] at e4 ⊢
      exact (tAnd_t e4).trans (tValB (eCallD0 rfl rfl (is_broken_ok hT (t := (x, y, z)) (mem_tri.mpr ⟨hx, hy, hz⟩)) rfl))
    · rw [decide_eq_false h] at e4 ⊢
      exact tAnd_f e4
  cases hb : (decide (y ∈ ms) && brk T (x, y, z)) with
  | true =>
    rw [hb] at e5
    exact lMap (lStep_t (gNm_ _ _ _) e5 (lOne_of (eTup_of (aCons_of V (aCons_of V (aCons_of V rfl)))))) rfl
  | false =>
    rw [hb] at e5
    exact lMap (lStep_f (gNm_ _ _ _) e5) rfl
theorem check_ok {m : Nat} (h1 : 1 ≤ m) (hm : m < 11) {T : Nat → Nat → Nat} (hT : ∀ x, x < m → ∀ y, y < m → T x y < m) : G_check_table [eT m T] = some (.non, [none]) := by
  simp only [G_check_table, F_check_table]
  exact defG_nx (sIf_f (tNot_of (b := true) (tValB (eCallD0 (acCons_of V rfl) rfl (is_table_ok h1 (by omega) hT) rfl))))
theorem list_all {ρ : DL.Env} {m : Nat} {T : Nat → Nat → Nat} (hm : m < 11) (h : ρ[0]? = some (some (0, eT m T))) : eCall dList (aCons (eCall dRange (aCons (eCall dLen (aCons (eVar 0 0) aNil)) aNil)) aNil) ρ = some (.lst ((List.range m).map dN), ρ) :=
  eCall_of (a1_of (eCall_of (a1_of (eCall_of (a1_of (V h)) (eT_len m T))) (dRange_nat (by omega)))) (dList_rng (by omega))
theorem G_broken_ok {m : Nat} (h1 : 1 ≤ m) (hm : m < 11) {T : Nat → Nat → Nat} (hT : ∀ x, x < m → ∀ y, y < m → T x y < m) : G_broken [eT m T] = some (.lst ((brs m T).map eTr), [none]) := by
  simp only [G_broken, F_broken]
  refine defG_rt ((sSeq_of (sExpr_of (eCallD0 (acCons_of V rfl) rfl (check_ok h1 hm hT) rfl))).trans (sRet_of (eCallD0 (acCons_of V (acCons_of (list_all hm rfl) rfl)) rfl (broken_with_ok hm hT) rfl)))
theorem is_semigroup_ok {m : Nat} (h1 : 1 ≤ m) (hm : m < 11) {T : Nat → Nat → Nat} (hT : ∀ x, x < m → ∀ y, y < m → T x y < m) : G_is_semigroup [eT m T] = some (.bl (decide (brs m T = [])), [none]) := by
  simp only [G_is_semigroup, F_is_semigroup]
  refine defG_rt (sRet_of ((eAnd_t (eCallD0 (acCons_of V rfl) rfl (is_table_ok h1 (by omega) hT) rfl) rfl).trans (eOp2_of (eCallD0 (acCons_of V (acCons_of (list_all hm rfl) rfl)) rfl (broken_with_ok hm hT) rfl) (eC_of _) ?_)))
  have := dEqB_trs (brs m T) []
  show (dEqB _ (.lst (([] : List Tr).map eTr))).map D.bl = _
  rw [this]
  rfl
end K02
namespace K02
open PySem L2 DL TB
theorem same_v0_trs {l : List Tr} (hl : l.length ≤ 1000) : G__law_same_v0 [.lst (l.map eTr), .lst (l.map eTr)] = some (.bl true, [some (1, .lst (l.map eTr)), none]) := by
  have hs := sizeLine_big
  let ds := l.map eTr
  have hd : ds.length ≤ 1000 := by simpa [ds] using hl
  let ρ : DL.Env := [some (1, .lst ds), some (0, .lst ds), none, none]
  simp only [G__law_same_v0]
  refine (show defG 4 [1, 0] F__law_same_v0 [.lst ds, .lst ds] = some (.bl true, outE [1, 0] ρ) from defG_rt (ρ1 := ρ) ?_).trans rfl
  show F__law_same_v0 ρ = _
  simp only [F__law_same_v0]
  rw [sSeq_of (ρ1 := ρ) (sIf_f ((tOr_f (tCmp_of V (eC_of _) rfl)).trans (tValB (isi1 V rfl))))]
  rw [sSeq_of (ρ1 := ρ) (sIf_f (tValB (isi1 V rfl)))]
  rw [sSeq_of (ρ1 := ρ) (sIf_f (tValB (isi1 V rfl)))]
  rw [sSeq_of (ρ1 := ρ) (sIf_f (tValB (isi1 V rfl)))]
  rw [sSeq_of (ρ1 := ρ) (sIf_f ((tOr_f (tNot_of (b := true) (tValB (eCall_of (a2_of V (eTup_of (a2_of (eC_of _) (eC_of _)))) rfl)))).trans (tNot_of (b := true) (tValB (eCall_of (a2_of V (eTup_of (a2_of (eC_of _) (eC_of _)))) rfl)))))]
  rw [sSeq_of (ρ1 := ρ) (sIf_f ((tOr_f (tCmp_of (isi1 V (b := true) rfl) (isi1 V (b := true) rfl) ((dNe_bl _ _).trans rfl))).trans (tCmp_of (eCall_of (a1_of V) (dLen_lst ds)) (eCall_of (a1_of V) (dLen_lst ds)) ((dNe_nat ds.length ds.length).trans (by simp)))))]
  refine sRet_of (eOp2_of (x := .lst (((List.range ds.length).filter fun _ => false).map dN)) (y := .lst []) (ρ1 := ρ) ?_ (eC_of _) ?_)
  · refine eComp_flt dN (fun _ => false) dN (iRg1_len V (dLen_lst ds) (by omega)) rfl (fun i hi => ?_) rfl (by rw [List.length_range]; omega)
    have hi := List.mem_range.mp hi
    have e : ∀ k, dIx k (.lst ds) (.int (i : Int)) = some ds[i] := fun k => by
      rw [dIx_lst, DL.atI_nat, List.getElem?_eq_getElem hi]
    have hm : ds[i] ∈ ds := List.getElem_mem hi
    obtain ⟨t, _, et⟩ := List.mem_map.mp hm
    have hq : G__law_same [ds[i], ds[i]] = some (.bl true, [none, none]) := by rw [← et]; exact same_tr 8 t
    exact lMap (lStep_f (gNm_ _ _ _) (tNot_of (b := true) (tValB (eCallD0 (acCons_of (eIx_of V V (e _)) (acCons_of (eIx_of V V (e _)) rfl)) rfl hq rfl)))) rfl
  · rw [filter_nil_of (fun _ _ => rfl)]
    rfl
theorem are_elements_sq {ms : List Nat} {d : D} (sq : Sq (ms.map dN) d) {m : Nat} (h : ∀ x ∈ ms, x < m) (hl : ms.length ≤ 1000) : G_are_elements [d, .int m] = some (.bl true, [none, none]) := by
  have hs := sizeLine_big
  simp only [G_are_elements, F_are_elements]
  have e1 : G_is_list [d] = some (.bl true, [none]) := by rcases sq with rfl | rfl <;> rfl
  refine defG_rt (sRet_of ((eAnd_t (eCallD0 (acCons_of V rfl) rfl e1 rfl) rfl).trans (eCall_of (a1_of (eComp_map dN (fun x => .bl (decide (x < m))) (iLst_sq sq V) rfl (fun x hx => ?_) rfl (by omega))) ?_)))
  · exact lMap (lStep_t (gNm_ _ _ _) (tYesM_ _) (lOne_of (eCallD0 (acCons_of V (acCons_of V rfl)) rfl (is_index_nat x m) rfl))) rfl
  · rw [dAll_map]
    congr 2
    rw [List.all_eq_true]
    exact fun x hx => decide_eq_true (h x hx)
theorem are_different_ok {ms : List Nat} {d : D} (sq : Sq (ms.map dN) d) {m : Nat} (hm : m < 11) (h : Ms m ms) : G_are_different [d, .int m] = some (.bl true, [none, none]) := by
  have hl := h.len
  have e2 : dLen [d] = some (dN ms.length) := by rcases sq with rfl | rfl <;> simp
  simp only [G_are_different, F_are_different]
  refine defG_rt (sRet_of ((eAnd_t (eCallD0 (acCons_of V (acCons_of V rfl)) rfl (are_elements_sq sq h.2 (by omega)) rfl) rfl).trans (eOp2_of (eLenSet_nat V sq h.1 (by omega)) (eCall_of (a1_of V) e2) ((dEq_nat _ _).trans (by simp)))))
theorem light_ok {m : Nat} (h1 : 1 ≤ m) (hm : m < 11) {T : Nat → Nat → Nat} (hT : ∀ x, x < m → ∀ y, y < m → T x y < m) {ms : List Nat} {d : D} (sq : Sq (ms.map dN) d) (h : Ms m ms) : G_light [eT m T, d] = some (.lst ((brsM m T ms).map eTr), [none, none]) := by
  have e2 : dList [d] = some (.lst (ms.map dN)) := by rcases sq with rfl | rfl <;> rfl
  simp only [G_light, F_light]
  refine defG_rt ((sSeq_of (sExpr_of (eCallD0 (acCons_of V rfl) rfl (check_ok h1 hm hT) rfl))).trans ((sSeq_of (sIf_f (tNot_of (b := true) (tValB (eCallD0 (acCons_of V (acCons_of (eCall_of (a1_of V) (eT_len m T)) rfl)) rfl (are_different_ok sq hm h) rfl))))).trans (sRet_of (eCallD0 (acCons_of V (acCons_of (eCall_of (a1_of V) e2) rfl)) rfl (broken_mid hm hT ms) rfl))))
theorem told_ok {m : Nat} (h1 : 1 ≤ m) (hm : m < 11) {T : Nat → Nat → Nat} (hT : ∀ x, x < m → ∀ y, y < m → T x y < m) {ms : List Nat} (h : Ms m ms) (named : Bool) : G__law_told [eT m T, .lst (ms.map dN), .bl named] = some (.lst ((brsM m T ms).map eTr), [none, none, none]) := by
  simp only [G__law_told, F__law_told]
  cases named with
  | true => exact defG_rt (sRet_of ((eIf_t (tValB V)).trans (eCallK_of (ρ1 := [some (0, eT m T), some (0, .lst (ms.map dN)), some (0, .bl true)]) (as := []) rfl (acCons_of (eCall_of (a1_of V) rfl) (acCons_of V rfl)) rfl (light_ok h1 hm hT (.inr rfl) h))))
  | false => exact defG_rt (sRet_of ((eIf_f (tValB V)).trans (eCallD0 (acCons_of V (acCons_of (eCall_of (a1_of V) rfl) rfl)) rfl (light_ok h1 hm hT (.inl rfl) h) rfl)))
/-! ### what members generate -/
def stG (m : Nat) (T : Nat → Nat → Nat) (ms found : List Nat) (a b c d : Option (Nat × D)) : DL.Env := [some (0, eT m T), some (0, .lst (ms.map dN)), some (0, .lst (found.map dN)), a, b, c, d]
theorem asDict {ρ : DL.Env} {i v : Nat} {ls : List Nat} (hl : ls.length ≤ 1000) (hi : ρ[i]? = some (some (0, .lst (ls.map dN)))) {w : Option (Nat × D)} (hv : ρ[v]? = some w) (hw : S0 w) :
    ∃ (ks : List Nat) (vs : List D), eCall (dDict false) (aCons (eComp (iLst' (eVar i 0)) (gNm v) tYesM (lOne (eTup (aCons (eVar v 0) (aCons (eC (.bl true)) aNil)))) [v]) aNil) ρ = some (.dct false (ks.map dN) vs, ρ) ∧ ks.Nodup ∧ ks.length ≤ ls.length ∧ ∀ l, l ∈ ks ↔ l ∈ ls := by
  have hs := sizeLine_big
  obtain ⟨ks, vs, e, q⟩ := dDict_ks hl
  obtain ⟨lv, ev⟩ := List.getElem?_eq_some_iff.mp hv
  have hw' : ρ.set v w = ρ := by
    apply List.ext_getElem?
    intro j
    by_cases h : v = j
    · subst h
      rw [List.getElem?_set_self lv, hv]
    · rw [List.getElem?_set_ne h]
  refine ⟨ks, vs, eCall_of (a1_of (eComp_map dN (fun x => .tup [dN x, .bl true]) (ρ1 := ρ.set v none) (iLst_lst (V hi)) rfl (fun x _ => ?_) (ρ2 := ρ) ?_ (by omega))) e, q⟩
  · refine lMap (lStep_t (gNm_ _ _ _) (tYesM_ _) (lOne_of (eTup_of (a2_of (V (by rw [List.getElem?_set_self (by rw [List.length_set]; exact lv)])) (eC_of _))))) ?_
    show ((ρ.set v none).set v (some (0, dN x))).set v none = ρ.set v none
    rw [List.set_set, List.set_set]
  · show (backE ρ (ρ.set v none) []).bind (fun r => match ρ[v]? with
      | some (some (0, d)) => some (r.set v (some (0, d)))
      | some (some _) => none
      | _ => some (r.set v none)) = _
    show (match ρ[v]? with
      | some (some (0, d)) => some ((ρ.set v none).set v (some (0, d)))
      | some (some _) => none
      | _ => some ((ρ.set v none).set v none)) = _
    rw [hv]
    rcases hw with rfl | ⟨d, rfl⟩
    · show some ((ρ.set v none).set v none) = _
      rw [List.set_set, hw']
    · show some ((ρ.set v none).set v (some (0, d))) = _
      rw [List.set_set, hw']
abbrev MoB : SM := (sSeq (sSet 4 1 (eCall (dDict false) (aCons (eComp (iLst' (eVar 2 0)) (gNm 5) tYesM (lOne (eTup (aCons (eVar 5 0) (aCons (eC (.bl true)) aNil)))) [5]) aNil)))
    (sSeq (sFor (iLst' (eVar 2 0)) (gNm 5)
    (sFor (iLst' (eVar 2 0)) (gNm 6)
    (sDSet 4 (eC (.bl true)) (eIx (0 - 1) (eIx (0 - 1) (eVar 0 0) (eVar 5 0)) (eVar 6 0)))))
    (sSet 2 0 (eCall dSorted (aCons (eVar 4 1) aNil)))))
/-- members, all made of ms, each once -/
def Fd (m : Nat) (T : Nat → Nat → Nat) (ms found : List Nat) : Prop := found.Nodup ∧ ∀ x ∈ found, x < m ∧ Gn T ms x
theorem Fd.ms {m : Nat} {T : Nat → Nat → Nat} {ms found : List Nat} (h : Fd m T ms found) : Ms m found := ⟨h.1, fun x hx => (h.2 x hx).1⟩
theorem mo_turn {m : Nat} (hm : m < 11) {T : Nat → Nat → Nat} (hT : ∀ x, x < m → ∀ y, y < m → T x y < m) {ms found : List Nat} (hf : Fd m T ms found) (a b : Option (Nat × D)) {c d : Option (Nat × D)} (hc : S0 c) (hd : S0 d) :
    ∃ found' b' c' d', MoB (stG m T ms found a b c d) = some (.nx (stG m T ms found' a b' c' d')) ∧ Fd m T ms found' ∧ S0 c' ∧ S0 d' := by
  have hs := sizeLine_big
  have hl := hf.ms.len
  obtain ⟨ks, vs, e1, n1, l1, m1⟩ := asDict (ρ := stG m T ms found a b c d) (i := 2) (v := 5) (by omega) rfl rfl hc
  have F1 : Fd m T ms ks := ⟨n1, fun x hx => hf.2 x ((m1 x).mp hx)⟩
  let G : List Nat → List D → Option (Nat × D) → Option (Nat × D) → DL.Env := fun ks vs c d => stG m T ms found a (some (1, .dct false (ks.map dN) vs)) c d
  obtain ⟨ρ', e2, ks2, vs2, c2, d2, rfl, F2, hc2, hd2⟩ := forM_pre dN (g := gNm 5) (F := sFor (iLst' (eVar 2 0)) (gNm 6)
    (sDSet 4 (eC (.bl true)) (eIx (0 - 1) (eIx (0 - 1) (eVar 0 0) (eVar 5 0)) (eVar 6 0)))) (fun pre ρ => ∃ ks vs c d, ρ = G ks vs c d ∧ Fd m T ms ks ∧ S0 c ∧ S0 d) found (fun pre x post ρ ex h => by
      obtain ⟨ks, vs, c, d, rfl, F, hc, hd⟩ := h
      have hx : x ∈ found := by rw [ex]; simp
      obtain ⟨ρ', e2, ks2, vs2, d2, rfl, F2, hd2⟩ := forM_pre dN (g := gNm 6) (F := sDSet 4 (eC (.bl true)) (eIx (0 - 1) (eIx (0 - 1) (eVar 0 0) (eVar 5 0)) (eVar 6 0))) (fun pre ρ => ∃ ks vs d, ρ = G ks vs (some (0, dN x)) d ∧ Fd m T ms ks ∧ S0 d) found (fun pre y post ρ ey h => by
        obtain ⟨ks, vs, d, rfl, F, hd⟩ := h
        have hy : y ∈ found := by rw [ey]; simp
        obtain ⟨hx1, gx⟩ := hf.2 x hx
        obtain ⟨hy1, gy⟩ := hf.2 y hy
        obtain ⟨ks', vs', e3, n3, l3, m3⟩ := dput_ks (T x y) ks vs (.bl true)
        have F3 : Fd m T ms ks' := ⟨n3 F.1, fun z hz => by
          rcases (m3 z).mp hz with h | rfl
          · exact F.2 z h
          · exact ⟨hT x hx1 y hy1, .mul gx gy⟩⟩
        have hk := F.ms.len
        refine ⟨_, G ks' vs' (some (0, dN x)) (some (0, dN y)), rfl, ?_, ks', vs', _, rfl, F3, .some _⟩
        exact (sDSet_of (ρ1 := G ks vs (some (0, dN x)) (some (0, dN y))) (eC_of _) rfl (at2_of V V V hx1 hy1) rfl (by rw [List.length_map]; omega) e3).trans rfl) (ρ := G ks vs (some (0, dN x)) d) ⟨ks, vs, d, rfl, F, hd⟩
      exact ⟨G ks vs (some (0, dN x)) d, _, rfl, sFor_of (iLst_lst V) e2, ks2, vs2, _, _, rfl, F2, .some _, hd2⟩) (ρ := G ks vs c d) ⟨ks, vs, c, d, rfl, F1, hc, hd⟩
  have hk := F2.ms.len
  obtain ⟨ss, e3, p3⟩ := dSorted_ks (ks := ks2) (vs := vs2) (by omega)
  have F3 : Fd m T ms ss := ⟨p3.nodup_iff.mpr F2.1, fun x hx => F2.2 x (p3.mem_iff.mp hx)⟩
  refine ⟨ss, some (1, .dct false (ks2.map dN) vs2), c2, d2, ?_, F3, hc2, hd2⟩
  exact (sSeq_of (sSet_of e1)).trans ((sSeq_of (sFor_of (ρ1 := G ks vs c d) (iLst_lst V) e2)).trans ((sSet_of (eCall_of (a1_of V) e3)).trans rfl))
theorem made_of_ok {m : Nat} (hm : m < 11) {T : Nat → Nat → Nat} (hT : ∀ x, x < m → ∀ y, y < m → T x y < m) {ms : List Nat} (h : Ms m ms) :
    ∃ found, G__law_made_of [eT m T, .lst (ms.map dN)] = some (.lst (found.map dN), [none, none]) ∧ Fd m T ms found := by
  have hs := sizeLine_big
  have hl := h.len
  let ρ0 : DL.Env := [some (0, eT m T), some (0, .lst (ms.map dN)), none, none, none, none, none]
  obtain ⟨ks, vs, e1, n1, l1, m1⟩ := asDict (ρ := ρ0) (i := 1) (v := 5) (ls := ms) (by omega) rfl rfl (.inl rfl)
  obtain ⟨ss, e2, p2⟩ := dSorted_ks (ks := ks) (vs := vs) (by omega)
  have F1 : Fd m T ms ss := ⟨p2.nodup_iff.mpr n1, fun x hx => by
    have := (m1 x).mp (p2.mem_iff.mp hx)
    exact ⟨h.2 x this, .gen this⟩⟩
  obtain ⟨ρ', e3, f3, a3, b3, c3, d3, rfl, F3, hc3, hd3⟩ := forM_pre dN (g := gNm 3) (F := MoB) (fun pre ρ => ∃ found a b c d, ρ = stG m T ms found a b c d ∧ Fd m T ms found ∧ S0 c ∧ S0 d) (List.range m) (fun pre x post ρ ex h => by
    obtain ⟨found, a, b, c, d, rfl, F, hc, hd⟩ := h
    obtain ⟨f', b', c', d', e, F', hc', hd'⟩ := mo_turn hm hT F (some (0, dN x)) b hc hd
    exact ⟨_, _, rfl, e, f', _, b', c', d', rfl, F', hc', hd'⟩) (ρ := stG m T ms ss none none none none) ⟨ss, none, none, none, none, rfl, F1, .inl rfl, .inl rfl⟩
  refine ⟨f3, ?_, F3⟩
  simp only [G__law_made_of, F__law_made_of]
  refine defG_rt (ρ1 := stG m T ms f3 a3 b3 c3 d3) ?_
  exact (sSeq_of (sSet_of (eCall_of (a1_of e1) e2))).trans ((sSeq_of (sFor_of (ρ1 := stG m T ms ss none none none none) (iRg1_len V (eT_len m T) (by omega)) e3)).trans (sRet_of V))
end K02
namespace K02
open PySem L2 DL TB
def eL (l : List Nat) : D := .lst (l.map dN)
theorem tr_mid (k : Nat) (t : Tr) : dIx 0 (eTr t) (.int 1) = some (dN t.2.1) := rfl
theorem dEq_trs_nil (l : List Tr) : dEq (.lst (l.map eTr)) (.lst []) = some (.bl (decide (l = []))) := by
  show (dEqB (.lst (l.map eTr)) (.lst (([] : List Tr).map eTr))).map D.bl = _
  rw [dEqB_trs]
  rfl
theorem brs_asc (m : Nat) (T : Nat → Nat → Nat) : Asc ltL ((brs m T).map trI) := asc_filter _ (tri_asc m)
theorem halves {m : Nat} {T : Nat → Nat → Nat} {ms order : List Nat} (hp : order.Perm (List.range m)) : (brsM m T ms ++ brsM m T (order.filter fun x => !decide (x ∈ ms))).Perm (brs m T) := by
  have e : brsM m T (order.filter fun x => !decide (x ∈ ms)) = (brs m T).filter fun t => !decide (t.2.1 ∈ ms) := by
    refine List.filter_congr fun t ht => ?_
    have h2 : t.2.1 ∈ order := hp.mem_iff.mpr (List.mem_range.mpr (mem_tri.mp (List.mem_filter.mp ht).1).2.1)
    by_cases h : t.2.1 ∈ ms
    · rw [decide_eq_true h, decide_eq_false]
      · rfl
      · intro q
        rw [List.mem_filter, decide_eq_true h] at q
        exact absurd q.2 (by decide)
    · rw [decide_eq_false h, decide_eq_true]
      · rfl
      · rw [List.mem_filter, decide_eq_false h]
        exact ⟨h2, rfl⟩
  rw [e]
  exact List.filter_append_perm _ _
section
variable {m : Nat} {T : Nat → Nat → Nat} {order : List Nat}
/-- the environment of _law_middles_right from its lists on -/
def EM' (m : Nat) (T : Nat → Nat → Nat) (order : List Nat) (b : D) (named : Bool) (s6 s7 s8 s9 s10 : Option (Nat × D)) : DL.Env := [some (1, b), some (0, eT m T), some (0, .lst ((brs m T).map eTr)), some (0, .bl named), some (0, dN m), some (0, .lst (order.map dN)), s6, s7, s8, s9, s10, none, none, none]
abbrev MrB : SM := (sSeq (sSet 8 0 (eComp (iLst' (eVar 2 0)) (gNm 13) (tCmpM dIn (eIx (0 - 1) (eVar 13 0) (eC (.int 1))) (eVar 7 0)) (lOne (eVar 13 0)) [13]))
    (sSeq (sSet 9 1 (eCallD [none, none, none] [0, 0, 0] (acCons (eVar 1 0) (acCons (eVar 7 0) (acCons (eVar 3 0) acNil))) G__law_told))
    (sSeq (sIf (tNotM (tVal (eCallD [some 9, none] [1, 0] (acOwn 9 (acCons (eVar 8 0) acNil)) G__law_same_v0)))
    (sRet (eC (.bl false)))
    sNil)
    (sSeq (sExpr (eMeth 9 gAppend (aCons (eTup (aCons (eC (.int 0)) (aCons (eC (.int 0)) (aCons (eC (.int 0)) aNil)))) aNil)))
    (sSeq (sSet 10 0 (eComp (iLst' (eVar 5 0)) (gNm 11) (tCmpM dNotIn (eVar 11 0) (eVar 7 0)) (lOne (eVar 11 0)) [11]))
    (sSeq (sIf (tNotM (tVal (eCallD [none, none] [0, 0] (acCons (eCall dSorted (aCons (eOp2 dAdd (eVar 8 0) (eCallD [none, none, none] [0, 0, 0] (acCons (eVar 1 0) (acCons (eVar 10 0) (acCons (eNotM (eVar 3 0)) acNil))) G__law_told)) aNil)) (acCons (eVar 2 0) acNil)) G__law_same)))
    (sRet (eC (.bl false)))
    sNil)
    (sSeq (sIf (tAndM (tCmpM dEq (eCall dLen (aCons (eCallD [none, none] [0, 0] (acCons (eVar 1 0) (acCons (eVar 7 0) acNil)) G__law_made_of) aNil)) (eVar 4 0)) (tCmpM dNe (eOp2 dEq (eVar 8 0) (eC (.lst []))) (eOp2 dEq (eVar 2 0) (eC (.lst [])))))
    (sRet (eC (.bl false)))
    sNil)
    (sSet 3 0 (eNotM (eVar 3 0))))))))))
theorem mr_turn (h1 : 1 ≤ m) (hm : m < 11) (hT : ∀ x, x < m → ∀ y, y < m → T x y < m) (hp : order.Perm (List.range m)) {ms : List Nat} (hms : Ms m ms) {b : D} {named : Bool} {s6 s8 s9 s10 : Option (Nat × D)} :
    ∃ s8' s9' s10', MrB (EM' m T order b named s6 (some (0, eL ms)) s8 s9 s10) = some (.nx (EM' m T order b (!named) s6 (some (0, eL ms)) s8' s9' s10')) := by
  have hs := sizeLine_big
  have ho := Ms.perm hp
  have hol := ho.len
  have hbl := brs_len hm T
  have hfl : ∀ ns, (brsM m T ns).length ≤ 1000 := fun ns => Nat.le_trans (List.length_filter_le _ _) hbl
  have k1 : eComp (iLst' (eVar 2 0)) (gNm 13) (tCmpM dIn (eIx (0 - 1) (eVar 13 0) (eC (.int 1))) (eVar 7 0)) (lOne (eVar 13 0)) [13] (EM' m T order b named s6 (some (0, eL ms)) s8 s9 s10) = some (.lst ((brsM m T ms).map eTr), EM' m T order b named s6 (some (0, eL ms)) s8 s9 s10) := by
    refine eComp_flt eTr (fun t => decide (t.2.1 ∈ ms)) eTr (iLst_lst V) rfl (fun t ht => ?_) rfl (by omega)
    have c : tCmpM dIn (eIx (0 - 1) (eVar 13 0) (eC (.int 1))) (eVar 7 0) ((EM' m T order b named s6 (some (0, eL ms)) s8 s9 s10).set 13 (some (0, eTr t))) = some (decide (t.2.1 ∈ ms), (EM' m T order b named s6 (some (0, eL ms)) s8 s9 s10).set 13 (some (0, eTr t))) := tCmp_of (eIx_of (V (d := eTr t)) (eC_of _) (tr_mid 0 t)) V (dIn_nats t.2.1 ms)
    by_cases h : t.2.1 ∈ ms
    · rw [decide_eq_true h] at c
      rw [if_pos (decide_eq_true h)]
      exact lMap (lStep_t (gNm_ _ _ _) c (lOne_of V)) rfl
    · rw [decide_eq_false h] at c
      rw [if_neg (by simpa using h)]
      exact lMap (lStep_f (gNm_ _ _ _) c) rfl
  let own : Option (Nat × D) := some (0, .lst ((brsM m T ms).map eTr))
  have e2 := told_ok h1 hm hT hms named
  have k3 : eCallD [some 9, none] [1, 0] (acOwn 9 (acCons (eVar 8 0) acNil)) G__law_same_v0 (EM' m T order b named s6 (some (0, eL ms)) own (some (1, .lst ((brsM m T ms).map eTr))) s10) = some (.bl true, EM' m T order b named s6 (some (0, eL ms)) own (some (1, .lst ((brsM m T ms).map eTr))) s10) :=
    callB (acCons_of V rfl) rfl rfl rfl (same_v0_trs (hfl ms)) rfl rfl
  obtain ⟨t9, ht9⟩ : ∃ d : D, d = .lst ((brsM m T ms).map eTr ++ [.tup [.int 0, .int 0, .int 0]]) := ⟨_, rfl⟩
  let rest := order.filter fun x => !decide (x ∈ ms)
  have hrest : Ms m rest := ho.sub List.filter_sublist
  let ρ : D → Option (Nat × D) → DL.Env := fun t s10 => EM' m T order b named s6 (some (0, eL ms)) own (some (1, t)) s10
  have k4 : eMeth 9 gAppend (aCons (eTup (aCons (eC (.int 0)) (aCons (eC (.int 0)) (aCons (eC (.int 0)) aNil)))) aNil) (ρ (.lst ((brsM m T ms).map eTr)) s10) = some (.non, ρ t9 s10) := by
    rw [ht9]
    have hx : ((brsM m T ms).map eTr).length < sizeLine := by
      rw [List.length_map]
      have := hfl ms
      omega
    have ea : aCons (eTup (aCons (eC (.int 0)) (aCons (eC (.int 0)) (aCons (eC (.int 0)) aNil)))) aNil (ρ (.lst ((brsM m T ms).map eTr)) s10) = some ([.tup [.int 0, .int 0, .int 0]], ρ (.lst ((brsM m T ms).map eTr)) s10) := a1_of (eTup_of (aCons_of (eC_of _) (aCons_of (eC_of _) (aCons_of (eC_of _) rfl))))
    exact (eMeth_of (ds := (brsM m T ms).map eTr) (ds0 := (brsM m T ms).map eTr) rfl ea rfl (gAppend_ok hx)).trans rfl
  have k5 : eComp (iLst' (eVar 5 0)) (gNm 11) (tCmpM dNotIn (eVar 11 0) (eVar 7 0)) (lOne (eVar 11 0)) [11] (ρ t9 s10) = some (.lst (rest.map dN), ρ t9 s10) := by
    refine eComp_flt (xs := order) dN (fun x => !decide (x ∈ ms)) dN (iLst_lst V) rfl (fun x hx => ?_) rfl (Nat.le_trans hol (by omega))
    have c : tCmpM dNotIn (eVar 11 0) (eVar 7 0) ((ρ t9 s10).set 11 (some (0, dN x))) = some (!decide (x ∈ ms), (ρ t9 s10).set 11 (some (0, dN x))) := tCmp_of (V (d := dN x)) V (dNotIn_nats x ms)
    by_cases h : x ∈ ms
    · rw [decide_eq_true h] at c ⊢
      exact lMap (lStep_f (gNm_ _ _ _) c) rfl
    · rw [decide_eq_false h] at c ⊢
      exact lMap (lStep_t (gNm_ _ _ _) c (lOne_of V)) rfl
  let σ : DL.Env := ρ t9 (some (0, .lst (rest.map dN)))
  have k6 : eCallD [none, none] [0, 0] (acCons (eCall dSorted (aCons (eOp2 dAdd (eVar 8 0) (eCallD [none, none, none] [0, 0, 0] (acCons (eVar 1 0) (acCons (eVar 10 0) (acCons (eNotM (eVar 3 0)) acNil))) G__law_told)) aNil)) (acCons (eVar 2 0) acNil)) G__law_same σ = some (.bl true, σ) := by
    have e := told_ok h1 hm hT hrest (!named)
    have q : eOp2 dAdd (eVar 8 0) (eCallD [none, none, none] [0, 0, 0] (acCons (eVar 1 0) (acCons (eVar 10 0) (acCons (eNotM (eVar 3 0)) acNil))) G__law_told) σ = some (.lst ((brsM m T ms ++ brsM m T rest).map eTr), σ) := by
      rw [List.map_append]
      refine eOp2_of V (eCallD0 (acCons_of V (acCons_of V (acCons_of (eNot_of V rfl) rfl))) rfl e rfl) (dAddL_of ?_)
      rw [List.length_map, List.length_map]
      have := hfl ms
      have := hfl rest
      omega
    exact eCallD0 (acCons_of (eCall_of (a1_of q) (dSorted_trs (halves hp) (brs_asc m T))) (acCons_of V rfl)) rfl (same_trs hbl) rfl
  obtain ⟨found, e7, F7⟩ := made_of_ok hm hT hms
  have k7 : sIf (tAndM (tCmpM dEq (eCall dLen (aCons (eCallD [none, none] [0, 0] (acCons (eVar 1 0) (acCons (eVar 7 0) acNil)) G__law_made_of) aNil)) (eVar 4 0)) (tCmpM dNe (eOp2 dEq (eVar 8 0) (eC (.lst []))) (eOp2 dEq (eVar 2 0) (eC (.lst [])))))
    (sRet (eC (.bl false))) sNil σ = some (.nx σ) := by
    have c1 : tCmpM dEq (eCall dLen (aCons (eCallD [none, none] [0, 0] (acCons (eVar 1 0) (acCons (eVar 7 0) acNil)) G__law_made_of) aNil)) (eVar 4 0) σ = some (decide (found.length = m), σ) :=
      tCmp_of (eCall_of (a1_of (eCallD0 (acCons_of V (acCons_of V rfl)) rfl e7 rfl)) (by rw [dLen_lst, List.length_map])) V (dEq_nat found.length m)
    by_cases hf : found.length = m
    · rw [decide_eq_true hf] at c1
      have same : decide (brsM m T ms = []) = decide (brs m T = []) := by
        by_cases h : brsM m T ms = []
        · rw [decide_eq_true h, decide_eq_true]
          exact light hT hms.2 (fun y hy => (F7.2 y (F7.ms.full hf y hy)).2) h
        · rw [decide_eq_false h, decide_eq_false]
          intro q
          apply h
          unfold brsM
          rw [q]
          rfl
      have c2 : tCmpM dNe (eOp2 dEq (eVar 8 0) (eC (.lst []))) (eOp2 dEq (eVar 2 0) (eC (.lst []))) σ = some (false, σ) :=
        tCmp_of (eOp2_of V (eC_of _) (dEq_trs_nil _)) (eOp2_of V (eC_of _) (dEq_trs_nil _)) ((dNe_bl _ _).trans (by rw [same]; simp))
      exact sIf_f ((tAnd_t c1).trans c2)
    · rw [decide_eq_false hf] at c1
      exact sIf_f (tAnd_f c1)
  refine ⟨own, some (1, t9), some (0, .lst (rest.map dN)), ?_⟩
  refine (sSeq_of (sSet_of k1)).trans ?_
  refine (sSeq_of (ρ1 := ρ (.lst ((brsM m T ms).map eTr)) s10) (sSet_of (eCallD0 (acCons_of V (acCons_of V (acCons_of V rfl))) rfl e2 rfl))).trans ?_
  refine (sSeq_of (sIf_f (tNot_of (b := true) (tValB k3)))).trans ?_
  refine (sSeq_of (sExpr_of k4)).trans ?_
  refine (sSeq_of (ρ1 := σ) (sSet_of k5)).trans ?_
  refine (sSeq_of (sIf_f (tNot_of (b := true) (tValB k6)))).trans ?_
  refine (sSeq_of k7).trans ?_
  exact (sSet_of (eNot_of V rfl)).trans rfl
end
end K02
namespace K02
open PySem L2 DL TB
theorem eL_len (ls : List (List Nat)) : (ls.map eL).length = ls.length := List.length_map _
theorem middles_right_ok {N m : Nat} {T : Nat → Nat → Nat} (h1 : 1 ≤ m) (hm : m < 11) (hT : ∀ x, x < m → ∀ y, y < m → T x y < m) {b : D} (hb : Bx N b) (hN : N + 100 < 2 ^ 20) (named : Bool) :
    ∃ b', G__law_middles_right [b, eT m T, .lst ((brs m T).map eTr), .bl named] = some (.bl true, [some (1, b'), none, none, none]) ∧ Bx (N + 20) b' := by
  have hs := sizeLine_big
  let due : D := .lst ((brs m T).map eTr)
  obtain ⟨ys, b1, e1, hp, hb1⟩ := mixed_ok (xs := (List.range m).map dN) hb (by simp; omega)
  obtain ⟨order, rfl, hp'⟩ := perm_map dN hp rfl
  have ho := Ms.perm hp'
  have hol := ho.len
  have hol2 : order.length = m := by rw [hp'.length_eq, List.length_range]
  have hb1 : Bx (N + m) b1 := hb1.mono (by simp)
  let σ : D → Option (Nat × D) → Option (Nat × D) → DL.Env := fun b s4 s5 => [some (1, b), some (0, eT m T), some (0, due), some (0, .bl named), s4, s5, none, none, none, none, none, none, none, none]
  have k1 : eCall dLen (aCons (eVar 1 0) aNil) (σ b none none) = some (dN m, σ b none none) := eCall_of (a1_of V) (eT_len m T)
  have k2 : eCallD [some 0, none] [1, 0] (acOwn 0 (acCons (eCall dList (aCons (eCall dRange (aCons (eVar 4 0) aNil)) aNil)) acNil)) G__law_mixed (σ b (some (0, dN m)) none) = some (.lst (order.map dN), σ b1 (some (0, dN m)) none) :=
    callB (acCons_of (eCall_of (a1_of (eCall_of (a1_of V) (dRange_nat (by omega)))) (dList_rng (by omega))) rfl) rfl rfl rfl e1 rfl rfl
  let ρ : D → Option (Nat × D) → DL.Env := fun b s6 => EM' m T order b named s6 none none none none
  let L1 : List (List Nat) := order.map (fun x => [x]) ++ [cutD order none (some 2), stepL order (some 2) (some 0), cutD order none (some (-1)), cutD order (some 1) none, order, order.reverse, []]
  have h2 := stepIx_20 m hm
  have M1 : ∀ l ∈ L1, Ms m l := fun l hl => by
    rcases List.mem_append.mp hl with h | h
    · obtain ⟨x, hx, rfl⟩ := List.mem_map.mp h
      exact ⟨by simp, fun y hy => by rw [List.mem_singleton.mp hy]; exact ho.2 x hx⟩
    · simp only [List.mem_cons, List.not_mem_nil, or_false] at h
      rcases h with rfl | rfl | rfl | rfl | rfl | rfl | rfl
      · exact ho.sub (cutD_sub _ _ _)
      · exact ⟨picks_nodup ho.1 (by rw [hol2]; exact h2.1), fun x hx => ho.2 x (stepL_mem hx)⟩
      · exact ho.sub (cutD_sub _ _ _)
      · exact ho.sub (cutD_sub _ _ _)
      · exact ho
      · exact ⟨(List.reverse_perm order).nodup_iff.mpr ho.1, fun x hx => ho.2 x (List.mem_reverse.mp hx)⟩
      · exact ⟨List.nodup_nil, fun x hx => absurd hx (by simp)⟩
  have L1l : L1.length = m + 7 := by simp [L1, hol2]
  have k3 : eOp2 dAdd (eComp (iLst' (eVar 5 0)) (gNm 11) tYesM (lOne (eLst (aCons (eVar 11 0) aNil))) [11]) (eLst (aCons (eSl (eVar 5 0) oNo (oSo (eC (.int 2)))) (aCons (eSlM (eVar 5 0) (oSo (eC (.int 2))) (oSo (eC (.int 0)))) (aCons (eSl (eVar 5 0) oNo (oSo (eNeg (eC (.int 1))))) (aCons (eSl (eVar 5 0) (oSo (eC (.int 1))) oNo) (aCons (eVar 5 0) (aCons (eRevL (eVar 5 0)) (aCons (eC (.lst [])) aNil)))))))) (ρ b1 none) = some (.lst (L1.map eL), ρ b1 none) := by
    have c1 : eComp (iLst' (eVar 5 0)) (gNm 11) tYesM (lOne (eLst (aCons (eVar 11 0) aNil))) [11] (ρ b1 none) = some (.lst (order.map fun x => eL [x]), ρ b1 none) :=
      eComp_map dN (fun x => eL [x]) (iLst_lst V) rfl (fun x hx => lMap (lStep_t (gNm_ _ _ _) (tYesM_ _) (lOne_of (eLst_of (a1_of V)))) rfl) rfl (by omega)
    have c2 : eLst (aCons (eSl (eVar 5 0) oNo (oSo (eC (.int 2)))) (aCons (eSlM (eVar 5 0) (oSo (eC (.int 2))) (oSo (eC (.int 0)))) (aCons (eSl (eVar 5 0) oNo (oSo (eNeg (eC (.int 1))))) (aCons (eSl (eVar 5 0) (oSo (eC (.int 1))) oNo) (aCons (eVar 5 0) (aCons (eRevL (eVar 5 0)) (aCons (eC (.lst [])) aNil))))))) (ρ b1 none) = some (.lst ([cutD order none (some 2), stepL order (some 2) (some 0), cutD order none (some (-1)), cutD order (some 1) none, order, order.reverse, []].map eL), ρ b1 none) := by
      refine eLst_of (aCons_of (eSl_of V oNo_of (oSo_of (eC_of _)) dSl_cut) (aCons_of (eSlM_of V (oSo_of (eC_of _)) (oSo_of (eC_of _)) (by rw [hol2]; exact h2.2)) (aCons_of (eSl_of V oNo_of (oSo_of (i := -1) rfl) dSl_cut) (aCons_of (eSl_of V (oSo_of (eC_of _)) oNo_of dSl_cut) (aCons_of V (aCons_of (eRevL_of V) (aCons_of (eC_of _) rfl)))))))
    have e : L1.map eL = (order.map fun x => eL [x]) ++ ([cutD order none (some 2), stepL order (some 2) (some 0), cutD order none (some (-1)), cutD order (some 1) none, order, order.reverse, []].map eL) := by
      show (order.map (fun x => [x]) ++ _).map eL = _
      rw [List.map_append, List.map_map]
      rfl
    rw [e]
    exact eOp2_of c1 c2 (dAddL_of (by rw [List.length_map, List.length_map]; simp; omega))
  let s6 : Option (Nat × D) := some (0, .lst (L1.map eL))
  obtain ⟨r, ρ', ρ2, e4, ⟨L2, b2, rfl, rfl, hL2, M2, hb2⟩, e4'⟩ := eComp_pre dN (vs := [12]) (g := gNm 12) (t := tYesM) (fl := lOne (eSl (eVar 5 0) oNo (oSo (eCallD [some 0, none] [1, 0] (acOwn 0 (acCons (eOp2 dAdd (eVar 4 0) (eC (.int 1))) acNil)) G__law_take)))) (xs := List.range 3) (fi := iRg1 (aCons (eC (.int 3)) aNil)) (ρ := ρ b1 s6)
    (fun pre acc ρ1 => ∃ (ls : List (List Nat)) (b' : D), acc = ls.map eL ∧ ρ1 = ρ b' s6 ∧ ls.length = pre.length ∧ (∀ l ∈ ls, Ms m l) ∧ Bx (N + m + pre.length) b')
    (iRg1_var (n := 3) (eC_of _) (by decide)) ⟨[], b1, rfl, rfl, rfl, by simp, hb1⟩ (fun pre x post acc ρ1 ex h => by
      obtain ⟨ls, b2, rfl, rfl, hg, hx, hb2⟩ := h
      have hpl : pre.length < 3 := by
        have := congrArg List.length ex
        simp at this
        omega
      obtain ⟨d, b3, e3, hd, hb3⟩ := take1 hb2 (by omega) (m := m + 1) (by omega) (by omega)
      refine ⟨[eL (cutD order none (some (d : Int)))], _, lStep_t (gNm_ _ _ _) (tYesM_ _) (lOne_of (eSl_of V oNo_of (oSo_of (callB (acCons_of (eOp2_of V (eC_of _) (dAdd_nat m 1)) rfl) rfl rfl rfl e3 rfl rfl)) dSl_cut)), ls ++ [cutD order none (some (d : Int))], b3, by simp, rfl, by simp [hg], fun y hy => ?_, by rw [List.length_append]; exact hb3⟩
      rcases List.mem_append.mp hy with h | h
      · exact hx y h
      · rw [List.mem_singleton.mp h]; exact ho.sub (cutD_sub _ _ _)) (fun r ρ' h => by
      obtain ⟨ls, b1, rfl, rfl, hg, hx, hb1⟩ := h
      rw [List.length_range] at hg
      exact ⟨by rw [List.length_map]; omega, _, rfl⟩)
  cases e4'
  rw [List.length_range] at hL2 hb2
  have k5 : eOp2 dAdd (eVar 6 0) (eComp (iRg1 (aCons (eC (.int 3)) aNil)) (gNm 12) tYesM (lOne (eSl (eVar 5 0) oNo (oSo (eCallD [some 0, none] [1, 0] (acOwn 0 (acCons (eOp2 dAdd (eVar 4 0) (eC (.int 1))) acNil)) G__law_take)))) [12]) (ρ b1 s6) = some (.lst ((L1 ++ L2).map eL), ρ b2 s6) := by
    rw [List.map_append]
    exact eOp2_of V e4 (dAddL_of (by rw [List.length_map, List.length_map]; omega))
  let s6' : Option (Nat × D) := some (0, .lst ((L1 ++ L2).map eL))
  have M3 : ∀ l ∈ L1 ++ L2, Ms m l := fun l hl => (List.mem_append.mp hl).elim (M1 l) (M2 l)
  obtain ⟨ρ', e6, nm, s7, s8, s9, s10, rfl⟩ := forM_pre eL (g := gNm 7) (F := MrB) (fun pre ρ1 => ∃ nm s7 s8 s9 s10, ρ1 = EM' m T order b2 nm s6' s7 s8 s9 s10) (L1 ++ L2) (fun pre ms post ρ1 ex h => by
    obtain ⟨nm, s7, s8, s9, s10, rfl⟩ := h
    obtain ⟨s8', s9', s10', e⟩ := mr_turn (b := b2) (named := nm) (s6 := s6') (s8 := s8) (s9 := s9) (s10 := s10) h1 hm hT hp' (M3 ms (by rw [ex]; simp))
    exact ⟨_, _, rfl, e, _, _, _, _, _, rfl⟩) (ρ := EM' m T order b2 named s6' none none none none) ⟨named, none, none, none, none, rfl⟩
  refine ⟨b2, ?_, hb2.mono (by omega)⟩
  simp only [G__law_middles_right]
  let τ := EM' m T order b2 nm s6' s7 s8 s9 s10
  refine (show defG 14 [1, 0, 0, 0] F__law_middles_right [b, eT m T, due, .bl named] = some (.bl true, outE [1, 0, 0, 0] τ) from defG_rt (ρ1 := τ) ?_).trans rfl
  show F__law_middles_right (σ b none none) = _
  simp only [F__law_middles_right]
  refine (sSeq_of (sSet_of k1)).trans ?_
  refine (sSeq_of (ρ1 := ρ b1 none) (sSet_of k2)).trans ?_
  refine (sSeq_of (ρ1 := ρ b1 s6) (sSet_of k3)).trans ?_
  refine (sSeq_of (ρ1 := ρ b2 s6') (sSet_of k5)).trans ?_
  refine (sSeq_of (sFor_of (ρ1 := ρ b2 s6') (iLst_lst V) e6)).trans ?_
  exact sRet_of (eC_of _)
end K02
namespace K02
open PySem L2 DL TB
def wd : Nat → D
  | 0 => .str "aaa"
  | 1 => .str "aab"
  | 2 => .str "aba"
  | 3 => .str "abb"
  | _ => .str "abc"
def lBD (s : Nat) : D := .tup ((lB s).map fun r => .tup (r.map dN))
theorem law_base_ok : ∀ s, s < 5 → G__law_base [wd s] = some (.lst [eTr (lT s), lBD s], [none])
  | 0, _ => by kernel_rfl
  | 1, _ => by kernel_rfl
  | 2, _ => by kernel_rfl
  | 3, _ => by kernel_rfl
  | 4, _ => by kernel_rfl
  | _ + 5, h => absurd h (by omega)
theorem lB_len : ∀ s, s < 5 → (lB s).length = 4 ∧ ∀ x, x < 4 → ((lB s).getD x []).length = 4 := by decide
theorem lBD_at {ρ : DL.Env} {f g h : EM} {s x y : Nat} (hs : s < 5) (h0 : f ρ = some (lBD s, ρ)) (h1 : g ρ = some (dN x, ρ)) (h2 : h ρ = some (dN y, ρ)) (hx : x < 4) (hy : y < 4) : eIx (0 - 1) (eIx (0 - 1) f g) h ρ = some (dN (bsF (lB s) x y), ρ) := by
  obtain ⟨q1, q2⟩ := lB_len s hs
  have e1 : dIx (0 - 1) (lBD s) (.int (x : Int)) = some (.tup (((lB s).getD x []).map dN)) := by
    have hx' : x < (lB s).length := by omega
    show dIx 0 (.tup _) _ = _
    rw [dIx0_tup, DL.atI_nat, List.getElem?_map, List.getElem?_eq_getElem hx']
    simp [hx']
  have e2 : dIx (0 - 1) (.tup (((lB s).getD x []).map dN)) (.int (y : Int)) = some (dN (bsF (lB s) x y)) := by
    have hy' : y < ((lB s).getD x []).length := by rw [q2 x hx]; exact hy
    show dIx 0 (.tup _) _ = _
    rw [dIx0_tup, DL.atI_nat, List.getElem?_map, List.getElem?_eq_getElem hy']
    unfold bsF
    rw [List.getD_eq_getElem?_getD (l := (lB s).getD x []), List.getElem?_eq_getElem hy']
    rfl
  exact eIx_of (eIx_of h0 h1 e1) h2 e2
/-- the four places of a block -/
def plD (z k : Nat) : D := .lst ((List.range 4).map fun i => dN (plc z k i))
theorem plD_at {ρ : DL.Env} {f g : EM} {z k i : Nat} (h0 : f ρ = some (plD z k, ρ)) (h1 : g ρ = some (dN i, ρ)) (hi : i < 4) : eIx (0 - 1) f g ρ = some (dN (plc z k i), ρ) := by
  refine eIx_of h0 h1 ?_
  unfold plD
  rw [dIx_lst, atI_map _ hi]
theorem blT_snoc (z : Nat) (ss : List Nat) (s : Nat) : blT z (ss ++ [s]) = blT z ss ++ [plT z ss.length (lT s)] := by
  unfold blT
  rw [List.length_append, List.length_singleton, List.range_succ, List.map_append]
  congr 1
  · refine List.map_congr_left fun k hk => ?_
    have hk := List.mem_range.mp hk
    rw [List.getD_eq_getElem?_getD, List.getD_eq_getElem?_getD, List.getElem?_append_left hk]
  · simp
theorem eTL_congr {m : Nat} {T T' : Nat → Nat → Nat} (h : T = T') : eTL m T = eTL m T' := by rw [h]
def PE (b : D) (m count : Nat) (T : Nat → Nat → Nat) (trs : List Tr) (x5 x6 x7 x8 x9 x10 : Option (Nat × D)) : DL.Env := [some (1, b), some (0, dN m), some (0, dN count), some (2, .lst ((List.range m).map fun a => eRowL m (T a))), some (1, .lst (trs.map eTr)), x5, x6, x7, x8, x9, x10, none, none, none]
abbrev PlC : SM := (sSetLL 3 (eIx (0 - 1) (eVar 8 0) (eIx (0 - 1) (eIx (0 - 1) (eVar 7 0) (eVar 9 0)) (eVar 10 0))) (eIx (0 - 1) (eVar 8 0) (eVar 9 0)) (eIx (0 - 1) (eVar 8 0) (eVar 10 0)))
theorem pl_cells {b : D} {m count k s z : Nat} (T : Nat → Nat → Nat) (trs : List Tr) (hs : s < 5) (hz : 3 * k + 3 ≤ z) (hm : m = z + 1) {x5 x6 x9 x10 : Option (Nat × D)} (h9 : S0 x9) (h10 : S0 x10) :
    ∃ x9' x10', sFor (iRg1 (aCons (eC (.int 4)) aNil)) (gNm 9) (sFor (iRg1 (aCons (eC (.int 4)) aNil)) (gNm 10) PlC) (PE b m count T trs x5 x6 (some (0, lBD s)) (some (0, plD z k)) x9 x10) = some (.nx (PE b m count (fillT T (plc z k) (bsF (lB s)) pr4) trs x5 x6 (some (0, lBD s)) (some (0, plD z k)) x9' x10')) ∧ S0 x9' ∧ S0 x10' := by
  obtain ⟨q1, q2, q3⟩ := lB_ok s hs
  let G : List (Nat × Nat) → Option (Nat × D) → Option (Nat × D) → DL.Env := fun l x9 x10 => PE b m count (fillT T (plc z k) (bsF (lB s)) l) trs x5 x6 (some (0, lBD s)) (some (0, plD z k)) x9 x10
  have r4 : ∀ ρ : DL.Env, iRg1 (aCons (eC (.int 4)) aNil) ρ = some ((List.range 4).map dN, ρ) := fun ρ => iRg1_var (n := 4) (eC_of _) (by decide)
  obtain ⟨ρ', e, x9', x10', rfl, h9', h10'⟩ := forM_pre dN (g := gNm 9) (F := sFor (iRg1 (aCons (eC (.int 4)) aNil)) (gNm 10) PlC) (fun pre ρ => ∃ x9 x10, ρ = G (pre.flatMap fun x => (List.range 4).map fun y => (x, y)) x9 x10 ∧ S0 x9 ∧ S0 x10) (List.range 4) (fun pre x post ρ ex h => by
    obtain ⟨x9, x10, rfl, h9, h10⟩ := h
    have hx : x < 4 := List.mem_range.mp (by rw [ex]; simp)
    obtain ⟨l, hl⟩ : ∃ l, l = pre.flatMap fun x => (List.range 4).map fun y => (x, y) := ⟨_, rfl⟩
    obtain ⟨ρ', e, x10', rfl, h10'⟩ := forM_pre dN (g := gNm 10) (F := PlC) (fun pre2 ρ => ∃ x10, ρ = G (l ++ pre2.map fun y => (x, y)) (some (0, dN x)) x10 ∧ S0 x10) (List.range 4) (fun pre2 y post2 ρ ey h => by
      obtain ⟨x10, rfl, h10⟩ := h
      have hy : y < 4 := List.mem_range.mp (by rw [ey]; simp)
      refine ⟨G (l ++ pre2.map fun y => (x, y)) (some (0, dN x)) (some (0, dN y)), _, rfl, setLL_run rfl (plD_at V (lBD_at hs V V V hx hy) (q1 x hx y hy)) (plD_at V V hx) (plD_at V V hy) ?_ ?_, some (0, dN y), ?_, .some _⟩
      · have := plc_le hz hx
        omega
      · have := plc_le hz hy
        omega
      · rw [List.map_append, ← List.append_assoc]
        show _ = PE b m count (fillT T (plc z k) (bsF (lB s)) ((l ++ pre2.map fun y => (x, y)) ++ [(x, y)])) trs x5 x6 (some (0, lBD s)) (some (0, plD z k)) (some (0, dN x)) (some (0, dN y))
        rw [fillT_snoc]
        rfl) (ρ := G l (some (0, dN x)) x10) ⟨x10, by simp, h10⟩
    refine ⟨G l (some (0, dN x)) x10, _, by rw [hl]; rfl, sFor_of (r4 _) e, some (0, dN x), x10', ?_, .some _, h10'⟩
    rw [List.flatMap_append, ← hl]
    simp) (ρ := G [] x9 x10) ⟨x9, x10, rfl, h9, h10⟩
  exact ⟨x9', x10', sFor_of (r4 _) e, h9', h10'⟩
abbrev PlB : SM := (sSeq (sAsg (eCallD [none] [0] (acCons (eIx (0 - 1) (eLst (aCons (eC (.str "aaa")) (aCons (eC (.str "aab")) (aCons (eC (.str "aba")) (aCons (eC (.str "abb")) (aCons (eC (.str "abc")) aNil)))))) (eCallD [some 0, none] [1, 0] (acOwn 0 (acCons (eC (.int 5)) acNil)) G__law_take)) acNil) G__law_base) (gTq 2 (gsCons (gNm 6) (gsCons (gNm 7) gsNil))))
    (sSeq (sSet 8 0 (eLst (aCons (eOp2 dMul (eC (.int 3)) (eVar 5 0)) (aCons (eOp2 dAdd (eOp2 dMul (eC (.int 3)) (eVar 5 0)) (eC (.int 1))) (aCons (eOp2 dAdd (eOp2 dMul (eC (.int 3)) (eVar 5 0)) (eC (.int 2))) (aCons (eOp2 dSub (eVar 1 0) (eC (.int 1))) aNil))))))
    (sSeq (sFor (iRg1 (aCons (eC (.int 4)) aNil)) (gNm 9)
    (sFor (iRg1 (aCons (eC (.int 4)) aNil)) (gNm 10) PlC))
    (sExpr (eMeth 4 gAppend (aCons (eCall dTuple (aCons (eComp (iLst' (eVar 6 0)) (gNm 9) tYesM (lOne (eIx (0 - 1) (eVar 8 0) (eVar 9 0))) [9]) aNil)) aNil))))))
theorem pl_word {N : Nat} {b : D} {ρ ρ' : DL.Env} {s : Nat} (hs : s < 5) (h : eCallD [some 0, none] [1, 0] (acOwn 0 (acCons (eC (.int 5)) acNil)) G__law_take ρ = some (dN s, ρ')) :
    eCallD [none] [0] (acCons (eIx (0 - 1) (eLst (aCons (eC (.str "aaa")) (aCons (eC (.str "aab")) (aCons (eC (.str "aba")) (aCons (eC (.str "abb")) (aCons (eC (.str "abc")) aNil)))))) (eCallD [some 0, none] [1, 0] (acOwn 0 (acCons (eC (.int 5)) acNil)) G__law_take)) acNil) G__law_base ρ = some (.lst [eTr (lT s), lBD s], ρ') := by
  refine eCallD_of (acCons_of (eIx_of (x := .lst [wd 0, wd 1, wd 2, wd 3, wd 4]) (eLst_of rfl) h (d := wd s) ?_) rfl) rfl (law_base_ok s hs)
  rw [dIx_lst, DL.atI_nat]
  match s, hs with
  | 0, _ => rfl
  | 1, _ => rfl
  | 2, _ => rfl
  | 3, _ => rfl
  | 4, _ => rfl
theorem pl_turn {N : Nat} {b : D} {m count z : Nat} {ss : List Nat} (hb : Bx N b) (hN : N + 100 < 2 ^ 20) (hz : 3 * (ss.length + 1) ≤ z) (hm : m = z + 1) (hm2 : m < 11) (h5 : ∀ s ∈ ss, s < 5) {x6 x7 x8 x9 x10 : Option (Nat × D)} (h9 : S0 x9) (h10 : S0 x10) :
    ∃ s b' x6' x7' x8' x9' x10', s < 5 ∧ PlB (PE b m count (blk z ss) (blT z ss) (some (0, dN ss.length)) x6 x7 x8 x9 x10) = some (.nx (PE b' m count (blk z (ss ++ [s])) (blT z (ss ++ [s])) (some (0, dN ss.length)) x6' x7' x8' x9' x10')) ∧ Bx (N + 1) b' ∧ S0 x6' ∧ S0 x9' ∧ S0 x10' := by
  have hs := sizeLine_big
  obtain ⟨s, b1, e1, h, hb1⟩ := take1 hb (by omega) (m := 5) (by decide) (by decide)
  have e1 : G__law_take [b, .int 5] = some (.int s, [some (1, b1), none]) := e1
  obtain ⟨q1, q2, q3⟩ := lB_ok s h
  obtain ⟨t1, t2, t3⟩ := lT_lt s h
  let k := ss.length
  let ρ : D → Option (Nat × D) → Option (Nat × D) → Option (Nat × D) → DL.Env := fun b x6 x7 x8 => PE b m count (blk z ss) (blT z ss) (some (0, dN k)) x6 x7 x8 x9 x10
  have c1 : eCallD [some 0, none] [1, 0] (acOwn 0 (acCons (eC (.int 5)) acNil)) G__law_take (ρ b x6 x7 x8) = some (dN s, ρ b1 x6 x7 x8) := callB (acCons_of (eC_of _) rfl) rfl rfl rfl e1 rfl rfl
  have c2 := pl_word (N := N) (b := b) h c1
  let y6 : Option (Nat × D) := some (0, eTr (lT s))
  let y7 : Option (Nat × D) := some (0, lBD s)
  have c3 : eLst (aCons (eOp2 dMul (eC (.int 3)) (eVar 5 0)) (aCons (eOp2 dAdd (eOp2 dMul (eC (.int 3)) (eVar 5 0)) (eC (.int 1))) (aCons (eOp2 dAdd (eOp2 dMul (eC (.int 3)) (eVar 5 0)) (eC (.int 2))) (aCons (eOp2 dSub (eVar 1 0) (eC (.int 1))) aNil)))) (ρ b1 y6 y7 x8) = some (plD z k, ρ b1 y6 y7 x8) := by
    have m3 : ∀ ρ : DL.Env, ρ[5]? = some (some (0, dN k)) → eOp2 dMul (eC (.int 3)) (eVar 5 0) ρ = some (dN (3 * k), ρ) := fun ρ hρ => eOp2_of (eC_of _) (V hρ) (dMul_nat (a := 3) (by decide))
    have q : plD z k = .lst [dN (3 * k), dN (3 * k + 1), dN (3 * k + 2), dN z] := rfl
    rw [q]
    refine eLst_of (aCons_of (m3 _ rfl) (aCons_of (eOp2_of (m3 _ rfl) (eC_of _) (dAdd_nat (3 * k) 1)) (aCons_of (eOp2_of (m3 _ rfl) (eC_of _) (dAdd_nat (3 * k) 2)) (a1_of (eOp2_of V (eC_of _) ((dSub_ _ _).trans ?_))))))
    have : ((m : Int) - 1) = (z : Int) := by omega
    rw [this]
  let y8 : Option (Nat × D) := some (0, plD z k)
  obtain ⟨x9', x10', e4, h9', h10'⟩ := pl_cells (b := b1) (m := m) (count := count) (k := k) (blk z ss) (blT z ss) h (by omega) hm (x5 := some (0, dN k)) (x6 := y6) h9 h10
  rw [blk_step (by omega) h] at e4
  let σ : List Tr → DL.Env := fun l => PE b1 m count (blk z (ss ++ [s])) l (some (0, dN k)) y6 y7 y8 x9' x10'
  have c5 : eCall dTuple (aCons (eComp (iLst' (eVar 6 0)) (gNm 9) tYesM (lOne (eIx (0 - 1) (eVar 8 0) (eVar 9 0))) [9]) aNil) (σ (blT z ss)) = some (eTr (plT z k (lT s)), σ (blT z ss)) := by
    refine eCall_of (a1_of (eComp_map dN (fun i => dN (plc z k i)) (xs := [(lT s).1, (lT s).2.1, (lT s).2.2]) (ρ1 := (σ (blT z ss)).set 9 none) (ρ2 := σ (blT z ss)) (iLst_tup V) rfl (fun i hi => ?_) ?_ (by simp; omega))) rfl
    · have hi : i < 4 := by
        simp only [List.mem_cons, List.not_mem_nil, or_false] at hi
        omega
      exact lMap (lStep_t (gNm_ _ _ _) (tYesM_ _) (lOne_of (plD_at V V hi))) rfl
    · rcases h9' with rfl | ⟨d, rfl⟩ <;> rfl
  refine ⟨s, b1, y6, y7, y8, x9', x10', h, ?_, hb1, .some _, h9', h10'⟩
  refine (sSeq_of (ρ1 := ρ b1 y6 y7 x8) (sAsg_of c2 rfl)).trans ?_
  refine (sSeq_of (ρ1 := ρ b1 y6 y7 y8) (sSet_of c3)).trans ?_
  refine (sSeq_of e4).trans ?_
  have hl : ((blT z ss).map eTr).length < sizeLine := by
    rw [List.length_map]
    unfold blT
    rw [List.length_map, List.length_range]
    omega
  refine (sExpr_of (d := .non) (ρ1 := σ (blT z (ss ++ [s]))) ((eMeth_of (s := 4) (ds0 := (blT z ss).map eTr) (ds := (blT z ss).map eTr) rfl (a1_of c5) rfl (gAppend_ok hl)).trans ?_)).trans rfl
  rw [blT_snoc]
  show _ = some (D.non, PE b1 m count (blk z (ss ++ [s])) (blT z ss ++ [plT z k (lT s)]) (some (0, dN k)) y6 y7 y8 x9' x10')
  unfold PE
  rw [List.map_append]
  rfl
end K02
namespace K02
open PySem L2 DL TB
theorem range_pre {n x : Nat} {pre post : List Nat} (h : List.range n = pre ++ x :: post) : x = pre.length := by
  have h1 : (List.range n)[pre.length]? = some x := by rw [h]; simp
  obtain ⟨h2, e⟩ := List.getElem?_eq_some_iff.mp h1
  rw [List.getElem_range] at e
  exact e.symm
def QE (b : D) (m count : Nat) (rows : D) (k4 : Nat) (trs : List Tr) (x5 x6 x7 x8 x9 x10 : Option (Nat × D)) (names : D) (x12 : Option (Nat × D)) : DL.Env := [some (1, b), some (0, dN m), some (0, dN count), some (0, rows), some (k4, .lst (trs.map eTr)), x5, x6, x7, x8, x9, x10, some (0, names), x12, none]
theorem pl_name {m : Nat} {ns : List Nat} (hn : ns.length = m) {b rows : D} {count k4 : Nat} {trs : List Tr} {x5 x7 x8 x9 x10 x12 : Option (Nat × D)} (h9 : S0 x9) {t : Tr} (h1 : t.1 < m) (h2 : t.2.1 < m) (h3 : t.2.2 < m) :
    eCall dTuple (aCons (eComp (iLst' (eVar 6 0)) (gNm 9) tYesM (lOne (eIx (0 - 1) (eVar 11 0) (eVar 9 0))) [9]) aNil) (QE b m count rows k4 trs x5 (some (0, eTr t)) x7 x8 x9 x10 (.lst (ns.map dN)) x12) = some (eTr (nmT (fun x => ns.getD x 0) t), QE b m count rows k4 trs x5 (some (0, eTr t)) x7 x8 x9 x10 (.lst (ns.map dN)) x12) := by
  have hs := sizeLine_big
  refine eCall_of (a1_of (eComp_map dN (fun i => dN (ns.getD i 0)) (xs := [t.1, t.2.1, t.2.2]) (ρ1 := QE b m count rows k4 trs x5 (some (0, eTr t)) x7 x8 none x10 (.lst (ns.map dN)) x12) (iLst_tup V) rfl (fun i hi => ?_) ?_ (by simp; omega))) rfl
  · have hi : i < ns.length := by
      simp only [List.mem_cons, List.not_mem_nil, or_false] at hi
      omega
    have e : dIx (0 - 1) (.lst (ns.map dN)) (.int (i : Int)) = some (dN (ns.getD i 0)) := by
      rw [dIx_lst, DL.atI_nat, List.getElem?_map, List.getElem?_eq_getElem hi]
      simp [hi]
    exact lMap (lStep_t (gNm_ _ _ _) (tYesM_ _) (lOne_of (eIx_of V V e))) rfl
  · rcases h9 with rfl | ⟨d, rfl⟩ <;> rfl
theorem planted_ok {N m : Nat} {b : D} (hb : Bx N b) (hN : N + 200 < 2 ^ 20) (h4 : 4 ≤ m) (hm : m < 11) :
    ∃ T b', G__law_planted [b, .int m] = some (.lst [eT m T, .lst ((brs m T).map eTr)], [some (1, b'), none]) ∧ (∀ x, x < m → ∀ y, y < m → T x y < m) ∧ brs m T ≠ [] ∧ Bx (N + 50) b' := by
  have hs := sizeLine_big
  obtain ⟨z, hz⟩ : ∃ z, m = z + 1 := ⟨m - 1, by omega⟩
  obtain ⟨q, hq⟩ : ∃ q : Nat, q = z / 3 := ⟨_, rfl⟩
  obtain ⟨c0, b1, e1, hc0, hb1⟩ := take1 hb (by omega) (m := q) (by omega) (by omega)
  obtain ⟨count, hcount⟩ : ∃ c : Nat, c = 1 + c0 := ⟨_, rfl⟩
  have hcz : 3 * count ≤ z := by omega
  let σ : D → Option (Nat × D) → Option (Nat × D) → Option (Nat × D) → DL.Env := fun b x2 x3 x4 => [some (1, b), some (0, dN m), x2, x3, x4, none, none, none, none, none, none, none, none, none]
  have hm1 : ∀ ρ : DL.Env, ρ[1]? = some (some (0, dN m)) → eOp2 dSub (eVar 1 0) (eC (.int 1)) ρ = some (dN z, ρ) := fun ρ hρ => eOp2_of (V hρ) (eC_of _) ((dSub_ _ _).trans (by
    have : ((m : Int) - 1) = (z : Int) := by omega
    rw [this]))
  have k1 : eOp2 dAdd (eC (.int 1)) (eCallD [some 0, none] [1, 0] (acOwn 0 (acCons (eOp2 dDiv (eOp2 dSub (eVar 1 0) (eC (.int 1))) (eC (.int 3))) acNil)) G__law_take) (σ b none none none) = some (dN count, σ b1 none none none) := by
    have ed : eOp2 dDiv (eOp2 dSub (eVar 1 0) (eC (.int 1))) (eC (.int 3)) (σ b none none none) = some (dN q, σ b none none none) := eOp2_of (hm1 _ rfl) (eC_of _) ((dDiv_nat (a := z) (c := 3) (by decide) (by decide)).trans (by rw [hq]))
    exact eOp2_of (eC_of _) (callB (acCons_of ed rfl) rfl rfl rfl e1 rfl rfl) ((dAdd_nat 1 c0).trans (by rw [hcount]))
  have e0 : blk z [] = fun _ _ => z := by
    funext x y
    unfold blk
    rw [if_neg (by simp)]
  let x2 : Option (Nat × D) := some (0, dN count)
  have k2 : eComp (iRg1 (aCons (eVar 1 0) aNil)) (gNm 9) tYesM (lOne (eOp2 dMul (eLst (aCons (eOp2 dSub (eVar 1 0) (eC (.int 1))) aNil)) (eVar 1 0))) [9] (σ b1 x2 none none) = some (.lst ((List.range m).map fun a => eRowL m (blk z [] a)), σ b1 x2 none none) := by
    refine eComp_map dN (fun a => eRowL m (blk z [] a)) (iRg1_var V (by omega)) rfl (fun x hx => ?_) rfl (by rw [List.length_range]; omega)
    rw [e0]
    exact lMap (lStep_t (gNm_ _ _ _) (tYesM_ _) (lOne_of (eOp2_of (eLst_of (a1_of (hm1 _ rfl))) V (dMul_row (by omega))))) rfl
  have k3 := sPar_of (i := 3) (j := 4) (ka := 2) (kb := 1) k2 (eC_of (.lst []))
  obtain ⟨ρ', e4, ss, b2, x5, x6, x7, x8, x9, x10, rfl, hss, h5, hb2, h6, h9, h10⟩ := forM_pre dN (g := gNm 5) (F := PlB) (fun pre ρ => ∃ ss b2 x5 x6 x7 x8 x9 x10, ρ = PE b2 m count (blk z ss) (blT z ss) x5 x6 x7 x8 x9 x10 ∧ ss.length = pre.length ∧ (∀ s ∈ ss, s < 5) ∧ Bx (N + 1 + pre.length) b2 ∧ S0 x6 ∧ S0 x9 ∧ S0 x10) (List.range count) (fun pre x post ρ ex h => by
    obtain ⟨ss, b2, x5, x6, x7, x8, x9, x10, rfl, hss, h5, hb2, h6, h9, h10⟩ := h
    have hx := range_pre ex
    have hpl : pre.length < count := by
      have := congrArg List.length ex
      simp at this
      omega
    obtain ⟨s, b', x6', x7', x8', x9', x10', hs5, e, hb', h6', h9', h10'⟩ := pl_turn (count := count) (z := z) (ss := ss) hb2 (by omega) (by omega) hz hm h5 (x6 := x6) (x7 := x7) (x8 := x8) h9 h10
    refine ⟨_, _, ?_, e, ss ++ [s], b', _, x6', x7', x8', x9', x10', rfl, by simp [hss], fun s' hs' => ?_, by rw [List.length_append]; exact hb', h6', h9', h10'⟩
    · rw [hx, ← hss]
      rfl
    · rcases List.mem_append.mp hs' with h | h
      · exact h5 _ h
      · rw [List.mem_singleton.mp h]; exact hs5) (ρ := PE b1 m count (blk z []) (blT z []) none none none none none none) ⟨[], b1, none, none, none, none, none, none, rfl, rfl, by simp, hb1, .inl rfl, .inl rfl, .inl rfl⟩
  rw [List.length_range] at hss hb2
  let T := blk z ss
  have hT : ∀ x, x < m → ∀ y, y < m → T x y < m := by rw [hz]; exact blk_cl (by omega) h5
  obtain ⟨ys, b3, e5, hp, hb3⟩ := mixed_ok (xs := (List.range m).map dN) hb2 (by simp; omega)
  obtain ⟨ns, rfl, hp'⟩ := perm_map dN hp rfl
  have hN' := nm_of hp'
  have hnl : ns.length = m := by rw [hp'.length_eq, List.length_range]
  let n : Nat → Nat := fun x => ns.getD x 0
  let bk : Nat → Nat := fun x => fidx ns x
  have hbT : ∀ t, t ∈ brs m T ↔ t ∈ blT z ss := fun t => by rw [hz]; exact blk_brs (by omega) h5
  have pm := rel_brs_perm hN' hT (blT_nodup (z := z) h5) hbT
  let rows : D := .lst ((List.range m).map fun a => eRowL m (T a))
  have k5 : eCallD [some 0, none] [1, 0] (acOwn 0 (acCons (eCall dList (aCons (eCall dRange (aCons (eVar 1 0) aNil)) aNil)) acNil)) G__law_mixed (PE b2 m count T (blT z ss) x5 x6 x7 x8 x9 x10) = some (.lst (ns.map dN), PE b3 m count T (blT z ss) x5 x6 x7 x8 x9 x10) :=
    callB (acCons_of (eCall_of (a1_of (eCall_of (a1_of V) (dRange_nat (by omega)))) (dList_rng (by omega))) rfl) rfl rfl rfl e5 rfl rfl
  let τ : Nat → Option (Nat × D) → Option (Nat × D) → DL.Env := fun k4 x6 x12 => QE b3 m count rows k4 (blT z ss) x5 x6 x7 x8 x9 x10 (.lst (ns.map dN)) x12
  have k6 : eCallD [none, none] [0, 0] (acCons (eCall dTuple (aCons (eComp (iLst' (eVar 3 0)) (gNm 13) tYesM (lOne (eCall dTuple (aCons (eVar 13 0) aNil))) [13]) aNil)) (acCons (eVar 11 0) acNil)) G__law_relabelled (τ 1 x6 none) = some (eT m (rel n bk T), τ 1 x6 none) :=
    eCallD0 (acCons_of (tupT (T := T) V (by omega) rfl rfl (by show 13 < 14; decide)) (acCons_of V rfl)) rfl (relabelled_ok (by omega) hp' hT) rfl
  let x12 : Option (Nat × D) := some (0, eT m (rel n bk T))
  have k7 : eComp (iLst' (eVar 4 0)) (gNm 6) tYesM (lOne (eCall dTuple (aCons (eComp (iLst' (eVar 6 0)) (gNm 9) tYesM (lOne (eIx (0 - 1) (eVar 11 0) (eVar 9 0))) [9]) aNil))) [6] (τ 0 x6 x12) = some (.lst (((blT z ss).map (nmT n)).map eTr), τ 0 x6 x12) := by
    rw [List.map_map]
    refine eComp_map eTr (fun t => eTr (nmT n t)) (ρ1 := τ 0 none x12) (iLst_lst V) rfl (fun t ht => ?_) ?_ ?_
    · obtain ⟨a1, a2, a3, _⟩ := mem_brs (x := t.1) (y := t.2.1) (z := t.2.2) |>.mp ((hbT t).mpr ht)
      exact lMap (lStep_t (gNm_ _ _ _) (tYesM_ _) (lOne_of (pl_name hnl h9 a1 a2 a3))) rfl
    · rcases h6 with rfl | ⟨d, rfl⟩ <;> rfl
    · unfold blT
      rw [List.length_map, List.length_range]
      omega
  have k8 : eLst (aCons (eVar 12 0) (aCons (eCall dSorted (aCons (eComp (iLst' (eVar 4 0)) (gNm 6) tYesM (lOne (eCall dTuple (aCons (eComp (iLst' (eVar 6 0)) (gNm 9) tYesM (lOne (eIx (0 - 1) (eVar 11 0) (eVar 9 0))) [9]) aNil))) [6]) aNil)) aNil)) (τ 0 x6 x12) = some (.lst [eT m (rel n bk T), .lst ((brs m (rel n bk T)).map eTr)], τ 0 x6 x12) :=
    eLst_of (a2_of V (eCall_of (a1_of k7) (dSorted_trs pm (asc_filter _ (tri_asc m)))))
  refine ⟨rel n bk T, b3, ?_, rel_cl hN' hT, ?_, hb3.mono (by simp; omega)⟩
  · simp only [G__law_planted]
    refine (show defG 14 [1, 0] F__law_planted [b, dN m] = some (_, outE [1, 0] (τ 0 x6 x12)) from defG_rt (ρ1 := τ 0 x6 x12) ?_).trans rfl
    show F__law_planted (σ b none none none) = _
    simp only [F__law_planted]
    refine (sSeq_of (ρ1 := σ b1 x2 none none) (sSet_of k1)).trans ?_
    refine (sSeq_of (ρ1 := PE b1 m count (blk z []) (blT z []) none none none none none none) k3).trans ?_
    refine (sSeq_of (sFor_of (ρ1 := PE b1 m count (blk z []) (blT z []) none none none none none none) (iRg1_var (n := count) V (by omega)) e4)).trans ?_
    refine (sSeq_of (sSet_of k5)).trans ?_
    show sSeq _ _ (τ 1 x6 none) = _
    refine (sSeq_of (ρ1 := τ 1 x6 x12) (sSet_of k6)).trans ?_
    exact sRet_of k8
  · intro h
    rw [h] at pm
    have := pm.length_eq
    rw [List.length_map] at this
    unfold blT at this
    rw [List.length_map, List.length_range, hss] at this
    simp at this
    omega
/-! ### one product changed -/
theorem dSl_tup {lo hi : Option Int} {ds : List D} : dSl lo hi (.tup ds) = some (.tup (cutD ds lo hi)) := by
  show some (if HT.sIx ds.length 0 lo = 0 ∧ HT.sIx ds.length ds.length hi = ds.length then D.tup ds else .tup (cutD ds lo hi)) = _
  split
  · rename_i h
    unfold cutD
    rw [h.1, h.2, List.drop_zero, Nat.sub_zero, List.take_length]
  · rfl
theorem dAdd_tups {xs ys : List D} (hl : xs.length + ys.length ≤ 1000) : dAdd (.tup xs) (.tup ys) = some (.tup (xs ++ ys)) := by
  have hs := sizeLine_big
  show (if xs.length + ys.length ≤ sizeLine then (if xs = [] then some (D.tup ys) else if ys = [] then some (D.tup xs) else some (.tup (xs ++ ys))) else none) = _
  rw [if_pos (by omega)]
  split
  · rename_i h; rw [h]; rfl
  · split
    · rename_i h; rw [h, List.append_nil]
    · rfl
theorem cutD_drop {α : Type} (xs : List α) (k : Nat) : cutD xs (some (k : Int)) none = xs.drop k := by
  unfold cutD
  rw [HT.sIx_nat]
  show (xs.drop (min k xs.length)).take (xs.length - min k xs.length) = _
  by_cases h : k ≤ xs.length
  · rw [Nat.min_eq_left h, List.take_of_length_le (by rw [List.length_drop]; exact Nat.le_refl _)]
  · rw [Nat.min_eq_right (by omega), List.drop_eq_nil_of_le (Nat.le_refl _), List.drop_eq_nil_of_le (by omega)]
    simp
theorem splice {ρ : DL.Env} {f g h i : EM} {ds : List D} {k : Nat} {v : D} {ρ1 : DL.Env} (hk : k < ds.length) (hl : ds.length ≤ 500) (hf : ∀ ρ', ρ' = ρ ∨ ρ' = ρ1 → f ρ' = some (.tup ds, ρ')) (hg : g ρ = some (dN k, ρ)) (hh : h ρ = some (v, ρ1)) (hi : i ρ1 = some (dN (k + 1), ρ1)) :
    eOp2 dAdd (eOp2 dAdd (eSl f oNo (oSo g)) (eTup (aCons h aNil))) (eSl f (oSo i) oNo) ρ = some (.tup (ds.set k v), ρ1) := by
  have e : ds.set k v = (ds.take k ++ [v]) ++ ds.drop (k + 1) := by
    rw [List.set_eq_take_append_cons_drop, if_pos hk, List.append_assoc]
    rfl
  have e1 := cutD_take ds k
  have e2 := cutD_drop ds (k + 1)
  rw [e]
  refine eOp2_of (eOp2_of (eSl_of (hf _ (.inl rfl)) oNo_of (oSo_of hg) dSl_tup) (eTup_of (a1_of hh)) (dAdd_tups ?_)) (eSl_of (hf _ (.inr rfl)) (oSo_of hi) oNo_of dSl_tup) ?_
  · rw [e1]
    simp
    omega
  · rw [e1, e2]
    refine dAdd_tups ?_
    simp
    omega
theorem spoilt_ok {N m : Nat} {T : Nat → Nat → Nat} {b : D} (hb : Bx N b) (hN : N + 200 < 2 ^ 20) (h1 : 1 ≤ m) (hm : m < 11) (hT : ∀ x, x < m → ∀ y, y < m → T x y < m) :
    ∃ T' b', G__law_spoilt [b, eT m T] = some (eT m T', [some (1, b'), none]) ∧ (∀ x, x < m → ∀ y, y < m → T' x y < m) ∧ Bx (N + 3) b' := by
  obtain ⟨x, b1, e1, hx, hb1⟩ := take1 hb (by omega) h1 (by omega)
  obtain ⟨y, b2, e2, hy, hb2⟩ := take1 hb1 (by omega) h1 (by omega)
  obtain ⟨v, b3, e3, hv, hb3⟩ := take1 hb2 (by omega) h1 (by omega)
  refine ⟨updT T x y v, b3, ?_, fun a ha c hc => ?_, hb3⟩
  · let σ : D → Option (Nat × D) → Option (Nat × D) → Option (Nat × D) → DL.Env := fun b x3 x4 x5 => [some (1, b), some (0, eT m T), some (0, dN m), x3, x4, x5]
    let x3 : Option (Nat × D) := some (0, dN x)
    let x4 : Option (Nat × D) := some (0, dN y)
    have k1 : eCall dLen (aCons (eVar 1 0) aNil) ([some (1, b), some (0, eT m T), none, none, none, none] : DL.Env) = some (dN m, _) := eCall_of (a1_of V) (eT_len m T)
    have t1 : eCallD [some 0, none] [1, 0] (acOwn 0 (acCons (eVar 2 0) acNil)) G__law_take (σ b none none none) = some (dN x, σ b1 none none none) := callB (acCons_of V rfl) rfl rfl rfl e1 rfl rfl
    have t2 : eCallD [some 0, none] [1, 0] (acOwn 0 (acCons (eVar 2 0) acNil)) G__law_take (σ b1 none none none) = some (dN y, σ b2 none none none) := callB (acCons_of V rfl) rfl rfl rfl e2 rfl rfl
    have t3 : eCallD [some 0, none] [1, 0] (acOwn 0 (acCons (eVar 2 0) acNil)) G__law_take (σ b2 x3 x4 none) = some (dN v, σ b3 x3 x4 none) := callB (acCons_of V rfl) rfl rfl rfl e3 rfl rfl
    have r1 := splice (ρ := σ b2 x3 x4 none) (ρ1 := σ b3 x3 x4 none) (f := eIx (0 - 1) (eVar 1 0) (eVar 3 0)) (g := eVar 4 0) (h := eCallD [some 0, none] [1, 0] (acOwn 0 (acCons (eVar 2 0) acNil)) G__law_take) (i := eOp2 dAdd (eVar 4 0) (eC (.int 1))) (ds := (List.range m).map fun c => dN (T x c)) (k := y) (by simp; omega) (by simp; omega) (fun ρ' h => by
      rcases h with rfl | rfl
      · exact eIx_of V V (eT_at (b := 0) T hx)
      · exact eIx_of V V (eT_at (b := 0) T hx)) V t3 (eOp2_of V (eC_of _) (dAdd_nat y 1))
    have er : ((List.range m).map fun c => dN (T x c)).set y (dN v) = (List.range m).map fun c => dN (updT T x y v x c) := by
      have := set_range (a := y) (m := m) (fun c => dN (T x c)) (fun c => dN (updT T x y v x c)) (fun i _ => by
        by_cases e : i = y
        · subst e; simp
        · rw [if_neg e]; simp [updT, e])
      rw [← this]
      congr 1
      simp [updT]
    rw [er] at r1
    let x5 : Option (Nat × D) := some (0, eRow m (updT T x y v x))
    have r2 := splice (ρ := σ b3 x3 x4 x5) (ρ1 := σ b3 x3 x4 x5) (f := eVar 1 0) (g := eVar 3 0) (h := eVar 5 0) (v := eRow m (updT T x y v x)) (i := eOp2 dAdd (eVar 3 0) (eC (.int 1))) (ds := (List.range m).map fun a => eRow m (T a)) (k := x) (by simp; omega) (by simp; omega) (fun ρ' h => by
      rcases h with rfl | rfl
      · exact V
      · exact V) V V (eOp2_of V (eC_of _) (dAdd_nat x 1))
    have et : ((List.range m).map fun a => eRow m (T a)).set x (eRow m (updT T x y v x)) = (List.range m).map fun a => eRow m (updT T x y v a) :=
      set_range (a := x) (m := m) (fun a => eRow m (T a)) (fun a => eRow m (updT T x y v a)) (fun i _ => by
        by_cases e : i = x
        · subst e; simp
        · rw [if_neg e]
          have : updT T x y v i = T i := funext fun c => by simp [updT, e]
          rw [this])
    rw [et] at r2
    simp only [G__law_spoilt, F__law_spoilt]
    refine (show defG 6 [1, 0] _ [b, eT m T] = some (_, outE [1, 0] (σ b3 x3 x4 x5)) from defG_rt (ρ1 := σ b3 x3 x4 x5) ?_).trans rfl
    refine (sSeq_of (ρ1 := σ b none none none) (sSet_of k1)).trans ?_
    refine (sSeq_of (ρ1 := σ b2 x3 x4 none) ((sPar_of t1 t2).trans rfl)).trans ?_
    refine (sSeq_of (ρ1 := σ b3 x3 x4 x5) (sSet_of r1)).trans ?_
    exact sRet_of r2
  · unfold updT
    split
    · exact hv
    · exact hT a ha c hc
end K02
namespace K02
open PySem L2 DL TB
theorem dNe_trs (a b : List Tr) : dNe (.lst (a.map eTr)) (.lst (b.map eTr)) = some (.bl (!decide (a = b))) := by
  show (dEqB _ _).map (fun x => D.bl (!x)) = _
  rw [dEqB_trs]
  rfl
/-- how many boxes the law takes -/
theorem iter_n {ρ : DL.Env} {ns : List Int} (h : ρ[0]? = some (some (0, .lst (ns.map .int)))) : ∃ n : Nat, n ≤ 2 ∧ iRg1 (aCons (eCall dMax2 (aCons (eC (.int 1)) (aCons (eCall dMin2 (aCons (eC (.int 2)) (aCons (eCall dLen (aCons (eVar 0 0) aNil)) aNil))) aNil))) aNil) ρ = some ((List.range n).map dN, ρ) := by
  obtain ⟨n, hn, en⟩ : ∃ n : Nat, n ≤ 2 ∧ (if (if ((ns.length : Nat) : Int) < 2 then ((ns.length : Nat) : Int) else 2) > 1 then (if ((ns.length : Nat) : Int) < 2 then ((ns.length : Nat) : Int) else 2) else 1) = (n : Int) := by
    by_cases h : ns.length < 2
    · have e0 : (if ((ns.length : Nat) : Int) < 2 then ((ns.length : Nat) : Int) else 2) = ((ns.length : Nat) : Int) := if_pos (by omega)
      rw [e0, if_neg (by omega)]
      exact ⟨1, by decide, rfl⟩
    · have e0 : (if ((ns.length : Nat) : Int) < 2 then ((ns.length : Nat) : Int) else 2) = 2 := if_neg (by omega)
      rw [e0, if_pos (by decide)]
      exact ⟨2, by decide, rfl⟩
  refine ⟨n, hn, ?_⟩
  rw [← rng0]
  exact iRg1_of (n := n) (a1_of (eCall_of (a2_of (eC_of _) (eCall_of (a2_of (eC_of _) (eCall_of (a1_of (V h)) (by rw [dLen_lst, List.length_map]))) (dMin2_ _ _))) ((dMax2_ _ _).trans (by rw [en])))) (by omega)
section
variable {sc : D} {k m : Nat}
def LE (sc : D) (k m : Nat) (b : D) (named : Bool) (x5 x6 x7 x8 x9 : Option (Nat × D)) : DL.Env := [some (0, sc), some (0, dN k), some (1, b), some (0, .bl named), some (0, dN m), x5, x6, x7, x8, x9]
abbrev LwB : SM := (sSeq (sAsg (eCallD [some 2, none] [1, 0] (acOwn 2 (acCons (eVar 4 0) acNil)) G__law_planted) (gTq 2 (gsCons (gNm 6) (gsCons (gNm 7) gsNil))))
    (sSeq (sIf (tCmpM dNe (eCallD [none] [0] (acCons (eVar 6 0) acNil) G__law_broken) (eVar 7 0))
    (sRet (eC (.bl false)))
    sNil)
    (sSeq (sIf (tOrM (tNotM (tVal (eCallD [none, none] [0, 0] (acCons (eIfM (tVal (eVar 3 0)) (eCallK ([] ++ [none]) [0] [0] acNil (acCons (eVar 6 0) acNil) G_broken) (eCallD [none] [0] (acCons (eVar 6 0) acNil) G_broken)) (acCons (eVar 7 0) acNil)) G__law_same))) (tCmpM dIsNot (eCallD [none] [0] (acCons (eVar 6 0) acNil) G_is_semigroup) (eC (.bl false))))
    (sRet (eC (.bl false)))
    sNil)
    (sSeq (sIf (tNotM (tVal (eCallD [some 2, none, none, none] [1, 0, 0, 0] (acOwn 2 (acCons (eVar 6 0) (acCons (eVar 7 0) (acCons (eVar 3 0) acNil)))) G__law_middles_right)))
    (sRet (eC (.bl false)))
    sNil)
    (sSeq (sSet 8 0 (eCallD [some 2, none] [1, 0] (acOwn 2 (acCons (eVar 6 0) acNil)) G__law_spoilt))
    (sSeq (sIf (tNotM (tVal (eCallD [some 2, none, none, none] [1, 0, 0, 0] (acOwn 2 (acCons (eVar 8 0) (acCons (eCallD [none] [0] (acCons (eVar 8 0) acNil) G__law_broken) (acCons (eNotM (eVar 3 0)) acNil)))) G__law_middles_right)))
    (sRet (eC (.bl false)))
    sNil)
    (sSeq (sSet 9 0 (eCallD [some 2, none] [1, 0] (acOwn 2 (acCons (eC (.int 6)) acNil)) G__law_drawn))
    (sSeq (sIf (tNotM (tVal (eCallD [some 2, none, none, none] [1, 0, 0, 0] (acOwn 2 (acCons (eVar 9 0) (acCons (eC (.lst [])) (acCons (eVar 3 0) acNil)))) G__law_middles_right)))
    (sRet (eC (.bl false)))
    sNil)
    (sSet 3 0 (eNotM (eVar 3 0)))))))))))
theorem lw_turn {N : Nat} {b : D} (hb : Bx N b) (hN : N + 2000 < 2 ^ 20) (h4 : 4 ≤ m) (hm : m < 11) (named : Bool) (x5 x6 x7 x8 x9 : Option (Nat × D)) :
    ∃ b' x6' x7' x8' x9', LwB (LE sc k m b named x5 x6 x7 x8 x9) = some (.nx (LE sc k m b' (!named) x5 x6' x7' x8' x9')) ∧ Bx (N + 400) b' := by
  obtain ⟨T, b1, e1, hT, hne, hb1⟩ := planted_ok hb (by omega) h4 hm
  obtain ⟨b2, e2, hb2⟩ := middles_right_ok (by omega) hm hT hb1 (by omega) named
  obtain ⟨T', b3, e3, hT', hb3⟩ := spoilt_ok hb2 (by omega) (by omega) hm hT
  obtain ⟨b4, e4, hb4⟩ := middles_right_ok (by omega) hm hT' hb3 (by omega) (!named)
  obtain ⟨m6, W, b5, e5, hm6, sg, hb5⟩ := drawn_ok (most := 6) hb4 (by omega) (by decide) (by decide)
  obtain ⟨b6, e6, hb6⟩ := middles_right_ok sg.1 (by omega) sg.2 hb5 (by omega) named
  rw [sg.brs] at e6
  have e5 : G__law_drawn [b4, .int 6] = some (eT m6 W, [some (1, b5), none]) := e5
  let due : D := .lst ((brs m T).map eTr)
  let ρ : D → Option (Nat × D) → Option (Nat × D) → DL.Env := fun b x8 x9 => LE sc k m b named x5 (some (0, eT m T)) (some (0, due)) x8 x9
  let y8 : Option (Nat × D) := some (0, eT m T')
  let y9 : Option (Nat × D) := some (0, eT m6 W)
  have k1 : eCallD [some 2, none] [1, 0] (acOwn 2 (acCons (eVar 4 0) acNil)) G__law_planted (LE sc k m b named x5 x6 x7 x8 x9) = some (.lst [eT m T, due], LE sc k m b1 named x5 x6 x7 x8 x9) := callB (acCons_of V rfl) rfl rfl rfl e1 rfl rfl
  have k2 : tCmpM dNe (eCallD [none] [0] (acCons (eVar 6 0) acNil) G__law_broken) (eVar 7 0) (ρ b1 x8 x9) = some (false, ρ b1 x8 x9) := tCmp_of (eCallD0 (acCons_of V rfl) rfl (broken_ok hm hT) rfl) V ((dNe_trs _ _).trans (by simp))
  have k3 : eIfM (tVal (eVar 3 0)) (eCallK ([] ++ [none]) [0] [0] acNil (acCons (eVar 6 0) acNil) G_broken) (eCallD [none] [0] (acCons (eVar 6 0) acNil) G_broken) (ρ b1 x8 x9) = some (due, ρ b1 x8 x9) := by
    cases named with
    | true => exact (eIf_t (tValB V)).trans ((eCallK_of (ρ1 := ρ b1 x8 x9) (ρ2 := ρ b1 x8 x9) (gs := acCons (eVar 6 0) acNil) rfl (acCons_of V rfl) rfl (G_broken_ok (by omega) hm hT)).trans rfl)
    | false => exact (eIf_f (tValB V)).trans (eCallD0 (acCons_of V rfl) rfl (G_broken_ok (by omega) hm hT) rfl)
  have k4 : tOrM (tNotM (tVal (eCallD [none, none] [0, 0] (acCons (eIfM (tVal (eVar 3 0)) (eCallK ([] ++ [none]) [0] [0] acNil (acCons (eVar 6 0) acNil) G_broken) (eCallD [none] [0] (acCons (eVar 6 0) acNil) G_broken)) (acCons (eVar 7 0) acNil)) G__law_same))) (tCmpM dIsNot (eCallD [none] [0] (acCons (eVar 6 0) acNil) G_is_semigroup) (eC (.bl false))) (ρ b1 x8 x9) = some (false, ρ b1 x8 x9) := by
    have es := is_semigroup_ok (by omega) hm hT
    rw [decide_eq_false hne] at es
    exact (tOr_f (tNot_of (b := true) (tValB (eCallD0 (acCons_of k3 (acCons_of V rfl)) rfl (same_trs (brs_len hm T)) rfl)))).trans (tCmp_of (eCallD0 (acCons_of V rfl) rfl es rfl) (eC_of _) rfl)
  have k5 : eCallD [some 2, none, none, none] [1, 0, 0, 0] (acOwn 2 (acCons (eVar 6 0) (acCons (eVar 7 0) (acCons (eVar 3 0) acNil)))) G__law_middles_right (ρ b1 x8 x9) = some (.bl true, ρ b2 x8 x9) := callB (acCons_of V (acCons_of V (acCons_of V rfl))) rfl rfl rfl e2 rfl rfl
  have k6 : eCallD [some 2, none] [1, 0] (acOwn 2 (acCons (eVar 6 0) acNil)) G__law_spoilt (ρ b2 x8 x9) = some (eT m T', ρ b3 x8 x9) := callB (acCons_of V rfl) rfl rfl rfl e3 rfl rfl
  have k7 : eCallD [some 2, none, none, none] [1, 0, 0, 0] (acOwn 2 (acCons (eVar 8 0) (acCons (eCallD [none] [0] (acCons (eVar 8 0) acNil) G__law_broken) (acCons (eNotM (eVar 3 0)) acNil)))) G__law_middles_right (ρ b3 y8 x9) = some (.bl true, ρ b4 y8 x9) := callB (ρ1 := ρ b3 y8 x9) (acCons_of V (acCons_of (eCallD0 (acCons_of V rfl) rfl (broken_ok hm hT') rfl) (acCons_of (eNot_of V rfl) rfl))) rfl rfl rfl e4 rfl rfl
  have k8 : eCallD [some 2, none] [1, 0] (acOwn 2 (acCons (eC (.int 6)) acNil)) G__law_drawn (ρ b4 y8 x9) = some (eT m6 W, ρ b5 y8 x9) := callB (acCons_of (eC_of _) rfl) rfl rfl rfl e5 rfl rfl
  have k9 : eCallD [some 2, none, none, none] [1, 0, 0, 0] (acOwn 2 (acCons (eVar 9 0) (acCons (eC (.lst [])) (acCons (eVar 3 0) acNil)))) G__law_middles_right (ρ b5 y8 y9) = some (.bl true, ρ b6 y8 y9) := callB (acCons_of V (acCons_of (eC_of _) (acCons_of V rfl))) rfl rfl rfl e6 rfl rfl
  refine ⟨b6, some (0, eT m T), some (0, due), y8, y9, ?_, hb6.mono (by omega)⟩
  refine (sSeq_of (ρ1 := ρ b1 x8 x9) (sAsg_of k1 rfl)).trans ?_
  refine (sSeq_of (sIf_f k2)).trans ?_
  refine (sSeq_of (sIf_f k4)).trans ?_
  refine (sSeq_of (sIf_f (tNot_of (b := true) (tValB k5)))).trans ?_
  refine (sSeq_of (ρ1 := ρ b3 y8 x9) (sSet_of k6)).trans ?_
  refine (sSeq_of (sIf_f (tNot_of (b := true) (tValB k7)))).trans ?_
  refine (sSeq_of (ρ1 := ρ b5 y8 y9) (sSet_of k8)).trans ?_
  refine (sSeq_of (sIf_f (tNot_of (b := true) (tValB k9)))).trans ?_
  exact (sSet_of (eNot_of (b := named) V rfl)).trans rfl
end
theorem five {z d : Nat} (hz : z < 7) (hd : d < 5) : ∃ m, (4 ≤ m ∧ m < 11) ∧ dIx (0 - 1) (.lst [.int 4, .int 5, .int 7, .int 10, dN (4 + z)]) (.int (d : Int)) = some (dN m) := by
  rw [dIx_lst, DL.atI_nat]
  match d, hd with
  | 0, _ => exact ⟨4, by omega, rfl⟩
  | 1, _ => exact ⟨5, by omega, rfl⟩
  | 2, _ => exact ⟨7, by omega, rfl⟩
  | 3, _ => exact ⟨10, by omega, rfl⟩
  | 4, _ => exact ⟨4 + z, by omega, rfl⟩
theorem law_true (ns : List Int) : G_law [.lst (ns.map .int)] = some (.bl true, [none]) := by
  let sc : D := .lst (ns.map .int)
  let σ : DL.Env := [some (0, sc), none, none, none, none, none, none, none, none, none]
  obtain ⟨n, hn, en⟩ := iter_n (ρ := σ) (ns := ns) rfl
  let R : (x1 x2 x3 x4 x5 x6 x7 x8 x9 : Option (Nat × D)) → DL.Env := fun x1 x2 x3 x4 x5 x6 x7 x8 x9 => [some (0, sc), x1, x2, x3, x4, x5, x6, x7, x8, x9]
  simp only [G_law, F_law]
  obtain ⟨ρ', e, x1, x2, x3, x4, x5, x6, x7, x8, x9, rfl⟩ := forM_pre dN (g := gNm 1) (F := (sSeq (sSet 2 1 (eCallD [none] [0] (acCons (eCallD [none, none] [0, 0] (acCons (eVar 0 0) (acCons (eVar 1 0) acNil)) G__law_cell) acNil) G__law_box))
    (sSeq (sPar 3 4 0 0 (eOp2 dEq (eCallD [some 2, none] [1, 0] (acOwn 2 (acCons (eC (.int 2)) acNil)) G__law_take) (eC (.int 0))) (eIx (0 - 1) (eLst (aCons (eC (.int 4)) (aCons (eC (.int 5)) (aCons (eC (.int 7)) (aCons (eC (.int 10)) (aCons (eOp2 dAdd (eC (.int 4)) (eCallD [some 2, none] [1, 0] (acOwn 2 (acCons (eC (.int 7)) acNil)) G__law_take)) aNil)))))) (eCallD [some 2, none] [1, 0] (acOwn 2 (acCons (eC (.int 5)) acNil)) G__law_take)))
    (sFor (iRg1 (aCons (eC (.int 2)) aNil)) (gNm 5) LwB)))) (fun _ ρ => ∃ x1 x2 x3 x4 x5 x6 x7 x8 x9, ρ = R x1 x2 x3 x4 x5 x6 x7 x8 x9) (List.range n) (fun pre k post ρ ex h => by
    obtain ⟨x1, x2, x3, x4, x5, x6, x7, x8, x9, rfl⟩ := h
    obtain ⟨c, ec⟩ := cell_ok ns k
    obtain ⟨b0, eb, hb0⟩ := box_ok c
    obtain ⟨z1, b1, e1, hz1, hb1⟩ := take1 hb0 (by omega) (m := 2) (by decide) (by decide)
    have e1 : G__law_take [b0, .int 2] = some (.int z1, [some (1, b1), none]) := e1
    obtain ⟨z2, b2, e2, hz2, hb2⟩ := take1 hb1 (by omega) (m := 7) (by decide) (by decide)
    have e2 : G__law_take [b1, .int 7] = some (.int z2, [some (1, b2), none]) := e2
    obtain ⟨z3, b3, e3, hz3, hb3⟩ := take1 hb2 (by omega) (m := 5) (by decide) (by decide)
    have e3 : G__law_take [b2, .int 5] = some (.int z3, [some (1, b3), none]) := e3
    obtain ⟨m, ⟨h4, hm⟩, em⟩ := five hz2 hz3
    let P : D → DL.Env := fun b => R (some (0, dN k)) (some (1, b)) x3 x4 x5 x6 x7 x8 x9
    have k1 : eCallD [none] [0] (acCons (eCallD [none, none] [0, 0] (acCons (eVar 0 0) (acCons (eVar 1 0) acNil)) G__law_cell) acNil) G__law_box (R (some (0, dN k)) x2 x3 x4 x5 x6 x7 x8 x9) = some (b0, R (some (0, dN k)) x2 x3 x4 x5 x6 x7 x8 x9) := eCallD0 (acCons_of (eCallD0 (acCons_of V (acCons_of V rfl)) rfl ec rfl) rfl) rfl eb rfl
    have t1 : eCallD [some 2, none] [1, 0] (acOwn 2 (acCons (eC (.int 2)) acNil)) G__law_take (P b0) = some (dN z1, P b1) := callB (acCons_of (eC_of _) rfl) rfl rfl rfl e1 rfl rfl
    have t2 : eCallD [some 2, none] [1, 0] (acOwn 2 (acCons (eC (.int 7)) acNil)) G__law_take (P b1) = some (dN z2, P b2) := callB (acCons_of (eC_of _) rfl) rfl rfl rfl e2 rfl rfl
    have t3 : eCallD [some 2, none] [1, 0] (acOwn 2 (acCons (eC (.int 5)) acNil)) G__law_take (P b2) = some (dN z3, P b3) := callB (acCons_of (eC_of _) rfl) rfl rfl rfl e3 rfl rfl
    have k2 := sPar_of (i := 3) (j := 4) (ka := 0) (kb := 0) (eOp2_of t1 (eC_of (.int 0)) (dEq_nat z1 0)) (eIx_of (eLst_of (aCons_of (eC_of (.int 4)) (aCons_of (eC_of (.int 5)) (aCons_of (eC_of (.int 7)) (aCons_of (eC_of (.int 10)) (a1_of (eOp2_of (eC_of (.int 4)) t2 (dAdd_nat 4 z2)))))))) t3 em)
    obtain ⟨ρ', e5, b5, nm, y5, y6, y7, y8, y9, rfl, hb5⟩ := forM_pre dN (g := gNm 5) (F := LwB) (fun pre ρ => ∃ b nm y5 y6 y7 y8 y9, ρ = LE sc k m b nm y5 y6 y7 y8 y9 ∧ Bx (100 + 400 * pre.length) b) (List.range 2) (fun pre t post ρ ex h => by
      obtain ⟨b, nm, y5, y6, y7, y8, y9, rfl, hb⟩ := h
      have hpl : pre.length < 2 := by
        have := congrArg List.length ex
        simp at this
        omega
      obtain ⟨b', y6', y7', y8', y9', e, hb'⟩ := lw_turn (sc := sc) (k := k) (m := m) hb (by omega) h4 hm nm (some (0, dN t)) y6 y7 y8 y9
      exact ⟨_, _, rfl, e, b', _, _, y6', y7', y8', y9', rfl, hb'.mono (by rw [List.length_append, List.length_singleton]; omega)⟩) (ρ := LE sc k m b3 (decide (z1 = 0)) x5 x6 x7 x8 x9) ⟨b3, _, _, _, _, _, _, rfl, hb3.mono (by omega)⟩
    refine ⟨_, _, rfl, (sSeq_of (ρ1 := P b0) (sSet_of k1)).trans ((sSeq_of (ρ1 := LE sc k m b3 (decide (z1 = 0)) x5 x6 x7 x8 x9) k2).trans (sFor_of (iRg1_var (n := 2) (eC_of _) (by decide)) e5)), _, _, _, _, _, _, _, _, _, rfl⟩) (ρ := σ) ⟨_, _, _, _, _, _, _, _, _, rfl⟩
  exact (defG_rt ((sSeq_of (sFor_of (ρ := σ) (ρ1 := σ) en e)).trans (sRet_of (eC_of _)))).trans rfl
theorem plain (ns : List Int) (hl : ns.length ≤ 63) : ∃ q, G_law [.lst (ns.map .int)] = some (.bl true, q) := ⟨_, law_true ns⟩
end K02
open PySem PySem.W PySem.Calls PyProof.Rows
theorem PySem.Challenge.cw_semigroupbench_k02_lights_of_few_broken_holds : PySem.Challenge.rw_semigroupbench_k02_lights_of_few_broken.Holds := by
  w_on; o_law
  refine HandSHeadRun.head_any (r := K02.R) (q := view K02.R.prog [39]) (H := K02.hk) (ob := K02.ob) (M := 8000) (loose := K02.loose) (d := HandSHeadRun.topDef K02.R.prog 39) (kwd := []) K02.ob_eq
    (by kernel_rfl) (fun s => by kernel_rfl) K02.run (by kernel_rfl) (by kernel_rfl) (by kernel_rfl) (by rfl) (by first | assumption | decide +kernel) (by decide +kernel) ⟨rfl, rfl, rfl, rfl, rfl, by decide +kernel⟩ ?hw ?hc
  case hw => w_witness2
  case hc =>
    refine L2.walk_ofE (l := PySem.Challenge.rw_semigroupbench_k02_lights_of_few_broken) (n := 63) (k := 14) (x := "script") (CX := L2.CX0) rfl (by decide) (by kernel_rfl) ⟨rfl, by decide, by decide⟩ ?F (fun _ _ _ _ z => z)
    intro w mg fa h Y G hmg0
    obtain ⟨K, KX, c, ex, nl⟩ := Y
    have hmg : mg ("law" : PySem.Str) = some (.ref fa) := by
      have e : (HandSHeadRun.topDef K02.R.prog 39).name = ("law" : PySem.Str) := by kernel_rfl
      rw [← e]
      exact hmg0
    obtain ⟨T⟩ := K02.txt KX G c ex
    have ef := hmg.symm.trans T.g_law
    cases ef
    exact ⟨K, T.d_law, DL.spG K [0] 0 K02.G_law, KX, fun s v => L2.FunD.bindsA (ps := ["script"]) T.F_law (fun _ _ _ _ _ _ us hl => match us, hl with | [_], _ => rfl) s [v] rfl, fun H a ns hl _ hS => DL.law_sp nl hS (Nat.le_trans hl (by decide)) (K02.plain ns hl), fun base _ _ => K02.ok_law T⟩
